/- The statement StrainPlans, part 8. -/
import Derived.Test.YtjmjifbnckecjaaGreatDoorStrainPlansL7
set_option linter.all false
set_option maxRecDepth 100000
namespace Go.Pm.St
open Ac
/-! ### Sets of days -/
def setR (set : Int) (i : Nat) (j : Nat) : List Rest := ((List.range j).filter fun (d : Nat) => d2J set d).map fun (d : Nat) => ⟨d, i⟩
theorem e3J (set : Int) (i j : Nat) : setR set i (j + 1) = if d2J set j then setR set i j ++ [⟨j, i⟩] else setR set i j := by
 simp only [setR, List.range_succ, List.filter_append, List.map_append]
 cases h : d2J set (j : Int) <;> simp [h]
theorem e3q (set : Int) (i j : Nat) : (setR set i j).length <= j := by
 simp only [setR, List.length_map]
 exact Nat.le_trans (List.length_filter_le _ _) (by simp)
def Book.e2w (b : Book) (set : Int) (i : Nat) (j : Nat) : Bool := (List.range j).all fun (d : Nat) => !d2J set d || (decide (b.o <= d) && !b.rest i d)
theorem e3A (b : Book) (set : Int) (i j : Nat) : b.e2w set i (j + 1) = (b.e2w set i j && (!d2J set j || (decide (b.o <= j) && !b.rest i j))) := by
 simp [Book.e2w, List.range_succ]
def Book.e2l (b : Book) (i : Nat) (set : Int) : Bool := b.e2w set i b.days.length && b.well (a1M b.F (setR set i b.days.length)) i
def subS (x s : Int) : Bool := decide (a5l .i64 (BitVec.ofInt 64 x &&& BitVec.ofInt 64 s) = x)
theorem e3W : ∀ x : Fin 32, ∀ s : Fin 32, subS (x.val : Int) (s.val : Int) = (List.range 5).all fun (j : Nat) => !d2J (x.val : Int) j || d2J (s.val : Int) j := by decide +kernel
theorem e3x : ∀ x : Fin 32, ∀ s : Fin 32, ((List.range 5).all fun (j : Nat) => d2J (x.val : Int) j == d2J (s.val : Int) j) = true -> x = s := by decide +kernel
theorem e3s : ∀ m : Fin 6, ∀ x : Fin 32, x.val < 2 ^ m.val -> ∀ j : Fin 5, m.val <= j.val -> d2J (x.val : Int) (j.val : Int) = false := by decide +kernel
theorem e2K {m x j : Nat} (hm : m <= 5) (hx : x < 2 ^ m) (h1 : m <= j) (h2 : j < 5) : d2J (x : Int) (j : Int) = false := by
 have h32 := b6h hm
 exact e3s ⟨m, by omega⟩ ⟨x, by omega⟩ hx ⟨j, h2⟩ h1
theorem e3Q {m x s : Nat} (hm : m <= 5) (hx : x < 2 ^ m) (hs : s < 2 ^ m) : subS (x : Int) (s : Int) = true <-> ∀ j : Nat, j < m -> d2J (x : Int) (j : Int) = true -> d2J (s : Int) (j : Int) = true := by
 have h32 := b6h hm
 rw [e3W ⟨x, by omega⟩ ⟨s, by omega⟩]
 simp only [List.all_eq_true, List.mem_range, Bool.or_eq_true, Bool.not_eq_true']
 constructor
 ·intro h j hj hb
  rcases h j (by omega) with h1 | h1
  ·rw [h1] at hb; cases hb
  ·exact h1
 ·intro h j hj
  by_cases hjm : j < m
  ·cases hb : d2J (x : Int) (j : Int) with
   | false => exact .inl rfl
   | true => exact .inr (h j hjm hb)
  ·exact .inl (e2K hm hx (by omega) hj)
theorem e4a {m x s : Nat} (hm : m <= 5) (hx : x < 2 ^ m) (hs : s < 2 ^ m) (h : ∀ j : Nat, j < m -> d2J (x : Int) (j : Int) = d2J (s : Int) (j : Int)) : x = s := by
 have h32 := b6h hm
 have := e3x ⟨x, by omega⟩ ⟨s, by omega⟩ (by
  simp only [List.all_eq_true, List.mem_range, beq_iff_eq]
  intro j hj
  by_cases hjm : j < m
  ·exact h j hjm
  ·rw [e2K hm hx (by omega) hj, e2K hm hs (by omega) hj])
 exact Fin.mk.inj_iff.1 this
def Book.e2h (b : Book) (i : Nat) : Nat -> List Nat
 | 0 => []
 | s + 1 => if ((b.e2h i s).all fun (x : Nat) => !subS (x : Int) (s : Int)) && b.e2l i s then b.e2h i s ++ [s] else b.e2h i s
def Book.sets (b : Book) (i : Nat) : List Nat := b.e2h i (2 ^ b.days.length)
theorem e2Q (b : Book) (i : Nat) : ∀ n, (b.e2h i n).length <= n
 | 0 => by simp [Book.e2h]
 | n + 1 => by
  have := e2Q b i n
  simp only [Book.e2h]; split
  ·rw [List.length_append, List.length_singleton]; omega
  ·omega
theorem e2D {b : Book} {i : Nat} : ∀ {n s : Nat}, s ∈ b.e2h i n -> s < n /\ b.e2l i s = true
 | n + 1, s, h => by
  simp only [Book.e2h] at h
  split at h
  ·rename_i hc
   rcases List.mem_append.1 h with h | h
   ·have := e2D h; exact ⟨by omega, this.2⟩
   ·rw [List.mem_singleton] at h; subst h
    rw [Bool.and_eq_true] at hc
    exact ⟨by omega, hc.2⟩
  ·have := e2D h; exact ⟨by omega, this.2⟩
theorem e3r {b : Book} {i : Nat} : ∀ {n s : Nat}, s < n -> b.e2l i s = true -> s ∈ b.e2h i n \/ ∃ x ∈ b.e2h i n, x < s /\ subS (x : Int) (s : Int) = true
 | n + 1, s, h, hg => by
  have hmono : ∀ x, x ∈ b.e2h i n -> x ∈ b.e2h i (n + 1) := fun x hx => by
   simp only [Book.e2h]; split
   ·exact List.mem_append.2 (.inl hx)
   ·exact hx
  by_cases e : s < n
  ·rcases e3r e hg with h1 | ⟨x, h1, h2⟩
   ·exact .inl (hmono _ h1)
   ·exact .inr ⟨x, hmono _ h1, h2⟩
  ·have e : s = n := by omega
   subst e
   by_cases ha : ((b.e2h i s).all fun (x : Nat) => !subS (x : Int) (s : Int)) = true
   ·refine .inl ?_
    simp only [Book.e2h, ha, hg, Bool.and_self, if_true]
    exact List.mem_append.2 (.inr (by simp))
   ·rw [Bool.not_eq_true, List.all_eq_false] at ha
    obtain ⟨x, hx, hn⟩ := ha
    have := (e2D hx).1
    exact .inr ⟨x, hmono _ hx, this, by simpa using hn⟩
/-! ### Plans of sets of days -/
def e2W (on : List Nat) (d i : Nat) : Bool := match on[i]? with | some x => d2J (x : Int) (d : Int) | none => false
theorem e3f {on : List Nat} {d i : Nat} : e2W on d i = true <-> ∃ x : Nat, on[i]? = some x /\ d2J (x : Int) (d : Int) = true := by
 unfold e2W
 cases on[i]? with
 | none => simp
 | some x => simp
def ordN (on : List Nat) (d : Nat) : Nat -> List Rest
 | 0 => []
 | i + 1 => if e2W on d i then ordN on d i ++ [⟨d, i⟩] else ordN on d i
def ordD (on : List Nat) : Nat -> List Rest
 | 0 => []
 | d + 1 => ordD on d ++ ordN on d on.length
theorem e2L {on : List Nat} {d : Nat} {y : Rest} : ∀ {n : Nat}, y ∈ ordN on d n <-> ∃ i x : Nat, i < n /\ on[i]? = some x /\ d2J (x : Int) (d : Int) = true /\ y = ⟨d, i⟩
 | 0 => by simp [ordN]
 | n + 1 => by
  have ih := e2L (on := on) (d := d) (y := y) (n := n)
  simp only [ordN]
  split
  ·rename_i h
   rw [List.mem_append, ih, List.mem_singleton]
   constructor
   ·rintro (⟨i, x, h1, h2⟩ | rfl)
    ·exact ⟨i, x, by omega, h2⟩
    ·obtain ⟨x, hx, hb⟩ := e3f.1 h
     exact ⟨n, x, by omega, hx, hb, rfl⟩
   ·rintro ⟨i, x, h1, h2⟩
    by_cases e : i = n
    ·subst e; exact .inr h2.2.2
    ·exact .inl ⟨i, x, by omega, h2⟩
  ·rename_i h
   rw [ih]
   constructor
   ·rintro ⟨i, x, h1, h2⟩; exact ⟨i, x, by omega, h2⟩
   ·rintro ⟨i, x, h1, h2⟩
    by_cases e : i = n
    ·subst e; exact absurd (e3f.2 ⟨x, h2.1, h2.2.1⟩) h
    ·exact ⟨i, x, by omega, h2⟩
theorem e2j {on : List Nat} {y : Rest} : ∀ {n : Nat}, y ∈ ordD on n <-> ∃ d i x : Nat, d < n /\ on[i]? = some x /\ d2J (x : Int) (d : Int) = true /\ y = ⟨d, i⟩
 | 0 => by simp [ordD]
 | n + 1 => by
  have ih := e2j (on := on) (y := y) (n := n)
  simp only [ordD, List.mem_append, ih, e2L]
  constructor
  ·rintro (⟨d, i, x, h1, h2⟩ | ⟨i, x, h1, h2⟩)
   ·exact ⟨d, i, x, by omega, h2⟩
   ·exact ⟨n, i, x, by omega, h2⟩
  ·rintro ⟨d, i, x, h1, h2⟩
   by_cases e : d = n
   ·subst e; exact .inr ⟨i, x, (List.getElem?_eq_some_iff.1 h2.1).1, h2⟩
   ·exact .inl ⟨d, i, x, by omega, h2⟩
theorem e2V (on : List Nat) (d : Nat) : ∀ n, (ordN on d n).Pairwise fun x y => x.lt y = true
 | 0 => List.Pairwise.nil
 | n + 1 => by
  simp only [ordN]
  split
  ·rw [List.pairwise_append]
   refine ⟨e2V on d n, List.pairwise_singleton _ _, fun x hx y hy => ?_⟩
   obtain ⟨i, z, h1, -, -, rfl⟩ := e2L.1 hx
   rw [List.mem_singleton] at hy; subst hy
   exact lt_iff.2 (.inr ⟨rfl, by simp only; omega⟩)
  ·exact e2V on d n
theorem e2F (on : List Nat) : ∀ n, (ordD on n).Pairwise fun x y => x.lt y = true
 | 0 => List.Pairwise.nil
 | n + 1 => by
  simp only [ordD]
  rw [List.pairwise_append]
  refine ⟨e2F on n, e2V on n _, fun x hx y hy => ?_⟩
  obtain ⟨d, i, z, h1, -, -, rfl⟩ := e2j.1 hx
  obtain ⟨i, z, h2, -, -, rfl⟩ := e2L.1 hy
  rw [lt_iff]; simp only; omega
theorem e2U (on : List Nat) (d : Nat) : ∀ n, (ordN on d n).length <= n
 | 0 => by simp [ordN]
 | n + 1 => by
  have := e2U on d n
  simp only [ordN]; split
  ·rw [List.length_append, List.length_singleton]; omega
  ·omega
theorem e2M (on : List Nat) : ∀ n, (ordD on n).length <= n * on.length
 | 0 => by simp [ordD]
 | n + 1 => by
  have h1 := e2M on n
  have h2 := e2U on n on.length
  simp only [ordD, List.length_append, Nat.succ_mul]; omega
theorem e3Y {l m : List Rest} (h1 : l.Pairwise fun x y => x.lt y = true) (h2 : m.Pairwise fun x y => x.lt y = true) (h : ∀ x, x ∈ l <-> x ∈ m) : l = m := by
 have a := e0B (r := fun x y => Rest.lt x y = true) e0V h2 h1 fun x hx => (h x).1 hx
 have c := e0B (r := fun x y => Rest.lt x y = true) e0V h1 h2 fun x hx => (h x).2 hx
 exact a.eq_of_length_le c.length_le
theorem e3h {b : Book} {on : List Nat} {i x : Nat} (hx : on[i]? = some x) (e : Nat) : a2Y (ordD on b.days.length) (i : Int) e = a2Y (setR x i b.days.length) i e := by
 rw [Bool.eq_iff_iff]
 simp only [a2Y, List.any_eq_true, Bool.and_eq_true, decide_eq_true_eq, e2j]
 constructor
 ·rintro ⟨y, ⟨d, j, z, h1, h2, h3, rfl⟩, h4, h5⟩
  simp only at h4 h5
  have : j = i := by omega
  subst this
  rw [hx] at h2; cases h2
  refine ⟨⟨d, j⟩, ?_, h4, rfl⟩
  simp only [setR, List.mem_map, List.mem_filter, List.mem_range]
  exact ⟨d, ⟨h1, h3⟩, rfl⟩
 ·rintro ⟨y, hy, h4, h5⟩
  simp only [setR, List.mem_map, List.mem_filter, List.mem_range] at hy
  obtain ⟨d, ⟨h1, h2⟩, rfl⟩ := hy
  exact ⟨⟨d, i⟩, ⟨d, i, x, h1, hx, h2, rfl⟩, h4, rfl⟩
theorem e3g {b : Book} (hs : Sane b) {on : List Nat} (hl : on.length = b.singers.length) (h : ∀ (i : Nat) x, on[i]? = some x -> b.e2l i x = true) : b.a4k (ordD on b.days.length) = true /\ b.b5J (a1M b.F (ordD on b.days.length)) = true := by
 have ho := o_eq hs
 constructor
 ·rw [e0A]
  refine ⟨fun y hy => ?_, e2F on _⟩
  obtain ⟨d, i, x, h1, h2, h3, rfl⟩ := e2j.1 hy
  have hg := h i x h2
  simp only [Book.e2l, Book.e2w, Bool.and_eq_true, List.all_eq_true, List.mem_range, Bool.or_eq_true, Bool.not_eq_true', decide_eq_true_eq] at hg
  have hi := (List.getElem?_eq_some_iff.1 h2).1
  rcases hg.1 d h1 with h4 | ⟨h4, h5⟩
  ·rw [h3] at h4; cases h4
  ·refine ⟨by rw [Book.a2O, within_iff]; simp only; omega, by simp only; omega, by rw [Book.a1f, within_iff]; simp only; omega, ?_⟩
   rw [e0J (d := d) (i := i) rfl rfl]; exact h5
 ·simp only [Book.b5J, Option.isNone_iff_eq_none, a3y, Bool.not_eq_false']
  intro i hi
  have hx := List.getElem?_eq_getElem (l := on) (show i < on.length by omega)
  have hg := h i _ hx
  simp only [Book.e2l, Bool.and_eq_true] at hg
  rw [← hg.2]
  exact d9b fun e => e3h hx e
theorem e3G {b : Book} (hs : Sane b) {l : List Rest} (hp : b.a4k l = true) : ∃ on : List Nat, on.length = b.singers.length /\ (∀ (i : Nat) x, on[i]? = some x -> x < 2 ^ b.days.length) /\ ordD on b.days.length = l := by
 have hd5 := hs.d5
 have hex : ∀ i : Nat, ∃ s : Nat, s < 2 ^ b.days.length /\ ∀ j : Nat, j < b.days.length -> d2J (s : Int) (j : Int) = a2Y l i j := fun i => d7b (fun j => a2Y l i j) _ hd5
 refine ⟨(List.range b.singers.length).map fun i => (hex i).choose, by simp, ?_, ?_⟩
 ·intro i x hx
  rw [List.getElem?_map] at hx
  cases h : (List.range b.singers.length)[i]? with
  | none => rw [h] at hx; cases hx
  | some j => rw [h] at hx; cases hx; exact (hex j).choose_spec.1
 ·rw [e0A] at hp
  refine e3Y (e2F _ _) hp.2 fun y => ?_
  rw [e2j]
  constructor
  ·rintro ⟨d, i, x, h1, h2, h3, rfl⟩
   rw [List.getElem?_map] at h2
   cases h : (List.range b.singers.length)[i]? with
   | none => rw [h] at h2; cases h2
   | some j =>
    rw [h] at h2; cases h2
    have hj : i = j := by
     have h4 := (List.getElem?_eq_some_iff.1 h).2
     rw [List.getElem_range] at h4; exact h4
    subst hj
    rw [(hex i).choose_spec.2 d h1] at h3
    simp only [a2Y, List.any_eq_true, Bool.and_eq_true, decide_eq_true_eq] at h3
    obtain ⟨x, hx, h5, h6⟩ := h3
    have : x = ⟨d, i⟩ := by obtain ⟨p, q⟩ := x; simp only at h5 h6; simp only [Rest.mk.injEq]; exact ⟨h5, h6⟩
    rw [← this]; exact hx
  ·intro hy
   obtain ⟨h1, h2, h3, h4⟩ := hp.1 y hy
   rw [Book.a2O, within_iff] at h1
   rw [Book.a1f, within_iff] at h3
   have hi : y.singer.toNat < b.singers.length := by omega
   have hy' : y = ⟨(y.day.toNat : Nat), (y.singer.toNat : Nat)⟩ := by
    obtain ⟨p, q⟩ := y; simp only at h1 h3; simp only [Rest.mk.injEq]; omega
   refine ⟨y.day.toNat, y.singer.toNat, (hex y.singer.toNat).choose, by omega, by rw [List.getElem?_map, List.getElem?_range hi]; rfl, ?_, hy'⟩
   rw [(hex y.singer.toNat).choose_spec.2 _ (by omega)]
   simp only [a2Y, List.any_eq_true, Bool.and_eq_true, decide_eq_true_eq]
   exact ⟨y, hy, by omega, by omega⟩
theorem e3F {b : Book} (hs : Sane b) {on : List Nat} (hp : b.a4k (ordD on b.days.length) = true) {i x : Nat} (hx : on[i]? = some x) (hw : b.well (a1M b.F (ordD on b.days.length)) i = true) : b.e2l i x = true := by
 have ho := o_eq hs
 rw [e0A] at hp
 simp only [Book.e2l, Bool.and_eq_true]
 constructor
 ·simp only [Book.e2w, List.all_eq_true, List.mem_range, Bool.or_eq_true, Bool.not_eq_true', Bool.and_eq_true, decide_eq_true_eq]
  intro d hd
  cases hb : d2J (x : Int) (d : Int) with
  | false => exact .inl rfl
  | true =>
   obtain ⟨h1, h2, h3, h4⟩ := hp.1 ⟨d, i⟩ (e2j.2 ⟨d, i, x, hd, hx, hb, rfl⟩)
   rw [e0J (d := d) (i := i) rfl rfl] at h4
   simp only at h2
   exact .inr ⟨by omega, h4⟩
 ·rw [← hw]
  exact (d9b fun e => e3h hx e).symm
theorem e3w {b : Book} {l m : List Rest} (h : ∀ x ∈ l, x ∈ m) (he : b.enough (a1M b.F m) = true) : b.enough (a1M b.F l) = true := by
 simp only [Book.enough, Option.isNone_iff_eq_none, a3y, decide_eq_false_iff_not] at he ⊢
 intro k hk
 have h1 := he k hk
 have h2 : b.sing (a1M b.F m) (b.o + k) <= b.sing (a1M b.F l) (b.o + k) := by
  simp only [Book.sing, d9a]
  have hsub : ∀ n, ((List.range n).filter fun i : Nat => !(b.rest i (b.o + k) || a2Y m i (b.o + k))).length <= ((List.range n).filter fun i : Nat => !(b.rest i (b.o + k) || a2Y l i (b.o + k))).length := by
   intro n
   induction n with
   | zero => simp
   | succ n ih =>
    simp only [List.range_succ, List.filter_append, List.length_append]
    refine Nat.add_le_add ih ?_
    simp only [List.filter_cons, List.filter_nil]
    cases hr : a2Y l n (b.o + k) with
    | true =>
     have : a2Y m n (b.o + k) = true := d8T h hr
     simp [this]
    | false => cases a2Y m n (b.o + k) <;> cases b.rest n (b.o + k) <;> simp
  exact hsub _
 omega
theorem e3C {b : Book} (hs : Sane b) {s : List Rest} (hb : b.best = some s) : ∃ on : List Nat, on.length = b.singers.length /\ (∀ (i : Nat) x, on[i]? = some x -> x ∈ b.sets i) /\ ordD on b.days.length = s := by
 have hd5 := hs.d5
 obtain ⟨hp, hg⟩ := e0C hs hb
 obtain ⟨on, hl, hlt, rfl⟩ := e3G hs hp
 refine ⟨on, hl, fun i x hx => ?_, rfl⟩
 rw [Book.good, Bool.and_eq_true] at hg
 have hi : i < b.singers.length := by have := (List.getElem?_eq_some_iff.1 hx).1; omega
 have hw : ∀ i, i < b.singers.length -> b.well (a1M b.F (ordD on b.days.length)) i = true := by
  have := hg.1
  simp only [Book.b5J, Option.isNone_iff_eq_none, a3y, Bool.not_eq_false'] at this
  exact this
 have hgood : ∀ (i : Nat) x, on[i]? = some x -> b.e2l i x = true := fun i x hx => e3F hs hp hx (hw i (by have := (List.getElem?_eq_some_iff.1 hx).1; omega))
 rcases e3r (hlt i x hx) (hgood i x hx) with h | ⟨z, hz, hzx, hsub⟩
 ·exact h
 ·exfalso
  obtain ⟨hz1, hz2⟩ := e2D hz
  rw [e3Q hd5 hz1 (hlt i x hx)] at hsub
  have hil : i < on.length := by omega
  have hget : ∀ j : Nat, (on.set i z)[j]? = if j = i then some z else on[j]? := fun j => by
   by_cases e : j = i
   ·subst e; rw [List.getElem?_set_self hil, if_pos rfl]
   ·rw [List.getElem?_set_ne (Ne.symm e), if_neg e]
  obtain ⟨hp2, hw2⟩ := e3g hs (on := on.set i z) (by rw [List.length_set]; exact hl) (fun j y hy => by
   rw [hget] at hy
   by_cases e : j = i
   ·rw [if_pos e] at hy; cases hy; rw [e]; exact hz2
   ·rw [if_neg e] at hy; exact hgood j y hy)
  have hmem : ∀ y ∈ ordD (on.set i z) b.days.length, y ∈ ordD on b.days.length := by
   intro y hy
   obtain ⟨d, j, w, h1, h2, h3, rfl⟩ := e2j.1 hy
   rw [hget] at h2
   by_cases e : j = i
   ·rw [if_pos e] at h2; cases h2
    subst e
    exact e2j.2 ⟨d, j, x, h1, hx, hsub d h1 h3, rfl⟩
   ·rw [if_neg e] at h2
    exact e2j.2 ⟨d, j, w, h1, h2, h3, rfl⟩
  have hS := e0B (r := fun x y => Rest.lt x y = true) e0V (e2F on b.days.length) (e2F _ _) hmem
  have hne : ¬ (ordD on b.days.length).length <= (ordD (on.set i z) b.days.length).length := by
   intro hle
   have heq := hS.eq_of_length_le hle
   refine absurd (e4a hd5 hz1 (hlt i x hx) fun j hj => ?_) (by omega)
   rw [Bool.eq_iff_iff]
   refine ⟨hsub j hj, fun hb2 => ?_⟩
   have h1 : (⟨(j : Nat), (i : Nat)⟩ : Rest) ∈ ordD (on.set i z) b.days.length := by
    rw [heq]; exact e2j.2 ⟨j, i, x, hj, hx, hb2, rfl⟩
   obtain ⟨d, i', w, g1, g2, g3, g4⟩ := e2j.1 h1
   simp only [Rest.mk.injEq] at g4
   have e1 : i' = i := by omega
   have e2 : d = j := by omega
   subst e1 e2
   rw [hget, if_pos rfl] at g2; cases g2
   exact g3
  have := (e1e hs hb hS (by omega)).2
  rw [Book.good, hw2, e3w hmem hg.2] at this
  cases this
/-! ### The specification's best plan -/
def Book.e2i (b : Book) (f : Nat -> List Rest × Bool) (a : List Rest × Bool) (x : Nat) : List Rest × Bool :=
 if (f x).2 && (!a.2 || better (f x).1 a.1) then ((f x).1, true) else a
def Book.e2a (b : Book) : List (List Nat) -> List Nat -> List Rest × Bool
 | [], on => (ordD on b.days.length, b.enough (a1M b.F (ordD on b.days.length)))
 | own :: S, on => own.foldl (b.e2i fun x => b.e2a S (on ++ [x])) ([], false)
def e2E (t : List Rest) (a : List Rest × Bool) : Prop := a.2 = true /\ better t a.1 = false
theorem e3z {b : Book} {f : Nat -> List Rest × Bool} {t : List Rest} {a : List Rest × Bool} (x : Nat) (h : e2E t a) : e2E t (b.e2i f a x) := by
 unfold Book.e2i
 split
 ·rename_i hc
  rw [Bool.and_eq_true, h.1] at hc
  simp only [Bool.not_true, Bool.false_or] at hc
  refine ⟨rfl, ?_⟩
  rw [Bool.eq_false_iff]; intro hx
  have := e0S hx hc.2
  rw [h.2] at this; cases this
 ·exact h
theorem e3I {b : Book} {f : Nat -> List Rest × Bool} {t : List Rest} {a : List Rest × Bool} {x : Nat} (h : e2E t (f x)) (htot : ∀ u v : List Rest, better u v = false -> better v u = false -> u = v) : e2E t (b.e2i f a x) := by
 unfold Book.e2i
 split
 ·exact ⟨rfl, h.2⟩
 ·rename_i hc
  rw [Bool.and_eq_true, h.1, Bool.or_eq_true, Bool.not_eq_true'] at hc
  have h1 : a.2 = true := by
   cases h2 : a.2 with
   | true => rfl
   | false => exact absurd ⟨rfl, .inl h2⟩ hc
  have h3 : better (f x).1 a.1 = false := by
   rw [Bool.eq_false_iff]; intro h3; exact hc ⟨rfl, .inr h3⟩
  refine ⟨h1, ?_⟩
  rw [Bool.eq_false_iff]; intro h4
  cases h5 : better a.1 (f x).1 with
  | true =>
   have := e0S h4 h5
   rw [h.2] at this; cases this
  | false =>
   have e := htot _ _ h3 h5
   rw [← e, h.2] at h4; cases h4
theorem e3e : ∀ {l m : List Rest}, l.length = m.length -> cmpL l m = 0 -> l = m
 | [], [], _, _ => rfl
 | x :: l, y :: m, h, hc => by
  simp only [List.length_cons, Nat.add_right_cancel_iff] at h
  rw [e0N] at hc
  split at hc
  ·rename_i h1
   rw [e0z.1 h1, e3e h hc]
  ·rename_i h1; exact absurd hc h1
theorem e3c (a c : Int) : cmp3 a c = - cmp3 c a := by
 unfold cmp3
 by_cases h1 : a < c
 ·have h2 : ¬ c < a := by omega
  simp [h1, h2]
 ·by_cases h2 : c < a <;> simp [h1, h2]
theorem e2T {x y : Rest} : x.cmp y = - y.cmp x := by
 unfold Rest.cmp
 rw [e3c x.day, e3c x.singer]
 by_cases h : cmp3 y.day x.day = 0 <;> simp [h]
theorem e3d : ∀ {l m : List Rest}, l.length = m.length -> cmpL l m = - cmpL m l
 | [], [], _ => rfl
 | x :: l, y :: m, h => by
  simp only [List.length_cons, Nat.add_right_cancel_iff] at h
  rw [e0N, e0N]
  by_cases h1 : x.cmp y = 0
  ·have h2 : y.cmp x = 0 := by rw [e2T]; omega
   rw [if_pos h1, if_pos h2, e3d h]
  ·have h2 : ¬ y.cmp x = 0 := by rw [e2T]; omega
   rw [if_neg h1, if_neg h2, e2T]
theorem e2O (u v : List Rest) (h1 : better u v = false) (h2 : better v u = false) : u = v := by
 rw [Bool.eq_false_iff, Ne, e0u] at h1 h2
 have hl : u.length = v.length := by omega
 have ha := e3d hl
 exact e3e hl (by omega)
theorem e2Z {b : Book} {f : Nat -> List Rest × Bool} {t : List Rest} : ∀ (l : List Nat) (a : List Rest × Bool), e2E t a -> e2E t (l.foldl (b.e2i f) a)
 | [], _, h => h
 | x :: l, _, h => e2Z l _ (e3z x h)
theorem e3l {b : Book} {f : Nat -> List Rest × Bool} {t : List Rest} : ∀ (l : List Nat) (a : List Rest × Bool), (∃ x ∈ l, e2E t (f x)) -> e2E t (l.foldl (b.e2i f) a)
 | [], _, h => by obtain ⟨x, hx, -⟩ := h; cases hx
 | y :: l, a, h => by
  obtain ⟨x, hx, hk⟩ := h
  rcases List.mem_cons.1 hx with e | hx
  ·subst e; exact e2Z l _ (e3I hk e2O)
  ·exact e3l l _ ⟨x, hx, hk⟩
theorem e2S {b : Book} : ∀ (S : List (List Nat)) (on m : List Nat), m.length = S.length -> (∀ (i : Nat) x own, m[i]? = some x -> S[i]? = some own -> x ∈ own) -> b.enough (a1M b.F (ordD (on ++ m) b.days.length)) = true -> e2E (ordD (on ++ m) b.days.length) (b.e2a S on)
 | [], on, [], _, _, he => by
  rw [List.append_nil] at he ⊢
  exact ⟨he, e0E _⟩
 | own :: S, on, x :: m, hl, hm, he => by
  simp only [List.length_cons, Nat.add_right_cancel_iff] at hl
  refine e3l own _ ⟨x, hm 0 x own rfl rfl, ?_⟩
  have e : on ++ x :: m = (on ++ [x]) ++ m := by simp
  rw [e] at he ⊢
  exact e2S S (on ++ [x]) m hl (fun i y o h1 h2 => hm (i + 1) y o (by simpa using h1) (by simpa using h2)) he
theorem e3a {b : Book} {f : Nat -> List Rest × Bool} : ∀ (l : List Nat) (a : List Rest × Bool), (l.foldl (b.e2i f) a).2 = true -> l.foldl (b.e2i f) a = a \/ ∃ x ∈ l, (f x).2 = true /\ (l.foldl (b.e2i f) a).1 = (f x).1
 | [], _, _ => .inl rfl
 | y :: l, a, h => by
  rw [List.foldl_cons] at h ⊢
  rcases e3a l _ h with h1 | ⟨x, hx, h1⟩
  ·rw [h1]
   unfold Book.e2i
   split
   ·rename_i hc
    rw [Bool.and_eq_true] at hc
    exact .inr ⟨y, by simp, hc.1, rfl⟩
   ·exact .inl rfl
  ·exact .inr ⟨x, by simp [hx], h1⟩
theorem e2X {b : Book} : ∀ (S : List (List Nat)) (on : List Nat), (b.e2a S on).2 = true -> ∃ m : List Nat, m.length = S.length /\ (∀ (i : Nat) x own, m[i]? = some x -> S[i]? = some own -> x ∈ own) /\ (b.e2a S on).1 = ordD (on ++ m) b.days.length /\ b.enough (a1M b.F (b.e2a S on).1) = true
 | [], on, h => ⟨[], rfl, fun i x own h1 => by simp at h1, by rw [List.append_nil]; rfl, h⟩
 | own :: S, on, h => by
  rcases e3a own _ h with h1 | ⟨x, hx, h1, h2⟩
  ·exfalso
   have : (b.e2a (own :: S) on).2 = false := by
    change (own.foldl (b.e2i fun x => b.e2a S (on ++ [x])) ([], false)).2 = false
    rw [h1]
   rw [h] at this; cases this
  ·obtain ⟨m, g1, g2, g3, g4⟩ := e2X S (on ++ [x]) h1
   change (b.e2a (own :: S) on).1 = _ at h2
   refine ⟨x :: m, by simp [g1], fun i y o e1 e2 => ?_, ?_, ?_⟩
   ·cases i with
    | zero => simp only [List.getElem?_cons_zero, Option.some.injEq] at e1 e2; subst e1 e2; exact hx
    | succ i => exact g2 i y o (by simpa using e1) (by simpa using e2)
   ·rw [h2, g3]; simp
   ·rw [h2]; exact g4
def Book.e1T (b : Book) (n : Nat) : List (List Nat) := (List.range n).map b.sets
theorem e3t {b : Book} {n i : Nat} {own : List Nat} (h : (b.e1T n)[i]? = some own) : own = b.sets i := by
 simp only [Book.e1T, List.getElem?_map] at h
 cases h1 : (List.range n)[i]? with
 | none => rw [h1] at h; cases h
 | some j =>
  rw [h1] at h; cases h
  have h4 := (List.getElem?_eq_some_iff.1 h1).2
  rw [List.getElem_range] at h4; rw [h4]
theorem e3u {b : Book} {n i : Nat} (h : i < n) : (b.e1T n)[i]? = some (b.sets i) := by
 simp [Book.e1T, h]
theorem e3y {b : Book} (hs : Sane b) : match b.best with
 | some s => b.e2a (b.e1T b.singers.length) [] = (s, true)
 | none => (b.e2a (b.e1T b.singers.length) []).2 = false := by
 have hfrom : (b.e2a (b.e1T b.singers.length) []).2 = true -> b.a4k (b.e2a (b.e1T b.singers.length) []).1 = true /\ b.good (b.e2a (b.e1T b.singers.length) []).1 = true := fun h => by
  obtain ⟨m, g1, g2, g3, g4⟩ := e2X _ _ h
  rw [List.nil_append] at g3
  have hml : m.length = b.singers.length := by rw [g1]; simp [Book.e1T]
  obtain ⟨k1, k2⟩ := e3g hs hml fun i x hx => by
   have hi : i < b.singers.length := by have := (List.getElem?_eq_some_iff.1 hx).1; omega
   exact (e2D (g2 i x _ hx (e3u hi))).2
  rw [g3] at g4 ⊢
  exact ⟨k1, by rw [Book.good, k2, g4]; rfl⟩
 cases hb : b.best with
 | none =>
  simp only
  rw [Bool.eq_false_iff]; intro h
  obtain ⟨h1, h2⟩ := hfrom h
  obtain ⟨s, h3, -⟩ := e0y hs h1 h2
  rw [hb] at h3; cases h3
 | some s =>
  simp only
  obtain ⟨on, hl, hm, he⟩ := e3C hs hb
  have hg := (e0C hs hb).2
  rw [Book.good, Bool.and_eq_true] at hg
  have hk := e2S (b := b) (b.e1T b.singers.length) [] on (by rw [hl]; simp [Book.e1T]) (fun i x own h1 h2 => by rw [e3t h2]; exact hm i x h1) (by rw [List.nil_append, he]; exact hg.2)
  rw [List.nil_append, he] at hk
  obtain ⟨h1, h2⟩ := hfrom hk.1
  obtain ⟨s', h3, h4⟩ := e0y hs h1 h2
  rw [hb] at h3; cases h3
  have e := e2O _ _ hk.2 h4
  rw [e]
  exact Prod.ext rfl hk.1
end Go.Pm.St
namespace Go.Pm.St
open Ac
/-! ### Lists of numbers that were put together -/
abbrev nl (l : List Nat) : List (List C) := l.map fun (x : Nat) => [ci (x : Int)]
def jnN (l : List Nat) : C := match l with | [] => .sl .full 1 [] | _ :: _ => .own 1 (nl l)
def kN (l : List Nat) : SK := match l with | [] => .full | _ :: _ => .shared
theorem e2R (l : List Nat) : a0r (jnN l) = .sl (kN l) 1 (nl l) := by cases l <;> rfl
theorem e2I (n : Nat) (l : List Nat) : C.under n (jnN l) = true := by cases l <;> rfl
theorem e3K (k : SK) (l : List Nat) (h : l.length <= 1000) : appended 1 (.sc (.sl .full 1 [])) (.sc (.sl k 1 (nl l))) = some (jnN l) := by
 cases l with
 | nil => simp [appended, elems, jnN, nl, room]
 | cons x l => simp only [List.length_cons] at h; simp [appended, elems, jnN, nl, room]; omega
theorem e3o (l : List Nat) (x : Nat) (h : l.length <= 1000) : appended 1 (.sc (jnN l)) (.sc (.sl .full 1 [[ci (x : Int)]])) = some (jnN (l ++ [x])) := by
 cases l with
 | nil => simp [appended, elems, jnN, nl, room]
 | cons y l => simp only [List.length_cons] at h; simp [appended, elems, jnN, nl, room]; omega
theorem e3R (l : List Rest) (x : Rest) : jn (l ++ [x]) = .own 2 (rl (l ++ [x])) := by cases l <;> rfl
theorem e3L (l : List Rest) (x : Rest) (h : l.length <= 100) : appended 2 (.sc (jn l)) (.sc (.sl .full 2 [[ci x.day, ci x.singer]])) = some (jn (l ++ [x])) := by rw [e3R]; exact e1p l x h
section
variable {Γ : Env} [P04 Γ] [G04 Γ]
theorem e3T (b : Book) [hb : b.Fits] (k : SK) (l : List Rest) (hl : l.length <= 9223372036854775807) : K Γ (.fn 106) [.agg b.c, .sc (.sl k 2 (l.map Rest.c))] [] = some (.tup [vb (b.safe l).1, vi (b.safe l).2], []) := by
 have hc := d5B (Γ := Γ) b
 cases hv : b.valid with
 | false =>
  have e : b.safe l = (false, 40) := by simp only [Book.safe, b0G hv]; rfl
  simp only [hv] at hc
  rw [e]
  rw [K_fn P04.f106 _ _ rfl]
  simp only [go_sem, simprocAttr, e1D, hc]
 | true =>
  have hs := a2n.1 hv
  simp only [hv] at hc
  have hi := e3m (Γ := Γ) b hs k l hl
  have ha := d5C (Γ := Γ) b (b.a4k l)
  by_cases he : b.err (b.a4k l) = 0
  ·obtain ⟨-, hp, hne⟩ := a5T he
   have hl15 := b6x hs hp
   have hs3 := hs.s3
   rw [d5J he, he] at ha
   have hal := e3p (Γ := Γ) b hs k l (by omega)
   have hen (k : SK) := e3k (Γ := Γ) b hs k l (by omega)
   have hall : b.b5J (a1M b.F l) = (List.range b.singers.length).all fun i => b.well (a1M b.F l) i := by
    rw [Bool.eq_iff_iff]
    simp only [Book.b5J, Option.isNone_iff_eq_none, a3y, Bool.not_eq_false', List.all_eq_true, List.mem_range]
   simp only [Book.safe, if_pos he]
   cases hE : b.enough (a1M b.F l) with
   | false =>
    rw [hE] at hen
    rw [Bool.and_false]
    rw [K_fn P04.f106 _ _ rfl]
    simp only [go_sem, simprocAttr, e1D, hc, hi, ha, hal, hen, e2d, e1C, a1J]
   | true =>
    rw [hE] at hen
    rw [Bool.and_true, hall]
    have hL {β : Type} (Q : Ex -> St -> Option β) (r : Option β) (hQ : ∀ i : Nat, Q (.exit 0) ⟨[(2, .sc (.ptr 0 0)), (7, .sc (.sl (b.askK (b.a4k l)) 3 ((b.d4N 0).map Cost.c))), (9, .sc (.sl (kF (b.allR l)) 2 ((b.allR l).map Rest.c))), (10, vb ((List.range b.singers.length).all fun i => b.well (a1M b.F l) i)), (11, vi i), (41, vb false)], [.var b.c]⟩ = r) :
     E Γ e2d ⟨[(2, .sc (.ptr 0 0)), (7, .sc (.sl (b.askK (b.a4k l)) 3 ((b.d4N 0).map Cost.c))), (9, .sc (.sl (kF (b.allR l)) 2 ((b.allR l).map Rest.c))), (10, vb true), (11, vi 0)], [.var b.c]⟩ Q = r := by
     refine b8u (fun i ok => ⟨[(2, .sc (.ptr 0 0)), (7, .sc (.sl (b.askK (b.a4k l)) 3 ((b.d4N 0).map Cost.c))), (9, .sc (.sl (kF (b.allR l)) 2 ((b.allR l).map Rest.c))), (10, vb ok), (11, vi i)], [.var b.c]⟩) (List.range b.singers.length) (fun i => b.well (a1M b.F l) i)
      (fun i ok => (.exit 0, ⟨[(2, .sc (.ptr 0 0)), (7, .sc (.sl (b.askK (b.a4k l)) 3 ((b.d4N 0).map Cost.c))), (9, .sc (.sl (kF (b.allR l)) 2 ((b.allR l).map Rest.c))), (10, vb ok), (11, vi i), (41, vb false)], [.var b.c]⟩)) rfl ?_ ?_ ?_ ?_
     ·intro i x hx
      have hi := (List.getElem?_eq_some_iff.1 hx).1
      rw [List.length_range] at hi
      rw [List.getElem?_range hi] at hx
      cases hx
      have hlt := decide_eq_true (show (i : Int) < b.singers.length by omega)
      have hiw : IntKind.i64.wrap ((i : Int) + 1) = i + 1 := wrap_i64 (by omega) (by omega)
      have hk := e3v (Γ := Γ) b hs hne (b.askK (b.a4k l)) i hi (kF (b.allR l)) l (by omega)
      simp only [go_sem, simprocAttr, e1C, hlt, hiw, hk]
      rfl
     ·intro i hi
      simp only [go_sem, simprocAttr, e1C]
     ·have hlt := decide_eq_false (show ¬ (b.singers.length : Int) < b.singers.length by omega)
      rw [List.length_range]
      simp only [go_sem, simprocAttr, e1C, hlt]
     ·intro i; exact hQ i
    rw [K_fn P04.f106 _ _ rfl]
    simp only [go_sem, simprocAttr, e1D, hc, hi, ha, hal, hen]
    refine hL _ _ fun i => ?_
    (simp only [go_sem, simprocAttr]; repeat' (first | ((first | refine brY ?_ | refine brN ?_ | refine brA ?_ | refine brD ?_ | refine brF ?_ | ((first | apply a0k | apply a0j); (· intro h; simp only [go_sem, simprocAttr, a0p h]; exact rfl))); (try simp only [go_sem, simprocAttr])) | ((first | apply a0e | apply d7E | apply a0a) <;> intro h <;> (try simp only [go_sem, simprocAttr, h]))))
  ·have hd := decide_eq_false he
   simp only [Book.safe, if_neg he]
   rw [K_fn P04.f106 _ _ rfl]
   simp only [go_sem, simprocAttr, e1D, hc, hi, ha, hd]
theorem e3U (b : Book) [hb : b.Fits] (hs : Sane b) (v1 : V) (hv1 : v1.under 1 = true) (i : Nat) (set : Nat) (hset : set < 32) (o : List Nat) {β : Type} (Q : Ex -> St -> Option β) :
 E Γ e2B ⟨[(1, v1), (2, vi i), (3, .sc (.ptr 0 0)), (7, .sc (jnN o)), (8, vi set), (9, .sc (.sl .full 2 [])), (10, vb true), (11, vi 0)], [.var b.c]⟩ Q =
 Q (.exit 2) ⟨[(1, v1), (2, vi i), (3, .sc (.ptr 0 0)), (7, .sc (jnN o)), (8, vi set), (9, .sc (jn (setR set i b.days.length))), (10, vb (b.e2w set i b.days.length)), (11, vi b.days.length), (27, vb false)], [.var b.c]⟩ := by
 have hd5 := hs.d5; have hr6 := hs.r6
 have hok := e2J (Γ := Γ) b hs
 have huN := e2I
 have hu := e0X
 have hun := e1n
 refine a4q b.days.length (fun d (_ : Unit) => ⟨[(1, v1), (2, vi i), (3, .sc (.ptr 0 0)), (7, .sc (jnN o)), (8, vi set), (9, .sc (jn (setR set i d))), (10, vb (b.e2w set i d)), (11, vi d)], [.var b.c]⟩) (fun _ _ => True)
  (fun _ => (.exit 2, ⟨[(1, v1), (2, vi i), (3, .sc (.ptr 0 0)), (7, .sc (jnN o)), (8, vi set), (9, .sc (jn (setR set i b.days.length))), (10, vb (b.e2w set i b.days.length)), (11, vi b.days.length), (27, vb false)], [.var b.c]⟩)) () rfl trivial ?_ ?_ (fun _ _ => rfl)
 ·intro d _ hd _
  refine ⟨(), trivial, ?_⟩
  have hlt := decide_eq_true (show (d : Int) < b.days.length by omega)
  have hdw : IntKind.i64.wrap ((d : Int) + 1) = d + 1 := wrap_i64 (by omega) (by omega)
  have hl := e3q (set : Int) i d
  have hA := e3L (setR set i d) ⟨d, i⟩ (by omega)
  have hr := d5P (Γ := Γ) b.kr b.rests (by omega) i d
  have hrr : a2Y b.rests i d = b.rest i d := rfl
  rw [hrr] at hr
  rw [e3J, e3A]
  cases hh : d2J (set : Int) (d : Int) with
  | false =>
   simp only [Bool.false_eq_true, if_false, Bool.not_false, Bool.true_or, Bool.and_true]
   simp only [go_sem, simprocAttr, e1A, hlt, hdw, hh, hu, huN, hun, hv1]
   rfl
  | true =>
   simp only [if_true, Bool.not_true, Bool.false_or]
   cases hc : b.e2w set i d with
   | false =>
    simp only [Bool.false_and]
    simp only [go_sem, simprocAttr, e1A, hlt, hdw, hh, hA, hu, huN, hun, hv1]
    rfl
   | true =>
    simp only [Bool.true_and]
    by_cases hge : b.o <= d
    ·have d1 : decide ((b.o : Int) <= d) = true := decide_eq_true (by omega)
     rw [decide_eq_true hge, Bool.true_and]
     simp only [go_sem, simprocAttr, e1A, hlt, hdw, hh, hok, d1, hr, hA, hu, huN, hun, hv1]
     rfl
    ·have d1 : decide ((b.o : Int) <= d) = false := decide_eq_false (by omega)
     rw [decide_eq_false hge, Bool.false_and]
     simp only [go_sem, simprocAttr, e1A, hlt, hdw, hh, hok, d1, hA, hu, huN, hun, hv1]
     rfl
 ·intro _ _
  have hlt := decide_eq_false (show ¬ (b.days.length : Int) < b.days.length by omega)
  simp only [go_sem, simprocAttr, e1A, hlt, hu, huN, hun, hv1]
theorem e3V (b : Book) [hb : b.Fits] (v1 : V) (hv1 : v1.under 1 = true) (i : Nat) (set : Nat) (o : List Nat) (ho : o.length <= 100) (own : List Rest) (can : Bool) {β : Type} (Q : Ex -> St -> Option β) :
 E Γ e2C ⟨[(1, v1), (2, vi i), (3, .sc (.ptr 0 0)), (7, .sc (jnN o)), (8, vi set), (9, .sc (jn own)), (10, vb can), (12, vi 0)], [.var b.c]⟩ Q =
 Q (.exit 4) ⟨[(1, v1), (2, vi i), (3, .sc (.ptr 0 0)), (7, .sc (jnN o)), (8, vi set), (9, .sc (jn own)), (10, vb (can && o.all fun (x : Nat) => !subS (x : Int) (set : Int))), (12, vi o.length), (57, vb false)], [.var b.c]⟩ := by
 have huN := e2I
 have hu := e0X
 have hun := e2R
 refine (a4Q (fun j => ⟨[(1, v1), (2, vi i), (3, .sc (.ptr 0 0)), (7, .sc (jnN o)), (8, vi set), (9, .sc (jn own)), (10, vb (can && (o.take j).all fun (x : Nat) => !subS (x : Int) (set : Int))), (12, vi j)], [.var b.c]⟩) o
  (.exit 4, ⟨[(1, v1), (2, vi i), (3, .sc (.ptr 0 0)), (7, .sc (jnN o)), (8, vi set), (9, .sc (jn own)), (10, vb (can && o.all fun (x : Nat) => !subS (x : Int) (set : Int))), (12, vi o.length), (57, vb false)], [.var b.c]⟩) Q ?_ ?_ ?_).trans ?_
 ·simp
 ·intro j x hx
  have hj := (List.getElem?_eq_some_iff.1 hx).1
  have hlt := decide_eq_true (show (j : Int) < o.length by omega)
  have hjw : IntKind.i64.wrap ((j : Int) + 1) = j + 1 := wrap_i64 (by omega) (by omega)
  have e : (can && (o.take (j + 1)).all fun (x : Nat) => !subS (x : Int) (set : Int)) = ((can && (o.take j).all fun (x : Nat) => !subS (x : Int) (set : Int)) && !subS (x : Int) (set : Int)) := by
   rw [take_snoc hx, List.all_append]; simp [Bool.and_assoc]
  rw [e]
  have hxc : (nl o)[j]? = some [ci (x : Int)] := by rw [nl, List.getElem?_map, hx]; rfl
  generalize (can && (o.take j).all fun (x : Nat) => !subS (x : Int) (set : Int)) = c
  have hb1 : decide (a5l .i64 (BitVec.ofInt 64 (x : Int) &&& BitVec.ofInt 64 (set : Int)) = (x : Int)) = subS (x : Int) (set : Int) := rfl
  have hb2 : decide (a5l .i64 (BitVec.ofInt IntKind.i64.bits (x : Int) &&& BitVec.ofInt IntKind.i64.bits (set : Int)) = (x : Int)) = subS (x : Int) (set : Int) := rfl
  cases c with
  | false =>
   rw [Bool.false_and]
   simp only [go_sem, simprocAttr, e1N, hlt, hjw, hu, huN, hun, hv1, List.length_map]
   rfl
  | true =>
   rw [Bool.true_and]
   (simp only [go_sem, simprocAttr, e1N, hlt, hjw, hu, huN, hun, hv1, hxc, hb1, hb2, List.length_map]; repeat' ((first | refine brY ?_ | refine brN ?_ | refine brA ?_ | refine brD ?_ | refine brF ?_); (try simp only [go_sem, simprocAttr, e1N, hlt, hjw, hu, huN, hun, hv1, hxc, hb1, hb2, List.length_map])))
   rfl
 ·have hlt := decide_eq_false (show ¬ (o.length : Int) < o.length by omega)
  rw [List.take_length]
  (simp only [go_sem, simprocAttr, e1N, hlt, hu, huN, hun, hv1, List.length_map]; repeat' ((first | refine brY ?_ | refine brN ?_ | refine brA ?_ | refine brD ?_ | refine brF ?_); (try simp only [go_sem, simprocAttr, e1N, hlt, hu, huN, hun, hv1, List.length_map])))
 ·rfl
end
end Go.Pm.St
namespace Go.Pm.St
open Ac
abbrev sc (S : List (List Nat)) : List (List C) := S.map fun own => [.sl (kN own) 1 (nl own)]
theorem e2P {b : Book} {f : Nat -> List Rest × Bool} {M : Nat} (h : ∀ x, (f x).1.length <= M) : ∀ (l : List Nat) (a : List Rest × Bool), a.1.length <= M -> (l.foldl (b.e2i f) a).1.length <= M
 | [], _, h1 => h1
 | x :: l, a, h1 => by
  refine e2P h l _ ?_
  unfold Book.e2i
  split
  ·exact h x
  ·exact h1
theorem e3j {b : Book} : ∀ (S : List (List Nat)) (on : List Nat), (b.e2a S on).1.length <= b.days.length * (on.length + S.length)
 | [], on => by
  have := e2M on b.days.length
  simpa [Book.e2a] using this
 | own :: S, on => by
  refine e2P (M := b.days.length * (on.length + (own :: S).length)) (fun x => ?_) own _ (by simp)
  have := e3j (b := b) S (on ++ [x])
  simp only [List.length_append, List.length_cons, List.length_nil] at this ⊢
  have e : on.length + (0 + 1) + S.length = on.length + (S.length + 1) := by omega
  rw [e] at this; exact this
section
variable {Γ : Env} [P04 Γ] [G04 Γ]
theorem e4c (b : Book) [hb : b.Fits] (hs : Sane b) (hne : b.now ≠ []) (k1 : SK) (i : Nat) (hi : i < b.singers.length) :
 K Γ (.fn 132) [.agg b.c, .sc (.sl k1 3 ((b.d4N 0).map Cost.c)), vi i] [] = some (.sc (.sl (kN (b.sets i)) 1 (nl (b.sets i))), []) := by
 have hd5 := hs.d5
 have hp := b9t hd5
 have h32 := b6h hd5
 have huN := e2I
 have hu := e0X
 have hun := e2R
 have hunR := e1n
 have hv1 : V.under 1 (.sc (.sl k1 3 ((b.d4N 0).map Cost.c))) = true := by simp [go_sem]
 have hL {β : Type} (Q : Ex -> St -> Option β) : E Γ e2A ⟨[(1, .sc (.sl k1 3 ((b.d4N 0).map Cost.c))), (2, vi i), (3, .sc (.ptr 0 0)), (7, .sc (.sl .full 1 [])), (8, vi 0)], [.var b.c]⟩ Q =
  Q (.exit 0) ⟨[(1, .sc (.sl k1 3 ((b.d4N 0).map Cost.c))), (2, vi i), (3, .sc (.ptr 0 0)), (7, .sc (jnN (b.sets i))), (8, vi ((2 ^ b.days.length : Nat) : Int)), (19, vb false)], [.var b.c]⟩ := by
  refine a4q (2 ^ b.days.length) (fun s (_ : Unit) => ⟨[(1, .sc (.sl k1 3 ((b.d4N 0).map Cost.c))), (2, vi i), (3, .sc (.ptr 0 0)), (7, .sc (jnN (b.e2h i s))), (8, vi s)], [.var b.c]⟩) (fun _ _ => True)
   (fun _ => (.exit 0, ⟨[(1, .sc (.sl k1 3 ((b.d4N 0).map Cost.c))), (2, vi i), (3, .sc (.ptr 0 0)), (7, .sc (jnN (b.sets i))), (8, vi ((2 ^ b.days.length : Nat) : Int)), (19, vb false)], [.var b.c]⟩)) () rfl trivial ?_ ?_ (fun _ _ => rfl)
  ·intro s _ hsl _
   refine ⟨(), trivial, ?_⟩
   have hlt := decide_eq_true (show (s : Int) < ((2 ^ b.days.length : Nat) : Int) by omega)
   have hsw : IntKind.i64.wrap ((s : Int) + 1) = s + 1 := wrap_i64 (by omega) (by omega)
   have hol := e2Q b i s
   have h1 {β : Type} (Q : Ex -> St -> Option β) := e3U (Γ := Γ) b hs (.sc (.sl k1 3 ((b.d4N 0).map Cost.c))) hv1 i s (by omega) (b.e2h i s) Q
   have h2 {β : Type} (own : List Rest) (can : Bool) (Q : Ex -> St -> Option β) := e3V (Γ := Γ) b (.sc (.sl k1 3 ((b.d4N 0).map Cost.c))) hv1 i s (b.e2h i s) (by omega) own can Q
   have hrl := e3q (s : Int) i b.days.length
   have hal := e3p (Γ := Γ) b hs (kF (setR s i b.days.length)) (setR s i b.days.length) (by omega)
   have hke := e3v (Γ := Γ) b hs hne k1 i hi (kF (b.allR (setR s i b.days.length))) (setR s i b.days.length) (by omega)
   have hA := e3o (b.e2h i s) s (by omega)
   simp only [Book.e2h, Book.e2l]
   cases ha : (b.e2h i s).all fun (x : Nat) => !subS (x : Int) (s : Int) with
   | false =>
    simp only [ha, Bool.and_false] at h2
    simp only [Bool.false_and, Bool.false_eq_true, if_false]
    (simp only [go_sem, simprocAttr, e1z, hp, hlt, hsw, h1, h2, hu, huN, hun, hunR]; repeat' ((first | refine brY ?_ | refine brN ?_ | refine brA ?_ | refine brD ?_ | refine brF ?_); (try simp only [go_sem, simprocAttr, e1z, hp, hlt, hsw, h1, h2, hu, huN, hun, hunR])))
    rfl
   | true =>
    simp only [ha, Bool.and_true] at h2
    rcases Bool.eq_false_or_eq_true (b.e2w s i b.days.length) with hc | hc
    ·simp only [hc] at h1
     rcases Bool.eq_false_or_eq_true (b.well (a1M b.F (setR s i b.days.length)) i) with hw | hw
     ·rw [hw] at hke
      simp only [hc, hw, Bool.true_and, if_true]
      (simp only [go_sem, simprocAttr, e1z, hp, hlt, hsw, h1, h2, hal, hke, hA, hu, huN, hun, hunR]; repeat' ((first | refine brY ?_ | refine brN ?_ | refine brA ?_ | refine brD ?_ | refine brF ?_); (try simp only [go_sem, simprocAttr, e1z, hp, hlt, hsw, h1, h2, hal, hke, hA, hu, huN, hun, hunR])))
      rfl
     ·rw [hw] at hke
      simp only [hc, hw, Bool.true_and, Bool.false_eq_true, if_false]
      (simp only [go_sem, simprocAttr, e1z, hp, hlt, hsw, h1, h2, hal, hke, hu, huN, hun, hunR]; repeat' ((first | refine brY ?_ | refine brN ?_ | refine brA ?_ | refine brD ?_ | refine brF ?_); (try simp only [go_sem, simprocAttr, e1z, hp, hlt, hsw, h1, h2, hal, hke, hu, huN, hun, hunR])))
      rfl
    ·simp only [hc] at h1
     simp only [hc, Bool.false_and, Bool.and_false, Bool.false_eq_true, if_false]
     (simp only [go_sem, simprocAttr, e1z, hp, hlt, hsw, h1, h2, hu, huN, hun, hunR]; repeat' ((first | refine brY ?_ | refine brN ?_ | refine brA ?_ | refine brD ?_ | refine brF ?_); (try simp only [go_sem, simprocAttr, e1z, hp, hlt, hsw, h1, h2, hu, huN, hun, hunR])))
     rfl
  ·intro _ _
   have hlt := decide_eq_false (show ¬ ((2 ^ b.days.length : Nat) : Int) < ((2 ^ b.days.length : Nat) : Int) by omega)
   have e : jnN (b.sets i) = jnN (b.e2h i (2 ^ b.days.length)) := rfl
   rw [e]
   (simp only [go_sem, simprocAttr, e1z, hp, hlt, hu, huN]; repeat' ((first | refine brY ?_ | refine brN ?_ | refine brA ?_ | refine brD ?_ | refine brF ?_); (try simp only [go_sem, simprocAttr, e1z, hp, hlt, hu, huN])))
 rw [K_fn P04.f132 _ _ rfl]
 simp only [go_sem, simprocAttr, e2f, hL, huN, hun]
theorem e3E (b : Book) [hb : b.Fits] (hs : Sane b) (k : SK) (on : List Nat) (hon : on.length <= 3) : K Γ (.fn 165) [.agg b.c, .sc (.sl k 1 (nl on))] [] = some (.sc (.sl (kS (ordD on b.days.length)) 2 (rl (ordD on b.days.length))), []) := by
 have hd5 := hs.d5
 have hu : ∀ n (l : List Rest), C.under n (ownC 2 (rl l)) = true := fun n l => a7C _ _ _
 have hL1 {β : Type} (d : Nat) (hd : d < b.days.length) (Q : Ex -> St -> Option β) : E Γ e2o ⟨[(1, .sc (.sl k 1 (nl on))), (2, .sc (.ptr 0 0)), (5, .sc (ownC 2 (rl (ordD on d)))), (6, vi d), (7, vi 0)], [.var b.c]⟩ Q =
  Q (.exit 2) ⟨[(1, .sc (.sl k 1 (nl on))), (2, .sc (.ptr 0 0)), (5, .sc (ownC 2 (rl (ordD on (d + 1))))), (6, vi d), (7, vi on.length), (18, vb false)], [.var b.c]⟩ := by
  have hdl : d * on.length <= 15 := by
   have := Nat.mul_le_mul (show d <= 5 by omega) hon; omega
  have hol := e2M on d
  refine a4q on.length (fun i (_ : Unit) => ⟨[(1, .sc (.sl k 1 (nl on))), (2, .sc (.ptr 0 0)), (5, .sc (ownC 2 (rl (ordD on d ++ ordN on d i)))), (6, vi d), (7, vi i)], [.var b.c]⟩) (fun _ _ => True)
   (fun _ => (.exit 2, ⟨[(1, .sc (.sl k 1 (nl on))), (2, .sc (.ptr 0 0)), (5, .sc (ownC 2 (rl (ordD on (d + 1))))), (6, vi d), (7, vi on.length), (18, vb false)], [.var b.c]⟩)) () (by simp [ordN]) trivial ?_ ?_ (fun _ _ => rfl)
  ·intro i _ hi _
   refine ⟨(), trivial, ?_⟩
   obtain ⟨x, hx⟩ : ∃ x, on[i]? = some x := ⟨_, List.getElem?_eq_getElem hi⟩
   have hxc : (nl on)[i]? = some [ci (x : Int)] := by rw [nl, List.getElem?_map, hx]; rfl
   have hlt := decide_eq_true (show (i : Int) < on.length by omega)
   have hiw : IntKind.i64.wrap ((i : Int) + 1) = i + 1 := wrap_i64 (by omega) (by omega)
   have hnl := e2U on d i
   have happ := a2K 2 (rl (ordD on d ++ ordN on d i)) .full [ci (d : Int), ci (i : Int)] (by simp only [rl, List.length_map, List.length_append, room]; omega)
   have hsn : rl (ordD on d ++ (ordN on d i ++ [⟨d, i⟩])) = rl (ordD on d ++ ordN on d i) ++ [[ci (d : Int), ci (i : Int)]] := by simp [rl, Rest.c]
   have hbit : e2W on d i = d2J (x : Int) (d : Int) := by simp only [e2W, hx]
   simp only [ordN, hbit]
   cases hh : d2J (x : Int) (d : Int) with
   | false =>
    simp only [Bool.false_eq_true, if_false]
    (simp only [go_sem, simprocAttr, e1E, hlt, hiw, hxc, hh, hu, List.length_map]; repeat' ((first | refine brY ?_ | refine brN ?_ | refine brA ?_ | refine brD ?_ | refine brF ?_); (try simp only [go_sem, simprocAttr, e1E, hlt, hiw, hxc, hh, hu, List.length_map])))
    rfl
   | true =>
    simp only [if_true, hsn]
    (simp only [go_sem, simprocAttr, e1E, hlt, hiw, hxc, hh, hu, happ, List.length_map]; repeat' ((first | refine brY ?_ | refine brN ?_ | refine brA ?_ | refine brD ?_ | refine brF ?_); (try simp only [go_sem, simprocAttr, e1E, hlt, hiw, hxc, hh, hu, happ, List.length_map])))
    rfl
  ·intro _ _
   have hlt := decide_eq_false (show ¬ (on.length : Int) < on.length by omega)
   simp only [ordD]
   (simp only [go_sem, simprocAttr, e1E, hlt, hu, List.length_map]; repeat' ((first | refine brY ?_ | refine brN ?_ | refine brA ?_ | refine brD ?_ | refine brF ?_); (try simp only [go_sem, simprocAttr, e1E, hlt, hu, List.length_map])))
 have hL0 {β : Type} (Q : Ex -> St -> Option β) : E Γ e2n ⟨[(1, .sc (.sl k 1 (nl on))), (2, .sc (.ptr 0 0)), (5, .sc (.sl .nil 2 [])), (6, vi 0)], [.var b.c]⟩ Q =
  Q (.exit 0) ⟨[(1, .sc (.sl k 1 (nl on))), (2, .sc (.ptr 0 0)), (5, .sc (ownC 2 (rl (ordD on b.days.length)))), (6, vi b.days.length), (12, vb false)], [.var b.c]⟩ := by
  refine a4q b.days.length (fun d (_ : Unit) => ⟨[(1, .sc (.sl k 1 (nl on))), (2, .sc (.ptr 0 0)), (5, .sc (ownC 2 (rl (ordD on d)))), (6, vi d)], [.var b.c]⟩) (fun _ _ => True)
   (fun _ => (.exit 0, ⟨[(1, .sc (.sl k 1 (nl on))), (2, .sc (.ptr 0 0)), (5, .sc (ownC 2 (rl (ordD on b.days.length)))), (6, vi b.days.length), (12, vb false)], [.var b.c]⟩)) () rfl trivial ?_ ?_ (fun _ _ => rfl)
  ·intro d _ hd _
   refine ⟨(), trivial, ?_⟩
   have hlt := decide_eq_true (show (d : Int) < b.days.length by omega)
   have hdw : IntKind.i64.wrap ((d : Int) + 1) = d + 1 := wrap_i64 (by omega) (by omega)
   have h1 {β : Type} (Q : Ex -> St -> Option β) := hL1 d hd Q
   simp only [go_sem, simprocAttr, e1P, hlt, hdw, h1, hu]
   rfl
  ·intro _ _
   have hlt := decide_eq_false (show ¬ (b.days.length : Int) < b.days.length by omega)
   simp only [go_sem, simprocAttr, e1P, hlt, hu]
 have hun := b1p (ordD on b.days.length)
 rw [rC] at hun
 rw [K_fn P04.f165 _ _ rfl]
 simp only [go_sem, simprocAttr, e2c, hL0, hu, hun]
theorem e3X (k : SK) (l : List Nat) (x : Nat) (hl : l.length <= 100) : K Γ (.fn 81) [.sc (.sl k 1 (nl l)), vi x] [] = some (.sc (.sl .shared 1 (nl (l ++ [x]))), []) := by
 have hA := e3K k l (by omega)
 have hB := e3o l x (by omega)
 have hu := e2I
 have hun := e2R (l ++ [x])
 have hk : kN (l ++ [x]) = .shared := by cases l <;> rfl
 rw [hk] at hun
 rw [K_fn P04.f81 _ _ rfl]
 simp only [go_sem, simprocAttr, e2e, hA, hB, hu, hun]
theorem e3P (k k' : SK) (l m : List Rest) (hl : l.length <= 1000) (hm : m.length <= 1000) : K Γ (.fn 166) [.sc (.sl k 2 (rl l)), .sc (.sl k' 2 (rl m))] [] = some (vb (better l m), []) := by
 by_cases hlm : l.length = m.length
 ·have hne := decide_eq_false (show ¬ ¬ (l.length : Int) = m.length by omega)
  have hne2 := decide_eq_true (show (l.length : Int) = m.length by omega)
  have hL {β : Type} (Q : Ex -> St -> Option β) : E Γ e2s ⟨[(0, .sc (.sl k 2 (rl l))), (1, .sc (.sl k' 2 (rl m))), (5, vi 0)], []⟩ Q =
   match a0z (fun i (x : Rest) => match m[i]? with | some y => !decide (x.cmp y = 0) | none => true) 0 l with
   | some q => Q .ret (match m[q.1]? with | some y => ⟨[(4, vb (decide (q.2.cmp y < 0)))], []⟩ | none => ⟨[], []⟩)
   | none => Q (.exit 0) ⟨[(0, .sc (.sl k 2 (rl l))), (1, .sc (.sl k' 2 (rl m))), (5, vi l.length), (19, vb false)], []⟩ := by
   refine (a4L (fun i => ⟨[(0, .sc (.sl k 2 (rl l))), (1, .sc (.sl k' 2 (rl m))), (5, vi i)], []⟩) l (fun i (x : Rest) => match m[i]? with | some y => !decide (x.cmp y = 0) | none => true)
    (fun i x => (.ret, match m[i]? with | some y => ⟨[(4, vb (decide (x.cmp y < 0)))], []⟩ | none => ⟨[], []⟩))
    (.exit 0, ⟨[(0, .sc (.sl k 2 (rl l))), (1, .sc (.sl k' 2 (rl m))), (5, vi l.length), (19, vb false)], []⟩) Q ?_ ?_ ?_).trans ?_
   ·intro i x hx hf
    have hlt' := (List.getElem?_eq_some_iff.1 hx).1
    have hlt := decide_eq_true (show (i : Int) < l.length by omega)
    have hw : IntKind.i64.wrap ((i : Int) + 1) = i + 1 := wrap_i64 (by omega) (by omega)
    obtain ⟨y, hy⟩ : ∃ y, m[i]? = some y := ⟨_, List.getElem?_eq_getElem (by omega)⟩
    simp only [hy, Bool.not_eq_false', decide_eq_true_eq] at hf
    have e := e0z.1 hf
    subst e
    have hk2 : a0c [1, 1] x.c x.c = some true := by have := a7k x x; simpa using this
    have hk : a0c [1, 1] [ci x.day, ci x.singer] [ci x.day, ci x.singer] = some true := hk2
    (simp only [go_sem, simprocAttr, e1x, hx, hy, hw, hlt, hk, hk2, List.length_map]; repeat' ((first | refine brY ?_ | refine brN ?_ | refine brA ?_ | refine brD ?_ | refine brF ?_); (try simp only [go_sem, simprocAttr, e1x, hx, hy, hw, hlt, hk, hk2, List.length_map])))
    rfl
   ·intro i x hx hf
    have hlt' := (List.getElem?_eq_some_iff.1 hx).1
    have hlt := decide_eq_true (show (i : Int) < l.length by omega)
    obtain ⟨y, hy⟩ : ∃ y, m[i]? = some y := ⟨_, List.getElem?_eq_getElem (by omega)⟩
    simp only [hy, Bool.not_eq_true', decide_eq_false_iff_not] at hf
    have hne : x ≠ y := fun h => hf (e0z.2 h)
    have hk2 : a0c [1, 1] x.c y.c = some false := by have := a7k x y; rwa [decide_eq_false hne] at this
    have hk : a0c [1, 1] [ci x.day, ci x.singer] [ci y.day, ci y.singer] = some false := hk2
    by_cases h1 : x.day < y.day
    ·have e1 := decide_eq_true h1
     have e2 : decide (x.cmp y < 0) = true := decide_eq_true (by rw [cmp_neg]; omega)
     (simp only [go_sem, simprocAttr, e1x, hx, hy, hlt, hk, hk2, e1, e2, List.length_map]; repeat' ((first | refine brY ?_ | refine brN ?_ | refine brA ?_ | refine brD ?_ | refine brF ?_); (try simp only [go_sem, simprocAttr, e1x, hx, hy, hlt, hk, hk2, e1, e2, List.length_map])))
    ·have e1 := decide_eq_false h1
     by_cases h2 : x.day = y.day
     ·have e3 := decide_eq_true h2
      by_cases h3 : x.singer < y.singer
      ·have e4 := decide_eq_true h3
       have e2 : decide (x.cmp y < 0) = true := decide_eq_true (by rw [cmp_neg]; omega)
       (simp only [go_sem, simprocAttr, e1x, hx, hy, hlt, hk, hk2, e1, e2, e3, e4, List.length_map]; repeat' ((first | refine brY ?_ | refine brN ?_ | refine brA ?_ | refine brD ?_ | refine brF ?_); (try simp only [go_sem, simprocAttr, e1x, hx, hy, hlt, hk, hk2, e1, e2, e3, e4, List.length_map])))
      ·have e4 := decide_eq_false h3
       have e2 : decide (x.cmp y < 0) = false := decide_eq_false (by rw [cmp_neg]; omega)
       (simp only [go_sem, simprocAttr, e1x, hx, hy, hlt, hk, hk2, e1, e2, e3, e4, List.length_map]; repeat' ((first | refine brY ?_ | refine brN ?_ | refine brA ?_ | refine brD ?_ | refine brF ?_); (try simp only [go_sem, simprocAttr, e1x, hx, hy, hlt, hk, hk2, e1, e2, e3, e4, List.length_map])))
     ·have e3 := decide_eq_false h2
      have e2 : decide (x.cmp y < 0) = false := decide_eq_false (by rw [cmp_neg]; omega)
      (simp only [go_sem, simprocAttr, e1x, hx, hy, hlt, hk, hk2, e1, e2, e3, List.length_map]; repeat' ((first | refine brY ?_ | refine brN ?_ | refine brA ?_ | refine brD ?_ | refine brF ?_); (try simp only [go_sem, simprocAttr, e1x, hx, hy, hlt, hk, hk2, e1, e2, e3, List.length_map])))
   ·have hlt := decide_eq_false (show ¬ (l.length : Int) < l.length by omega)
    simp only [go_sem, simprocAttr, e1x, hlt, List.length_map]
   ·cases a0z (fun i (x : Rest) => match m[i]? with | some y => !decide (x.cmp y = 0) | none => true) 0 l <;> rfl
  have hbt : better l m = decide (cmpL l m < 0) := by
   rw [Bool.eq_iff_iff, e0u, decide_eq_true_eq]; omega
  rw [hbt]
  unfold cmpL
  cases h : a0z (fun i (x : Rest) => match m[i]? with | some y => !decide (x.cmp y = 0) | none => true) 0 l with
  | none =>
   simp only [h] at hL
   rw [if_neg (by omega)]
   rw [K_fn P04.f166 _ _ rfl]
   simp only [go_sem, simprocAttr, e1H, hne, hne2, hL, List.length_map]
  | some q =>
   obtain ⟨i, x⟩ := q
   obtain ⟨-, h1, -⟩ := a3F h
   have := (List.getElem?_eq_some_iff.1 h1).1
   obtain ⟨y, hy⟩ : ∃ y, m[i]? = some y := ⟨_, List.getElem?_eq_getElem (by omega)⟩
   simp only [h, hy] at hL
   simp only [hy]
   rw [K_fn P04.f166 _ _ rfl]
   simp only [go_sem, simprocAttr, e1H, hne, hne2, hL, List.length_map]
 ·have hne := decide_eq_true (show ¬ (l.length : Int) = m.length by omega)
  have hne2 := decide_eq_false (show ¬ (l.length : Int) = m.length by omega)
  have hbt : better l m = decide ((l.length : Int) < m.length) := by
   rw [Bool.eq_iff_iff, e0u, decide_eq_true_eq]; omega
  rw [hbt]
  rw [K_fn P04.f166 _ _ rfl]
  simp only [go_sem, simprocAttr, e1H, hne, hne2, List.length_map]
theorem e3B (b : Book) [hb : b.Fits] (hs : Sane b) (ks : SK) (S0 : List (List Nat)) (h3 : S0.length <= 3) (h32 : ∀ own ∈ S0, own.length <= 32) : ∀ (S : List (List Nat)) (k : SK) (on : List Nat), S0.drop on.length = S -> on.length <= S0.length →
 K Γ (.fn 133) [.agg b.c, .sc (.sl ks 1 (sc S0)), .sc (.sl k 1 (nl on))] [] = some (.tup [.sc (.sl (kS (b.e2a S on).1) 2 (rl (b.e2a S on).1)), vb (b.e2a S on).2], [])
 | [], k, on, hd, hle => by
  have hlen : on.length = S0.length := by have := List.drop_eq_nil_iff.1 hd; omega
  have he := decide_eq_true (show (on.length : Int) = S0.length by omega)
  have hd5 := hs.d5
  have hO := e3E (Γ := Γ) b hs k on (by omega)
  have hol := e2M on b.days.length
  have h15 : b.days.length * on.length <= 15 := by have := Nat.mul_le_mul hd5 (show on.length <= 3 by omega); omega
  have hal := e3p (Γ := Γ) b hs (kS (ordD on b.days.length)) (ordD on b.days.length) (by omega)
  have hen := e3k (Γ := Γ) b hs (kF (b.allR (ordD on b.days.length))) (ordD on b.days.length) (by omega)
  simp only [Book.e2a]
  rw [K_fn P04.f133 _ _ rfl]
  (simp only [go_sem, simprocAttr, e1U, he, hO, hal, hen, List.length_map]; repeat' ((first | refine brY ?_ | refine brN ?_ | refine brA ?_ | refine brD ?_ | refine brF ?_); (try simp only [go_sem, simprocAttr, e1U, he, hO, hal, hen, List.length_map])))
 | own :: S, k, on, hd, hle => by
  have hlt : on.length < S0.length := by
   by_cases h : on.length < S0.length
   ·exact h
   ·rw [List.drop_eq_nil_iff.2 (by omega)] at hd; cases hd
  have hget : S0[on.length]? = some own := by
   have : (S0.drop on.length)[0]? = some own := by rw [hd]; rfl
   rwa [List.getElem?_drop, Nat.add_zero] at this
  have hdrop : S0.drop (on.length + 1) = S := by rw [← List.drop_drop, hd]; rfl
  have hdl : S.length + on.length + 1 = S0.length := by
   have := congrArg List.length hd
   rw [List.length_drop, List.length_cons] at this; omega
  have ho32 := h32 own (List.mem_of_getElem? hget)
  have hne := decide_eq_false (show ¬ (on.length : Int) = S0.length by omega)
  have hsc : (sc S0)[on.length]? = some [.sl (kN own) 1 (nl own)] := by rw [sc, List.getElem?_map, hget]; rfl
  have hd5 := hs.d5
  have hM : ∀ x, (b.e2a S (on ++ [x])).1.length <= 15 := fun x => by
   have h1 := e3j (b := b) S (on ++ [x])
   have h2 : (on ++ [x]).length + S.length <= 3 := by rw [List.length_append, List.length_singleton]; omega
   have := Nat.mul_le_mul hd5 h2; omega
  have hrec (x : Nat) := e3B b hs ks S0 h3 h32 S .shared (on ++ [x]) (by rw [List.length_append, List.length_singleton]; exact hdrop) (by rw [List.length_append, List.length_singleton]; omega)
  have hL {β : Type} (Q : Ex -> St -> Option β) : E Γ e2y ⟨[(1, .sc (.sl ks 1 (sc S0))), (2, .sc (.sl k 1 (nl on))), (3, .sc (.ptr 0 0)), (9, .sc (.sl .nil 2 [])), (10, vb false), (11, .sc (.sl (kN own) 1 (nl own))), (12, vi 0)], [.var b.c]⟩ Q =
   Q (.exit 0) ⟨[(1, .sc (.sl ks 1 (sc S0))), (2, .sc (.sl k 1 (nl on))), (3, .sc (.ptr 0 0)), (9, .sc (.sl (kS (b.e2a (own :: S) on).1) 2 (rl (b.e2a (own :: S) on).1))), (10, vb (b.e2a (own :: S) on).2), (11, .sc (.sl (kN own) 1 (nl own))), (12, vi own.length), (37, vb false)], [.var b.c]⟩ := by
   refine a4Q (fun i => ⟨[(1, .sc (.sl ks 1 (sc S0))), (2, .sc (.sl k 1 (nl on))), (3, .sc (.ptr 0 0)), (9, .sc (.sl (kS ((own.take i).foldl (b.e2i fun x => b.e2a S (on ++ [x])) ([], false)).1) 2 (rl ((own.take i).foldl (b.e2i fun x => b.e2a S (on ++ [x])) ([], false)).1))), (10, vb ((own.take i).foldl (b.e2i fun x => b.e2a S (on ++ [x])) ([], false)).2), (11, .sc (.sl (kN own) 1 (nl own))), (12, vi i)], [.var b.c]⟩) own
    (.exit 0, ⟨[(1, .sc (.sl ks 1 (sc S0))), (2, .sc (.sl k 1 (nl on))), (3, .sc (.ptr 0 0)), (9, .sc (.sl (kS (b.e2a (own :: S) on).1) 2 (rl (b.e2a (own :: S) on).1))), (10, vb (b.e2a (own :: S) on).2), (11, .sc (.sl (kN own) 1 (nl own))), (12, vi own.length), (37, vb false)], [.var b.c]⟩) Q rfl ?_ ?_
   ·intro i x hx
    have hi := (List.getElem?_eq_some_iff.1 hx).1
    have hlt := decide_eq_true (show (i : Int) < own.length by omega)
    have hiw : IntKind.i64.wrap ((i : Int) + 1) = i + 1 := wrap_i64 (by omega) (by omega)
    have hxc : (nl own)[i]? = some [ci (x : Int)] := by rw [nl, List.getElem?_map, hx]; rfl
    have hW := e3X (Γ := Γ) k on x (by omega)
    have hr := hrec x
    have hlen := e2P (b := b) (f := fun x => b.e2a S (on ++ [x])) hM (own.take i) ([], false) (by simp)
    have hmx := hM x
    rw [take_snoc hx, List.foldl_append, List.foldl_cons, List.foldl_nil]
    generalize (own.take i).foldl (b.e2i fun x => b.e2a S (on ++ [x])) ([], false) = a at hlen ⊢
    obtain ⟨out, found⟩ := a
    simp only at hlen
    have hso := e3P (Γ := Γ) (kS (b.e2a S (on ++ [x])).1) (kS out) (b.e2a S (on ++ [x])).1 out (by omega) (by omega)
    simp only [Book.e2i]
    generalize b.e2a S (on ++ [x]) = y at hr hso hmx ⊢
    obtain ⟨l, is⟩ := y
    simp only at hr hso hmx ⊢
    cases is with
    | false =>
     simp only [Bool.false_and, Bool.false_eq_true, if_false]
     (simp only [go_sem, simprocAttr, e1y, hlt, hiw, hxc, hW, hr, List.length_map]; repeat' ((first | refine brY ?_ | refine brN ?_ | refine brA ?_ | refine brD ?_ | refine brF ?_); (try simp only [go_sem, simprocAttr, e1y, hlt, hiw, hxc, hW, hr, List.length_map])))
     rfl
    | true =>
     cases found with
     | false =>
      simp only [Bool.not_false, Bool.true_or, Bool.and_self, if_true]
      (simp only [go_sem, simprocAttr, e1y, hlt, hiw, hxc, hW, hr, List.length_map]; repeat' ((first | refine brY ?_ | refine brN ?_ | refine brA ?_ | refine brD ?_ | refine brF ?_); (try simp only [go_sem, simprocAttr, e1y, hlt, hiw, hxc, hW, hr, List.length_map])))
      rfl
     | true =>
      cases hbt : better l out with
      | false =>
       rw [hbt] at hso
       simp only [Bool.not_true, Bool.or_self, Bool.and_false, Bool.false_eq_true, if_false]
       (simp only [go_sem, simprocAttr, e1y, hlt, hiw, hxc, hW, hr, hso, List.length_map]; repeat' ((first | refine brY ?_ | refine brN ?_ | refine brA ?_ | refine brD ?_ | refine brF ?_); (try simp only [go_sem, simprocAttr, e1y, hlt, hiw, hxc, hW, hr, hso, List.length_map])))
       rfl
      | true =>
       rw [hbt] at hso
       simp only [Bool.not_true, Bool.or_true, Bool.and_self, if_true]
       (simp only [go_sem, simprocAttr, e1y, hlt, hiw, hxc, hW, hr, hso, List.length_map]; repeat' ((first | refine brY ?_ | refine brN ?_ | refine brA ?_ | refine brD ?_ | refine brF ?_); (try simp only [go_sem, simprocAttr, e1y, hlt, hiw, hxc, hW, hr, hso, List.length_map])))
       rfl
   ·have hlt := decide_eq_false (show ¬ (own.length : Int) < own.length by omega)
    rw [List.take_length]
    (simp only [go_sem, simprocAttr, e1y, hlt, List.length_map]; repeat' ((first | refine brY ?_ | refine brN ?_ | refine brA ?_ | refine brD ?_ | refine brF ?_); (try simp only [go_sem, simprocAttr, e1y, hlt, List.length_map])))
    rfl
  rw [K_fn P04.f133 _ _ rfl]
  (simp only [go_sem, simprocAttr, e1U, hne, hsc, hL, List.length_map]; repeat' ((first | refine brY ?_ | refine brN ?_ | refine brA ?_ | refine brD ?_ | refine brF ?_); (try simp only [go_sem, simprocAttr, e1U, hne, hsc, hL, List.length_map])))
theorem e3S (b : Book) [hb : b.Fits] : ∃ k, K Γ (.fn 108) [.agg b.c] [] = some (.tup [.sc (.sl k 2 (rl b.plan.1)), vi b.plan.2], []) := by
 have ha := d5C (Γ := Γ) b true
 by_cases he : b.err true = 0
 ·obtain ⟨hv, -, hne⟩ := a5T he
  have hs := a2n.1 hv
  have hs3 := hs.s3
  have hd5 := hs.d5
  rw [d5J he, he] at ha
  have hu : ∀ n (l : List (List Nat)), C.under n (ownC 1 (sc l)) = true := fun n l => a7C _ _ _
  have hL {β : Type} (Q : Ex -> St -> Option β) : E Γ e2x ⟨[(1, .sc (.ptr 0 0)), (4, .sc (.sl (b.askK true) 3 ((b.d4N 0).map Cost.c))), (6, .sc (.sl .nil 1 [])), (7, vi 0)], [.var b.c]⟩ Q =
   Q (.exit 0) ⟨[(1, .sc (.ptr 0 0)), (4, .sc (.sl (b.askK true) 3 ((b.d4N 0).map Cost.c))), (6, .sc (ownC 1 (sc (b.e1T b.singers.length)))), (7, vi b.singers.length), (22, vb false)], [.var b.c]⟩ := by
   refine a4q b.singers.length (fun i (_ : Unit) => ⟨[(1, .sc (.ptr 0 0)), (4, .sc (.sl (b.askK true) 3 ((b.d4N 0).map Cost.c))), (6, .sc (ownC 1 (sc (b.e1T i)))), (7, vi i)], [.var b.c]⟩) (fun _ _ => True)
    (fun _ => (.exit 0, ⟨[(1, .sc (.ptr 0 0)), (4, .sc (.sl (b.askK true) 3 ((b.d4N 0).map Cost.c))), (6, .sc (ownC 1 (sc (b.e1T b.singers.length)))), (7, vi b.singers.length), (22, vb false)], [.var b.c]⟩)) () rfl trivial ?_ ?_ (fun _ _ => rfl)
   ·intro i _ hi _
    refine ⟨(), trivial, ?_⟩
    have hlt := decide_eq_true (show (i : Int) < b.singers.length by omega)
    have hiw : IntKind.i64.wrap ((i : Int) + 1) = i + 1 := wrap_i64 (by omega) (by omega)
    have hS := e4c (Γ := Γ) b hs hne (b.askK true) i hi
    have hsn : sc (b.e1T (i + 1)) = sc (b.e1T i) ++ [[.sl (kN (b.sets i)) 1 (nl (b.sets i))]] := by simp [sc, Book.e1T, List.range_succ]
    have happ := a2K 1 (sc (b.e1T i)) .full [.sl (kN (b.sets i)) 1 (nl (b.sets i))] (by simp only [sc, List.length_map, Book.e1T, List.length_range, room]; omega)
    rw [hsn]
    simp only [go_sem, simprocAttr, e1W, hlt, hiw, hS, happ, hu]
    rfl
   ·intro _ _
    have hlt := decide_eq_false (show ¬ (b.singers.length : Int) < b.singers.length by omega)
    simp only [go_sem, simprocAttr, e1W, hlt, hu]
  have hun : a0r (ownC 1 (sc (b.e1T b.singers.length))) = .sl (kS (sc (b.e1T b.singers.length))) 1 (sc (b.e1T b.singers.length)) := a9I _ _
  have hB := e3B (Γ := Γ) b hs (kS (sc (b.e1T b.singers.length))) (b.e1T b.singers.length) (by simp [Book.e1T, hs3]) (fun own ho => by
   simp only [Book.e1T, List.mem_map, List.mem_range] at ho
   obtain ⟨j, -, rfl⟩ := ho
   exact Nat.le_trans (e2Q b j _) (b6h hd5)) (b.e1T b.singers.length) .nil [] rfl (by simp)
  simp only [nl, List.map_nil] at hB
  have hR := e3y hs
  simp only [Book.plan, if_pos he]
  cases hbe : b.best with
  | none =>
   rw [hbe] at hR
   simp only at hR
   rw [hR] at hB
   refine ⟨.nil, ?_⟩
   simp only [rl, List.map_nil]
   rw [K_fn P04.f108 _ _ rfl]
   simp only [go_sem, simprocAttr, e1O, ha, hL, hu, hun, hB]
  | some s =>
   rw [hbe] at hR
   simp only at hR
   rw [hR] at hB
   refine ⟨kS s, ?_⟩
   rw [K_fn P04.f108 _ _ rfl]
   simp only [go_sem, simprocAttr, e1O, ha, hL, hu, hun, hB]
 ·have hd : decide (b.err true = 0) = false := decide_eq_false he
  simp only [Book.plan, if_neg he]
  refine ⟨.nil, ?_⟩
  simp only [rl, List.map_nil]
  rw [K_fn P04.f108 _ _ rfl]
  simp only [go_sem, simprocAttr, e1O, ha, hd]
end
end Go.Pm.St
namespace Go.Pm.St
open Ac
section
variable {Γ : Env} [P04 Γ] [G04 Γ]
theorem e3M (b : Book) : b.plan.1.length <= 15 := by
 unfold Book.plan
 split
 ·rename_i he
  have hs := a2n.1 (a5T he).1
  cases hb : b.best with
  | none => simp
  | some s => exact b6x hs (e0C hs hb).1
 ·simp
theorem e3n (b : Book) [hb : b.Fits] (k : SK) (l : List Rest) (hl : l.length <= 9223372036854775807) : K Γ (.fn 201) [.agg b.c, .sc (.sl k 2 (l.map Rest.c))] [] = some (vb true, []) := by
 have h1 := c0x (Γ := Γ) b
 have h2 := e3N (Γ := Γ) b
 have h3 := c3l (Γ := Γ) b k l hl
 have h4 := e3Z (Γ := Γ) b k l hl
 have h5 := c1N (Γ := Γ) b k l hl
 have h6 := e3T (Γ := Γ) b k l hl
 have h7 := b7k (Γ := Γ) b
 obtain ⟨k8, h8⟩ := e3S (Γ := Γ) b
 have hp := e3M b
 have h9 := b8g (Γ := Γ) (b2o b) k8 b.plan.1 b.plan.1 (by omega) (by omega)
 rw [decide_eq_true rfl] at h9
 have hr := c8L (Γ := Γ)
 generalize b.first = f at h1 h2
 generalize b.safe l = s at h5 h6
 generalize (b.valid && b.a4k l) = m at h3 h4
 generalize (if b.valid = true then (0 : Int) else 40) = e at h3 h4
 generalize b.plan = p at h7 h8 h9
 cases m <;> cases hsv : s.1 <;> rw [hsv] at h5 h6 <;>
 ·rw [K_fn P04.f201 _ _ rfl]
  simp only [go_sem, simprocAttr, e1Y, h1, h2, h3, h4, h5, h6, h7, h8, h9, hr]
end
end Go.Pm.St
