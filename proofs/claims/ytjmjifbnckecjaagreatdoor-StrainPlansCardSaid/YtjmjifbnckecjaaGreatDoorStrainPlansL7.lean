/- The statement StrainPlans, part 7. -/
import Derived.Test.YtjmjifbnckecjaaGreatDoorStrainPlansL6
set_option linter.all false
set_option maxRecDepth 100000
namespace Go.Pm.St
open Ac
structure Part (D0 D : List Rest) (a b : Nat) (x : Rest) (i j : Nat) : Prop where
 seg : Seg D0 D a b
 piv : elt D a = x
 lo : ∀ k, a < k -> k < i -> (elt D k).lt x = true
 hi : ∀ k, j < k -> k < b -> (elt D k).lt x = false
 ai : a < i
 ij : i <= j + 1
 jb : j < b
theorem Part.swap {D0 D : List Rest} {a b i j : Nat} {x : Rest} (h : Part D0 D a b x i j) (hb : b <= D.length) (hij : i <= j) (h1 : (elt D i).lt x = false) (h2 : (elt D j).lt x = true) : i < j /\ Part D0 (sw D i j) a b x (i + 1) (j - 1) := by
 have hne : i ≠ j := fun e => by rw [e, h2] at h1; cases h1
 have hai := h.ai; have hjb := h.jb
 have hw : ∀ k, elt (sw D i j) k = if k = j then elt D i else if k = i then elt D j else elt D k := fun k => d8S (by omega) (by omega)
 refine ⟨by omega, h.seg.trans (Seg.sw (by omega) (by omega) (by omega) (by omega)), ?_, fun k k1 k2 => ?_, fun k k1 k2 => ?_, by omega, by omega, by omega⟩
 ·rw [hw, if_neg (by omega), if_neg (by omega)]; exact h.piv
 ·rw [hw, if_neg (by omega)]
  by_cases e : k = i
  ·rw [if_pos e]; exact h2
  ·rw [if_neg e]; exact h.lo k k1 (by omega)
 ·rw [hw]
  by_cases e : k = j
  ·rw [if_pos e]; exact h1
  ·rw [if_neg e, if_neg (by omega)]; exact h.hi k (by omega) k2
theorem Part.done {D0 D : List Rest} {a b i j : Nat} {x : Rest} (h : Part D0 D a b x i j) (hb : b <= D.length) (hij : j < i) : a <= j /\ j < b /\ Seg D0 (sw D j a) a b /\ elt (sw D j a) j = x /\ (∀ k, a <= k -> k < j -> (elt (sw D j a) k).lt x = true) /\ ∀ k, j < k -> k < b -> (elt (sw D j a) k).lt x = false := by
 have hai := h.ai; have hjb := h.jb; have h3 := h.ij
 have hw : ∀ k, elt (sw D j a) k = if k = a then elt D j else if k = j then elt D a else elt D k := fun k => d8S (by omega) (by omega)
 refine ⟨by omega, hjb, h.seg.trans (Seg.sw (by omega) (by omega) (by omega) (by omega)), ?_, fun k k1 k2 => ?_, fun k k1 k2 => ?_⟩
 ·rw [hw]
  by_cases e : j = a
  ·rw [if_pos e, e]; exact h.piv
  ·rw [if_neg e, if_pos rfl]; exact h.piv
 ·rw [hw]
  by_cases e : k = a
  ·rw [if_pos e]; exact h.lo j (by omega) (by omega)
  ·rw [if_neg e, if_neg (by omega)]; exact h.lo k (by omega) (by omega)
 ·rw [hw, if_neg (by omega), if_neg (by omega)]; exact h.hi k k1 k2
section
variable {Γ : Env} [P04 Γ] [G04 Γ]
theorem d9N (H : List Obj) (N r : Nat) (hn : H.length = N) (hr : r < N) (hu : H.all (Obj.under N) = true) (D0 D : List Rest) (hl : D.length <= 1000) (hH : H[r]? = some (.var (a1A D))) (a b : Nat) (hb : b <= D.length) (x : Rest) (i j : Nat) (hP : Part D0 D a b x i j) :
 ∃ i' : Nat, Part D0 D a b x i' j /\ i <= i' /\ (j < i' \/ (elt D i').lt x = false) /\ ∀ {β : Type} (Q : Ex -> St -> Option β),
  E Γ d8k ⟨[(0, rowC r D.length), (1, vi a), (4, cmpC), (12, vi i), (13, vi j)], H⟩ Q = Q (.exit 0) ⟨[(0, rowC r D.length), (1, vi a), (4, cmpC), (12, vi i'), (13, vi j), (47, vb false)], H⟩ := by
 have hrl : r < H.length := by omega
 have hT : H.take N = H := List.take_of_length_le (by omega)
 obtain ⟨p, hp, hQ⟩ := d8B (Γ := Γ) (keep := [0, 1, 4, 12, 13]) (B := d7H) (σ := Nat)
  (fun i => ⟨[(0, rowC r D.length), (1, vi a), (4, cmpC), (12, vi i), (13, vi j)], H⟩) (fun i => j + 1 - i) (fun i1 => Part D0 D a b x i1 j /\ i <= i1)
  (fun p => ∃ i' : Nat, Part D0 D a b x i' j /\ i <= i' /\ (j < i' \/ (elt D i').lt x = false) /\ p = (.exit 0, ⟨[(0, rowC r D.length), (1, vi a), (4, cmpC), (12, vi i'), (13, vi j), (47, vb false)], H⟩))
  (by
   intro i h1
   obtain ⟨h1, h0⟩ := h1
   have hai := h1.ai; have hjb := h1.jb
   by_cases hij : i <= j
   ·have hA := a7h _ _ _ (d8b (D := D) (k := i) (by omega))
    have hB := a7h _ _ _ (d8b (D := D) (k := a) (by omega))
    rw [h1.piv] at hB
    have hle : decide ((i : Int) <= j) = true := decide_eq_true (by omega)
    have hiw : IntKind.i64.wrap ((i : Int) + 1) = ((i + 1 : Nat) : Int) := by rw [wrap_i64 (by omega) (by omega)]; omega
    have hb1 : decide (0 <= (i : Int) /\ (i : Int) < D.length) = true := decide_eq_true (by omega)
    have hb2 : decide (0 <= (a : Int) /\ (a : Int) < D.length) = true := decide_eq_true (by omega)
    cases hc' : (elt D i).lt x with
    | true =>
     left
     have hc : decide ((elt D i).cmp x < 0) = true := hc'
     refine ⟨i + 1, ⟨⟨h1.seg, h1.piv, fun k k1 k2 => ?_, h1.hi, by omega, by omega, hjb⟩, by omega⟩, by omega, ?_⟩
     ·by_cases e : k = i
      ·subst e; exact hc'
      ·exact h1.lo k k1 (by omega)
     ·(simp only [go_sem, simprocAttr, d7H, hn, a0E, hrl, hH, hA, hB, hle, hiw, hb1, hb2, hc, hu, hT, a0Q, Int.toNat_natCast, Nat.zero_add]; repeat' ((first | refine brY ?_ | refine brN ?_ | refine brA ?_ | refine brD ?_ | refine brF ?_); (try simp only [go_sem, simprocAttr, d7H, hn, a0E, hrl, hH, hA, hB, hle, hiw, hb1, hb2, hc, hu, hT, a0Q, Int.toNat_natCast, Nat.zero_add])))
    | false =>
     right
     have hc : decide ((elt D i).cmp x < 0) = false := hc'
     refine ⟨_, ⟨i, h1, h0, .inr hc', rfl⟩, ?_⟩
     (simp only [go_sem, simprocAttr, d7H, hn, a0E, hrl, hH, hA, hB, hle, hb1, hb2, hc, hu, hT, a0Q, Int.toNat_natCast, Nat.zero_add]; repeat' ((first | refine brY ?_ | refine brN ?_ | refine brA ?_ | refine brD ?_ | refine brF ?_); (try simp only [go_sem, simprocAttr, d7H, hn, a0E, hrl, hH, hA, hB, hle, hb1, hb2, hc, hu, hT, a0Q, Int.toNat_natCast, Nat.zero_add])))
   ·right
    have hle : decide ((i : Int) <= j) = false := decide_eq_false (by omega)
    refine ⟨_, ⟨i, h1, h0, .inl (by omega), rfl⟩, ?_⟩
    simp only [go_sem, simprocAttr, d7H, hle]) i ⟨hP, Nat.le_refl _⟩
 obtain ⟨i', g1, g0, g2, rfl⟩ := hp
 exact ⟨i', g1, g0, g2, fun Q => hQ Q⟩
theorem d9O (H : List Obj) (N r : Nat) (hn : H.length = N) (hr : r < N) (hu : H.all (Obj.under N) = true) (D0 D : List Rest) (hl : D.length <= 1000) (hH : H[r]? = some (.var (a1A D))) (a b : Nat) (hb : b <= D.length) (x : Rest) (i j : Nat) (hP : Part D0 D a b x i j) :
 ∃ j' : Nat, Part D0 D a b x i j' /\ j' <= j /\ (j' < i \/ (elt D j').lt x = true) /\ ∀ {β : Type} (Q : Ex -> St -> Option β),
  E Γ d8l ⟨[(0, rowC r D.length), (1, vi a), (4, cmpC), (12, vi i), (13, vi j), (47, vb false)], H⟩ Q = Q (.exit 2) ⟨[(0, rowC r D.length), (1, vi a), (4, cmpC), (12, vi i), (13, vi j'), (66, vb false)], H⟩ := by
 have hrl : r < H.length := by omega
 have hT : H.take N = H := List.take_of_length_le (by omega)
 obtain ⟨p, hp, hQ⟩ := d8B (Γ := Γ) (keep := [0, 1, 4, 12, 13]) (B := d7I) (σ := Nat × Bool)
  (fun s => ⟨[(0, rowC r D.length), (1, vi a), (4, cmpC), (12, vi i), (13, vi s.1)] ++ (if s.2 then [(47, vb false)] else []), H⟩) (fun s => s.1) (fun s => Part D0 D a b x i s.1 /\ s.1 <= j)
  (fun p => ∃ j' : Nat, Part D0 D a b x i j' /\ j' <= j /\ (j' < i \/ (elt D j').lt x = true) /\ p = (.exit 2, ⟨[(0, rowC r D.length), (1, vi a), (4, cmpC), (12, vi i), (13, vi j'), (66, vb false)], H⟩))
  (by
   rintro ⟨j, f⟩ ⟨h1, h0⟩
   simp only at h1 h0 ⊢
   have hai := h1.ai; have hjb := h1.jb
   by_cases hij : i <= j
   ·have hA := a7h _ _ _ (d8b (D := D) (k := j) (by omega))
    have hB := a7h _ _ _ (d8b (D := D) (k := a) (by omega))
    rw [h1.piv] at hB
    have hle : decide ((i : Int) <= j) = true := decide_eq_true (by omega)
    have hiw : IntKind.i64.wrap ((j : Int) - 1) = ((j - 1 : Nat) : Int) := by rw [wrap_i64 (by omega) (by omega)]; omega
    have hb1 : decide (0 <= (j : Int) /\ (j : Int) < D.length) = true := decide_eq_true (by omega)
    have hb2 : decide (0 <= (a : Int) /\ (a : Int) < D.length) = true := decide_eq_true (by omega)
    cases hc' : (elt D j).lt x with
    | false =>
     left
     have hc : decide ((elt D j).cmp x < 0) = false := hc'
     refine ⟨(j - 1, false), ⟨⟨h1.seg, h1.piv, h1.lo, fun k k1 k2 => ?_, hai, by simp only; omega, by simp only; omega⟩, by simp only; omega⟩, by simp only; omega, ?_⟩
     ·by_cases e : k = j
      ·subst e; exact hc'
      ·exact h1.hi k (by simp only at k1; omega) k2
     ·cases f <;> (simp only [go_sem, simprocAttr, d7I, Bool.false_eq_true, hn, a0E, hrl, hH, hA, hB, hle, hiw, hb1, hb2, hc, hu, hT, a0Q, Int.toNat_natCast, Nat.zero_add]; repeat' ((first | refine brY ?_ | refine brN ?_ | refine brA ?_ | refine brD ?_ | refine brF ?_); (try simp only [go_sem, simprocAttr, d7I, Bool.false_eq_true, hn, a0E, hrl, hH, hA, hB, hle, hiw, hb1, hb2, hc, hu, hT, a0Q, Int.toNat_natCast, Nat.zero_add])))
    | true =>
     right
     have hc : decide ((elt D j).cmp x < 0) = true := hc'
     refine ⟨_, ⟨j, h1, h0, .inr hc', rfl⟩, ?_⟩
     cases f <;> (simp only [go_sem, simprocAttr, d7I, Bool.false_eq_true, hn, a0E, hrl, hH, hA, hB, hle, hb1, hb2, hc, hu, hT, a0Q, Int.toNat_natCast, Nat.zero_add]; repeat' ((first | refine brY ?_ | refine brN ?_ | refine brA ?_ | refine brD ?_ | refine brF ?_); (try simp only [go_sem, simprocAttr, d7I, Bool.false_eq_true, hn, a0E, hrl, hH, hA, hB, hle, hb1, hb2, hc, hu, hT, a0Q, Int.toNat_natCast, Nat.zero_add])))
   ·right
    have hle : decide ((i : Int) <= j) = false := decide_eq_false (by omega)
    refine ⟨_, ⟨j, h1, h0, .inl (by omega), rfl⟩, ?_⟩
    cases f <;> simp only [go_sem, simprocAttr, d7I, Bool.false_eq_true, hle]) (j, true) ⟨hP, Nat.le_refl _⟩
 obtain ⟨j', g1, g0, g2, rfl⟩ := hp
 exact ⟨j', g1, g0, g2, fun Q => hQ Q⟩
theorem d9Q (H : List Obj) (N r : Nat) (hn : H.length = N) (hr : r < N) (hu : H.all (Obj.under N) = true) (D0 D : List Rest) (hl : D.length <= 1000) (hH : H[r]? = some (.var (a1A D))) (a b : Nat) (hb : b <= D.length) (x : Rest) (i j : Nat) (hP : Part D0 D a b x i j) :
 ∃ i' : Nat, Part D0 D a b x i' j /\ i <= i' /\ (j < i' \/ (elt D i').lt x = false) /\ ∀ {β : Type} (Q : Ex -> St -> Option β),
  E Γ d8n ⟨[(0, rowC r D.length), (1, vi a), (4, cmpC), (12, vi i), (13, vi j)], H⟩ Q = Q (.exit 6) ⟨[(0, rowC r D.length), (1, vi a), (4, cmpC), (12, vi i'), (13, vi j), (120, vb false)], H⟩ := by
 have hrl : r < H.length := by omega
 have hT : H.take N = H := List.take_of_length_le (by omega)
 obtain ⟨p, hp, hQ⟩ := d8B (Γ := Γ) (keep := [0, 1, 4, 12, 13]) (B := d7J) (σ := Nat)
  (fun i => ⟨[(0, rowC r D.length), (1, vi a), (4, cmpC), (12, vi i), (13, vi j)], H⟩) (fun i => j + 1 - i) (fun i1 => Part D0 D a b x i1 j /\ i <= i1)
  (fun p => ∃ i' : Nat, Part D0 D a b x i' j /\ i <= i' /\ (j < i' \/ (elt D i').lt x = false) /\ p = (.exit 6, ⟨[(0, rowC r D.length), (1, vi a), (4, cmpC), (12, vi i'), (13, vi j), (120, vb false)], H⟩))
  (by
   intro i h1
   obtain ⟨h1, h0⟩ := h1
   have hai := h1.ai; have hjb := h1.jb
   by_cases hij : i <= j
   ·have hA := a7h _ _ _ (d8b (D := D) (k := i) (by omega))
    have hB := a7h _ _ _ (d8b (D := D) (k := a) (by omega))
    rw [h1.piv] at hB
    have hle : decide ((i : Int) <= j) = true := decide_eq_true (by omega)
    have hiw : IntKind.i64.wrap ((i : Int) + 1) = ((i + 1 : Nat) : Int) := by rw [wrap_i64 (by omega) (by omega)]; omega
    have hb1 : decide (0 <= (i : Int) /\ (i : Int) < D.length) = true := decide_eq_true (by omega)
    have hb2 : decide (0 <= (a : Int) /\ (a : Int) < D.length) = true := decide_eq_true (by omega)
    cases hc' : (elt D i).lt x with
    | true =>
     left
     have hc : decide ((elt D i).cmp x < 0) = true := hc'
     refine ⟨i + 1, ⟨⟨h1.seg, h1.piv, fun k k1 k2 => ?_, h1.hi, by omega, by omega, hjb⟩, by omega⟩, by omega, ?_⟩
     ·by_cases e : k = i
      ·subst e; exact hc'
      ·exact h1.lo k k1 (by omega)
     ·(simp only [go_sem, simprocAttr, d7J, hn, a0E, hrl, hH, hA, hB, hle, hiw, hb1, hb2, hc, hu, hT, a0Q, Int.toNat_natCast, Nat.zero_add]; repeat' ((first | refine brY ?_ | refine brN ?_ | refine brA ?_ | refine brD ?_ | refine brF ?_); (try simp only [go_sem, simprocAttr, d7J, hn, a0E, hrl, hH, hA, hB, hle, hiw, hb1, hb2, hc, hu, hT, a0Q, Int.toNat_natCast, Nat.zero_add])))
    | false =>
     right
     have hc : decide ((elt D i).cmp x < 0) = false := hc'
     refine ⟨_, ⟨i, h1, h0, .inr hc', rfl⟩, ?_⟩
     (simp only [go_sem, simprocAttr, d7J, hn, a0E, hrl, hH, hA, hB, hle, hb1, hb2, hc, hu, hT, a0Q, Int.toNat_natCast, Nat.zero_add]; repeat' ((first | refine brY ?_ | refine brN ?_ | refine brA ?_ | refine brD ?_ | refine brF ?_); (try simp only [go_sem, simprocAttr, d7J, hn, a0E, hrl, hH, hA, hB, hle, hb1, hb2, hc, hu, hT, a0Q, Int.toNat_natCast, Nat.zero_add])))
   ·right
    have hle : decide ((i : Int) <= j) = false := decide_eq_false (by omega)
    refine ⟨_, ⟨i, h1, h0, .inl (by omega), rfl⟩, ?_⟩
    simp only [go_sem, simprocAttr, d7J, hle]) i ⟨hP, Nat.le_refl _⟩
 obtain ⟨i', g1, g0, g2, rfl⟩ := hp
 exact ⟨i', g1, g0, g2, fun Q => hQ Q⟩
theorem d9R (H : List Obj) (N r : Nat) (hn : H.length = N) (hr : r < N) (hu : H.all (Obj.under N) = true) (D0 D : List Rest) (hl : D.length <= 1000) (hH : H[r]? = some (.var (a1A D))) (a b : Nat) (hb : b <= D.length) (x : Rest) (i j : Nat) (hP : Part D0 D a b x i j) :
 ∃ j' : Nat, Part D0 D a b x i j' /\ j' <= j /\ (j' < i \/ (elt D j').lt x = true) /\ ∀ {β : Type} (Q : Ex -> St -> Option β),
  E Γ d8o ⟨[(0, rowC r D.length), (1, vi a), (4, cmpC), (12, vi i), (13, vi j), (120, vb false)], H⟩ Q = Q (.exit 8) ⟨[(0, rowC r D.length), (1, vi a), (4, cmpC), (12, vi i), (13, vi j'), (139, vb false)], H⟩ := by
 have hrl : r < H.length := by omega
 have hT : H.take N = H := List.take_of_length_le (by omega)
 obtain ⟨p, hp, hQ⟩ := d8B (Γ := Γ) (keep := [0, 1, 4, 12, 13]) (B := d7K) (σ := Nat × Bool)
  (fun s => ⟨[(0, rowC r D.length), (1, vi a), (4, cmpC), (12, vi i), (13, vi s.1)] ++ (if s.2 then [(120, vb false)] else []), H⟩) (fun s => s.1) (fun s => Part D0 D a b x i s.1 /\ s.1 <= j)
  (fun p => ∃ j' : Nat, Part D0 D a b x i j' /\ j' <= j /\ (j' < i \/ (elt D j').lt x = true) /\ p = (.exit 8, ⟨[(0, rowC r D.length), (1, vi a), (4, cmpC), (12, vi i), (13, vi j'), (139, vb false)], H⟩))
  (by
   rintro ⟨j, f⟩ ⟨h1, h0⟩
   simp only at h1 h0 ⊢
   have hai := h1.ai; have hjb := h1.jb
   by_cases hij : i <= j
   ·have hA := a7h _ _ _ (d8b (D := D) (k := j) (by omega))
    have hB := a7h _ _ _ (d8b (D := D) (k := a) (by omega))
    rw [h1.piv] at hB
    have hle : decide ((i : Int) <= j) = true := decide_eq_true (by omega)
    have hiw : IntKind.i64.wrap ((j : Int) - 1) = ((j - 1 : Nat) : Int) := by rw [wrap_i64 (by omega) (by omega)]; omega
    have hb1 : decide (0 <= (j : Int) /\ (j : Int) < D.length) = true := decide_eq_true (by omega)
    have hb2 : decide (0 <= (a : Int) /\ (a : Int) < D.length) = true := decide_eq_true (by omega)
    cases hc' : (elt D j).lt x with
    | false =>
     left
     have hc : decide ((elt D j).cmp x < 0) = false := hc'
     refine ⟨(j - 1, false), ⟨⟨h1.seg, h1.piv, h1.lo, fun k k1 k2 => ?_, hai, by simp only; omega, by simp only; omega⟩, by simp only; omega⟩, by simp only; omega, ?_⟩
     ·by_cases e : k = j
      ·subst e; exact hc'
      ·exact h1.hi k (by simp only at k1; omega) k2
     ·cases f <;> (simp only [go_sem, simprocAttr, d7K, Bool.false_eq_true, hn, a0E, hrl, hH, hA, hB, hle, hiw, hb1, hb2, hc, hu, hT, a0Q, Int.toNat_natCast, Nat.zero_add]; repeat' ((first | refine brY ?_ | refine brN ?_ | refine brA ?_ | refine brD ?_ | refine brF ?_); (try simp only [go_sem, simprocAttr, d7K, Bool.false_eq_true, hn, a0E, hrl, hH, hA, hB, hle, hiw, hb1, hb2, hc, hu, hT, a0Q, Int.toNat_natCast, Nat.zero_add])))
    | true =>
     right
     have hc : decide ((elt D j).cmp x < 0) = true := hc'
     refine ⟨_, ⟨j, h1, h0, .inr hc', rfl⟩, ?_⟩
     cases f <;> (simp only [go_sem, simprocAttr, d7K, Bool.false_eq_true, hn, a0E, hrl, hH, hA, hB, hle, hb1, hb2, hc, hu, hT, a0Q, Int.toNat_natCast, Nat.zero_add]; repeat' ((first | refine brY ?_ | refine brN ?_ | refine brA ?_ | refine brD ?_ | refine brF ?_); (try simp only [go_sem, simprocAttr, d7K, Bool.false_eq_true, hn, a0E, hrl, hH, hA, hB, hle, hb1, hb2, hc, hu, hT, a0Q, Int.toNat_natCast, Nat.zero_add])))
   ·right
    have hle : decide ((i : Int) <= j) = false := decide_eq_false (by omega)
    refine ⟨_, ⟨j, h1, h0, .inl (by omega), rfl⟩, ?_⟩
    cases f <;> simp only [go_sem, simprocAttr, d7K, Bool.false_eq_true, hle]) (j, true) ⟨hP, Nat.le_refl _⟩
 obtain ⟨j', g1, g0, g2, rfl⟩ := hp
 exact ⟨j', g1, g0, g2, fun Q => hQ Q⟩
theorem d9P (H : List Obj) (N r : Nat) (hn : H.length = N) (hr : r < N) (hu : H.all (Obj.under N) = true) (D0 D : List Rest) (hl : D0.length <= 1000) (a b : Nat) (hb : b <= D0.length) (x : Rest) (i j : Nat) (hP : Part D0 D a b x i j) :
 ∃ (D' : List Rest) (i' j' : Nat), Part D0 D' a b x i' j' /\ j' < i' /\ ∀ {β : Type} (Q : Ex -> St -> Option β),
  E Γ d8m ⟨[(0, rowC r D0.length), (1, vi a), (4, cmpC), (12, vi i), (13, vi j)], H.set r (.var (a1A D))⟩ Q = Q (.exit 4) ⟨[(0, rowC r D0.length), (1, vi a), (4, cmpC), (12, vi i'), (13, vi j'), (144, vb true)], H.set r (.var (a1A D'))⟩ := by
 have hrl : r < H.length := by omega
 have hg (v : Obj) : (H.set r v)[r]? = some v := b1c _ _ _ hrl
 have hun (v : List Rest) : (H.set r (.var (a1A v))).all (Obj.under N) = true := a6R _ _ _ _ hu (by simp [go_sem])
 have hT (v : Obj) : (H.set r v).take N = H.set r v := List.take_of_length_le (by simp [hn])
 have hlen' (v : Obj) : (H.set r v).length = N := by simp [hn]
 obtain ⟨p, hp, hQ⟩ := d8B (Γ := Γ) (keep := [0, 1, 4, 12, 13]) (B := d7Q) (σ := List Rest × Nat × Nat)
  (fun s => ⟨[(0, rowC r D0.length), (1, vi a), (4, cmpC), (12, vi s.2.1), (13, vi s.2.2)], H.set r (.var (a1A s.1))⟩) (fun s => s.2.2 + 1 - s.2.1) (fun s => Part D0 s.1 a b x s.2.1 s.2.2)
  (fun p => ∃ (D' : List Rest) (i' j' : Nat), Part D0 D' a b x i' j' /\ j' < i' /\ p = (.exit 4, ⟨[(0, rowC r D0.length), (1, vi a), (4, cmpC), (12, vi i'), (13, vi j'), (144, vb true)], H.set r (.var (a1A D'))⟩))
  (by
   rintro ⟨D, i, j⟩ h1
   simp only at h1 ⊢
   have hlen := h1.seg.len
   obtain ⟨i', g1, g2, g3, hL3⟩ := d9Q (Γ := Γ) (H.set r (.var (a1A D))) N r (hlen' _) hr (hun D) D0 D (by omega) (hg _) a b (by omega) x i j h1
   obtain ⟨j', k1, k2, k3, hL4⟩ := d9R (Γ := Γ) (H.set r (.var (a1A D))) N r (hlen' _) hr (hun D) D0 D (by omega) (hg _) a b (by omega) x i' j g1
   rw [hlen] at hL3 hL4
   have hai := k1.ai; have hjb := k1.jb
   by_cases hij : j' < i'
   ·right
    refine ⟨_, ⟨D, i', j', k1, hij, rfl⟩, ?_⟩
    have hgt : decide ((j' : Int) < i') = true := decide_eq_true (by omega)
    (simp only [go_sem, simprocAttr, d7Q, hL3, hL4, hgt]; repeat' ((first | refine brY ?_ | refine brN ?_ | refine brA ?_ | refine brD ?_ | refine brF ?_); (try simp only [go_sem, simprocAttr, d7Q, hL3, hL4, hgt])))
   ·left
    have h2 : (elt D i').lt x = false := by rcases g3 with h | h; omega; exact h
    have h3 : (elt D j').lt x = true := by rcases k3 with h | h; omega; exact h
    obtain ⟨hlt, hP'⟩ := k1.swap (by omega) (by omega) h2 h3
    refine ⟨(sw D i' j', i' + 1, j' - 1), hP', by simp only; omega, ?_⟩
    have hgt : decide ((j' : Int) < i') = false := decide_eq_false (by omega)
    have hA := a7h _ _ _ (d8b (D := D) (k := i') (by omega))
    have hB := a7h _ _ _ (d8b (D := D) (k := j') (by omega))
    have hS1 := a9W D i' (elt D j') (by omega)
    have hS2 := a9W (D.set i' (elt D j')) j' (elt D i') (by rw [List.length_set]; omega)
    have hsw : (D.set i' (elt D j')).set j' (elt D i') = sw D i' j' := rfl
    rw [hsw] at hS2
    have hb1 : decide (0 <= (i' : Int) /\ (i' : Int) < D0.length) = true := decide_eq_true (by omega)
    have hb2 : decide (0 <= (j' : Int) /\ (j' : Int) < D0.length) = true := decide_eq_true (by omega)
    have hq1 : decide (i' * 2 + 2 <= 2 * D.length) = true := decide_eq_true (by omega)
    have hq2 : decide (j' * 2 + 2 <= 2 * D.length) = true := decide_eq_true (by omega)
    have hiw : IntKind.i64.wrap ((i' : Int) + 1) = ((i' + 1 : Nat) : Int) := by rw [wrap_i64 (by omega) (by omega)]; omega
    have hjw : IntKind.i64.wrap ((j' : Int) - 1) = ((j' - 1 : Nat) : Int) := by rw [wrap_i64 (by omega) (by omega)]; omega
    (simp only [go_sem, simprocAttr, d7Q, hL3, hL4, hgt, hb1, hb2, hq1, hq2, hg, hA, hB, hS1, hS2, hiw, hjw, hn, a0E, hrl, hT, hun, Int.toNat_natCast, Nat.zero_add, List.length_set]; repeat' ((first | refine brY ?_ | refine brN ?_ | refine brA ?_ | refine brD ?_ | refine brF ?_); (try simp only [go_sem, simprocAttr, d7Q, hL3, hL4, hgt, hb1, hb2, hq1, hq2, hg, hA, hB, hS1, hS2, hiw, hjw, hn, a0E, hrl, hT, hun, Int.toNat_natCast, Nat.zero_add, List.length_set])))) (D, i, j) hP
 obtain ⟨D', i', j', g1, g2, rfl⟩ := hp
 exact ⟨D', i', j', g1, g2, fun Q => hQ Q⟩
theorem d9n (H : List Obj) (N r : Nat) (hn : H.length = N) (hr : r < N) (hu : H.all (Obj.under N) = true) (D : List Rest) (hl : D.length <= 1000) (hH : H[r]? = some (.var (a1A D))) (a b p : Nat) (hb : b <= D.length) (hab : a < b) (hp : a <= p /\ p < b) :
 ∃ (D' : List Rest) (m : Nat) (al : Bool), Seg D D' a b /\ (a <= m /\ m < b) /\ elt D' m = elt D p /\ (∀ k, a <= k -> k < m -> (elt D' k).lt (elt D p) = true) /\ (∀ k, m < k -> k < b -> (elt D' k).lt (elt D p) = false) ∧
  K Γ (.fn 185) [rowC r D.length, vi a, vi b, vi p, cmpC] H = some (.tup [vi m, vb al], H.set r (.var (a1A D'))) := by
 have hrl : r < H.length := by omega
 have hg (v : Obj) : (H.set r v)[r]? = some v := b1c _ _ _ hrl
 have hun (v : List Rest) : (H.set r (.var (a1A v))).all (Obj.under N) = true := a6R _ _ _ _ hu (by simp [go_sem])
 have hT (v : Obj) : (H.set r v).take N = H.set r v := List.take_of_length_le (by simp [hn])
 have hlen' (v : Obj) : (H.set r v).length = N := by simp [hn]
 -- the pivot goes to the front
 have hA := a7h _ _ _ (d8b (D := D) (k := a) (by omega))
 have hB := a7h _ _ _ (d8b (D := D) (k := p) (by omega))
 have hS1 := a9W D a (elt D p) (by omega)
 have hS2 := a9W (D.set a (elt D p)) p (elt D a) (by rw [List.length_set]; omega)
 have hsw : (D.set a (elt D p)).set p (elt D a) = sw D a p := rfl
 rw [hsw] at hS2
 have hb1 : decide (0 <= (a : Int) /\ (a : Int) < D.length) = true := decide_eq_true (by omega)
 have hb2 : decide (0 <= (p : Int) /\ (p : Int) < D.length) = true := decide_eq_true (by omega)
 have hq1 : decide (a * 2 + 2 <= 2 * D.length) = true := decide_eq_true (by omega)
 have hq2 : decide (p * 2 + 2 <= 2 * D.length) = true := decide_eq_true (by omega)
 have haw : IntKind.i64.wrap ((a : Int) + 1) = ((a + 1 : Nat) : Int) := by rw [wrap_i64 (by omega) (by omega)]; omega
 have hbw : IntKind.i64.wrap ((b : Int) - 1) = ((b - 1 : Nat) : Int) := by rw [wrap_i64 (by omega) (by omega)]; omega
 have hl1 := e0a D a p
 have hpv : elt (sw D a p) a = elt D p := by
  rw [d8S (by omega) (by omega)]
  by_cases e : a = p
  ·rw [if_pos e, e]
  ·rw [if_neg e, if_pos rfl]
 have hP1 : Part D (sw D a p) a b (elt D p) (a + 1) (b - 1) :=
  ⟨Seg.sw (by omega) (by omega) (by omega) hp, hpv, fun k k1 k2 => by omega, fun k k1 k2 => by omega, by omega, by omega, by omega⟩
 obtain ⟨i, g1, -, g3, hL0⟩ := d9N (Γ := Γ) (H.set r (.var (a1A (sw D a p)))) N r (hlen' _) hr (hun _) D (sw D a p) (by omega) (hg _) a b (by omega) _ _ _ hP1
 obtain ⟨j, k1, -, k3, hL1⟩ := d9O (Γ := Γ) (H.set r (.var (a1A (sw D a p)))) N r (hlen' _) hr (hun _) D (sw D a p) (by omega) (hg _) a b (by omega) _ _ _ g1
 rw [hl1] at hL0 hL1
 -- the pivot goes between the two
 have fin (E : List Rest) (i j : Nat) (h : Part D E a b (elt D p) i j) (hij : j < i) :
  (a <= j /\ j < b) /\ Seg D (sw E j a) a b /\ elt (sw E j a) j = elt D p /\ (∀ k, a <= k -> k < j -> (elt (sw E j a) k).lt (elt D p) = true) /\ (∀ k, j < k -> k < b -> (elt (sw E j a) k).lt (elt D p) = false) ∧
  a0R (a1A E) (a * 2) 2 = some (elt E a).c /\ a0R (a1A E) (j * 2) 2 = some (elt E j).c /\ a1H (a1A E) (j * 2) (elt E a).c = a1A (E.set j (elt E a)) /\ a1H (a1A (E.set j (elt E a))) (a * 2) (elt E j).c = a1A (sw E j a) ∧
  decide (0 <= (j : Int) /\ (j : Int) < D.length) = true /\ decide (a * 2 + 2 <= 2 * E.length) = true /\ decide (j * 2 + 2 <= 2 * E.length) = true := by
  have hlen := h.seg.len
  obtain ⟨f1, f2, f3, f4, f5, f6⟩ := h.done (by omega) hij
  exact ⟨⟨f1, f2⟩, f3, f4, f5, f6, a7h _ _ _ (d8b (by omega)), a7h _ _ _ (d8b (by omega)), a9W E j (elt E a) (by omega), a9W (E.set j (elt E a)) a (elt E j) (by rw [List.length_set]; omega), decide_eq_true (by omega), decide_eq_true (by omega), decide_eq_true (by omega)⟩
 by_cases hij : j < i
 ·obtain ⟨f1, f2, f3, f4, f5, f6, f7, f8, f9, f10, f11, f12⟩ := fin _ i j k1 hij
  refine ⟨_, j, true, f2, f1, f3, f4, f5, ?_⟩
  have hgt : decide ((j : Int) < i) = true := decide_eq_true (by omega)
  rw [K_fn P04.f185 _ _ rfl]
  simp only [go_sem, simprocAttr, d7P, hn, a0E, hrl, hH, hA, hB, hS1, hS2, hb1, hb2, hq1, hq2, haw, hbw, hg, hT, hun, hL0, hL1, hgt, f6, f7, f8, f9, f10, f11, f12, Int.toNat_natCast, Nat.zero_add, List.length_set]
 ·have hjb' := k1.jb
  have h2 : (elt (sw D a p) i).lt (elt D p) = false := by
   rcases g3 with h | h
   ·omega
   ·exact h
  have h3 : (elt (sw D a p) j).lt (elt D p) = true := by rcases k3 with h | h; omega; exact h
  obtain ⟨hlt, hP2⟩ := k1.swap (by omega) (by omega) h2 h3
  have hai := k1.ai; have hjb := k1.jb
  have iA := a7h _ _ _ (d8b (D := sw D a p) (k := i) (by omega))
  have iB := a7h _ _ _ (d8b (D := sw D a p) (k := j) (by omega))
  have iS1 := a9W (sw D a p) i (elt (sw D a p) j) (by omega)
  have iS2 := a9W ((sw D a p).set i (elt (sw D a p) j)) j (elt (sw D a p) i) (by rw [List.length_set]; omega)
  have isw : ((sw D a p).set i (elt (sw D a p) j)).set j (elt (sw D a p) i) = sw (sw D a p) i j := rfl
  rw [isw] at iS2
  have ib1 : decide (0 <= (i : Int) /\ (i : Int) < D.length) = true := decide_eq_true (by omega)
  have ib2 : decide (0 <= (j : Int) /\ (j : Int) < D.length) = true := decide_eq_true (by omega)
  have iq1 : decide (i * 2 + 2 <= 2 * (sw D a p).length) = true := decide_eq_true (by omega)
  have iq2 : decide (j * 2 + 2 <= 2 * (sw D a p).length) = true := decide_eq_true (by omega)
  have iw : IntKind.i64.wrap ((i : Int) + 1) = ((i + 1 : Nat) : Int) := by rw [wrap_i64 (by omega) (by omega)]; omega
  have jw : IntKind.i64.wrap ((j : Int) - 1) = ((j - 1 : Nat) : Int) := by rw [wrap_i64 (by omega) (by omega)]; omega
  have hgt : decide ((j : Int) < i) = false := decide_eq_false (by omega)
  obtain ⟨D', i', j', q1, q2, hL2⟩ := d9P (Γ := Γ) H N r hn hr hu D (sw (sw D a p) i j) hl a b hb (elt D p) (i + 1) (j - 1) hP2
  obtain ⟨f1, f2, f3, f4, f5, f6, f7, f8, f9, f10, f11, f12⟩ := fin D' i' j' q1 q2
  refine ⟨_, j', false, f2, f1, f3, f4, f5, ?_⟩
  rw [K_fn P04.f185 _ _ rfl]
  simp only [go_sem, simprocAttr, d7P, hn, a0E, hrl, hH, hA, hB, hS1, hS2, hb1, hb2, hq1, hq2, haw, hbw, hg, hT, hun, hL0, hL1, hgt, iA, iB, iS1, iS2, ib1, ib2, iq1, iq2, iw, jw, hL2, f6, f7, f8, f9, f10, f11, f12, Int.toNat_natCast, Nat.zero_add, List.length_set]
end
end Go.Pm.St
namespace Go.Pm.St
open Ac
theorem Seg.symm {D D' : List Rest} {a b : Nat} (h : Seg D D' a b) : Seg D' D a b := ⟨h.perm.symm, fun k hk => (h.out k hk).symm⟩
def Diff (D : List Rest) (a b : Nat) : Prop := ∀ i j, a <= i -> i < j -> j < b -> elt D i ≠ elt D j
theorem d8O {D : List Rest} (h : D.Nodup) {b : Nat} (hb : b <= D.length) (a : Nat) : Diff D a b := by
 intro i j h1 h2 h3 e
 have := List.pairwise_iff_getElem.1 h i j (by omega) (by omega) h2
 exact this (by simpa [elt, show i < D.length by omega, show j < D.length by omega] using e)
def d9q (D : List Rest) (a b : Nat) : Prop := a = 0 \/ ∀ k, a <= k -> k < b -> (elt D (a - 1)).lt (elt D k) = true
def Good (D : List Rest) (a b a' b' : Nat) : Prop := ∀ D', Seg D D' a' b' -> d8w D' a' b' -> d8w D' a b
theorem d9v {D D1 D2 : List Rest} {a b a' b' m : Nat} {x : Rest} (hg : Good D a b a' b') (hb : b' <= D.length) (h1 : Seg D D1 a' b') (hm : a' <= m /\ m < b') (hx : elt D1 m = x) (hlo : ∀ k, a' <= k -> k < m -> (elt D1 k).lt x = true) (hhi : ∀ k, m < k -> k < b' -> (elt D1 k).lt x = false)
 (h2 : Seg D1 D2 a' m) (ho : d8w D2 a' m) : Good D2 a b (m + 1) b' := by
 intro D3 h3 ho3
 have l1 := h1.len; have l2 := h2.len
 have hlo2 := h2.all (by omega) (fun y => y.lt x = true) hlo
 have hhi2 : ∀ k, m + 1 <= k -> k < b' -> (elt D2 k).lt x = false := fun k k1 k2 => by rw [h2.out k (.inr (by omega))]; exact hhi k (by omega) k2
 have hhi3 := h3.all (by omega) (fun y => y.lt x = false) hhi2
 have hx3 : elt D3 m = x := by rw [h3.out m (.inl (by omega)), h2.out m (.inr (by omega)), hx]
 have hlo3 : ∀ k, k < m -> elt D3 k = elt D2 k := fun k hk => h3.out k (.inl (by omega))
 refine hg D3 ((h1.trans (h2.mono (by omega) (by omega))).trans (h3.mono (by omega) (by omega))) fun p q k1 k2 k3 => ?_
 by_cases e1 : q < m
 ·rw [hlo3 q e1, hlo3 p (by omega)]; exact ho p q k1 k2 e1
 ·by_cases e2 : m < p
  ·exact ho3 p q (by omega) k2 k3
  ·by_cases e3 : q = m
   ·rw [e3, hx3, hlo3 p (by omega)]
    exact lt_asymm (hlo2 p k1 (by omega))
   ·have hq := hhi3 q (by omega) k3
    by_cases e4 : p = m
    ·rw [e4, hx3]; exact hq
    ·rw [hlo3 p (by omega)]
     exact a8M (lt_asymm (hlo2 p k1 (by omega))) hq
theorem d9s {D D1 D2 : List Rest} {a b a' b' m : Nat} {x : Rest} (hg : Good D a b a' b') (hb : b' <= D.length) (h1 : Seg D D1 a' b') (hm : a' <= m /\ m < b') (hx : elt D1 m = x) (hlo : ∀ k, a' <= k -> k < m -> (elt D1 k).lt x = true) (hhi : ∀ k, m < k -> k < b' -> (elt D1 k).lt x = false)
 (h2 : Seg D1 D2 (m + 1) b') (ho : d8w D2 (m + 1) b') : Good D2 a b a' m := by
 intro D3 h3 ho3
 have l1 := h1.len; have l2 := h2.len
 have hlo2 : ∀ k, a' <= k -> k < m -> (elt D2 k).lt x = true := fun k k1 k2 => by rw [h2.out k (.inl (by omega))]; exact hlo k k1 k2
 have hlo3 := h3.all (by omega) (fun y => y.lt x = true) hlo2
 have hhi2 := h2.all (by omega) (fun y => y.lt x = false) (fun k k1 k2 => hhi k (by omega) k2)
 have hx3 : elt D3 m = x := by rw [h3.out m (.inr (by omega)), h2.out m (.inl (by omega)), hx]
 have hhi3 : ∀ k, m < k -> elt D3 k = elt D2 k := fun k hk => h3.out k (.inr (by omega))
 refine hg D3 ((h1.trans (h2.mono (by omega) (by omega))).trans (h3.mono (by omega) (by omega))) fun p q k1 k2 k3 => ?_
 by_cases e1 : q < m
 ·exact ho3 p q k1 k2 e1
 ·by_cases e2 : m < p
  ·rw [hhi3 q (by omega), hhi3 p e2]; exact ho p q (by omega) k2 k3
  ·by_cases e3 : q = m
   ·rw [e3, hx3]
    exact lt_asymm (hlo3 p k1 (by omega))
   ·have hq : (elt D3 q).lt x = false := by rw [hhi3 q (by omega)]; exact hhi2 q (by omega) k3
    by_cases e4 : p = m
    ·rw [e4, hx3]; exact hq
    ·exact a8M (lt_asymm (hlo3 p k1 (by omega))) hq
theorem Diff.sub {D : List Rest} {a b c d : Nat} (h : Diff D a b) (h1 : a <= c) (h2 : d <= b) : Diff D c d := fun i j k1 k2 k3 => h i j (by omega) k2 (by omega)
section
variable {Γ : Env} [P04 Γ] [G04 Γ]
set_option maxHeartbeats 8000000 in
theorem e0l (N r : Nat) (hr : r < N) (lim : Int) : ∀ (n : Nat) (H : List Obj) (D : List Rest) (a b : Nat), H.length = N -> H.all (Obj.under N) = true -> D.length <= 1000 -> D.Nodup -> H[r]? = some (.var (a1A D)) →
 a <= b -> b <= D.length -> b - a <= n -> n <= 15 -> (13 <= n -> lim ≠ 0) -> d9q D a b →
 ∃ D', Seg D D' a b /\ d8w D' a b /\ K Γ (.fn 162) [rowC r D.length, vi a, vi b, vi lim, cmpC] H = some (.tup [], H.set r (.var (a1A D'))) := by
 intro n
 induction n using Nat.strongRecOn with
 | ind n ih =>
 intro H D0 a b hn hu hl hnd hH hab hb hba hn15 hlim hfr
 have hrl : r < H.length := by omega
 have hg (v : Obj) : (H.set r v)[r]? = some v := b1c _ _ _ hrl
 have hun (v : List Rest) : (H.set r (.var (a1A v))).all (Obj.under N) = true := a6R _ _ _ _ hu (by simp [go_sem])
 have hT (v : Obj) : (H.set r v).take N = H.set r v := List.take_of_length_le (by simp [hn])
 have hlen' (v : Obj) : (H.set r v).length = N := by simp [hn]
 have hss (v w : Obj) : (H.set r v).set r w = H.set r w := List.set_set ..
 have h0 : H.set r (.var (a1A D0)) = H := b1j _ _ _ hH
 obtain ⟨p, hp, hQ⟩ := d8B (Γ := Γ) (keep := [0, 1, 2, 3, 4, 10, 11]) (B := a1X) (σ := List Rest × Nat × Nat × Bool)
  (fun s => ⟨[(0, rowC r D0.length), (1, vi s.2.1), (2, vi s.2.2.1), (3, vi lim), (4, cmpC), (10, vb true), (11, vb s.2.2.2)], H.set r (.var (a1A s.1))⟩) (fun s => s.2.2.1 - s.2.1)
  (fun s => Seg D0 s.1 a b /\ a <= s.2.1 /\ s.2.1 <= s.2.2.1 /\ s.2.2.1 <= b /\ d9q s.1 s.2.1 s.2.2.1 /\ Good s.1 a b s.2.1 s.2.2.1)
  (fun p => ∃ (D' : List Rest) (t : List (Nat × V)), Seg D0 D' a b /\ d8w D' a b /\ p = (.ret, ⟨t, H.set r (.var (a1A D'))⟩))
  (by
   rintro ⟨D, a', b', w⟩ ⟨h1, h2, h3, h4, h5, h6⟩
   simp only at h1 h2 h3 h4 h5 h6 ⊢
   have hlen := h1.len
   have hnd' : D.Nodup := h1.perm.nodup_iff.2 hnd
   have hw : IntKind.i64.wrap ((b' : Int) - a') = (b' : Int) - a' := wrap_i64 (by omega) (by omega)
   by_cases h12 : b' - a' <= 12
   ·right
    obtain ⟨D', g1, g2, hK⟩ := e0b (Γ := Γ) (H.set r (.var (a1A D))) N r (hlen' _) hr (hun D) D (by omega) a' b' h3 (by omega) (hg _)
    rw [hlen, hss] at hK
    refine ⟨_, ⟨D', [], h1.trans (g1.mono h2 h4), h6 D' g1 g2, rfl⟩, ?_⟩
    have hle : decide ((b' : Int) - a' <= 12) = true := decide_eq_true (by omega)
    simp only [go_sem, simprocAttr, a1X, hw, hle, hK, hn, a0E, hT, hun]
   ·have hle : decide ((b' : Int) - a' <= 12) = false := decide_eq_false (by omega)
    have hl0 : decide (lim = 0) = false := decide_eq_false (hlim (by omega))
    obtain ⟨p, u, q, hint, i1, i2, i3, i4, i5, i6, hPv⟩ := d9S (Γ := Γ) (H.set r (.var (a1A D))) N r (hlen' _) hr (hun D) D (by omega) (hg _) a' b' (by omega) (by omega) (by omega) (d8O hnd' (by omega) a')
    obtain ⟨is, hIs, hPa⟩ := d9x (Γ := Γ) (H.set r (.var (a1A D))) N r (hlen' _) hr (hun D) D (by omega) (hg _) a' b' (by omega) (by omega) (by omega)
    obtain ⟨D1, m, al, j1, j2, j3, j4, j5, hPt⟩ := d9n (Γ := Γ) (H.set r (.var (a1A D))) N r (hlen' _) hr (hun D) D (by omega) (hg _) a' b' p (by omega) (by omega) (by omega)
    rw [hlen] at hPv hPa hPt
    rw [hss] at hPt
    have hlen1 := j1.len
    by_cases hret : w = true /\ hint = 1 /\ is = true
    ·obtain ⟨rfl, rfl, rfl⟩ := hret
     right
     refine ⟨_, ⟨D, [(0, rowC r D0.length), (1, vi a'), (2, vi b'), (3, vi lim), (4, cmpC), (10, vb true), (11, vb true), (12, vi ((b' : Int) - a')), (13, vi p), (80, vb true)], h1, h6 D (Seg.refl _ _ _) (hIs rfl), rfl⟩, ?_⟩
     (simp only [go_sem, simprocAttr, a1X, hw, hle, hl0, hPv, hPa, hn, a0E, hT, hun]; repeat' ((first | refine brY ?_ | refine brN ?_ | refine brA ?_ | refine brD ?_ | refine brF ?_); (try simp only [go_sem, simprocAttr, a1X, hw, hle, hl0, hPv, hPa, hn, a0E, hT, hun])))
    ·left
     -- both sides of the pivot
     have hm : a' < m := by
      refine Decidable.byContradiction fun hc => ?_
      have hma : m = a' := by omega
      have hall : ∀ k, a' <= k -> k < b' -> (elt D1 k).lt (elt D p) = false := fun k k1 k2 => by
       by_cases e : k = m
       ·rw [e, j3]; rw [Bool.eq_false_iff]; intro h; have := lt_asymm h; rw [h] at this; cases this
       ·exact j5 k (by omega) k2
      have := j1.symm.all (by omega) (fun y => y.lt (elt D p) = false) hall u i3.1 i3.2
      rw [i5] at this; cases this
     have hnd1 : D1.Nodup := j1.perm.nodup_iff.2 hnd'
     have fr : d9q D1 a' b' := by
      rcases h5 with h | h
      ·exact .inl h
      ·by_cases h0 : a' = 0
       ·exact .inl h0
       ·right
        rw [j1.out (a' - 1) (.inl (by omega))]
        exact j1.all (by omega) (fun y => (elt D (a' - 1)).lt y = true) h
     have hgt : decide ((0 : Int) < a') = decide (0 < a') := by simp
     have hfa : 0 < a' -> decide ((elt D (a' - 1)).cmp (elt D p) < 0) = true := fun h => by
      rcases h5 with h' | h'
      ·omega
      ·exact h' p (by omega) i2.2
     have hA : 0 < a' -> a0R (a1A D) ((a' - 1) * 2) 2 = some (elt D (a' - 1)).c := fun h => a7h _ _ _ (d8b (by omega))
     have hB := a7h _ _ _ (d8b (D := D) (k := p) (by omega))
     have haw : 0 < a' -> IntKind.i64.wrap ((a' : Int) - 1) = ((a' - 1 : Nat) : Int) := fun h => by rw [wrap_i64 (by omega) (by omega)]; omega
     have hb1 : 0 < a' -> decide (0 <= ((a' - 1 : Nat) : Int) /\ ((a' - 1 : Nat) : Int) < D0.length) = true := fun h => decide_eq_true (by omega)
     have hb2 : decide (0 <= (p : Int) /\ (p : Int) < D0.length) = true := decide_eq_true (by omega)
     have w1 : IntKind.i64.wrap ((m : Int) - a') = (m : Int) - a' := wrap_i64 (by omega) (by omega)
     have w2 : IntKind.i64.wrap ((b' : Int) - m) = (b' : Int) - m := wrap_i64 (by omega) (by omega)
     have w3 : IntKind.i64.wrap ((m : Int) + 1) = ((m + 1 : Nat) : Int) := by rw [wrap_i64 (by omega) (by omega)]; omega
     have hq : ((b' : Int) - a').tdiv 8 = 1 := by
      have : (b' : Int) - a' = 13 \/ (b' : Int) - a' = 14 \/ (b' : Int) - a' = 15 := by omega
      rcases this with h | h | h <;> rw [h] <;> decide
     have hw8 : IntKind.i64.wrap 1 = 1 := by decide
     have t1 : decide (1 <= (m : Int) - a') = true := decide_eq_true (by omega)
     have t2 : decide (1 <= (b' : Int) - m) = true := decide_eq_true (by omega)
     by_cases hlr : (m : Int) - a' < b' - m
     ·have hd := decide_eq_true hlr
      obtain ⟨D2, k1, k2, hK⟩ := ih (m - a') (by omega) (H.set r (.var (a1A D1))) D1 a' m (hlen' _) (hun D1) (by omega) hnd1 (hg _) (by omega) (by omega) (by omega) (by omega) (fun h => hlim (by omega)) (by
       rcases fr with h | h
       ·exact .inl h
       ·exact .inr fun k k1 k2 => h k k1 (by omega))
      rw [hlen1, hlen, hss] at hK
      have hG := d9v h6 (by omega) j1 ⟨by omega, j2.2⟩ j3 j4 j5 k1 k2
      refine ⟨(D2, m + 1, b', al), ⟨(h1.trans (j1.mono h2 h4)).trans (k1.mono (by omega) (by omega)), by simp only; omega, by simp only; omega, h4, ?_, hG⟩, by simp only; omega, ?_⟩
      ·right
       intro k e1 e2
       simp only at e1 e2 ⊢
       rw [Nat.add_sub_cancel, k1.out k (.inr (by omega)), k1.out m (.inr (by omega)), j3]
       refine d8H (fun h => ?_) (j5 k (by omega) e2)
       rw [← j3] at h
       exact d8O hnd1 (show b' <= D1.length by omega) a' m k (by omega) (by omega) e2 h.symm
      ·by_cases ha0 : 0 < a'
       ·have g0 := decide_eq_true ha0
        rw [g0] at hgt
        have e1 := hfa ha0; have e2 := hA ha0; have e3 := haw ha0; have e4 := hb1 ha0
        rcases i1 with rfl | rfl <;> cases w <;> cases is <;> first
         | exact absurd ⟨rfl, rfl, rfl⟩ hret
         | (simp only [go_sem, simprocAttr, a1X, hw, hle, hl0, hPv, hPa, hPt, hgt, hg, e1, e2, e3, e4, hB, hb2, w1, w2, w3, hq, hw8, t1, t2, hd, hK, hn, a0E, hT, hun, hrl, Int.toNat_natCast, Nat.zero_add]; repeat' ((first | refine brY ?_ | refine brN ?_ | refine brA ?_ | refine brD ?_ | refine brF ?_); (try simp only [go_sem, simprocAttr, a1X, hw, hle, hl0, hPv, hPa, hPt, hgt, hg, e1, e2, e3, e4, hB, hb2, w1, w2, w3, hq, hw8, t1, t2, hd, hK, hn, a0E, hT, hun, hrl, Int.toNat_natCast, Nat.zero_add])))
       ·have g0 := decide_eq_false ha0
        rw [g0] at hgt
        rcases i1 with rfl | rfl <;> cases w <;> cases is <;> first
         | exact absurd ⟨rfl, rfl, rfl⟩ hret
         | (simp only [go_sem, simprocAttr, a1X, hw, hle, hl0, hPv, hPa, hPt, hgt, w1, w2, w3, hq, hw8, t1, t2, hd, hK, hn, a0E, hT, hun, hrl, Int.toNat_natCast, Nat.zero_add]; repeat' ((first | refine brY ?_ | refine brN ?_ | refine brA ?_ | refine brD ?_ | refine brF ?_); (try simp only [go_sem, simprocAttr, a1X, hw, hle, hl0, hPv, hPa, hPt, hgt, w1, w2, w3, hq, hw8, t1, t2, hd, hK, hn, a0E, hT, hun, hrl, Int.toNat_natCast, Nat.zero_add])))
     ·have hd := decide_eq_false hlr
      obtain ⟨D2, k1, k2, hK⟩ := ih (b' - (m + 1)) (by omega) (H.set r (.var (a1A D1))) D1 (m + 1) b' (hlen' _) (hun D1) (by omega) hnd1 (hg _) (by omega) (by omega) (by omega) (by omega) (fun h => hlim (by omega)) (by
       right
       intro k e1 e2
       rw [Nat.add_sub_cancel, j3]
       refine d8H (fun h => ?_) (j5 k (by omega) e2)
       rw [← j3] at h
       exact d8O hnd1 (show b' <= D1.length by omega) a' m k (by omega) (by omega) e2 h.symm)
      rw [hlen1, hlen, hss] at hK
      have hG := d9s h6 (by omega) j1 ⟨by omega, j2.2⟩ j3 j4 j5 k1 k2
      refine ⟨(D2, a', m, al), ⟨(h1.trans (j1.mono h2 h4)).trans (k1.mono (by omega) (by omega)), h2, by simp only; omega, by simp only; omega, ?_, hG⟩, by simp only; omega, ?_⟩
      ·rcases fr with h | h
       ·exact .inl h
       ·by_cases ha0 : a' = 0
        ·exact .inl ha0
        ·right
         intro k e1 e2
         simp only at e1 e2 ⊢
         rw [k1.out k (.inl (by omega)), k1.out (a' - 1) (.inl (by omega))]
         exact h k e1 (by omega)
      ·by_cases ha0 : 0 < a'
       ·have g0 := decide_eq_true ha0
        rw [g0] at hgt
        have e1 := hfa ha0; have e2 := hA ha0; have e3 := haw ha0; have e4 := hb1 ha0
        rcases i1 with rfl | rfl <;> cases w <;> cases is <;> first
         | exact absurd ⟨rfl, rfl, rfl⟩ hret
         | (simp only [go_sem, simprocAttr, a1X, hw, hle, hl0, hPv, hPa, hPt, hgt, hg, e1, e2, e3, e4, hB, hb2, w1, w2, w3, hq, hw8, t1, t2, hd, hK, hn, a0E, hT, hun, hrl, Int.toNat_natCast, Nat.zero_add]; repeat' ((first | refine brY ?_ | refine brN ?_ | refine brA ?_ | refine brD ?_ | refine brF ?_); (try simp only [go_sem, simprocAttr, a1X, hw, hle, hl0, hPv, hPa, hPt, hgt, hg, e1, e2, e3, e4, hB, hb2, w1, w2, w3, hq, hw8, t1, t2, hd, hK, hn, a0E, hT, hun, hrl, Int.toNat_natCast, Nat.zero_add])))
       ·have g0 := decide_eq_false ha0
        rw [g0] at hgt
        rcases i1 with rfl | rfl <;> cases w <;> cases is <;> first
         | exact absurd ⟨rfl, rfl, rfl⟩ hret
         | (simp only [go_sem, simprocAttr, a1X, hw, hle, hl0, hPv, hPa, hPt, hgt, w1, w2, w3, hq, hw8, t1, t2, hd, hK, hn, a0E, hT, hun, hrl, Int.toNat_natCast, Nat.zero_add]; repeat' ((first | refine brY ?_ | refine brN ?_ | refine brA ?_ | refine brD ?_ | refine brF ?_); (try simp only [go_sem, simprocAttr, a1X, hw, hle, hl0, hPv, hPa, hPt, hgt, w1, w2, w3, hq, hw8, t1, t2, hd, hK, hn, a0E, hT, hun, hrl, Int.toNat_natCast, Nat.zero_add]))))
  (D0, a, b, true) ⟨Seg.refl _ _ _, Nat.le_refl _, hab, Nat.le_refl _, hfr, fun D' _ h => h⟩
 obtain ⟨D', t, g1, g2, rfl⟩ := hp
 refine ⟨D', g1, g2, ?_⟩
 simp only [h0] at hQ
 have hL : a1Y = .loop [0, 1, 2, 3, 4, 10, 11] a1X := rfl
 rw [← hL] at hQ
 rw [K_fn P04.f162 _ _ rfl]
 simp only [go_sem, simprocAttr, a1v, hQ, hn, a0E, hT, hun]
def d9Y (Γ : Env) (P : List Rest -> Prop) : Prop := ∀ (H : List Obj) (N r : Nat) (l : List Rest), H.length = N -> r < N -> H.all (Obj.under N) = true -> P l -> H[r]? = some (.var (a1A l)) →
 K Γ (.fn 130) [.sc (.msl r 0 l.length 0 2), .sc (.fn (.fn 131) [] [] [])] H = some (.tup [], H.set r (.var (a1A (a1w l))))
theorem d9T : d9Y Γ (fun l => l.length <= 15 /\ l.Nodup) := by
 intro H N r l hn hr hu hl hH
 obtain ⟨hl, hnd⟩ := hl
 have hun (v : List Rest) : (H.set r (.var (a1A v))).all (Obj.under N) = true := a6R _ _ _ _ hu (by simp [go_sem])
 have hT (v : Obj) : (H.set r v).take N = H.set r v := List.take_of_length_le (by simp [hn])
 obtain ⟨v, h1, h2, hv⟩ := c0k (Γ := Γ) l.length hl
 have hw : IntKind.u64.wrap (l.length : Int) = l.length := by
  have : ∀ n : Nat, n <= 15 -> IntKind.u64.wrap (n : Int) = n := by decide
  exact this _ hl
 obtain ⟨D', g1, g2, hK⟩ := e0l (Γ := Γ) N r hr v l.length H l 0 l.length hn hu (by omega) hnd hH (Nat.zero_le _) (Nat.le_refl _) (by omega) hl (fun h => by have := h2 (by omega); omega) (.inl rfl)
 have e := d9t g1.perm (by rw [g1.len]; exact g2)
 rw [e] at hK
 change K Γ (.fn 162) [rowC r l.length, vi 0, vi l.length, vi v, cmpC] H = _ at hK
 rw [K_fn P04.f130 _ _ rfl]
 simp only [go_sem, simprocAttr, a0X, hw, hv, hK, hn, a0E, hT, hun]
end
end Go.Pm.St
namespace Go.Pm.St
open Ac
def drawn (s : Span) (n : Int) : Int := s.lo + turn n (s.hi - s.lo + 1)
section
variable {Γ : Env} [P04 Γ]
@[go_sem] theorem d0l (a b c : Int) : K Γ (.fn 29) [vi a, vi b, vi c] [] = some (vb (within a b c), []) := by
 rw [K_fn P04.f29 _ _ rfl]
 (simp only [go_sem, simprocAttr, a2w]; repeat' (first | ((first | refine brY ?_ | refine brN ?_ | refine brA ?_ | refine brD ?_ | refine brF ?_ | ((first | apply a0k | apply a0j); (· intro h; simp only [go_sem, simprocAttr, a0p h, a2w]; exact rfl))); (try simp only [go_sem, simprocAttr, a2w])) | ((first | apply a0e | apply d7E | apply a0a) <;> intro h <;> (try simp only [go_sem, simprocAttr, h, a2w]))))
 all_goals (simp_all [within]; try (intros; omega))
@[go_sem] theorem c7G (a b : Int) : K Γ (.fn 33) [vi a, vi b] [] = some (.agg [ci a, ci b], []) := by
 rw [K_fn P04.f33 _ _ rfl]
 simp only [go_sem, simprocAttr, a3N]
@[go_sem] theorem d0m (a : Int) : K Γ (.fn 30) [vi a] [] = some (.agg [ci a, ci a], []) := by
 rw [K_fn P04.f30 _ _ rfl]
 simp only [go_sem, simprocAttr, a4A]
theorem b7i (s : Span) (low high wide : Int) (hl : 0 <= low) (hh : high <= 1000) :
 K Γ (.fn 49) [.agg [ci s.lo, ci s.hi], vi low, vi high, vi wide] [] = some (vb (s.is low high wide), []) := by
 rw [K_fn P04.f49 _ _ rfl]
 (simp only [go_sem, simprocAttr, a2v]; repeat' (first | ((first | refine brY ?_ | refine brN ?_ | refine brA ?_ | refine brD ?_ | refine brF ?_ | ((first | apply a0k | apply a0j); (· intro h; simp only [go_sem, simprocAttr, a0p h, a2v]; exact rfl))); (try simp only [go_sem, simprocAttr, a2v])) | ((first | apply a0e | apply d7E | apply a0a) <;> intro h <;> (try simp only [go_sem, simprocAttr, h, a2v]))))
 by_cases h : low <= s.lo /\ s.lo <= s.hi /\ s.hi <= high
 ·rw [wrap_i64 (by omega) (by omega)]; rfl
 ·simp only [Span.is]
  have e : (decide (low <= s.lo) && decide (s.lo <= s.hi) && decide (s.hi <= high)) = false := by
   rw [Bool.eq_false_iff]; intro e; simp only [Bool.and_eq_true, decide_eq_true_eq] at e; omega
  simp only [e, Bool.false_and]
@[go_sem] theorem d3F (set n : Int) : K Γ (.fn 65) [vi set, vi n] [] = some (vb (d2J set n), []) := by
 rw [K_fn P04.f65 _ _ rfl]
 by_cases h0 : 0 <= n
 ·by_cases h1 : n < 62
  ·have hm : Nat.min n.toNat IntKind.i64.bits = n.toNat := Nat.min_eq_left (show n.toNat <= 64 by omega)
   have hn : decide (n < 0) = false := decide_eq_false (by omega)
   have d0 := decide_eq_true h0
   have d1 := decide_eq_true h1
   simp only [go_sem, simprocAttr, d2y, d0, d1, hn, hm, d2J]
   rfl
  ·have d0 := decide_eq_true h0
   have d1 := decide_eq_false h1
   simp only [go_sem, simprocAttr, d2y, d0, d1, d2J, Bool.false_and]
 ·have d0 := decide_eq_false h0
  simp only [go_sem, simprocAttr, d2y, d0, d2J, Bool.false_and]
@[go_sem] theorem c0w (k k' : SK) (l m : List Int) (hl : l.length <= 1000000) (hm : m.length <= 1000000) : K Γ (.fn 23) [.sc (.sl k 1 (l.map fun x => [ci x])), .sc (.sl k' 1 (m.map fun x => [ci x]))] [] = some (vb (decide (l = m)), []) := by
 rw [K_fn P04.f23 _ _ rfl]
 by_cases hlm : (l.length : Int) = m.length
 ·have d1 := decide_eq_true hlm
  have hz : (l.zip m).length = l.length := by simp [List.length_zip]; omega
  simp only [go_sem, simprocAttr, a3l, d1]
  refine (b5G (fun i (a : Bool) => ⟨[(0, .sc (.sl k 1 (l.map fun x => [ci x]))), (1, .sc (.sl k' 1 (m.map fun x => [ci x]))), (5, vb a), (6, vi i)], []⟩) (l.zip m)
   (fun i a p => if a then .inl (decide (p.1 = p.2)) else .inr (.exit 0, ⟨[(0, .sc (.sl k 1 (l.map fun x => [ci x]))), (1, .sc (.sl k' 1 (m.map fun x => [ci x]))), (5, vb false), (6, vi i), (18, vb false)], []⟩))
   (fun a => (.exit 0, ⟨[(0, .sc (.sl k 1 (l.map fun x => [ci x]))), (1, .sc (.sl k' 1 (m.map fun x => [ci x]))), (5, vb a), (6, vi (l.zip m).length), (18, vb false)], []⟩)) _ ?_ ?_ ?_ true).trans ?_
  ·intro i a p a' hp hf
   obtain ⟨h1, h2⟩ := List.getElem?_zip_eq_some.1 hp
   have d1 := decide_eq_true (show (i : Int) < l.length by have := (List.getElem?_eq_some_iff.1 h1).1; omega)
   have hi : IntKind.i64.wrap ((i : Int) + 1) = i + 1 := wrap_i64 (by have := (List.getElem?_eq_some_iff.1 h1).1; omega) (by have := (List.getElem?_eq_some_iff.1 h1).1; omega)
   cases a with
   | false => simp at hf
   | true =>
    simp only [if_true, Sum.inl.injEq] at hf
    subst hf
    (simp only [go_sem, simprocAttr, a1b, h1, h2, d1, hi]; repeat' ((first | refine brY ?_ | refine brN ?_ | refine brA ?_ | refine brD ?_ | refine brF ?_); (try simp only [go_sem, simprocAttr, a1b, h1, h2, d1, hi])))
    rfl
  ·intro i a p r hp hf
   cases a with
   | true => simp at hf
   | false =>
    simp only [Bool.false_eq_true, if_false, Sum.inr.injEq] at hf
    subst hf
    (simp only [go_sem, simprocAttr, a1b]; repeat' ((first | refine brY ?_ | refine brN ?_ | refine brA ?_ | refine brD ?_ | refine brF ?_); (try simp only [go_sem, simprocAttr, a1b])))
  ·intro a
   have d1 : decide (((l.zip m).length : Int) < l.length) = false := decide_eq_false (by omega)
   cases a with
   | true => simp only [go_sem, simprocAttr, a1b, d1]
   | false => simp only [go_sem, simprocAttr, a1b]
  ·have key : ∀ (ps : List (Int × Int)) (n : Nat) (a : Bool), ∃ j e, a4N (fun (i : Nat) (a : Bool) (p : Int × Int) => if a then Sum.inl (decide (p.1 = p.2)) else Sum.inr (Ex.exit 0, (⟨[(0, .sc (.sl k 1 (l.map fun x => [ci x]))), (1, .sc (.sl k' 1 (m.map fun x => [ci x]))), (5, vb false), (6, vi i), (18, vb false)], []⟩ : St)))
    (fun a => (.exit 0, ⟨[(0, .sc (.sl k 1 (l.map fun x => [ci x]))), (1, .sc (.sl k' 1 (m.map fun x => [ci x]))), (5, vb a), (6, vi (l.zip m).length), (18, vb false)], []⟩)) n a ps =
    (.exit 0, ⟨[(0, .sc (.sl k 1 (l.map fun x => [ci x]))), (1, .sc (.sl k' 1 (m.map fun x => [ci x]))), (5, vb e), (6, vi j), (18, vb false)], []⟩) /\ e = (a && decide (∀ p, p ∈ ps -> p.1 = p.2)) := by
    intro ps
    induction ps with
    | nil => intro n a; exact ⟨_, a, rfl, by simp⟩
    | cons p ps ih =>
     intro n a
     cases a with
     | false => exact ⟨n, false, rfl, by simp⟩
     | true =>
      obtain ⟨j, e, h1, h2⟩ := ih (n + 1) (decide (p.1 = p.2))
      refine ⟨j, e, by simp only [a4N, if_true]; exact h1, ?_⟩
      rw [h2, Bool.true_and]
      by_cases hp : p.1 = p.2
      ·have e1 : (∀ q, q ∈ p :: ps -> q.1 = q.2) <-> (∀ q, q ∈ ps -> q.1 = q.2) := by simp [hp]
       rw [decide_eq_true hp, Bool.true_and, decide_eq_decide.2 e1]
      ·have e1 : ¬ (∀ q, q ∈ p :: ps -> q.1 = q.2) := fun h => hp (h p (by simp))
       rw [decide_eq_false hp, Bool.false_and, decide_eq_false e1]
   obtain ⟨j, e, h1, h2⟩ := key (l.zip m) 0 true
   rw [h1]
   have he : e = decide (l = m) := by
    rw [h2, Bool.true_and, decide_eq_decide]
    constructor
    ·intro h
     apply List.ext_getElem?
     intro i
     by_cases hi : i < l.length
     ·have hi' : i < m.length := by omega
      have := h (l[i], m[i]) (List.mem_of_getElem? (List.getElem?_zip_eq_some.2 ⟨List.getElem?_eq_getElem hi, List.getElem?_eq_getElem hi'⟩))
      rw [List.getElem?_eq_getElem hi, List.getElem?_eq_getElem hi']
      exact congrArg some this
     ·rw [List.getElem?_eq_none (by omega), List.getElem?_eq_none (by omega)]
    ·rintro rfl p hp
     obtain ⟨i, hi⟩ := List.getElem?_of_mem hp
     obtain ⟨a1, a2⟩ := List.getElem?_zip_eq_some.1 hi
     rw [a1] at a2; exact Option.some.inj a2
   subst he
   (simp only [go_sem, simprocAttr]; repeat' (first | ((first | refine brY ?_ | refine brN ?_ | refine brA ?_ | refine brD ?_ | refine brF ?_ | ((first | apply a0k | apply a0j); (· intro h; simp only [go_sem, simprocAttr, a0p h]; exact rfl))); (try simp only [go_sem, simprocAttr])) | ((first | apply a0e | apply d7E | apply a0a) <;> intro h <;> (try simp only [go_sem, simprocAttr, h]))))
 ·have d1 := decide_eq_false hlm
  have hne : decide (l = m) = false := decide_eq_false (fun e => hlm (by rw [e]))
  simp only [go_sem, simprocAttr, a3l, d1, hne, a6n, a1b, a1J]
@[go_sem] theorem d6I (a b c d : Int) : K Γ (.fn 75) [.agg [ci a, ci b], .agg [ci c, ci d]] [] = some (.agg [ci (min a c), ci (max b d)], []) := by
 rw [K_fn P04.f75 _ _ rfl]
 simp only [go_sem, simprocAttr, d5j]
end
end Go.Pm.St
namespace Go.Pm.St
open Ac
def b1v (set k : Nat) : Bool := decide (a5l .i64 (BitVec.ofInt 64 ((set : Int).fdiv (2 ^ k)) &&& BitVec.ofInt 64 1) = 1)
def a7u (b : Book) (i : Nat) (j : Nat) : List Rest := ((List.range j).filter fun k => !b.rest i (b.o + k)).map fun (k : Nat) => ⟨((b.o + k : Nat) : Int), i⟩
def Book.free (b : Book) (i : Nat) : List Rest := a7u b i (b.days.length - b.o)
theorem b6r (b : Book) (i j : Nat) : a7u b i (j + 1) = if b.rest i (b.o + j) then a7u b i j else a7u b i j ++ [⟨((b.o + j : Nat) : Int), i⟩] := by
 simp only [a7u, List.range_succ, List.filter_append, List.map_append]
 cases h : b.rest i (b.o + j) <;> simp [h]
theorem b2Z (b : Book) (i j : Nat) : (a7u b i j).length <= j := by
 simp only [a7u, List.length_map]
 exact Nat.le_trans (List.length_filter_le _ _) (by simp)
def subN (set : Nat) (l : List Rest) (j : Nat) : List Rest := ((List.range j).filter fun k => b1v set k).filterMap fun k => l[k]?
def sub (set : Nat) (l : List Rest) : List Rest := subN set l l.length
theorem b8m (set : Nat) {l : List Rest} {j : Nat} {x : Rest} (h : l[j]? = some x) : subN set l (j + 1) = if b1v set j then subN set l j ++ [x] else subN set l j := by
 simp only [subN, List.range_succ, List.filter_append, List.filterMap_append]
 cases hb : b1v set j <;> simp [hb, h]
theorem b1n (set : Nat) (l : List Rest) (j : Nat) : (subN set l j).length <= j := by
 simp only [subN]
 refine Nat.le_trans (List.length_filterMap_le _ _) (Nat.le_trans (List.length_filter_le _ _) (by simp))
def a5c (b : Book) (i j : Nat) : List (List Rest) := ((List.range j).map fun s => sub s (b.free i)).filter fun l => b.well (a1M b.F l) i
def Book.alone (b : Book) (i : Nat) : List (List Rest) := a5c b i (2 ^ (b.free i).length)
theorem b5g (b : Book) (i j : Nat) : a5c b i (j + 1) = if b.well (a1M b.F (sub j (b.free i))) i then a5c b i j ++ [sub j (b.free i)] else a5c b i j := by
 simp only [a5c, List.range_succ, List.map_append, List.filter_append]
 cases h : b.well (a1M b.F (sub j (b.free i))) i <;> simp [h]
theorem b1s (b : Book) (i j : Nat) : (a5c b i j).length <= j := by
 simp only [a5c]
 exact Nat.le_trans (List.length_filter_le _ _) (by simp)
abbrev rl (l : List Rest) : List (List C) := l.map Rest.c
def rC (l : List Rest) : C := .sl (kS l) 2 (rl l)
abbrev rlC (ls : List (List Rest)) : List (List C) := ls.map fun l => [rC l]
theorem b3u (l : List Rest) (x : Rest) : rl (l ++ [x]) = rl l ++ [x.c] := by simp [rl]
theorem b6S (l : List (List Rest)) (x : List Rest) : rlC (l ++ [x]) = rlC l ++ [[rC x]] := by simp [rlC]
theorem b1p (l : List Rest) : a0r (ownC 2 (rl l)) = rC l := by rw [a9I, rC]; cases l <;> rfl
theorem b8q (l : List (List Rest)) : a0r (ownC 1 (rlC l)) = .sl (kS l) 1 (rlC l) := by rw [a9I]; cases l <;> rfl
theorem b9t {n : Nat} (h : n <= 5) : IntKind.i64.wrap (1 * 2 ^ (n.min IntKind.i64.bits)) = ((2 ^ n : Nat) : Int) := by
 have : ∀ n : Nat, n <= 5 -> IntKind.i64.wrap (1 * 2 ^ (n.min IntKind.i64.bits)) = ((2 ^ n : Nat) : Int) := by decide
 exact this n h
theorem b6h {n : Nat} (h : n <= 5) : 2 ^ n <= 32 := Nat.pow_le_pow_right (by decide) h
section
variable {Γ : Env} [P04 Γ] [G04 Γ]
theorem b8w (b : Book) (hs : Sane b) (i : Nat) (hi : i < b.singers.length) {β : Type} (Q : Ex -> St -> Option β) :
 E Γ a6C ⟨[(1, vi i), (2, .sc (.ptr 0 0)), (5, .sc (.sl .nil 2 [])), (6, vi b.o)], [.var (O b b.now)]⟩ Q =
 Q (.exit 0) ⟨[(1, vi i), (2, .sc (.ptr 0 0)), (5, .sc (ownC 2 (rl (b.free i)))), (6, vi b.days.length), (20, vb false)], [.var (O b b.now)]⟩ := by
 have hO := a1R b b.now
 have hd5 := hs.d5
 obtain ⟨ho, hol⟩ := o_eq hs
 refine a4q (b.days.length - b.o) (fun j (_ : Unit) => ⟨[(1, vi i), (2, .sc (.ptr 0 0)), (5, .sc (ownC 2 (rl (a7u b i j)))), (6, vi ((b.o + j : Nat) : Int))], [.var (O b b.now)]⟩) (fun _ _ => True)
  (fun _ => (.exit 0, ⟨[(1, vi i), (2, .sc (.ptr 0 0)), (5, .sc (ownC 2 (rl (b.free i)))), (6, vi b.days.length), (20, vb false)], [.var (O b b.now)]⟩)) () rfl trivial ?_ ?_ (fun _ _ => rfl)
 ·intro j _ hj _
  refine ⟨(), trivial, ?_⟩
  have hlt : decide (((b.o + j : Nat) : Int) < b.days.length) = true := decide_eq_true (by omega)
  have hw : IntKind.i64.wrap (((b.o + j : Nat) : Int) + 1) = ((b.o + (j + 1) : Nat) : Int) := by rw [wrap_i64 (by omega) (by omega)]; omega
  have hF := F_at b (b.o + j) i
  change b.F [((b.o + j : Nat) : Int), (i : Int)] = b.rest i (b.o + j) at hF
  have happ := a2K 2 (rl (a7u b i j)) .full [ci ((b.o + j : Nat) : Int), ci i] (by have := b2Z b i j; simp only [rl, List.length_map, room]; omega)
  rw [b6r]
  cases hr : b.rest i (b.o + j) with
  | true =>
   rw [hr] at hF
   simp only [if_true]
   simp only [go_sem, simprocAttr, a3s, hlt, hw, hF, hO]
  | false =>
   rw [hr] at hF
   simp only [Bool.false_eq_true, if_false, b3u, Rest.c]
   simp only [go_sem, simprocAttr, a3s, hlt, hw, hF, hO, happ]
 ·intro _ _
  have hlt : decide (((b.o + (b.days.length - b.o) : Nat) : Int) < b.days.length) = false := decide_eq_false (by omega)
  have e : b.o + (b.days.length - b.o) = b.days.length := by omega
  simp only [e] at hlt ⊢
  simp only [go_sem, simprocAttr, a3s, hlt]
  rfl
theorem b8y (b : Book) (i : Nat) (set : Nat) (hset : set <= 40) (l : List Rest) (hl : l.length <= 5) (c5 c7 : C) (h5 : ∀ n, C.under n c5 = true) (h7 : ∀ n, C.under n c7 = true) (p : Int) {β : Type} (Q : Ex -> St -> Option β) :
 E Γ a6E ⟨[(1, vi i), (2, .sc (.ptr 0 0)), (5, .sc c5), (7, .sc c7), (8, vi set), (9, .sc (.sl .nil 2 [])), (38, vi p), (39, vi set), (42, .sc (rC l)), (43, vi l.length), (44, vi 0)], [.var (O b b.now)]⟩ Q =
 Q (.exit 4) ⟨[(1, vi i), (2, .sc (.ptr 0 0)), (5, .sc c5), (7, .sc c7), (8, vi set), (9, .sc (ownC 2 (rl (sub set l)))), (38, vi p), (39, vi set), (42, .sc (rC l)), (43, vi l.length), (44, vi l.length), (45, vb false)], [.var (O b b.now)]⟩ := by
 have hO := a1R b b.now
 refine a4Q (fun j => ⟨[(1, vi i), (2, .sc (.ptr 0 0)), (5, .sc c5), (7, .sc c7), (8, vi set), (9, .sc (ownC 2 (rl (subN set l j)))), (38, vi p), (39, vi set), (42, .sc (rC l)), (43, vi l.length), (44, vi j)], [.var (O b b.now)]⟩) l
  (.exit 4, ⟨[(1, vi i), (2, .sc (.ptr 0 0)), (5, .sc c5), (7, .sc c7), (8, vi set), (9, .sc (ownC 2 (rl (sub set l)))), (38, vi p), (39, vi set), (42, .sc (rC l)), (43, vi l.length), (44, vi l.length), (45, vb false)], [.var (O b b.now)]⟩) Q rfl ?_ ?_
 ·intro j x hx
  have hlt : j < l.length := (List.getElem?_eq_some_iff.1 hx).1
  have hw : IntKind.i64.wrap ((j : Int) + 1) = j + 1 := wrap_i64 (by omega) (by omega)
  have hm : Nat.min j IntKind.i64.bits = j := Nat.min_eq_left (show j <= 64 by omega)
  have hn : decide ((j : Int) < 0) = false := decide_eq_false (by omega)
  have happ := a2K 2 (rl (subN set l j)) .full x.c (by have := b1n set l j; simp only [rl, List.length_map, room]; omega)
  rw [b8m set hx]
  have hb : decide (a5l .i64 (BitVec.ofInt IntKind.i64.bits ((set : Int).fdiv (2 ^ j)) &&& BitVec.ofInt IntKind.i64.bits 1) = 1) = b1v set j := rfl
  cases hbt : b1v set j with
  | true =>
   rw [hbt] at hb
   simp only [if_true, b3u]
   (simp only [go_sem, simprocAttr, a0T, rC, hx, hw, hm, hn, hb, hO, h5, h7, happ]; repeat' ((first | refine brY ?_ | refine brN ?_ | refine brA ?_ | refine brD ?_ | refine brF ?_); (try simp only [go_sem, simprocAttr, a0T, rC, hx, hw, hm, hn, hb, hO, h5, h7, happ])))
   rfl
  | false =>
   rw [hbt] at hb
   simp only [Bool.false_eq_true, if_false]
   (simp only [go_sem, simprocAttr, a0T, rC, hx, hw, hm, hn, hb, hO, h5, h7]; repeat' ((first | refine brY ?_ | refine brN ?_ | refine brA ?_ | refine brD ?_ | refine brF ?_); (try simp only [go_sem, simprocAttr, a0T, rC, hx, hw, hm, hn, hb, hO, h5, h7])))
   rfl
 ·(simp only [go_sem, simprocAttr, a0T, rC]; repeat' ((first | refine brY ?_ | refine brN ?_ | refine brA ?_ | refine brD ?_ | refine brF ?_); (try simp only [go_sem, simprocAttr, a0T, rC])))
  rfl
theorem a9i {b : Book} (hs : Sane b) (i : Nat) : (b.free i).length <= 5 := by
 have := b2Z b i (b.days.length - b.o)
 have := hs.d5
 simp only [Book.free]; omega
theorem b8x (b : Book) [hb : b.Fits] (hs : Sane b) (hne : b.now ≠ []) (i : Nat) (hi : i < b.singers.length) {β : Type} (Q : Ex -> St -> Option β) :
 E Γ a6D ⟨[(1, vi i), (2, .sc (.ptr 0 0)), (5, .sc (ownC 2 (rl (b.free i)))), (7, .sc (.sl .nil 1 [])), (38, vi ((2 ^ (b.free i).length : Nat) : Int)), (39, vi 0)], [.var (O b b.now)]⟩ Q =
 Q (.exit 2) ⟨[(1, vi i), (2, .sc (.ptr 0 0)), (5, .sc (ownC 2 (rl (b.free i)))), (7, .sc (ownC 1 (rlC (b.alone i)))), (38, vi ((2 ^ (b.free i).length : Nat) : Int)), (39, vi ((2 ^ (b.free i).length : Nat) : Int)), (40, vb false)], [.var (O b b.now)]⟩ := by
 have hO := a1R b b.now
 have hun := O_un b b.now
 have hOp := a3w b b.now
 have hf5 := a9i hs i
 have hp := b6h hf5
 refine a4q (2 ^ (b.free i).length) (fun j (_ : Unit) => ⟨[(1, vi i), (2, .sc (.ptr 0 0)), (5, .sc (ownC 2 (rl (b.free i)))), (7, .sc (ownC 1 (rlC (a5c b i j)))), (38, vi ((2 ^ (b.free i).length : Nat) : Int)), (39, vi j)], [.var (O b b.now)]⟩) (fun _ _ => True)
  (fun _ => (.exit 2, ⟨[(1, vi i), (2, .sc (.ptr 0 0)), (5, .sc (ownC 2 (rl (b.free i)))), (7, .sc (ownC 1 (rlC (b.alone i)))), (38, vi ((2 ^ (b.free i).length : Nat) : Int)), (39, vi ((2 ^ (b.free i).length : Nat) : Int)), (40, vb false)], [.var (O b b.now)]⟩)) () rfl trivial ?_ ?_ (fun _ _ => rfl)
 ·intro j _ hj _
  refine ⟨(), trivial, ?_⟩
  have hlt : decide ((j : Int) < ((2 ^ (b.free i).length : Nat) : Int)) = true := decide_eq_true (by omega)
  have hw : IntKind.i64.wrap ((j : Int) + 1) = ((j + 1 : Nat) : Int) := by rw [wrap_i64 (by omega) (by omega)]; omega
  have hL {β : Type} (Q : Ex -> St -> Option β) := b8y (Γ := Γ) b i j (by omega) (b.free i) hf5 (ownC 2 (rl (b.free i))) (ownC 1 (rlC (a5c b i j))) (fun n => a7C _ _ _) (fun n => a7C _ _ _) ((2 ^ (b.free i).length : Nat) : Int) Q
  have hu5 := b1p (b.free i)
  have hu9 := b1p (sub j (b.free i))
  have hsl : (sub j (b.free i)).length <= 5 := Nat.le_trans (b1n _ _ _) hf5
  have hwk := b2z (Γ := Γ) (kS (sub j (b.free i))) (sub j (b.free i)) (by omega) b.F
  have hwe := b5e (Γ := Γ) b hs hne i hi (a1M b.F (sub j (b.free i)))
  have happ := a2K 1 (rlC (a5c b i j)) .full [rC (sub j (b.free i))] (by have := b1s b i j; simp only [rlC, List.length_map, room]; omega)
  have hrp : C.pure (rC (sub j (b.free i))) = true := rfl
  simp only [rC] at hL hu5 hu9 happ hrp
  rw [b5g]
  cases hwl : b.well (a1M b.F (sub j (b.free i))) i with
  | true =>
   rw [hwl] at hwe
   simp only [if_true, b6S, rC]
   simp only [go_sem, simprocAttr, a3t, hlt, hw, hu5, hu9, hL, hwk, hwe, happ, hrp, hO, hun, hOp, List.length_map]
  | false =>
   rw [hwl] at hwe
   simp only [Bool.false_eq_true, if_false]
   simp only [go_sem, simprocAttr, a3t, hlt, hw, hu5, hu9, hL, hwk, hwe, hrp, hO, hun, hOp, List.length_map]
 ·intro _ _
  have hlt : decide (((2 ^ (b.free i).length : Nat) : Int) < ((2 ^ (b.free i).length : Nat) : Int)) = false := decide_eq_false (by omega)
  simp only [go_sem, simprocAttr, a3t, hlt]
  rfl
theorem c0G (b : Book) [hb : b.Fits] (hs : Sane b) (hne : b.now ≠ []) (i : Nat) (hi : i < b.singers.length) :
 K Γ (.fn 127) [.agg (O b b.now), vi i] [] = some (.sc (.sl (kS (b.alone i)) 1 (rlC (b.alone i))), []) := by
 have hO := a1R b b.now
 have hf5 := a9i hs i
 obtain ⟨ho, hol⟩ := o_eq hs
 have hok := b0g (Γ := Γ) b hs
 rw [ho] at hok
 have hL0 {β : Type} (Q : Ex -> St -> Option β) := b8w (Γ := Γ) b hs i hi Q
 have hL1 {β : Type} (Q : Ex -> St -> Option β) := b8x (Γ := Γ) b hs hne i hi Q
 have hu5 := b1p (b.free i)
 have hu7 := b8q (b.alone i)
 have hpw := b9t hf5
 have hn : decide (((b.free i).length : Int) < 0) = false := decide_eq_false (by omega)
 simp only [rC] at hu5
 rw [K_fn P04.f127 _ _ rfl]
 simp only [go_sem, simprocAttr, a4f, hok, hO, hL0, hL1, hu5, hu7, hpw, hn, List.length_map]
end
end Go.Pm.St
namespace Go.Pm.St
open Ac
def cmpL (l m : List Rest) : Int := match a0z (fun i (x : Rest) => match m[i]? with | some y => !decide (x.cmp y = 0) | none => true) 0 l with
 | some (i, x) => (match m[i]? with | some y => x.cmp y | none => 1)
 | none => if l.length < m.length then -1 else 0
def better (l m : List Rest) : Bool := decide ((if cmp3 l.length m.length = 0 then cmpL l m else cmp3 l.length m.length) < 0)
section
variable {Γ : Env} [P04 Γ] [G04 Γ]
theorem c1W (k k' : SK) (l m : List Rest) (hl : l.length <= 1000) (hm : m.length <= 1000) : K Γ (.fn 176) [.sc (.sl k 2 (rl l)), .sc (.sl k' 2 (rl m)), .sc (.fn (.fn 131) [] [] [])] [] = some (vi (cmpL l m), []) := by
 rw [K_fn P04.f176 _ _ rfl]
 simp only [go_sem, simprocAttr, a0D, List.length_map]
 refine (a4L (fun i => ⟨[(0, .sc (.sl k 2 (rl l))), (1, .sc (.sl k' 2 (rl m))), (2, .sc (.fn (.fn 131) [] [] [])), (11, .sc (.sl k 2 (rl l))), (12, vi l.length), (13, vi i)], []⟩) l (fun i (x : Rest) => match m[i]? with | some y => !decide (x.cmp y = 0) | none => true)
  (fun i x => (.ret, match m[i]? with | some y => ⟨[(6, vi (x.cmp y))], [.var x.c, .var y.c]⟩ | none => ⟨[(6, vi 1)], [.var x.c]⟩))
  (.exit 0, ⟨[(0, .sc (.sl k 2 (rl l))), (1, .sc (.sl k' 2 (rl m))), (2, .sc (.fn (.fn 131) [] [] [])), (11, .sc (.sl k 2 (rl l))), (12, vi l.length), (13, vi l.length), (14, vb false)], []⟩) _ ?_ ?_ ?_).trans ?_
 ·intro i x hx hf
  have hlt : i < l.length := (List.getElem?_eq_some_iff.1 hx).1
  have hw : IntKind.i64.wrap ((i : Int) + 1) = i + 1 := wrap_i64 (by omega) (by omega)
  cases hy : m[i]? with
  | none => simp [hy] at hf
  | some y =>
   simp only [hy, Bool.not_eq_false'] at hf
   have hml : i < m.length := (List.getElem?_eq_some_iff.1 hy).1
   have hge : decide ((m.length : Int) <= (i : Int)) = false := decide_eq_false (by omega)
   (simp only [go_sem, simprocAttr, a0i, hx, hy, hw, hge, hf, List.length_map]; repeat' ((first | refine brY ?_ | refine brN ?_ | refine brA ?_ | refine brD ?_ | refine brF ?_); (try simp only [go_sem, simprocAttr, a0i, hx, hy, hw, hge, hf, List.length_map])))
   rfl
 ·intro i x hx hf
  have hlt : i < l.length := (List.getElem?_eq_some_iff.1 hx).1
  cases hy : m[i]? with
  | none =>
   have hml : ¬ i < m.length := fun h => by rw [List.getElem?_eq_getElem h] at hy; cases hy
   have hge : decide ((m.length : Int) <= (i : Int)) = true := decide_eq_true (by omega)
   (simp only [go_sem, simprocAttr, a0i, hx, hge, List.length_map]; repeat' ((first | refine brY ?_ | refine brN ?_ | refine brA ?_ | refine brD ?_ | refine brF ?_); (try simp only [go_sem, simprocAttr, a0i, hx, hge, List.length_map])))
  | some y =>
   simp only [hy, Bool.not_eq_true'] at hf
   have hml : i < m.length := (List.getElem?_eq_some_iff.1 hy).1
   have hge : decide ((m.length : Int) <= (i : Int)) = false := decide_eq_false (by omega)
   (simp only [go_sem, simprocAttr, a0i, hx, hy, hge, hf, List.length_map]; repeat' ((first | refine brY ?_ | refine brN ?_ | refine brA ?_ | refine brD ?_ | refine brF ?_); (try simp only [go_sem, simprocAttr, a0i, hx, hy, hge, hf, List.length_map])))
 ·simp only [go_sem, simprocAttr, a0i]
 ·unfold cmpL
  cases h : a0z (fun i (x : Rest) => match m[i]? with | some y => !decide (x.cmp y = 0) | none => true) 0 l with
  | none =>
   by_cases hlm : l.length < m.length
   ·have hd : decide ((l.length : Int) < m.length) = true := decide_eq_true (by omega)
    simp only [go_sem, simprocAttr, hd, List.length_map, if_pos hlm]
   ·have hd : decide ((l.length : Int) < m.length) = false := decide_eq_false (by omega)
    simp only [go_sem, simprocAttr, hd, List.length_map, if_neg hlm]
  | some q =>
   obtain ⟨i, x⟩ := q
   cases hy : m[i]? with
   | none => simp only [hy]; (simp only [go_sem, simprocAttr]; repeat' (first | ((first | refine brY ?_ | refine brN ?_ | refine brA ?_ | refine brD ?_ | refine brF ?_ | ((first | apply a0k | apply a0j); (· intro h; simp only [go_sem, simprocAttr, a0p h]; exact rfl))); (try simp only [go_sem, simprocAttr])) | ((first | apply a0e | apply d7E | apply a0a) <;> intro h <;> (try simp only [go_sem, simprocAttr, h]))))
   | some y => simp only [hy]; (simp only [go_sem, simprocAttr]; repeat' (first | ((first | refine brY ?_ | refine brN ?_ | refine brA ?_ | refine brD ?_ | refine brF ?_ | ((first | apply a0k | apply a0j); (· intro h; simp only [go_sem, simprocAttr, a0p h]; exact rfl))); (try simp only [go_sem, simprocAttr])) | ((first | apply a0e | apply d7E | apply a0a) <;> intro h <;> (try simp only [go_sem, simprocAttr, h]))))
theorem b8z (k k' : SK) (l m : List Rest) (hl : l.length <= 1000) (hm : m.length <= 1000) : K Γ (.fn 160) [.sc (.sl k 2 (rl l)), .sc (.sl k' 2 (rl m))] [] = some (vb (better l m), []) := by
 have hc := c1W (Γ := Γ) k k' l m hl hm
 rw [K_fn P04.f160 _ _ rfl]
 simp only [go_sem, simprocAttr, a5a, hc, List.length_map]
 rfl
@[go_sem] theorem c8h : K Γ (.fn 128) [] [] = some (.agg [.fn (.fn 160) [] [] []], []) := by
 rw [K_fn P04.f128 _ _ rfl]
 simp only [go_sem, simprocAttr, a5L]
end
/-! ### The best plan -/
def Book.look (b : Book) (a : Option (List Rest)) (l : List Rest) : Option (List Rest) := match a with
 | none => if b.enough (a1M b.F (a1w l)) then some (a1w l) else none
 | some best => if best.length < l.length then a else if better (a1w l) best && b.enough (a1M b.F (a1w l)) then some (a1w l) else a
end Go.Pm.St
namespace Go.Pm.St
open Ac
abbrev KL := SK × List Rest
def a2P (p : KL) (own : List Rest) : KL := match own with
 | [] => (topK p.1, p.2)
 | _ :: _ => (.shared, p.2 ++ own)
def pC (p : KL) : C := .sl p.1 2 (rl p.2)
abbrev psC (ps : List KL) : List (List C) := ps.map fun p => [pC p]
def ow (p : KL) (own : List Rest) : C := match own with
 | [] => .sl (topK p.1) 2 (rl p.2)
 | _ :: _ => .own 2 (rl (p.2 ++ own))
theorem b9Y (p : KL) (own : List Rest) : a0r (ow p own) = pC (a2P p own) := by cases own <;> rfl
theorem b5i (p : KL) (k : SK) (own : List Rest) (h : p.2.length + own.length <= room) : appended 2 (.sc (.sl (topK p.1) 2 (rl p.2))) (.sc (.sl k 2 (rl own))) = some (ow p own) := by
 obtain ⟨kp, l⟩ := p
 cases own with
 | nil => cases kp <;> simp at h <;> simp [appended, elems, topK, ow, h]
 | cons x own => cases kp <;> simp at h <;> simp [appended, elems, topK, ow, rl, h]
theorem b9W (p : KL) (own : List Rest) (n : Nat) : C.under n (ow p own) = true := by cases own <;> rfl
attribute [go_sem] b9W
def Book.a0V (b : Book) : Nat -> List KL
 | 0 => [(.nil, [])]
 | i + 1 => (b.a0V i).flatMap fun p => (b.alone i).map (a2P p)
theorem b7F (p : KL) (own : List Rest) : (a2P p own).2 = p.2 ++ own := by cases own <;> simp [a2P]
def Neat (p : KL) : Prop := (p.1 = .nil /\ p.2 = []) \/ (p.1 ≠ .nil /\ p.2 ≠ [])
theorem b7V {p : KL} (h : Neat p) (own : List Rest) : Neat (a2P p own) := by
  obtain ⟨k, l⟩ := p
  cases own with
  | nil => rcases h with ⟨h1, h2⟩ | ⟨h1, h2⟩
           · simp only at h1 h2; subst h1 h2; exact .inl ⟨rfl, rfl⟩
           · refine .inr ⟨?_, h2⟩
             cases k <;> simp_all [a2P, topK]
  | cons x own => exact .inr ⟨by simp [a2P], by simp [a2P]⟩
theorem b2f (b : Book) : ∀ i, ∀ p ∈ b.a0V i, Neat p
 | 0, p, h => by simp only [Book.a0V, List.mem_singleton] at h; subst h; exact .inl ⟨rfl, rfl⟩
 | i + 1, p, h => by
  simp only [Book.a0V, List.mem_flatMap, List.mem_map] at h
  obtain ⟨q, hq, own, -, rfl⟩ := h
  exact b7V (b2f b i q hq) own
theorem d9m (set : Nat) (l : List Rest) : ∀ j, (subN set l j).Sublist (l.take j)
 | 0 => by simp [subN]
 | j + 1 => by
  have ih := d9m set l j
  cases h : l[j]? with
  | none =>
   have e : subN set l (j + 1) = subN set l j := by
    simp only [subN, List.range_succ, List.filter_append, List.filterMap_append]
    cases hb : b1v set j <;> simp [hb, h]
   rw [e]
   have hl : l.length <= j := List.getElem?_eq_none_iff.1 h
   rw [List.take_of_length_le (by omega)]
   rwa [List.take_of_length_le hl] at ih
  | some x =>
   rw [b8m set h, take_snoc h]
   split
   ·exact ih.append (List.Sublist.refl _)
   ·exact ih.trans (List.sublist_append_left _ _)
theorem sub_sub (set : Nat) (l : List Rest) : (sub set l).Sublist l := by
 have := d9m set l l.length
 rwa [List.take_length] at this
theorem d9r (b : Book) (i : Nat) : (b.free i).Nodup /\ ∀ x ∈ b.free i, x.singer = i := by
 constructor
 ·simp only [Book.free, a7u, List.Nodup]
  rw [List.pairwise_map]
  refine ((List.pairwise_lt_range (n := b.days.length - b.o)).filter _).imp fun h => ?_
  simp only [Ne, Rest.mk.injEq]; omega
 ·intro x hx
  simp only [Book.free, a7u, List.mem_map] at hx
  obtain ⟨k, -, rfl⟩ := hx; rfl
theorem d8Y {b : Book} {i : Nat} {l : List Rest} (h : l ∈ b.alone i) : l.Nodup /\ ∀ x ∈ l, x.singer = i := by
 simp only [Book.alone, a5c, List.mem_filter, List.mem_map] at h
 obtain ⟨⟨s, -, rfl⟩, -⟩ := h
 obtain ⟨h1, h2⟩ := d9r b i
 have hs := sub_sub s (b.free i)
 exact ⟨h1.sublist hs, fun x hx => h2 x (hs.subset hx)⟩
theorem d8K (b : Book) : ∀ i, ∀ p ∈ b.a0V i, p.2.Nodup /\ ∀ x ∈ p.2, x.singer < i
 | 0, p, h => by simp only [Book.a0V, List.mem_singleton] at h; subst h; exact ⟨List.nodup_nil, fun x hx => by cases hx⟩
 | i + 1, p, h => by
  simp only [Book.a0V, List.mem_flatMap, List.mem_map] at h
  obtain ⟨q, hq, own, ho, rfl⟩ := h
  obtain ⟨h1, h2⟩ := d8K b i q hq
  obtain ⟨h3, h4⟩ := d8Y ho
  rw [b7F]
  refine ⟨List.nodup_append.2 ⟨h1, h3, fun x hx y hy e => ?_⟩, fun x hx => ?_⟩
  ·subst e; have := h2 x hx; have := h4 x hy; omega
  ·rcases List.mem_append.1 hx with hx | hx
   ·have := h2 x hx; omega
   ·have := h4 x hx; omega
theorem a9t {b : Book} (hs : Sane b) {i : Nat} {l : List Rest} (h : l ∈ b.alone i) : l.length <= 5 := by
 simp only [Book.alone, a5c, List.mem_filter, List.mem_map] at h
 obtain ⟨⟨s, -, rfl⟩, -⟩ := h
 exact Nat.le_trans (b1n _ _ _) (a9i hs i)
theorem a9M {b : Book} (hs : Sane b) (i : Nat) : (b.alone i).length <= 32 := Nat.le_trans (b1s _ _ _) (b6h (a9i hs i))
theorem a7q {b : Book} (hs : Sane b) : ∀ i, ∀ p ∈ b.a0V i, p.2.length <= 5 * i
 | 0, p, h => by simp only [Book.a0V, List.mem_singleton] at h; subst h; simp
 | i + 1, p, h => by
  simp only [Book.a0V, List.mem_flatMap, List.mem_map] at h
  obtain ⟨q, hq, own, ho, rfl⟩ := h
  have := a7q hs i q hq
  have := a9t hs ho
  rw [b7F, List.length_append]; omega
theorem a8h {b : Book} (hs : Sane b) : ∀ i, (b.a0V i).length <= 32 ^ i
 | 0 => by simp [Book.a0V]
 | i + 1 => by
  have h := a2H (fun p => (b.alone i).map (a2P p)) 32 (b.a0V i) (fun p _ => by rw [List.length_map]; exact a9M hs i)
  have h2 := Nat.mul_le_mul_right 32 (a8h hs i)
  rw [Nat.pow_succ]
  exact Nat.le_trans h h2
theorem b2O {b : Book} (hs : Sane b) (i m : Nat) (hi : i <= 2) : (((b.a0V i).take m).flatMap fun p => (b.alone i).map (a2P p)).length <= 32768 := by
 have h := a2H (fun p => (b.alone i).map (a2P p)) 32 ((b.a0V i).take m) (fun p _ => by rw [List.length_map]; exact a9M hs i)
 have h1 : ((b.a0V i).take m).length <= 32 ^ i := Nat.le_trans (by rw [List.length_take]; exact Nat.min_le_right _ _) (a8h hs i)
 have h2 : 32 ^ i <= 32 ^ 2 := Nat.pow_le_pow_right (by decide) hi
 have : (32 : Nat) ^ 2 = 1024 := by decide
 omega
section
variable {Γ : Env} [P04 Γ] [G04 Γ]
theorem c0B (b : Book) (hs : Sane b) (i : Nat) (more : List KL) (hmore : more.length <= 32768) (kp : SK) (l : List Rest) (hp : l.length <= 10) (ka : SK) (all : List KL) (m : Nat) {β : Type} (Q : Ex -> St -> Option β) :
 E Γ a8Z ⟨[(4, .sc (.ptr 1 0)), (7, vi i), (8, .sc (ownC 1 (psC more))), (10, .sc (.sl kp 2 (rl l))), (29, vi b.singers.length), (30, vi i), (33, .sc (.sl ka 1 (psC all))), (34, vi all.length), (35, vi m), (41, .sc (.sl (kS (b.alone i)) 1 (rlC (b.alone i)))), (42, vi (b.alone i).length), (43, vi 0)], [.var b.c, .var (O b b.now)]⟩ Q =
 Q (.exit 4) ⟨[(4, .sc (.ptr 1 0)), (7, vi i), (8, .sc (ownC 1 (psC (more ++ (b.alone i).map (a2P (kp, l)))))), (10, .sc (.sl kp 2 (rl l))), (29, vi b.singers.length), (30, vi i), (33, .sc (.sl ka 1 (psC all))), (34, vi all.length), (35, vi m), (41, .sc (.sl (kS (b.alone i)) 1 (rlC (b.alone i)))), (42, vi (b.alone i).length), (43, vi (b.alone i).length), (44, vb false)], [.var b.c, .var (O b b.now)]⟩ := by
 have hO := a1R b b.now
 have h32 := a9M hs i
 refine a4Q (fun j => ⟨[(4, .sc (.ptr 1 0)), (7, vi i), (8, .sc (ownC 1 (psC (more ++ ((b.alone i).take j).map (a2P (kp, l)))))), (10, .sc (.sl kp 2 (rl l))), (29, vi b.singers.length), (30, vi i), (33, .sc (.sl ka 1 (psC all))), (34, vi all.length), (35, vi m), (41, .sc (.sl (kS (b.alone i)) 1 (rlC (b.alone i)))), (42, vi (b.alone i).length), (43, vi j)], [.var b.c, .var (O b b.now)]⟩) (b.alone i)
  (.exit 4, ⟨[(4, .sc (.ptr 1 0)), (7, vi i), (8, .sc (ownC 1 (psC (more ++ (b.alone i).map (a2P (kp, l)))))), (10, .sc (.sl kp 2 (rl l))), (29, vi b.singers.length), (30, vi i), (33, .sc (.sl ka 1 (psC all))), (34, vi all.length), (35, vi m), (41, .sc (.sl (kS (b.alone i)) 1 (rlC (b.alone i)))), (42, vi (b.alone i).length), (43, vi (b.alone i).length), (44, vb false)], [.var b.c, .var (O b b.now)]⟩) Q ?_ ?_ ?_
 ·simp
 ·intro j own hx
  have hlt : j < (b.alone i).length := (List.getElem?_eq_some_iff.1 hx).1
  have hw : IntKind.i64.wrap ((j : Int) + 1) = j + 1 := wrap_i64 (by omega) (by omega)
  have ho5 := a9t hs (List.mem_of_getElem? hx)
  have hS := a6u 2 kp (rl l) l.length (by simp)
  have hA := b5i (kp, l) (kS own) own (by simp only [room]; omega)
  have hU := b9Y (kp, l) own
  have happ := a2K 1 (psC (more ++ ((b.alone i).take j).map (a2P (kp, l)))) .full [pC (a2P (kp, l) own)] (by simp only [List.length_map, List.length_append, List.length_take, room]; omega)
  have hpp : ∀ q : KL, C.pure (pC q) = true := fun _ => rfl
  have hpu : ∀ q : KL, a0r (pC q) = pC q := fun _ => rfl
  have hpc : ∀ q : KL, (V.sc (pC q)).cells = [pC q] := fun _ => rfl
  have hpn : ∀ (q : KL) n, C.under n (pC q) = true := fun _ _ => rfl
  have hxc : (rlC (b.alone i))[j]? = some [rC own] := by rw [rlC, List.getElem?_map, hx]; rfl
  rw [take_snoc hx, List.map_append, ← List.append_assoc, List.map_cons, List.map_nil]
  have hpe : psC (more ++ ((b.alone i).take j).map (a2P (kp, l)) ++ [a2P (kp, l) own]) = psC (more ++ ((b.alone i).take j).map (a2P (kp, l))) ++ [[pC (a2P (kp, l) own)]] := by simp
  rw [hpe]
  simp only at hA
  (simp only [go_sem, simprocAttr, a2l, hx, hxc, rC, hw, hO, hS, hA, hU, happ, hpu, hpn, hpp, hpc, List.length_map]; repeat' ((first | refine brY ?_ | refine brN ?_ | refine brA ?_ | refine brD ?_ | refine brF ?_); (try simp only [go_sem, simprocAttr, a2l, hx, hxc, rC, hw, hO, hS, hA, hU, happ, hpu, hpn, hpp, hpc, List.length_map])))
  rfl
 ·simp only [List.take_length]
  (simp only [go_sem, simprocAttr, a2l]; repeat' ((first | refine brY ?_ | refine brN ?_ | refine brA ?_ | refine brD ?_ | refine brF ?_); (try simp only [go_sem, simprocAttr, a2l])))
theorem b8p (ps : List KL) : a0r (ownC 1 (psC ps)) = .sl (kS ps) 1 (psC ps) := by cases ps <;> rfl
theorem c0A (b : Book) [hb : b.Fits] (hs : Sane b) (hne : b.now ≠ []) (i : Nat) (hi : i < b.singers.length) (ka : SK) {β : Type} (Q : Ex -> St -> Option β) :
 E Γ a8Y ⟨[(4, .sc (.ptr 1 0)), (7, vi i), (8, .sc (.sl .nil 1 [])), (29, vi b.singers.length), (30, vi i), (33, .sc (.sl ka 1 (psC (b.a0V i)))), (34, vi (b.a0V i).length), (35, vi 0)], [.var b.c, .var (O b b.now)]⟩ Q =
 Q (.exit 2) ⟨[(4, .sc (.ptr 1 0)), (7, vi i), (8, .sc (ownC 1 (psC (b.a0V (i + 1))))), (29, vi b.singers.length), (30, vi i), (33, .sc (.sl ka 1 (psC (b.a0V i)))), (34, vi (b.a0V i).length), (35, vi (b.a0V i).length), (36, vb false)], [.var b.c, .var (O b b.now)]⟩ := by
 have hO := a1R b b.now
 have hun := O_un b b.now
 have hOp := a3w b b.now
 have hs3 := hs.s3
 have hi2 : i <= 2 := by omega
 have hlen : (b.a0V i).length <= 1024 := by
  have h1 := a8h hs i
  have h2 : 32 ^ i <= 32 ^ 2 := Nat.pow_le_pow_right (by decide) hi2
  have : (32 : Nat) ^ 2 = 1024 := by decide
  omega
 have hak := c0G (Γ := Γ) b hs hne i hi
 refine a4Q (fun m => ⟨[(4, .sc (.ptr 1 0)), (7, vi i), (8, .sc (ownC 1 (psC (((b.a0V i).take m).flatMap fun p => (b.alone i).map (a2P p))))), (29, vi b.singers.length), (30, vi i), (33, .sc (.sl ka 1 (psC (b.a0V i)))), (34, vi (b.a0V i).length), (35, vi m)], [.var b.c, .var (O b b.now)]⟩) (b.a0V i)
  (.exit 2, ⟨[(4, .sc (.ptr 1 0)), (7, vi i), (8, .sc (ownC 1 (psC (b.a0V (i + 1))))), (29, vi b.singers.length), (30, vi i), (33, .sc (.sl ka 1 (psC (b.a0V i)))), (34, vi (b.a0V i).length), (35, vi (b.a0V i).length), (36, vb false)], [.var b.c, .var (O b b.now)]⟩) Q ?_ ?_ ?_
 ·simp [ownC]
 ·intro m p hx
  obtain ⟨kp, l⟩ := p
  have hlt : m < (b.a0V i).length := (List.getElem?_eq_some_iff.1 hx).1
  have hw : IntKind.i64.wrap ((m : Int) + 1) = m + 1 := wrap_i64 (by omega) (by omega)
  have hl10 : l.length <= 10 := by have := a7q hs i _ (List.mem_of_getElem? hx); simp only at this; omega
  have hL {β : Type} (Q : Ex -> St -> Option β) := c0B (Γ := Γ) b hs i (((b.a0V i).take m).flatMap fun p => (b.alone i).map (a2P p)) (b2O hs i m hi2) kp l hl10 ka (b.a0V i) m Q
  have hpk : pC (kp, l) = .sl kp 2 (rl l) := rfl
  have hxc : (psC (b.a0V i))[m]? = some [pC (kp, l)] := by rw [List.getElem?_map, hx]; rfl
  rw [take_snoc hx, List.flatMap_append, List.flatMap_cons, List.flatMap_nil, List.append_nil]
  (simp only [go_sem, simprocAttr, a2k, hx, hxc, hpk, hw, hO, hun, hOp, hak, hL, List.length_map]; repeat' ((first | refine brY ?_ | refine brN ?_ | refine brA ?_ | refine brD ?_ | refine brF ?_); (try simp only [go_sem, simprocAttr, a2k, hx, hxc, hpk, hw, hO, hun, hOp, hak, hL, List.length_map])))
  rfl
 ·simp only [List.take_length]
  (simp only [go_sem, simprocAttr, a2k]; repeat' ((first | refine brY ?_ | refine brN ?_ | refine brA ?_ | refine brD ?_ | refine brF ?_); (try simp only [go_sem, simprocAttr, a2k])))
  rfl
def kA (b : Book) : Nat -> SK
 | 0 => .full
 | i + 1 => kS (b.a0V (i + 1))
theorem c0z (b : Book) [hb : b.Fits] (hs : Sane b) (hne : b.now ≠ []) {β : Type} (Q : Ex -> St -> Option β) :
 E Γ a8X ⟨[(4, .sc (.ptr 1 0)), (6, .sc (.sl .full 1 [[.sl .nil 2 []]])), (29, vi b.singers.length), (30, vi 0)], [.var b.c, .var (O b b.now)]⟩ Q =
 Q (.exit 0) ⟨[(4, .sc (.ptr 1 0)), (6, .sc (.sl (kA b b.singers.length) 1 (psC (b.a0V b.singers.length)))), (29, vi b.singers.length), (30, vi b.singers.length), (31, vb false)], [.var b.c, .var (O b b.now)]⟩ := by
 have hO := a1R b b.now
 have hs3 := hs.s3
 refine a4q b.singers.length (fun i (_ : Unit) => ⟨[(4, .sc (.ptr 1 0)), (6, .sc (.sl (kA b i) 1 (psC (b.a0V i)))), (29, vi b.singers.length), (30, vi i)], [.var b.c, .var (O b b.now)]⟩) (fun _ _ => True)
  (fun _ => (.exit 0, ⟨[(4, .sc (.ptr 1 0)), (6, .sc (.sl (kA b b.singers.length) 1 (psC (b.a0V b.singers.length)))), (29, vi b.singers.length), (30, vi b.singers.length), (31, vb false)], [.var b.c, .var (O b b.now)]⟩)) () rfl trivial ?_ ?_ (fun _ _ => rfl)
 ·intro i _ hi _
  refine ⟨(), trivial, ?_⟩
  have hlt : decide ((i : Int) < b.singers.length) = true := decide_eq_true (by omega)
  have hw : IntKind.i64.wrap ((i : Int) + 1) = i + 1 := wrap_i64 (by omega) (by omega)
  have hL {β : Type} (Q : Ex -> St -> Option β) := c0A (Γ := Γ) b hs hne i hi (kA b i) Q
  have hup := b8p (b.a0V (i + 1))
  simp only [go_sem, simprocAttr, a6W, hlt, hw, hO, hL, hup, List.length_map]
  rfl
 ·intro _ _
  simp only [go_sem, simprocAttr, a6W]
end
end Go.Pm.St
namespace Go.Pm.St
open Ac
def a3L (a : Option (List Rest)) : C := match a with
 | none => .sl .nil 2 []
 | some l => .sl (kS l) 2 (rl l)
theorem b5p {t : List (Nat × V)} {i : Nat} {x0 x1 x2 : Obj} {s : List Rest} {n : Nat} (hi : get t i = .sc (.msl 3 0 n 0 2)) (hn : s.length = n) (hl : s.length <= 100) :
 a3G i ⟨t, [x0, x1, x2, .var (a1A s)]⟩ = some ⟨(i, .sc (.sl .shared 2 (rl s))) :: t, [x0, x1, x2, .dead]⟩ := by
 subst hn
 have hm : a3p 400 (.msl 3 0 s.length 0 2) [x0, x1, x2, .var (a1A s)] = some (.sl .shared 2 (rl s), [x0, x1, x2, .dead]) :=
  b2J rfl (b8T s) (fun c hc => (a8z s c hc).1) (by rw [b2W]; omega) (b1J s) (a9V s)
 simp only [a3G, hi, hm]
theorem c0R {t : List (Nat × V)} {i : Nat} {h : List Obj} {k : SK} {es : Nat} {l : List (List C)} (hi : get t i = .sc (.sl k es l)) : a3G i ⟨t, h⟩ = some ⟨t, h⟩ := by
 simp only [a3G, hi]
theorem b9g {b : Book} {a : Option (List Rest)} {l : List Rest} (ha : ∀ s, a = some s -> s.length <= 15) (hl : l.length <= 15) : ∀ s, b.look a l = some s -> s.length <= 15 := by
 intro s hs
 unfold Book.look at hs
 split at hs
 ·split at hs
  ·simp only [Option.some.injEq] at hs; subst hs; rw [a8l]; exact hl
  ·cases hs
 ·rename_i best
  split at hs
  ·exact ha s hs
  ·split at hs
   ·simp only [Option.some.injEq] at hs; subst hs; rw [a8l]; exact hl
   ·exact ha s hs
theorem a9y {b : Book} : ∀ (ps : List KL) (a : Option (List Rest)), (∀ s, a = some s -> s.length <= 15) -> (∀ p ∈ ps, p.2.length <= 15) -> ∀ s, ps.foldl (fun a p => b.look a p.2) a = some s -> s.length <= 15
 | [], a, ha, _, s, hs => ha s hs
 | p :: ps, a, ha, hp, s, hs => a9y ps _ (b9g ha (hp p (by simp))) (fun q hq => hp q (by simp [hq])) s hs
theorem kS_n : kS ([] : List Rest) = .nil := rfl
theorem a2E : a1w [] = [] := rfl
def Book.looks (b : Book) (ps : List KL) : Option (List Rest) := ps.foldl (fun a p => b.look a p.2) none
theorem b6C (b : Book) (ps : List KL) (k : SK) (l : List Rest) : b.looks (ps ++ [(k, l)]) = b.look (b.looks ps) l := by simp [Book.looks]
section
variable {b : Book} {l best : List Rest}
theorem b6a (h : b.enough (a1M b.F (a1w l)) = true) : b.look none l = some (a1w l) := by simp [Book.look, h]
theorem b5Z (h : b.enough (a1M b.F (a1w l)) = false) : b.look none l = none := by simp [Book.look, h]
theorem b7O (h : best.length < l.length) : b.look (some best) l = some best := by simp [Book.look, h]
theorem b7P (h : ¬ best.length < l.length) (h1 : better (a1w l) best = true) (h2 : b.enough (a1M b.F (a1w l)) = true) : b.look (some best) l = some (a1w l) := by simp [Book.look, h, h1, h2]
theorem b7N (h : ¬ best.length < l.length) (h1 : better (a1w l) best = false) : b.look (some best) l = some best := by simp [Book.look, h1]
theorem b7M (h : ¬ best.length < l.length) (h2 : b.enough (a1M b.F (a1w l)) = false) : b.look (some best) l = some best := by simp [Book.look, h2]
end
section
variable {Γ : Env} [P04 Γ] [G04 Γ]
theorem clone_nil (H : List Obj) : K Γ (.fn 231) [.sc (.sl .nil 2 [])] H = some (.sc (.sl .nil 2 []), H) := by
 rw [K_fn P04.f231 _ _ rfl]
 simp only [go_sem, simprocAttr, a1a]
theorem b9M (x0 x1 x2 : Obj) (u0 : x0.under 3 = true) (u1 : x1.under 3 = true) (u2 : x2.under 3 = true) : K Γ (.fn 130) [.sc (.sl .nil 2 []), .sc (.fn (.fn 131) [] [] [])] [x0, x1, x2] = some (.tup [], [x0, x1, x2]) := by
 have h1 : K Γ (.fn 178) [.sc (.sl .nil 2 []), vi 0, vi 0, .sc (.fn (.fn 131) [] [] [])] [x0, x1, x2] = some (.tup [], [x0, x1, x2]) := by
  rw [K_fn P04.f178 _ _ rfl]
  simp only [go_sem, simprocAttr, a1c, a1L, a0F, a1J, u0, u1, u2]
 have h2 (v : Int) : K Γ (.fn 162) [.sc (.sl .nil 2 []), vi 0, vi 0, vi v, .sc (.fn (.fn 131) [] [] [])] [x0, x1, x2] = some (.tup [], [x0, x1, x2]) := by
  rw [K_fn P04.f162 _ _ rfl]
  simp only [go_sem, simprocAttr, a1v, a1Y, a1X, a1J, h1, u0, u1, u2]
 obtain ⟨v, _, _, hv⟩ := c0k (Γ := Γ) 0 (by omega)
 have hw : IntKind.u64.wrap 0 = 0 := by decide
 replace hv : K Γ (.fn 161) [.sc (.int .u64 0)] [] = some (vi v, []) := hv
 rw [K_fn P04.f130 _ _ rfl]
 simp only [go_sem, simprocAttr, a0X, hw, hv, h2, List.length_nil, u0, u1, u2]
theorem c0C (b : Book) [hb : b.Fits] (hs : Sane b) (ka : SK) (ps : List KL) (hps : ps.length <= 100000) (hneat : ∀ p ∈ ps, Neat p) (hl15 : ∀ p ∈ ps, p.2.length <= 15) (hM : ∀ p ∈ ps, p.2.Nodup) {β : Type} (Q : Ex -> St -> Option β) :
 E Γ a9a ⟨[(4, .sc (.ptr 1 0)), (13, .sc (.sl .nil 2 [])), (14, vb false), (15, .sc (.ptr 2 0)), (63, .sc (.sl ka 1 (psC ps))), (64, vi ps.length), (65, vi 0)], [.var b.c, .var (O b b.now), .var [.fn (.fn 160) [] [] []]]⟩ Q =
 Q (.exit 6) ⟨[(4, .sc (.ptr 1 0)), (13, .sc (a3L (b.looks ps))), (14, vb (b.looks ps).isSome), (15, .sc (.ptr 2 0)), (63, .sc (.sl ka 1 (psC ps))), (64, vi ps.length), (65, vi ps.length), (66, vb false)], [.var b.c, .var (O b b.now), .var [.fn (.fn 160) [] [] []]]⟩ := by
 have hO := a1R b b.now
 have hun := O_un b b.now
 have hOp := a3w b b.now
 refine a4Q (fun m => ⟨[(4, .sc (.ptr 1 0)), (13, .sc (a3L (b.looks (ps.take m)))), (14, vb (b.looks (ps.take m)).isSome), (15, .sc (.ptr 2 0)), (63, .sc (.sl ka 1 (psC ps))), (64, vi ps.length), (65, vi m)], [.var b.c, .var (O b b.now), .var [.fn (.fn 160) [] [] []]]⟩) ps
  (.exit 6, ⟨[(4, .sc (.ptr 1 0)), (13, .sc (a3L (b.looks ps))), (14, vb (b.looks ps).isSome), (15, .sc (.ptr 2 0)), (63, .sc (.sl ka 1 (psC ps))), (64, vi ps.length), (65, vi ps.length), (66, vb false)], [.var b.c, .var (O b b.now), .var [.fn (.fn 160) [] [] []]]⟩) Q ?_ ?_ ?_
 ·rfl
 ·intro m p hx
  have hlt : m < ps.length := (List.getElem?_eq_some_iff.1 hx).1
  have hw : IntKind.i64.wrap ((m : Int) + 1) = m + 1 := wrap_i64 (by omega) (by omega)
  have hmem := List.mem_of_getElem? hx
  have hA15 := a9y (b := b) (ps.take m) none (by simp) (fun q hq => hl15 q (List.mem_of_mem_take hq))
  have hp15 := hl15 p hmem
  have hpM := hM p hmem
  have hpn := hneat p hmem
  obtain ⟨k, l⟩ := p
  simp only at hp15 hpM
  rw [take_snoc hx, b6C]
  change ∀ s, b.looks (ps.take m) = some s -> s.length <= 15 at hA15
  generalize b.looks (ps.take m) = a at hA15 ⊢
  have hpk : pC (k, l) = .sl k 2 (rl l) := rfl
  have hxc : (psC ps)[m]? = some [pC (k, l)] := by rw [List.getElem?_map, hx]; rfl
  have hlen := a8l l
  have hwk (kk : SK) := b2z (Γ := Γ) kk (a1w l) (by omega) b.F
  have hen := b4i (Γ := Γ) b hs (a1M b.F (a1w l)) (.iset 2 b.F) (.sl (kT b.now) 4 (b.now.map a1g)) rfl
  have hgt (best : List Rest) : decide ((best.length : Int) < (l.length : Int)) = decide (best.length < l.length) := by
   rw [decide_eq_decide]; omega
  have hbet (k1 : SK) (best : List Rest) (hbl : best.length <= 15) := b8z (Γ := Γ) k1 (kS best) (a1w l) best (by omega) (by omega)
  rcases hpn with ⟨h1, h2⟩ | ⟨h1, h2⟩
  ·simp only at h1 h2
   subst h1 h2
   rw [a2E] at hwk
   simp only [rl, List.map_nil] at hwk
   have hcl := clone_nil (Γ := Γ) [.var b.c, .var (O b b.now), .var [.fn (.fn 160) [] [] []]]
   have hso := b9M (Γ := Γ) (.var b.c) (.var (O b b.now)) (.var [.fn (.fn 160) [] [] []]) (by simp [go_sem]) (by simp [go_sem, hO]) (by simp [go_sem])
   have hfz {t : List (Nat × V)} {h : List Obj} (hi : get t 17 = .sc (.sl .nil 2 [])) : a3G 17 ⟨t, h⟩ = some ⟨t, h⟩ := c0R hi
   cases a with
   | none =>
    cases he : b.enough (a1M b.F (a1w ([] : List Rest))) with
    | true =>
     rw [b6a he]
     rw [he, a2E] at hen
     simp only [a3L, Option.isSome_none, Option.isSome_some, a2E, kS_n]
     (simp only [go_sem, simprocAttr, a0s, hxc, hpk, hcl, hso, hfz, hwk, hen, hw, hO, hun, hOp, List.length_map, List.map_nil, List.length_nil]; repeat' ((first | refine brY ?_ | refine brN ?_ | refine brA ?_ | refine brD ?_ | refine brF ?_); (try simp only [go_sem, simprocAttr, a0s, hxc, hpk, hcl, hso, hfz, hwk, hen, hw, hO, hun, hOp, List.length_map, List.map_nil, List.length_nil])))
     rfl
    | false =>
     rw [b5Z he]
     rw [he, a2E] at hen
     simp only [a3L, Option.isSome_none, Option.isSome_some, a2E, kS_n]
     (simp only [go_sem, simprocAttr, a0s, hxc, hpk, hcl, hso, hfz, hwk, hen, hw, hO, hun, hOp, List.length_map, List.map_nil, List.length_nil]; repeat' ((first | refine brY ?_ | refine brN ?_ | refine brA ?_ | refine brD ?_ | refine brF ?_); (try simp only [go_sem, simprocAttr, a0s, hxc, hpk, hcl, hso, hfz, hwk, hen, hw, hO, hun, hOp, List.length_map, List.map_nil, List.length_nil])))
     rfl
   | some best =>
    have hb15 := hA15 best rfl
    by_cases hmore : best.length < ([] : List Rest).length
    ·exact absurd hmore (by simp)
    ·have hd := hgt best
     rw [decide_eq_false hmore] at hd
     have hbk := hbet .nil best hb15
     cases hbe : better (a1w ([] : List Rest)) best with
     | true =>
      cases he : b.enough (a1M b.F (a1w ([] : List Rest))) with
      | true =>
       rw [b7P hmore hbe he]
       rw [he, a2E] at hen
       rw [hbe, a2E] at hbk
       simp only [rl, List.map_nil] at hbk
       simp only [a3L, Option.isSome_none, Option.isSome_some, a2E, kS_n]
       (simp only [go_sem, simprocAttr, a0s, hd, hbk, hxc, hpk, hcl, hso, hfz, hwk, hen, hw, hO, hun, hOp, List.length_map, List.map_nil, List.length_nil]; repeat' ((first | refine brY ?_ | refine brN ?_ | refine brA ?_ | refine brD ?_ | refine brF ?_); (try simp only [go_sem, simprocAttr, a0s, hd, hbk, hxc, hpk, hcl, hso, hfz, hwk, hen, hw, hO, hun, hOp, List.length_map, List.map_nil, List.length_nil])))
       rfl
      | false =>
       rw [b7M hmore he]
       rw [he, a2E] at hen
       rw [hbe, a2E] at hbk
       simp only [rl, List.map_nil] at hbk
       simp only [a3L, Option.isSome_none, Option.isSome_some, a2E, kS_n]
       (simp only [go_sem, simprocAttr, a0s, hd, hbk, hxc, hpk, hcl, hso, hfz, hwk, hen, hw, hO, hun, hOp, List.length_map, List.map_nil, List.length_nil]; repeat' ((first | refine brY ?_ | refine brN ?_ | refine brA ?_ | refine brD ?_ | refine brF ?_); (try simp only [go_sem, simprocAttr, a0s, hd, hbk, hxc, hpk, hcl, hso, hfz, hwk, hen, hw, hO, hun, hOp, List.length_map, List.map_nil, List.length_nil])))
       rfl
     | false =>
      rw [b7N hmore hbe]
      rw [hbe, a2E] at hbk
      simp only [rl, List.map_nil] at hbk
      simp only [a3L, Option.isSome_none, Option.isSome_some, a2E, kS_n]
      (simp only [go_sem, simprocAttr, a0s, hd, hbk, hxc, hpk, hcl, hso, hfz, hwk, hen, hw, hO, hun, hOp, List.length_map, List.map_nil, List.length_nil]; repeat' ((first | refine brY ?_ | refine brN ?_ | refine brA ?_ | refine brD ?_ | refine brF ?_); (try simp only [go_sem, simprocAttr, a0s, hd, hbk, hxc, hpk, hcl, hso, hfz, hwk, hen, hw, hO, hun, hOp, List.length_map, List.map_nil, List.length_nil])))
      rfl
  ·simp only at h1 h2
   have hcl := c0J (Γ := Γ) k l [.var b.c, .var (O b b.now), .var [.fn (.fn 160) [] [] []]] 3 rfl (by omega) h2 h1
   have hso := d9T (Γ := Γ) [.var b.c, .var (O b b.now), .var [.fn (.fn 160) [] [] []], .var (a1A l)] 4 3 l rfl (by decide) (by simp [go_sem, hO]) ⟨hp15, hpM⟩ rfl
   have hfz {t : List (Nat × V)} {x0 x1 x2 : Obj} (hi : get t 17 = .sc (.msl 3 0 l.length 0 2)) := b5p (t := t) (i := 17) (x0 := x0) (x1 := x1) (x2 := x2) (s := a1w l) hi hlen (by omega)
   have kSs : kS (a1w l) = .shared := by
    cases hs' : a1w l with
    | nil =>
     rw [hs'] at hlen
     exact absurd (List.length_eq_zero_iff.1 hlen.symm) h2
    | cons x s => rfl
   cases a with
   | none =>
    cases he : b.enough (a1M b.F (a1w l)) with
    | true =>
     rw [b6a he]
     rw [he] at hen
     simp only [a3L, Option.isSome_none, Option.isSome_some, kSs]
     (simp only [go_sem, simprocAttr, a0s, hxc, hpk, hcl, hso, hfz, hwk, hen, hw, hO, hun, hOp, List.length_map, List.map_nil, List.length_nil, a1j]; repeat' ((first | refine brY ?_ | refine brN ?_ | refine brA ?_ | refine brD ?_ | refine brF ?_); (try simp only [go_sem, simprocAttr, a0s, hxc, hpk, hcl, hso, hfz, hwk, hen, hw, hO, hun, hOp, List.length_map, List.map_nil, List.length_nil, a1j])))
     rfl
    | false =>
     rw [b5Z he]
     rw [he] at hen
     simp only [a3L, Option.isSome_none, Option.isSome_some, kSs]
     (simp only [go_sem, simprocAttr, a0s, hxc, hpk, hcl, hso, hfz, hwk, hen, hw, hO, hun, hOp, List.length_map, List.map_nil, List.length_nil, a1j]; repeat' ((first | refine brY ?_ | refine brN ?_ | refine brA ?_ | refine brD ?_ | refine brF ?_); (try simp only [go_sem, simprocAttr, a0s, hxc, hpk, hcl, hso, hfz, hwk, hen, hw, hO, hun, hOp, List.length_map, List.map_nil, List.length_nil, a1j])))
     rfl
   | some best =>
    have hb15 := hA15 best rfl
    by_cases hmore : best.length < l.length
    ·have hd := hgt best
     rw [decide_eq_true hmore] at hd
     rw [b7O hmore]
     simp only [a3L, Option.isSome_none, Option.isSome_some, kSs]
     (simp only [go_sem, simprocAttr, a0s, hxc, hpk, hd, hw, hO, List.length_map, List.map_nil, List.length_nil]; repeat' ((first | refine brY ?_ | refine brN ?_ | refine brA ?_ | refine brD ?_ | refine brF ?_); (try simp only [go_sem, simprocAttr, a0s, hxc, hpk, hd, hw, hO, List.length_map, List.map_nil, List.length_nil])))
     rfl
    ·have hd := hgt best
     rw [decide_eq_false hmore] at hd
     have hbk := hbet .shared best hb15
     cases hbe : better (a1w l) best with
     | true =>
      cases he : b.enough (a1M b.F (a1w l)) with
      | true =>
       rw [b7P hmore hbe he]
       rw [he] at hen
       rw [hbe] at hbk
       simp only [a3L, Option.isSome_none, Option.isSome_some, kSs]
       (simp only [go_sem, simprocAttr, a0s, hd, hbk, hxc, hpk, hcl, hso, hfz, hwk, hen, hw, hO, hun, hOp, List.length_map, List.map_nil, List.length_nil, a1j]; repeat' ((first | refine brY ?_ | refine brN ?_ | refine brA ?_ | refine brD ?_ | refine brF ?_); (try simp only [go_sem, simprocAttr, a0s, hd, hbk, hxc, hpk, hcl, hso, hfz, hwk, hen, hw, hO, hun, hOp, List.length_map, List.map_nil, List.length_nil, a1j])))
       rfl
      | false =>
       rw [b7M hmore he]
       rw [he] at hen
       rw [hbe] at hbk
       simp only [a3L, Option.isSome_none, Option.isSome_some, kSs]
       (simp only [go_sem, simprocAttr, a0s, hd, hbk, hxc, hpk, hcl, hso, hfz, hwk, hen, hw, hO, hun, hOp, List.length_map, List.map_nil, List.length_nil, a1j]; repeat' ((first | refine brY ?_ | refine brN ?_ | refine brA ?_ | refine brD ?_ | refine brF ?_); (try simp only [go_sem, simprocAttr, a0s, hd, hbk, hxc, hpk, hcl, hso, hfz, hwk, hen, hw, hO, hun, hOp, List.length_map, List.map_nil, List.length_nil, a1j])))
       rfl
     | false =>
      rw [b7N hmore hbe]
      rw [hbe] at hbk
      simp only [a3L, Option.isSome_none, Option.isSome_some, kSs]
      (simp only [go_sem, simprocAttr, a0s, hd, hbk, hxc, hpk, hcl, hso, hfz, hwk, hen, hw, hO, hun, hOp, List.length_map, List.map_nil, List.length_nil, a1j]; repeat' ((first | refine brY ?_ | refine brN ?_ | refine brA ?_ | refine brD ?_ | refine brF ?_); (try simp only [go_sem, simprocAttr, a0s, hd, hbk, hxc, hpk, hcl, hso, hfz, hwk, hen, hw, hO, hun, hOp, List.length_map, List.map_nil, List.length_nil, a1j])))
      rfl
 ·simp only [List.take_length]
  (simp only [go_sem, simprocAttr, a0s]; repeat' ((first | refine brY ?_ | refine brN ?_ | refine brA ?_ | refine brD ?_ | refine brF ?_); (try simp only [go_sem, simprocAttr, a0s])))
def Book.best (b : Book) : Option (List Rest) := b.looks (b.a0V b.singers.length)
def Book.plan (b : Book) : List Rest × Int := if b.err true = 0 then (match b.best with | some l => (l, 0) | none => ([], 4)) else ([], b.err true)
def b2o (b : Book) : SK := if b.err true = 0 then (match b.best with | some l => topK (kS l) | none => .nil) else .nil
theorem b9e {b : Book} (hs : Sane b) : (b.a0V b.singers.length).length <= 100000 /\ ∀ p ∈ b.a0V b.singers.length, p.2.length <= 15 := by
 have hs3 := hs.s3
 refine ⟨?_, fun p hp => ?_⟩
 ·have h1 := a8h hs b.singers.length
  have h2 : 32 ^ b.singers.length <= 32 ^ 3 := Nat.pow_le_pow_right (by decide) hs3
  have : (32 : Nat) ^ 3 = 32768 := by decide
  omega
 ·have := a7q hs _ p hp; omega
theorem b7k (b : Book) [hb : b.Fits] :
 K Γ (.fn 107) [.agg b.c] [] = some (.tup [.sc (.sl (b2o b) 2 (rl b.plan.1)), vi b.plan.2], []) := by
 obtain ⟨cs, ha, hlen, hp, hun, hO⟩ := a6O (Γ := Γ) b true
 have hu (m : Nat) : C.a0G m cs = true := a0C m _ hp
 by_cases he : b.err true = 0
 ·obtain ⟨hv, -, hne⟩ := a5T he
  have hs := a2n.1 hv
  obtain rfl := hO he
  obtain ⟨hj1, hj2⟩ := b9e hs
  have hL0 {β : Type} (Q : Ex -> St -> Option β) := c0z (Γ := Γ) b hs hne Q
  have hL3 {β : Type} (Q : Ex -> St -> Option β) := c0C (Γ := Γ) b hs (kA b b.singers.length) (b.a0V b.singers.length) hj1 (b2f b _) hj2 (fun p hp => (d8K b _ p hp).1) Q
  change ∀ {β : Type} (Q : Ex -> St -> Option β), _ = Q (.exit 6) ⟨[(4, .sc (.ptr 1 0)), (13, .sc (a3L b.best)), (14, vb b.best.isSome), _, _, _, _, _], _⟩ at hL3
  rw [he] at ha
  simp only [Book.plan, b2o, if_pos he]
  cases hbe : b.best with
  | none =>
   simp only [hbe, a3L, Option.isSome_none] at hL3
   rw [K_fn P04.f107 _ _ rfl]
   simp only [go_sem, simprocAttr, a4U, ha, hu, hun, hp, hL0, hL3, List.length_map, List.map_nil]
  | some l =>
   simp only [hbe, a3L, Option.isSome_some] at hL3
   have hS := a6u 2 (kS l) (rl l) l.length (by simp)
   rw [K_fn P04.f107 _ _ rfl]
   simp only [go_sem, simprocAttr, a4U, ha, hu, hun, hp, hL0, hL3, hS, List.length_map]
 ·have hd : decide (b.err true = 0) = false := decide_eq_false he
  simp only [Book.plan, b2o, if_neg he]
  rw [K_fn P04.f107 _ _ rfl]
  simp only [go_sem, simprocAttr, a4U, ha, hu, hun, hlen, hp, hd, List.map_nil]
end
end Go.Pm.St
namespace Go.Pm.St
open Ac
def chB (needs : Int) (k : SK) (l : List Sign) : Book := ⟨.full, [⟨10, 11⟩, ⟨8, 8⟩], ⟨2, 3⟩, ⟨4, 4⟩, ⟨3, 4⟩, .full, [⟨1, 1, 1⟩, ⟨0, 1, needs⟩, ⟨0, 1, 1⟩, ⟨2, 0, 1⟩], .nil, [], k, l⟩
def ownX : Book := chB 1 .nil []
def a7j : Book := chB 2 .nil []
def sg3 : Sign := ⟨0, 0, 3, 0⟩
def sg2 : Sign := ⟨1, 0, 2, 0⟩
def a5j : Book := chB 1 .full [sg3]
def a7e : Book := chB 1 .full [sg3, sg2]
instance fits_ch (needs : Int) (k : SK) : (chB needs k []).Fits := ⟨by simp [chB], by simp [chB], by simp [chB], by simp [chB]⟩
instance fits_own : ownX.Fits := fits_ch _ _
instance fits_great : a7j.Fits := fits_ch _ _
instance fits_tried : a5j.Fits := ⟨by simp [a5j, chB], by simp [a5j, chB], by simp [a5j, chB], by simp [a5j, chB]⟩
instance fits_torn : a7e.Fits := ⟨by simp [a7e, chB], by simp [a7e, chB], by simp [a7e, chB], by simp [a7e, chB]⟩
theorem b9q : ownX.plan = ([⟨0, 0⟩, ⟨1, 1⟩], 0) := by decide +kernel
theorem b6u : a7j.plan = ([⟨0, 0⟩, ⟨2, 1⟩], 0) := by decide +kernel
theorem a7k (x y : Rest) : a0c [1, 1] x.c y.c = some (decide (x = y)) := by
 rw [Rest.a0c]
 congr 1
 obtain ⟨a, b⟩ := x; obtain ⟨c, d⟩ := y
 by_cases h1 : a = c <;> by_cases h2 : b = d <;> simp [h1, h2]
section
variable {Γ : Env} [P04 Γ] [G04 Γ]
@[go_sem] theorem b4a (needs : Int) (k : SK) (l : List Sign) : K Γ (.fn 168) [vi needs, .sc (.sl k 4 (l.map Sign.c))] [] = some (.agg (chB needs k l).c, []) := by
 rw [K_fn P04.f168 _ _ rfl]
 simp only [go_sem, simprocAttr, a4s]
 rfl
@[go_sem] theorem c3v (needs : Int) (k : SK) : K Γ (.fn 168) [vi needs, .sc (.sl k 4 [])] [] = some (.agg (chB needs k []).c, []) := b4a needs k []
@[go_sem] theorem d1e : K Γ (.fn 134) [] [] = some (.agg ownX.c, []) := by
 rw [K_fn P04.f134 _ _ rfl]
 simp only [go_sem, simprocAttr, a4W]
 rfl
@[go_sem] theorem c9K : K Γ (.fn 140) [] [] = some (.agg a7j.c, []) := by
 rw [K_fn P04.f140 _ _ rfl]
 simp only [go_sem, simprocAttr, a4b]
 rfl
@[go_sem] theorem c9Z : K Γ (.fn 136) [] [] = some (.agg a5j.c, []) := by
 have h : K Γ (.fn 168) [vi 1, .sc (.sl .full 4 [[ci 0, ci 0, ci 3, ci 0]])] [] = some (.agg a5j.c, []) := b4a 1 .full [sg3]
 rw [K_fn P04.f136 _ _ rfl]
 simp only [go_sem, simprocAttr, a4e, h]
@[go_sem] theorem d0E : K Γ (.fn 142) [] [] = some (.agg a7e.c, []) := by
 have h : K Γ (.fn 168) [vi 1, .sc (.sl .full 4 [[ci 0, ci 0, ci 3, ci 0], [ci 1, ci 0, ci 2, ci 0]])] [] = some (.agg a7e.c, []) := b4a 1 .full [sg3, sg2]
 rw [K_fn P04.f142 _ _ rfl]
 simp only [go_sem, simprocAttr, a4z, h]
theorem c1Q (x : List C) : appended 2 (.sc (.sl .nil 2 [])) (.sc (.sl .full 2 [x])) = some (.own 2 [x]) := by simp [appended, elems, room]
theorem c1R (x y : List C) : appended 2 (.sc (.own 2 [x])) (.sc (.sl .full 2 [y])) = some (.own 2 [x, y]) := by simp [appended, elems, room]
theorem b4S (a b c d : Int) : K Γ (.fn 139) [.sc (.sl .full 1 [[ci a], [ci b], [ci c], [ci d]])] [] = some (.sc (.sl .shared 2 (rl [⟨a, b⟩, ⟨c, d⟩])), []) := by
 rw [K_fn P04.f139 _ _ rfl]
 simp only [go_sem, simprocAttr, a4c, a6l, a6k, a1J, c1Q, c1R]
 rfl
theorem b8g (k k' : SK) (l m : List Rest) (hl : l.length <= 1000) (hm : m.length <= 1000) : K Γ (.fn 109) [.sc (.sl k 2 (rl l)), .sc (.sl k' 2 (rl m))] [] = some (vb (decide (l = m)), []) := by
 rw [K_fn P04.f109 _ _ rfl]
 by_cases hlm : (l.length : Int) = m.length
 ·have d1 := decide_eq_true hlm
  have hz : (l.zip m).length = l.length := by simp [List.length_zip]; omega
  simp only [go_sem, simprocAttr, a3x, d1, List.length_map]
  refine (b8u (fun i (a : Bool) => ⟨[(0, .sc (.sl k 2 (rl l))), (1, .sc (.sl k' 2 (rl m))), (5, vb a), (6, vi i)], []⟩) (l.zip m) (fun p => decide (p.1 = p.2))
   (fun i a => (.exit 0, ⟨[(0, .sc (.sl k 2 (rl l))), (1, .sc (.sl k' 2 (rl m))), (5, vb a), (6, vi i), (18, vb false)], []⟩)) rfl ?_ ?_ ?_ ?_)
  ·intro i p hp
   obtain ⟨h1, h2⟩ := List.getElem?_zip_eq_some.1 hp
   have hil := (List.getElem?_eq_some_iff.1 h1).1
   have d2 := decide_eq_true (show (i : Int) < l.length by omega)
   have hi : IntKind.i64.wrap ((i : Int) + 1) = i + 1 := wrap_i64 (by omega) (by omega)
   (simp only [go_sem, simprocAttr, a1l, h1, h2, d2, hi, a7k, List.length_map]; repeat' ((first | refine brY ?_ | refine brN ?_ | refine brA ?_ | refine brD ?_ | refine brF ?_); (try simp only [go_sem, simprocAttr, a1l, h1, h2, d2, hi, a7k, List.length_map])))
   rfl
  ·intro i _
   (simp only [go_sem, simprocAttr, a1l]; repeat' ((first | refine brY ?_ | refine brN ?_ | refine brA ?_ | refine brD ?_ | refine brF ?_); (try simp only [go_sem, simprocAttr, a1l])))
  ·have d2 : decide (((l.zip m).length : Int) < l.length) = false := decide_eq_false (by omega)
   simp only [go_sem, simprocAttr, a1l, d2, List.length_map]
  ·intro i
   have he : (l.zip m).all (fun p => decide (p.1 = p.2)) = decide (l = m) := by
    rw [Bool.eq_iff_iff, List.all_eq_true, decide_eq_true_eq]
    constructor
    ·intro h
     apply List.ext_getElem?
     intro i
     by_cases hi : i < l.length
     ·have hi' : i < m.length := by omega
      have := h (l[i], m[i]) (List.mem_of_getElem? (List.getElem?_zip_eq_some.2 ⟨List.getElem?_eq_getElem hi, List.getElem?_eq_getElem hi'⟩))
      rw [List.getElem?_eq_getElem hi, List.getElem?_eq_getElem hi']
      exact congrArg some (of_decide_eq_true this)
     ·rw [List.getElem?_eq_none (by omega), List.getElem?_eq_none (by omega)]
    ·rintro rfl p hp
     obtain ⟨i, hi⟩ := List.getElem?_of_mem hp
     obtain ⟨a1, a2⟩ := List.getElem?_zip_eq_some.1 hi
     rw [a1] at a2
     exact decide_eq_true (Option.some.inj a2)
   rw [he]
   (simp only [go_sem, simprocAttr]; repeat' (first | ((first | refine brY ?_ | refine brN ?_ | refine brA ?_ | refine brD ?_ | refine brF ?_ | ((first | apply a0k | apply a0j); (· intro h; simp only [go_sem, simprocAttr, a0p h]; exact rfl))); (try simp only [go_sem, simprocAttr])) | ((first | apply a0e | apply d7E | apply a0a) <;> intro h <;> (try simp only [go_sem, simprocAttr, h]))))
 ·have d1 := decide_eq_false hlm
  have hne : decide (l = m) = false := decide_eq_false (fun e => hlm (by rw [e]))
  simp only [go_sem, simprocAttr, a3x, d1, hne, a6I, a1l, a1J, List.length_map]
/-! ### What the chapter's examples answer -/
theorem b8J : K Γ (.fn 135) [.agg ownX.c, vi 0, vi 3] [] = some (.tup [.agg [ci (-2), ci 5], vi 0], []) := by
 have e : ownX.left 0 3 = ((-2, 5), 0) := by decide +kernel
 rw [b7j, e]
theorem b8K : K Γ (.fn 135) [.agg a5j.c, vi 1, vi 0] [] = some (.tup [.agg [ci 1, ci 1], vi 0], []) := by
 have e : a5j.left 1 0 = ((1, 1), 0) := by decide +kernel
 rw [b7j, e]
theorem b8H : K Γ (.fn 137) [.agg a5j.c, vi 0] [] = some (.tup [.agg [ci 3, ci 3], vi 0], []) := by
 have e : a5j.costs 0 = ((3, 3), 0) := by decide +kernel
 rw [c0t, e]
theorem b7t : K Γ (.fn 138) [.agg ownX.c, vi 1] [] = some (.tup [vi 2, vi 0], []) := by
 have e : ownX.beyond 1 = (2, 0) := by decide +kernel
 rw [b8s, e]
theorem b8I : K Γ (.fn 101) [.agg ownX.c] [] = some (.tup [vi 2, vi 0, vi 0], []) := by
 have e : ownX.first = ((2, 0), 0) := by decide +kernel
 rw [c0x, e]
theorem c0M : K Γ (.fn 105) [.agg ownX.c, .sc (.sl .shared 2 (rl [⟨0, 0⟩, ⟨1, 1⟩]))] [] = some (.tup [vb true, vi 0], []) := by
 have e : ownX.safe [⟨0, 0⟩, ⟨1, 1⟩] = (true, 0) := by decide +kernel
 rw [c1N ownX .shared [⟨0, 0⟩, ⟨1, 1⟩] (by decide), e]
theorem b8L : K Γ (.fn 107) [.agg ownX.c] [] = some (.tup [.sc (.sl .full 2 (rl [⟨0, 0⟩, ⟨1, 1⟩])), vi 0], []) := by
 have e : b2o ownX = .full := by decide +kernel
 rw [b7k ownX, b9q, e]
theorem b8M : K Γ (.fn 107) [.agg a7j.c] [] = some (.tup [.sc (.sl .full 2 (rl [⟨0, 0⟩, ⟨2, 1⟩])), vi 0], []) := by
 have e : b2o a7j = .full := by decide +kernel
 rw [b7k a7j, b6u, e]
theorem c0L : K Γ (.fn 141) [.agg ownX.c, .agg [ci 1, ci 0, ci 3, ci 1]] [] = some (.tup [vb true, vi 0], []) := by
 have e : ownX.fits ⟨1, 0, 3, 1⟩ = (true, 0) := by decide +kernel
 have := c1M (Γ := Γ) ownX ⟨1, 0, 3, 1⟩
 rw [e] at this; exact this
theorem b8N : K Γ (.fn 143) [.agg a7e.c] [] = some (.tup [.sc (.sl .full 1 [[ci 0]]), vi 0], []) := by
 have e : a7e.wrong = ([0], 0) := by decide +kernel
 have e2 : b2A a7e = .full := by decide +kernel
 rw [c0E, e, e2]; rfl
theorem c1Z : K Γ (.fn 103) [.agg ownX.c, .sc (.sl .shared 2 (rl [⟨0, 0⟩, ⟨1, 1⟩]))] [] = some (.tup [vb true, vi 0], []) := by
 have e : (ownX.valid && ownX.a4k [⟨0, 0⟩, ⟨1, 1⟩]) = true := by decide +kernel
 have a : (if ownX.valid then (0 : Int) else 40) = 0 := by decide +kernel
 rw [c3l ownX .shared [⟨0, 0⟩, ⟨1, 1⟩] (by decide), e, a]
theorem c2r (k k' : SK) : K Γ (.fn 109) [.sc (.sl k 2 (rl [⟨0, 0⟩, ⟨1, 1⟩])), .sc (.sl k' 2 (rl [⟨0, 0⟩, ⟨1, 1⟩]))] [] = some (vb true, []) := by
 rw [b8g k k' _ _ (by decide) (by decide)]; rfl
theorem c2s (k k' : SK) : K Γ (.fn 109) [.sc (.sl k 2 (rl [⟨0, 0⟩, ⟨2, 1⟩])), .sc (.sl k' 2 (rl [⟨0, 0⟩, ⟨2, 1⟩]))] [] = some (vb true, []) := by
 rw [b8g k k' _ _ (by decide) (by decide)]; rfl
theorem b8G (k k' : SK) : K Γ (.fn 23) [.sc (.sl k 1 [[ci 0]]), .sc (.sl k' 1 [[ci 0]])] [] = some (vb true, []) := by
 have := c0w (Γ := Γ) k k' [0] [0] (by decide) (by decide)
 exact this
@[go_sem] theorem c8L : K Γ (.fn 110) [] [] = some (vb true, []) := by
 have h1 := c0M (Γ := Γ); have h2 := b8L (Γ := Γ); have h3 := b8M (Γ := Γ); have h4 := c1Z (Γ := Γ)
 have h5 := b4S (Γ := Γ) 0 0 1 1; have h6 := b4S (Γ := Γ) 0 0 2 1
 have h7 := c2r (Γ := Γ); have h8 := c2s (Γ := Γ)
 simp only [rl, List.map_cons, List.map_nil, Rest.c] at h1 h2 h3 h4 h5 h6 h7 h8
 rw [K_fn P04.f110 _ _ rfl]
 simp only [go_sem, simprocAttr, a3M, b8J, b8K, b8H, b7t, b8I, c0L, b8N, h1, h2, h3, h4, h5, h6, h7, h8, b8G, b4A]
end
end Go.Pm.St
namespace Go.Pm.St
open Ac
theorem b5r (l : List Rest) (i : Int) (d : Nat) : (l.any fun x => decide (x = ⟨(d : Int), i⟩)) = a2Y l i d := by
 unfold a2Y
 congr 1; funext x
 obtain ⟨a, b⟩ := x
 by_cases h1 : a = (d : Int) <;> by_cases h2 : b = i <;> simp [h1, h2]
theorem b4m {α : Type} (p : α -> Bool) (l : List α) : (a0z (fun _ x => p x) 0 l).isSome = l.any p := by
 cases h : a0z (fun _ x => p x) 0 l with
 | none =>
  rw [a2L] at h
  rw [Option.isSome_none, eq_comm, Bool.eq_false_iff]
  intro e
  obtain ⟨x, hx, hp⟩ := List.any_eq_true.1 e
  obtain ⟨i, hi⟩ := List.getElem?_of_mem hx
  rw [h i x hi] at hp; cases hp
 | some q =>
  obtain ⟨i, x⟩ := q
  obtain ⟨_, h2, h3, _⟩ := a3F h
  rw [Option.isSome_some, eq_comm, List.any_eq_true]
  exact ⟨x, List.mem_of_getElem? h2, h3⟩
section
variable {Γ : Env} [P04 Γ] [G04 Γ]
@[go_sem] theorem c9a (s : Span) : K Γ (.fn 49) [.agg s.c, vi 0, vi 30, vi 2] [] = some (vb (s.is 0 30 2), []) := b7i s _ _ _ (by decide) (by decide)
@[go_sem] theorem c9c (s : Span) : K Γ (.fn 49) [.agg [ci s.lo, ci s.hi], vi 0, vi 6, vi 1] [] = some (vb (s.is 0 6 1), []) := b7i s _ _ _ (by decide) (by decide)
end
end Go.Pm.St
namespace Go.Pm.St
open Ac
section
variable {Γ : Env} [P04 Γ] [G04 Γ]
theorem d5x (b : Book) [hb : b.Fits] (n : Int) : K Γ (.fn 157) [.agg b.c, vi n] [] = some (vb (b.a1f n), []) := by
 have h := hb.s
 have hw : IntKind.i64.wrap ((b.singers.length : Int) - 1) = b.singers.length - 1 := wrap_i64 (by omega) (by omega)
 rw [K_fn P04.f157 _ _ rfl]
 simp only [go_sem, simprocAttr, d5c, hw, Book.a1f]
theorem d5K (b : Book) [hb : b.Fits] (n : Int) : K Γ (.fn 156) [.agg b.c, vi n] [] = some (vb (b.a2O n), []) := by
 have h := hb.d
 have hw : IntKind.i64.wrap ((b.days.length : Int) - 1) = b.days.length - 1 := wrap_i64 (by omega) (by omega)
 rw [K_fn P04.f156 _ _ rfl]
 simp only [go_sem, simprocAttr, d5e, hw, Book.a2O]
theorem d6h (b : Book) [hb : b.Fits] (x : Sign) : K Γ (.fn 158) [.agg b.c, .agg x.c] [] = some (vb (b.a3z x), []) := by
 have h1 := d5x (Γ := Γ) b x.singer
 have h2 := d5K (Γ := Γ) b x.day
 cases k1 : b.a1f x.singer with
 | false => rw [k1] at h1; rw [K_fn P04.f158 _ _ rfl]; simp only [go_sem, simprocAttr, d4G, h1, Book.a3z, k1, Bool.false_and]
 | true =>
  rw [k1] at h1
  cases k2 : b.a2O x.day with
  | false => rw [k2] at h2; rw [K_fn P04.f158 _ _ rfl]; simp only [go_sem, simprocAttr, d4G, h1, h2, Book.a3z, k1, k2, Bool.false_and, Bool.and_false]
  | true =>
   rw [k2] at h2
   cases k3 : within x.left (-150) 30 with
   | false => rw [K_fn P04.f158 _ _ rfl]; simp only [go_sem, simprocAttr, d4G, h1, h2, Book.a3z, k1, k2, k3, Bool.false_and, Bool.and_false]
   | true => rw [K_fn P04.f158 _ _ rfl]; simp only [go_sem, simprocAttr, d4G, h1, h2, Book.a3z, k1, k2, k3, Bool.true_and, Bool.and_true]
theorem d6i (b : Book) [hb : b.Fits] (ok : Bool) {β : Type} {Q : Ex -> St -> Option β} {r : Option β}
 (hQ : ∀ i : Nat, Q (.exit 0) ⟨[(1, .sc (.ptr 0 0)), (3, vb (ok && b.singers.all (·.is 0 30 2))), (4, vi i), (39, vb false)], [.var b.c]⟩ = r) :
 E Γ d4B ⟨[(1, .sc (.ptr 0 0)), (3, vb ok), (4, vi 0)], [.var b.c]⟩ Q = r := by
 cases ok with
 | false => simp only [go_sem, simprocAttr, d4B, d4x, a1J]; exact hQ 0
 | true =>
  refine c0u (fun i ok => ⟨[(1, .sc (.ptr 0 0)), (3, vb ok), (4, vi i)], [.var b.c]⟩) b.singers (·.is 0 30 2) (fun i ok => (.exit 0, ⟨[(1, .sc (.ptr 0 0)), (3, vb ok), (4, vi i), (39, vb false)], [.var b.c]⟩)) ?_ ?_ ?_ ?_
  ·intro i x hx
   have hi := (List.getElem?_eq_some_iff.1 hx).1
   have hb1 := hb.s
   have hlt := decide_eq_true (show (i : Int) < b.singers.length by omega)
   have hiw : IntKind.i64.wrap ((i : Int) + 1) = i + 1 := wrap_i64 (by omega) (by omega)
   (simp only [go_sem, simprocAttr, d4x, hx, hlt, hiw]; repeat' ((first | refine brY ?_ | refine brN ?_ | refine brA ?_ | refine brD ?_ | refine brF ?_); (try simp only [go_sem, simprocAttr, d4x, hx, hlt, hiw])))
   rfl
  ·intro i hi
   (simp only [go_sem, simprocAttr, d4x]; repeat' ((first | refine brY ?_ | refine brN ?_ | refine brA ?_ | refine brD ?_ | refine brF ?_); (try simp only [go_sem, simprocAttr, d4x])))
  ·have hlt := decide_eq_false (show ¬ (b.singers.length : Int) < b.singers.length by omega)
   simp only [go_sem, simprocAttr, d4x, hlt]
  ·intro i
   have := hQ i
   simpa using this
theorem d6j (b : Book) [hb : b.Fits] (ok : Bool) {β : Type} {Q : Ex -> St -> Option β} {r : Option β}
 (hQ : ∀ i : Nat, Q (.exit 2) ⟨[(1, .sc (.ptr 0 0)), (3, vb (ok && [b.c0, b.c1, b.c2].all (·.is 0 6 1))), (5, vi i), (52, vb false)], [.var b.c]⟩ = r) :
 E Γ d4C ⟨[(1, .sc (.ptr 0 0)), (3, vb ok), (5, vi 0)], [.var b.c]⟩ Q = r := by
 cases ok with
 | false => simp only [go_sem, simprocAttr, d4C, d4y, a1J]; exact hQ 0
 | true =>
  refine c0u (fun i ok => ⟨[(1, .sc (.ptr 0 0)), (3, vb ok), (5, vi i)], [.var b.c]⟩) [b.c0, b.c1, b.c2] (·.is 0 6 1) (fun i ok => (.exit 2, ⟨[(1, .sc (.ptr 0 0)), (3, vb ok), (5, vi i), (52, vb false)], [.var b.c]⟩)) ?_ ?_ ?_ ?_
  ·intro i x hx
   have hi := (List.getElem?_eq_some_iff.1 hx).1
   simp only [List.length_cons, List.length_nil] at hi
   have h2 : i = 0 \/ i = 1 \/ i = 2 := by omega
   rcases h2 with rfl | rfl | rfl <;>
   ·simp at hx; subst hx
    simp only [go_sem, simprocAttr, d4y]
  ·intro i hi
   simp only [go_sem, simprocAttr, d4y]
  ·simp only [go_sem, simprocAttr, d4y]
  ·intro i
   have := hQ i
   simpa using this
theorem d6k (b : Book) [hb : b.Fits] (ok : Bool) {β : Type} {Q : Ex -> St -> Option β} {r : Option β}
 (hQ : ∀ i : Nat, Q (.exit 4) ⟨[(1, .sc (.ptr 0 0)), (3, vb (ok && b.days.all Day.ok)), (6, vi i), (67, vb false)], [.var b.c]⟩ = r) :
 E Γ d4D ⟨[(1, .sc (.ptr 0 0)), (3, vb ok), (6, vi 0)], [.var b.c]⟩ Q = r := by
 cases ok with
 | false => simp only [go_sem, simprocAttr, d4D, d4v, a1J]; exact hQ 0
 | true =>
  refine c0u (fun i ok => ⟨[(1, .sc (.ptr 0 0)), (3, vb ok), (6, vi i)], [.var b.c]⟩) b.days Day.ok (fun i ok => (.exit 4, ⟨[(1, .sc (.ptr 0 0)), (3, vb ok), (6, vi i), (67, vb false)], [.var b.c]⟩)) ?_ ?_ ?_ ?_
  ·intro i x hx
   have hi := (List.getElem?_eq_some_iff.1 hx).1
   have hb1 := hb.d
   have hlt := decide_eq_true (show (i : Int) < b.days.length by omega)
   have hiw : IntKind.i64.wrap ((i : Int) + 1) = i + 1 := wrap_i64 (by omega) (by omega)
   cases h1 : within x.plain 0 2 with
   | false => (simp only [go_sem, simprocAttr, d4v, hx, hlt, hiw, h1, Day.ok, Bool.false_and]; repeat' ((first | refine brY ?_ | refine brN ?_ | refine brA ?_ | refine brD ?_ | refine brF ?_); (try simp only [go_sem, simprocAttr, d4v, hx, hlt, hiw, h1, Day.ok, Bool.false_and]))); rfl
   | true => cases h2 : within x.full 0 2 with
    | false => (simp only [go_sem, simprocAttr, d4v, hx, hlt, hiw, h1, h2, Day.ok, Bool.false_and]; repeat' ((first | refine brY ?_ | refine brN ?_ | refine brA ?_ | refine brD ?_ | refine brF ?_); (try simp only [go_sem, simprocAttr, d4v, hx, hlt, hiw, h1, h2, Day.ok, Bool.false_and]))); rfl
    | true => (simp only [go_sem, simprocAttr, d4v, hx, hlt, hiw, h1, h2, Day.ok, Bool.true_and]; repeat' ((first | refine brY ?_ | refine brN ?_ | refine brA ?_ | refine brD ?_ | refine brF ?_); (try simp only [go_sem, simprocAttr, d4v, hx, hlt, hiw, h1, h2, Day.ok, Bool.true_and]))); rfl
  ·intro i hi
   (simp only [go_sem, simprocAttr, d4v]; repeat' ((first | refine brY ?_ | refine brN ?_ | refine brA ?_ | refine brD ?_ | refine brF ?_); (try simp only [go_sem, simprocAttr, d4v])))
  ·have hlt := decide_eq_false (show ¬ (b.days.length : Int) < b.days.length by omega)
   simp only [go_sem, simprocAttr, d4v, hlt]
  ·intro i
   have := hQ i
   simpa using this
theorem d6l (b : Book) [hb : b.Fits] (ok : Bool) {β : Type} {Q : Ex -> St -> Option β} {r : Option β}
 (hQ : ∀ i : Nat, Q (.exit 6) ⟨[(1, .sc (.ptr 0 0)), (3, vb (ok && b.rests.all b.a6o)), (8, vi i), (95, vb false)], [.var b.c]⟩ = r) :
 E Γ d4E ⟨[(1, .sc (.ptr 0 0)), (3, vb ok), (8, vi 0)], [.var b.c]⟩ Q = r := by
 cases ok with
 | false => simp only [go_sem, simprocAttr, d4E, d4w, a1J]; exact hQ 0
 | true =>
  refine c0u (fun i ok => ⟨[(1, .sc (.ptr 0 0)), (3, vb ok), (8, vi i)], [.var b.c]⟩) b.rests b.a6o (fun i ok => (.exit 6, ⟨[(1, .sc (.ptr 0 0)), (3, vb ok), (8, vi i), (95, vb false)], [.var b.c]⟩)) ?_ ?_ ?_ ?_
  ·intro i x hx
   have hi := (List.getElem?_eq_some_iff.1 hx).1
   have hb1 := hb.r
   have hlt := decide_eq_true (show (i : Int) < b.rests.length by omega)
   have hiw : IntKind.i64.wrap ((i : Int) + 1) = i + 1 := wrap_i64 (by omega) (by omega)
   have k1 := d5K (Γ := Γ) b x.day
   have k2 := d5x (Γ := Γ) b x.singer
   cases h1 : b.a2O x.day with
   | false => rw [h1] at k1; (simp only [go_sem, simprocAttr, d4w, hx, hlt, hiw, k1, h1, Book.a6o, Bool.false_and]; repeat' ((first | refine brY ?_ | refine brN ?_ | refine brA ?_ | refine brD ?_ | refine brF ?_); (try simp only [go_sem, simprocAttr, d4w, hx, hlt, hiw, k1, h1, Book.a6o, Bool.false_and]))); rfl
   | true => rw [h1] at k1; (simp only [go_sem, simprocAttr, d4w, hx, hlt, hiw, k1, k2, h1, Book.a6o, Bool.true_and]; repeat' ((first | refine brY ?_ | refine brN ?_ | refine brA ?_ | refine brD ?_ | refine brF ?_); (try simp only [go_sem, simprocAttr, d4w, hx, hlt, hiw, k1, k2, h1, Book.a6o, Bool.true_and]))); rfl
  ·intro i hi
   (simp only [go_sem, simprocAttr, d4w]; repeat' ((first | refine brY ?_ | refine brN ?_ | refine brA ?_ | refine brD ?_ | refine brF ?_); (try simp only [go_sem, simprocAttr, d4w])))
  ·have hlt := decide_eq_false (show ¬ (b.rests.length : Int) < b.rests.length by omega)
   simp only [go_sem, simprocAttr, d4w, hlt]
  ·intro i
   have := hQ i
   simpa using this
theorem d6m (b : Book) [hb : b.Fits] (ok : Bool) {β : Type} {Q : Ex -> St -> Option β} {r : Option β}
 (hQ : ∀ i : Nat, Q (.exit 8) ⟨[(1, .sc (.ptr 0 0)), (3, vb (ok && b.signs.all b.a3z)), (9, vi i), (123, vb false)], [.var b.c]⟩ = r) :
 E Γ d4F ⟨[(1, .sc (.ptr 0 0)), (3, vb ok), (9, vi 0)], [.var b.c]⟩ Q = r := by
 cases ok with
 | false => simp only [go_sem, simprocAttr, d4F, d4z, a1J]; exact hQ 0
 | true =>
  refine c0u (fun i ok => ⟨[(1, .sc (.ptr 0 0)), (3, vb ok), (9, vi i)], [.var b.c]⟩) b.signs b.a3z (fun i ok => (.exit 8, ⟨[(1, .sc (.ptr 0 0)), (3, vb ok), (9, vi i), (123, vb false)], [.var b.c]⟩)) ?_ ?_ ?_ ?_
  ·intro i x hx
   have hi := (List.getElem?_eq_some_iff.1 hx).1
   have hb1 := hb.g
   have hlt := decide_eq_true (show (i : Int) < b.signs.length by omega)
   have hiw : IntKind.i64.wrap ((i : Int) + 1) = i + 1 := wrap_i64 (by omega) (by omega)
   have k1 := d6h (Γ := Γ) b x
   (simp only [go_sem, simprocAttr, d4z, hx, hlt, hiw, k1]; repeat' ((first | refine brY ?_ | refine brN ?_ | refine brA ?_ | refine brD ?_ | refine brF ?_); (try simp only [go_sem, simprocAttr, d4z, hx, hlt, hiw, k1])))
   rfl
  ·intro i hi
   (simp only [go_sem, simprocAttr, d4z]; repeat' ((first | refine brY ?_ | refine brN ?_ | refine brA ?_ | refine brD ?_ | refine brF ?_); (try simp only [go_sem, simprocAttr, d4z])))
  ·have hlt := decide_eq_false (show ¬ (b.signs.length : Int) < b.signs.length by omega)
   simp only [go_sem, simprocAttr, d4z, hlt]
  ·intro i
   have := hQ i
   simpa using this
theorem d5B (b : Book) [hb : b.Fits] : K Γ (.fn 119) [.agg b.c] [] = some (vi (if b.valid then 0 else 40), []) := by
 have main (ok : Bool) (h : ok = (within b.singers.length 1 3 && within b.days.length 1 5 && decide ((b.rests.length : Int) <= 6) && decide ((b.signs.length : Int) <= 4))) :
  b.valid = (ok && b.singers.all (·.is 0 30 2) && [b.c0, b.c1, b.c2].all (·.is 0 6 1) && b.days.all Day.ok && b.rests.all b.a6o && b.signs.all b.a3z) := by
  rw [h]
  simp only [Book.valid, List.all_cons, List.all_nil, Bool.and_true]
  ac_rfl
 rw [K_fn P04.f119 _ _ rfl]
 cases h1 : within b.singers.length 1 3 with
 | false =>
  have hv := main false (by rw [h1]; rfl)
  simp only [Bool.false_and] at hv
  simp only [go_sem, simprocAttr, d4H, h1, hv, d4B, d4x, d4C, d4y, d4D, d4v, d4E, d4w, d4F, d4z, a1J, Bool.false_eq_true]
 | true =>
  cases h2 : within b.days.length 1 5 with
  | false =>
   have hv := main false (by rw [h1, h2]; rfl)
   simp only [Bool.false_and] at hv
   simp only [go_sem, simprocAttr, d4H, h1, h2, hv, d4B, d4x, d4C, d4y, d4D, d4v, d4E, d4w, d4F, d4z, a1J, Bool.false_eq_true]
  | true =>
   cases h3 : decide ((b.rests.length : Int) <= 6) with
   | false =>
    have hv := main false (by rw [h1, h2, h3]; rfl)
    simp only [Bool.false_and] at hv
    simp only [go_sem, simprocAttr, d4H, h1, h2, h3, hv, d4B, d4x, d4C, d4y, d4D, d4v, d4E, d4w, d4F, d4z, a1J, Bool.false_eq_true]
   | true =>
    have hv := main (decide ((b.signs.length : Int) <= 4)) (by rw [h1, h2, h3]; rfl)
    rw [hv]
    simp only [go_sem, simprocAttr, d4H, h1, h2, h3]
    refine d6i b _ fun i => ?_
    (simp only [go_sem, simprocAttr]; repeat' (first | ((first | refine brY ?_ | refine brN ?_ | refine brA ?_ | refine brD ?_ | refine brF ?_ | ((first | apply a0k | apply a0j); (· intro h; simp only [go_sem, simprocAttr, a0p h]; exact rfl))); (try simp only [go_sem, simprocAttr])) | ((first | apply a0e | apply d7E | apply a0a) <;> intro h <;> (try simp only [go_sem, simprocAttr, h]))))
    refine d6j b _ fun i => ?_
    (simp only [go_sem, simprocAttr]; repeat' (first | ((first | refine brY ?_ | refine brN ?_ | refine brA ?_ | refine brD ?_ | refine brF ?_ | ((first | apply a0k | apply a0j); (· intro h; simp only [go_sem, simprocAttr, a0p h]; exact rfl))); (try simp only [go_sem, simprocAttr])) | ((first | apply a0e | apply d7E | apply a0a) <;> intro h <;> (try simp only [go_sem, simprocAttr, h]))))
    refine d6k b _ fun i => ?_
    (simp only [go_sem, simprocAttr]; repeat' (first | ((first | refine brY ?_ | refine brN ?_ | refine brA ?_ | refine brD ?_ | refine brF ?_ | ((first | apply a0k | apply a0j); (· intro h; simp only [go_sem, simprocAttr, a0p h]; exact rfl))); (try simp only [go_sem, simprocAttr])) | ((first | apply a0e | apply d7E | apply a0a) <;> intro h <;> (try simp only [go_sem, simprocAttr, h]))))
    refine d6l b _ fun i => ?_
    (simp only [go_sem, simprocAttr]; repeat' (first | ((first | refine brY ?_ | refine brN ?_ | refine brA ?_ | refine brD ?_ | refine brF ?_ | ((first | apply a0k | apply a0j); (· intro h; simp only [go_sem, simprocAttr, a0p h]; exact rfl))); (try simp only [go_sem, simprocAttr])) | ((first | apply a0e | apply d7E | apply a0a) <;> intro h <;> (try simp only [go_sem, simprocAttr, h]))))
    refine d6m b _ fun i => ?_
    (simp only [go_sem, simprocAttr]; repeat' (first | ((first | refine brY ?_ | refine brN ?_ | refine brA ?_ | refine brD ?_ | refine brF ?_ | ((first | apply a0k | apply a0j); (· intro h; simp only [go_sem, simprocAttr, a0p h]; exact rfl))); (try simp only [go_sem, simprocAttr])) | ((first | apply a0e | apply d7E | apply a0a) <;> intro h <;> (try simp only [go_sem, simprocAttr, h]))))
    all_goals (simp only [Bool.not_eq_true', Bool.not_eq_false'] at h; rw [h]; rfl)
end
end Go.Pm.St
namespace Go.Pm.St
open Ac
@[go_sem] theorem Cost.d6K (c : Cost) : c.c[0]? = some (ci c.p) := nrfl rfl
@[go_sem] theorem Cost.d6L (c : Cost) : c.c[1]? = some (ci c.f) := nrfl rfl
@[go_sem] theorem Cost.d6M (c : Cost) : c.c[2]? = some (ci c.n) := nrfl rfl
section
variable {Γ : Env} [P04 Γ] [G04 Γ]
theorem d5Q (k : SK) (l : List Rest) (hl : l.length <= 1000000) (i d : Int) : K Γ (.fn 159) [.sc (.sl k 2 (l.map Rest.c)), vi i, vi d] [] = some (vb (l.any fun x => decide (x = ⟨d, i⟩)), []) := by
 have hL {β : Type} (Q : Ex -> St -> Option β) : E Γ d5m ⟨[(0, .sc (.sl k 2 (l.map Rest.c))), (1, vi i), (2, vi d), (7, vi 0)], []⟩ Q =
  match a0z (fun _ x => decide (x = (⟨d, i⟩ : Rest))) 0 l with
  | some _ => Q .ret ⟨[(6, vb true)], []⟩
  | none => Q (.exit 0) ⟨[(0, .sc (.sl k 2 (l.map Rest.c))), (1, vi i), (2, vi d), (7, vi l.length), (11, vb false)], []⟩ := by
  refine (a4L (fun j => ⟨[(0, .sc (.sl k 2 (l.map Rest.c))), (1, vi i), (2, vi d), (7, vi j)], []⟩) l (fun _ x => decide (x = (⟨d, i⟩ : Rest)))
   (fun _ _ => (.ret, ⟨[(6, vb true)], []⟩)) (.exit 0, ⟨[(0, .sc (.sl k 2 (l.map Rest.c))), (1, vi i), (2, vi d), (7, vi l.length), (11, vb false)], []⟩) Q ?_ ?_ ?_).trans ?_
  ·intro j x hx hf
   have hlt' := (List.getElem?_eq_some_iff.1 hx).1
   have hlt : decide ((j : Int) < l.length) = true := decide_eq_true (by omega)
   have hiw : IntKind.i64.wrap ((j : Int) + 1) = j + 1 := wrap_i64 (by omega) (by omega)
   have hk : a0c [1, 1] x.c [ci d, ci i] = some false := by have := a7k x ⟨d, i⟩; rw [hf] at this; exact this
   (simp only [go_sem, simprocAttr, d4O, hx, hiw, hlt, hk, List.length_map]; repeat' ((first | refine brY ?_ | refine brN ?_ | refine brA ?_ | refine brD ?_ | refine brF ?_); (try simp only [go_sem, simprocAttr, d4O, hx, hiw, hlt, hk, List.length_map])))
   rfl
  ·intro j x hx hf
   have hlt' := (List.getElem?_eq_some_iff.1 hx).1
   have hlt : decide ((j : Int) < l.length) = true := decide_eq_true (by omega)
   have hk : a0c [1, 1] x.c [ci d, ci i] = some true := by have := a7k x ⟨d, i⟩; rw [hf] at this; exact this
   (simp only [go_sem, simprocAttr, d4O, hx, hlt, hk, List.length_map]; repeat' ((first | refine brY ?_ | refine brN ?_ | refine brA ?_ | refine brD ?_ | refine brF ?_); (try simp only [go_sem, simprocAttr, d4O, hx, hlt, hk, List.length_map])))
  ·have hlt : decide ((l.length : Int) < l.length) = false := decide_eq_false (by omega)
   simp only [go_sem, simprocAttr, d4O, hlt, List.length_map]
  ·cases a0z (fun _ x => decide (x = (⟨d, i⟩ : Rest))) 0 l <;> rfl
 simp only [← b4m]
 cases h1 : a0z (fun _ x => decide (x = (⟨d, i⟩ : Rest))) 0 l with
 | some q => simp only [h1] at hL; rw [K_fn P04.f159 _ _ rfl]; simp only [go_sem, simprocAttr, d5h, hL, Option.isSome_some]
 | none => simp only [h1] at hL; rw [K_fn P04.f159 _ _ rfl]; simp only [go_sem, simprocAttr, d5h, hL, Option.isSome_none]
theorem d5P (k : SK) (l : List Rest) (hl : l.length <= 1000000) (i : Int) (d : Nat) : K Γ (.fn 159) [.sc (.sl k 2 (l.map Rest.c)), vi i, vi d] [] = some (vb (a2Y l i d), []) := by
 rw [d5Q k l hl, b5r]
theorem d5O (b : Book) [hb : b.Fits] (hs : Sane b) (c : Cost) (h0 : b.c0.has c.p) (h1 : b.c1.has c.f) (h2 : b.c2.has c.n) (i : Int) (s : Int) (hp : 0 <= s) (h30 : s <= 30) (d : Nat) (hd : d < b.days.length) (k : SK) (l : List Rest) (hl : l.length <= 1000000) :
 K Γ (.fn 174) [.agg b.c, .agg c.c, vi i, vi s, vi d, .sc (.sl k 2 (l.map Rest.c))] [] = some (vi (a2B b.days c s (a2Y l i) d), []) := by
 have hd5 := hs.d5
 have k0 := hs.k0; have k1 := hs.k1; have k2 := hs.k2
 have b0 := h0; have b1 := h1; have b2 := h2
 simp only [Span.has] at b0 b1 b2
 have hL {β : Type} (Q : Ex -> St -> Option β) : E Γ d5s ⟨[(2, vi i), (3, vi s), (4, vi d), (5, .sc (.sl k 2 (l.map Rest.c))), (6, .sc (.ptr 0 0)), (7, .sc (.ptr 1 0)), (13, vi s), (14, vi 0), (15, vi 0)], [.var b.c, .var c.c]⟩ Q =
  Q (.exit 0) ⟨[(2, vi i), (3, vi s), (4, vi d), (5, .sc (.sl k 2 (l.map Rest.c))), (6, .sc (.ptr 0 0)), (7, .sc (.ptr 1 0)), (13, vi (nowAt b.days c s (a2Y l i) (d + 1))), (14, vi (a2B b.days c s (a2Y l i) d)), (15, vi ((d + 1 : Nat) : Int)), (19, vb false)], [.var b.c, .var c.c]⟩ := by
  refine a4q (d + 1) (fun j (_ : Unit) => ⟨[(2, vi i), (3, vi s), (4, vi d), (5, .sc (.sl k 2 (l.map Rest.c))), (6, .sc (.ptr 0 0)), (7, .sc (.ptr 1 0)), (13, vi (nowAt b.days c s (a2Y l i) j)), (14, vi (if j = 0 then 0 else a2B b.days c s (a2Y l i) (j - 1))), (15, vi j)], [.var b.c, .var c.c]⟩) (fun _ _ => True)
   (fun _ => (.exit 0, ⟨[(2, vi i), (3, vi s), (4, vi d), (5, .sc (.sl k 2 (l.map Rest.c))), (6, .sc (.ptr 0 0)), (7, .sc (.ptr 1 0)), (13, vi (nowAt b.days c s (a2Y l i) (d + 1))), (14, vi (a2B b.days c s (a2Y l i) d)), (15, vi ((d + 1 : Nat) : Int)), (19, vb false)], [.var b.c, .var c.c]⟩)) () rfl trivial ?_ ?_ (fun _ _ => rfl)
  ·intro j _ hj _
   refine ⟨(), trivial, ?_⟩
   have hle : decide ((j : Int) <= d) = true := decide_eq_true (by omega)
   have hiw : IntKind.i64.wrap ((j : Int) + 1) = ((j + 1 : Nat) : Int) := by rw [wrap_i64 (by omega) (by omega)]; omega
   have hjl : j < b.days.length := by omega
   obtain ⟨x, hx⟩ : ∃ x, b.days[j]? = some x := ⟨_, List.getElem?_eq_getElem hjl⟩
   have hxd := hs.dy x (List.mem_of_getElem? hx)
   have hr := d5P (Γ := Γ) k l hl i j
   have n1 := b1e hs h0 h1 h2 hp (r := a2Y l i) j
   have n2 := b1f (l := b.days) (c := c) (s := s) (r := a2Y l i) j
   have m1 : x.plain * c.p <= 2 * 6 := Int.mul_le_mul (by omega) (by omega) (by omega) (by omega)
   have m2 : x.full * c.f <= 2 * 6 := Int.mul_le_mul (by omega) (by omega) (by omega) (by omega)
   have p1 := Int.mul_nonneg hxd.1.1 (show 0 <= c.p by omega)
   have p2 := Int.mul_nonneg hxd.2.1.1 (show 0 <= c.f by omega)
   have hla : a2B b.days c s (a2Y l i) j = x.after c (a2Y l i j) (nowAt b.days c s (a2Y l i) j) := by simp only [a2B, hx]
   have hna := b6H (l := b.days) (c := c) (s := s) (r := a2Y l i) hjl
   simp only [if_neg (show ¬ j + 1 = 0 by omega), Nat.add_sub_cancel]
   rw [hna, hla]
   generalize nowAt b.days c s (a2Y l i) j = now at *
   have w1 : IntKind.i64.wrap (x.plain * c.p) = x.plain * c.p := wrap_i64 (by omega) (by omega)
   have w2 : IntKind.i64.wrap (x.full * c.f) = x.full * c.f := wrap_i64 (by omega) (by omega)
   have w3 : IntKind.i64.wrap (now - x.plain * c.p) = now - x.plain * c.p := wrap_i64 (by omega) (by omega)
   have w4 : IntKind.i64.wrap (now - x.plain * c.p - x.full * c.f) = now - x.plain * c.p - x.full * c.f := wrap_i64 (by omega) (by omega)
   have w5 : IntKind.i64.wrap (now - x.plain * c.p - x.full * c.f + c.n) = now - x.plain * c.p - x.full * c.f + c.n := wrap_i64 (by omega) (by omega)
   have w6 : IntKind.i64.wrap (now + c.n) = now + c.n := wrap_i64 (by omega) (by omega)
   cases hrr : a2Y l i j with
   | true => rw [hrr] at hr; (simp only [go_sem, simprocAttr, d4M, hx, hle, hiw, hr, w6, Day.after]; repeat' ((first | refine brY ?_ | refine brN ?_ | refine brA ?_ | refine brD ?_ | refine brF ?_); (try simp only [go_sem, simprocAttr, d4M, hx, hle, hiw, hr, w6, Day.after])))
   | false => rw [hrr] at hr; (simp only [go_sem, simprocAttr, d4M, hx, hle, hiw, hr, w1, w2, w3, w4, w5, Day.after]; repeat' ((first | refine brY ?_ | refine brN ?_ | refine brA ?_ | refine brD ?_ | refine brF ?_); (try simp only [go_sem, simprocAttr, d4M, hx, hle, hiw, hr, w1, w2, w3, w4, w5, Day.after])))
  ·intro _ _
   have hle : decide (((d + 1 : Nat) : Int) <= d) = false := decide_eq_false (by omega)
   simp only [if_neg (show ¬ d + 1 = 0 by omega), Nat.add_sub_cancel]
   (simp only [go_sem, simprocAttr, d4M, hle]; repeat' ((first | refine brY ?_ | refine brN ?_ | refine brA ?_ | refine brD ?_ | refine brF ?_); (try simp only [go_sem, simprocAttr, d4M, hle])))
 rw [K_fn P04.f174 _ _ rfl]
 simp only [go_sem, simprocAttr, d5f, hL]
def Book.d5v (b : Book) (c : Cost) (i : Nat) (s : Int) (but : Int -> Bool) (j : Nat) : Bool := (List.range j).all fun q => match b.signs[q]? with | some x => but q || decide (x.singer ≠ i) || b.fair c i s x | none => true
theorem d5M {b : Book} {c : Cost} {i : Nat} {s : Int} {but : Int -> Bool} {j : Nat} {x : Sign} (hx : b.signs[j]? = some x) : b.d5v c i s but (j + 1) = (b.d5v c i s but j && (but j || decide (x.singer ≠ i) || b.fair c i s x)) := by
 simp only [Book.d5v, List.range_succ, List.all_append, List.all_cons, List.all_nil, hx, Bool.and_true]
theorem d5R (b : Book) (c : Cost) (i : Nat) (s : Int) (but : Int -> Bool) : b.d5v c i s but b.signs.length = b.right c i s but := by
 rw [Bool.eq_iff_iff, b8e]
 simp only [Book.d5v, List.all_eq_true, List.mem_range]
 constructor
 ·intro h j x hx hi hb
  have := h j (List.getElem?_eq_some_iff.1 hx).1
  simp only [hx, hb, Bool.false_or, Bool.or_eq_true, decide_eq_true_eq] at this
  rcases this with h | h
  ·exact absurd hi h
  ·exact h
 ·intro h j hj
  simp only [List.getElem?_eq_getElem hj, Bool.or_eq_true, decide_eq_true_eq]
  by_cases h1 : but j = true
  ·exact .inl (.inl h1)
  ·by_cases h2 : (b.signs[j]).singer = i
   ·exact .inr (h j _ (List.getElem?_eq_getElem hj) h2 (by simpa using h1))
   ·exact .inl (.inr h2)
def strP (b : Book) (c : Cost) (i : Nat) (but : Int -> Bool) (lo : Int) (j : Nat) : List Int := ((List.range j).map fun (k : Nat) => lo + (k : Int)).filter fun n => b.right c i n but
theorem d5V (b : Book) (c : Cost) (i : Nat) (but : Int -> Bool) (lo : Int) (j : Nat) : strP b c i but lo (j + 1) = if b.right c i (lo + j) but = true then strP b c i but lo j ++ [lo + (j : Int)] else strP b c i but lo j := by
 simp only [strP, List.range_succ, List.map_append, List.filter_append, List.map_cons, List.map_nil, List.filter_cons, List.filter_nil]
 split <;> simp_all
theorem d6e (b : Book) (c : Cost) (i : Nat) (but : Int -> Bool) {s : Span} (hs : b.singers[i]? = some s) : strP b c i but s.lo (s.hi - s.lo + 1).toNat = b.a1B c i but := by
 simp only [strP, Book.a1B, hs, upto]
theorem d6f (b : Book) (c : Cost) (i : Nat) (but : Int -> Bool) (lo : Int) (j : Nat) : (strP b c i but lo j).length <= j := Nat.le_trans (List.length_filter_le _ _) (by simp)
end
end Go.Pm.St
namespace Go.Pm.St
open Ac
@[go_sem] theorem Cost.d6G (c : Cost) : a0R c.c 0 3 = some c.c := nrfl rfl
@[go_sem] theorem Cost.d6H (c : Cost) : c.c.length = 3 := nrfl rfl
@[go_sem] theorem Cost.d6J (c : Cost) : c.c.map a0r = c.c := nrfl rfl
@[go_sem] theorem Cost.b3a (c : Cost) (n : Nat) : C.a0G n c.c = true := a0C n _ rfl
@[go_sem] theorem Cost.d6F (c : Cost) : C.a0v c.c = true := nrfl rfl
abbrev d4P (set : Int) : Int -> Bool := fun n => d2J set n
section
variable {Γ : Env} [P04 Γ] [G04 Γ]
theorem d6n (b : Book) [hb : b.Fits] (hs : Sane b) (c : Cost) (h0 : b.c0.has c.p) (h1 : b.c1.has c.f) (h2 : b.c2.has c.n) (i : Nat) (hi : i < b.singers.length) (set : Int) (L : List Int) (n : Int) (hp : 0 <= n) (h30 : n <= 30) {β : Type} (Q : Ex -> St -> Option β) :
 E Γ d5l ⟨[(2, vi i), (3, vi set), (4, .sc (.ptr 0 0)), (5, .sc (.ptr 1 0)), (9, .sc (ownF 1 (li L))), (10, vi n), (11, vb true), (12, vi 0)], [.var b.c, .var c.c]⟩ Q =
 Q (.exit 2) ⟨[(2, vi i), (3, vi set), (4, .sc (.ptr 0 0)), (5, .sc (.ptr 1 0)), (9, .sc (ownF 1 (li L))), (10, vi n), (11, vb (b.right c i n (d4P set))), (12, vi b.signs.length), (35, vb false)], [.var b.c, .var c.c]⟩ := by
 have hg := hs.g4
 have hr6 := hs.r6
 have hd5 := hs.d5
 rw [← d5R]
 refine a4q b.signs.length (fun j (_ : Unit) => ⟨[(2, vi i), (3, vi set), (4, .sc (.ptr 0 0)), (5, .sc (.ptr 1 0)), (9, .sc (ownF 1 (li L))), (10, vi n), (11, vb (b.d5v c i n (d4P set) j)), (12, vi j)], [.var b.c, .var c.c]⟩) (fun _ _ => True)
  (fun _ => (.exit 2, ⟨[(2, vi i), (3, vi set), (4, .sc (.ptr 0 0)), (5, .sc (.ptr 1 0)), (9, .sc (ownF 1 (li L))), (10, vi n), (11, vb (b.d5v c i n (d4P set) b.signs.length)), (12, vi b.signs.length), (35, vb false)], [.var b.c, .var c.c]⟩)) () rfl trivial ?_ ?_ (fun _ _ => rfl)
 ·intro j _ hj _
  refine ⟨(), trivial, ?_⟩
  obtain ⟨x, hx⟩ : ∃ x, b.signs[j]? = some x := ⟨_, List.getElem?_eq_getElem hj⟩
  have hlt : decide ((j : Int) < b.signs.length) = true := decide_eq_true (by omega)
  have hiw : IntKind.i64.wrap ((j : Int) + 1) = j + 1 := wrap_i64 (by omega) (by omega)
  have hxs := hs.sg x (List.mem_of_getElem? hx)
  obtain ⟨e, he⟩ : ∃ e : Nat, x.day = e := ⟨x.day.toNat, by omega⟩
  have hed : e < b.days.length := by omega
  have hl := d5O (Γ := Γ) b hs c h0 h1 h2 (i : Nat) n hp h30 e hed b.kr b.rests (by omega)
  have g1 := b3h hs h0 h1 h2 hp (r := a2Y b.rests (i : Nat)) e
  have hm : Mild b.days c := by
   have k0 := hs.k0; have k1 := hs.k1
   simp only [Span.has] at h0 h1
   exact ⟨by omega, by omega, fun x hx => ⟨(hs.dy x hx).1.1, (hs.dy x hx).2.1.1⟩⟩
  have g2 := b3i hm (s := n) (r := a2Y b.rests (i : Nat)) e
  have w1 : IntKind.i64.wrap (x.left - a2B b.days c n (a2Y b.rests (i : Nat)) e) = x.left - a2B b.days c n (a2Y b.rests (i : Nat)) e := wrap_i64 (by omega) (by omega)
  have w2 : IntKind.i64.wrap (0 - x.err) = -x.err := by rw [wrap_i64 (by omega) (by omega)]; omega
  rw [d5M hx]
  have hf : b.fair c (i : Nat) n x = within (x.left - a2B b.days c n (a2Y b.rests (i : Nat)) e) (-x.err) x.err := by simp only [Book.fair, he, Int.toNat_natCast]
  cases hrn : b.d5v c i n (d4P set) j with
  | false =>
   (simp only [go_sem, simprocAttr, d4A, hx, hlt, hiw, Bool.false_and]; repeat' ((first | refine brY ?_ | refine brN ?_ | refine brA ?_ | refine brD ?_ | refine brF ?_); (try simp only [go_sem, simprocAttr, d4A, hx, hlt, hiw, Bool.false_and])))
   rfl
  | true =>
   cases hbt : d2J set j with
   | true =>
    (simp only [go_sem, simprocAttr, d4A, hx, hlt, hiw, hbt, Bool.true_and, Bool.true_or]; repeat' ((first | refine brY ?_ | refine brN ?_ | refine brA ?_ | refine brD ?_ | refine brF ?_); (try simp only [go_sem, simprocAttr, d4A, hx, hlt, hiw, hbt, Bool.true_and, Bool.true_or])))
    rfl
   | false =>
    by_cases hsi : x.singer = i
    ·have d1 := decide_eq_true hsi
     have d2 : decide (x.singer ≠ (i : Int)) = false := decide_eq_false (fun h => h hsi)
     rw [hf]
     (simp only [go_sem, simprocAttr, d4A, hx, hlt, hiw, hbt, d1, d2, he, hl, w1, w2, Bool.true_and, Bool.false_or]; repeat' ((first | refine brY ?_ | refine brN ?_ | refine brA ?_ | refine brD ?_ | refine brF ?_); (try simp only [go_sem, simprocAttr, d4A, hx, hlt, hiw, hbt, d1, d2, he, hl, w1, w2, Bool.true_and, Bool.false_or])))
     rfl
    ·have d1 := decide_eq_false hsi
     have d2 : decide (x.singer ≠ (i : Int)) = true := decide_eq_true hsi
     (simp only [go_sem, simprocAttr, d4A, hx, hlt, hiw, hbt, d1, d2, Bool.true_and, Bool.false_or, Bool.true_or]; repeat' ((first | refine brY ?_ | refine brN ?_ | refine brA ?_ | refine brD ?_ | refine brF ?_); (try simp only [go_sem, simprocAttr, d4A, hx, hlt, hiw, hbt, d1, d2, Bool.true_and, Bool.false_or, Bool.true_or])))
     rfl
 ·intro _ _
  have hlt : decide ((b.signs.length : Int) < b.signs.length) = false := decide_eq_false (by omega)
  (simp only [go_sem, simprocAttr, d4A, hlt]; repeat' ((first | refine brY ?_ | refine brN ?_ | refine brA ?_ | refine brD ?_ | refine brF ?_); (try simp only [go_sem, simprocAttr, d4A, hlt])))
theorem d5U (b : Book) [hb : b.Fits] (hs : Sane b) (c : Cost) (h0 : b.c0.has c.p) (h1 : b.c1.has c.f) (h2 : b.c2.has c.n) (i : Nat) (hi : i < b.singers.length) (set : Int) :
 K Γ (.fn 173) [.agg b.c, .agg c.c, vi i, vi set] [] = some (.sc (.sl (kF (li (b.a1B c i (d4P set)))) 1 (li (b.a1B c i (d4P set)))), []) := by
 obtain ⟨s, hsi⟩ : ∃ s, b.singers[i]? = some s := ⟨_, List.getElem?_eq_getElem hi⟩
 have hsp := hs.sp s (List.mem_of_getElem? hsi)
 have hL {β : Type} (Q : Ex -> St -> Option β) : E Γ d5k ⟨[(2, vi i), (3, vi set), (4, .sc (.ptr 0 0)), (5, .sc (.ptr 1 0)), (9, .sc (.sl .full 1 [])), (10, vi s.lo)], [.var b.c, .var c.c]⟩ Q =
  Q (.exit 0) ⟨[(2, vi i), (3, vi set), (4, .sc (.ptr 0 0)), (5, .sc (.ptr 1 0)), (9, .sc (ownF 1 (li (b.a1B c i (d4P set))))), (10, vi (s.hi + 1)), (28, vb false)], [.var b.c, .var c.c]⟩ := by
  refine a4q (s.hi - s.lo + 1).toNat (fun j (_ : Unit) => ⟨[(2, vi i), (3, vi set), (4, .sc (.ptr 0 0)), (5, .sc (.ptr 1 0)), (9, .sc (ownF 1 (li (strP b c i (d4P set) s.lo j)))), (10, vi (s.lo + j))], [.var b.c, .var c.c]⟩) (fun _ _ => True)
   (fun _ => (.exit 0, ⟨[(2, vi i), (3, vi set), (4, .sc (.ptr 0 0)), (5, .sc (.ptr 1 0)), (9, .sc (ownF 1 (li (b.a1B c i (d4P set))))), (10, vi (s.hi + 1)), (28, vb false)], [.var b.c, .var c.c]⟩)) () ?_ trivial ?_ ?_ (fun _ _ => rfl)
  ·simp [strP, li, ownF]
  ·intro j _ hj _
   refine ⟨(), trivial, ?_⟩
   have hle : decide (s.lo + (j : Int) <= s.hi) = true := decide_eq_true (by omega)
   have hjw : IntKind.i64.wrap (s.lo + (j : Int) + 1) = s.lo + ((j + 1 : Nat) : Int) := by rw [wrap_i64 (by omega) (by omega)]; omega
   have hL1 {β : Type} (Q : Ex -> St -> Option β) := d6n (Γ := Γ) b hs c h0 h1 h2 i hi set (strP b c i (d4P set) s.lo j) (s.lo + j) (by omega) (by omega) Q
   have happ := d1w 1 .full (li (strP b c i (d4P set) s.lo j)) [ci (s.lo + j)] (by rw [b7L]; have := d6f b c i (d4P set) s.lo j; simp only [room]; omega)
   rw [d5V]
   cases hr : b.right c i (s.lo + j) (d4P set) with
   | true =>
    simp only [hr] at hL1
    rw [if_pos rfl, b3j, d3p]
    (simp only [go_sem, simprocAttr, d4J, hsi, hle, hjw, hL1, happ]; repeat' ((first | refine brY ?_ | refine brN ?_ | refine brA ?_ | refine brD ?_ | refine brF ?_); (try simp only [go_sem, simprocAttr, d4J, hsi, hle, hjw, hL1, happ])))
   | false =>
    simp only [hr] at hL1
    rw [if_neg (by decide)]
    (simp only [go_sem, simprocAttr, d4J, hsi, hle, hjw, hL1]; repeat' ((first | refine brY ?_ | refine brN ?_ | refine brA ?_ | refine brD ?_ | refine brF ?_); (try simp only [go_sem, simprocAttr, d4J, hsi, hle, hjw, hL1])))
  ·intro _ _
   have hm : s.lo + ((s.hi - s.lo + 1).toNat : Int) = s.hi + 1 := by omega
   have hle : decide (s.hi + 1 <= s.hi) = false := decide_eq_false (by omega)
   rw [hm, d6e b c i (d4P set) hsi]
   (simp only [go_sem, simprocAttr, d4J, hsi, hle]; repeat' ((first | refine brY ?_ | refine brN ?_ | refine brA ?_ | refine brD ?_ | refine brF ?_); (try simp only [go_sem, simprocAttr, d4J, hsi, hle])))
 have hu := d3j 1 (li (b.a1B c i (d4P set)))
 rw [K_fn P04.f173 _ _ rfl]
 (simp only [go_sem, simprocAttr, d5b, hsi, hL, hu]; repeat' ((first | refine brY ?_ | refine brN ?_ | refine brA ?_ | refine brD ?_ | refine brF ?_); (try simp only [go_sem, simprocAttr, d5b, hsi, hL, hu])))
end
end Go.Pm.St
namespace Go.Pm.St
open Ac
def Book.P2 (b : Book) (p f : Int) : List Cost := (upto b.c2.lo b.c2.hi).map fun n => ⟨p, f, n⟩
def Book.P1 (b : Book) (p : Int) : List Cost := (upto b.c1.lo b.c1.hi).flatMap fun f => b.P2 p f
def Book.d4N (b : Book) (set : Int) : List Cost := b.a8a.filter fun c => b.can c (d4P set)
theorem d5D (lo : Int) (j : Nat) : ((List.range (j + 1)).map fun (k : Nat) => lo + (k : Int)) = ((List.range j).map fun (k : Nat) => lo + (k : Int)) ++ [lo + (j : Int)] := by simp [List.range_succ]
theorem d5S {b : Book} (hs : Sane b) (p f : Int) : (b.P2 p f).length <= 2 := by
 have := hs.k2
 simp only [Book.P2, List.length_map, a9s]; omega
theorem a2G {α β : Type} (g : α -> List β) (m : Nat) (h : ∀ x, (g x).length <= m) : ∀ l : List α, (l.flatMap g).length <= m * l.length
 | [] => by simp
 | x :: l => by
  have := h x; have := a2G g m h l
  simp only [List.flatMap_cons, List.length_append, List.length_cons, Nat.mul_add]; omega
theorem d6o {b : Book} (hs : Sane b) (p : Int) : (b.P1 p).length <= 4 := by
 have h := a2G (fun f => b.P2 p f) 2 (fun f => d5S hs p f) (upto b.c1.lo b.c1.hi)
 have := hs.k1
 rw [a9s] at h
 simp only [Book.P1]; omega
section
variable {Γ : Env} [P04 Γ] [G04 Γ]
theorem d6c (b : Book) [hb : b.Fits] (hs : Sane b) (set : Int) (acc : List Cost) (p f n : Int) (h0 : b.c0.has p) (h1 : b.c1.has f) (h2 : b.c2.has n) {β : Type} {Q : Ex -> St -> Option β} {r : Option β}
 (hQ : ∀ i : Nat, Q (.exit 6) ⟨[(1, vi set), (2, .sc (.ptr 0 0)), (5, .sc (ownC 3 (acc.map Cost.c))), (6, vi p), (7, vi f), (8, vi n), (9, .sc (.ptr 1 0)), (10, vb (b.can ⟨p, f, n⟩ (d4P set))), (11, vi i), (59, vb false)], [.var b.c, .var [ci p, ci f, ci n]]⟩ = r) :
 E Γ d5r ⟨[(1, vi set), (2, .sc (.ptr 0 0)), (5, .sc (ownC 3 (acc.map Cost.c))), (6, vi p), (7, vi f), (8, vi n), (9, .sc (.ptr 1 0)), (10, vb true), (11, vi 0)], [.var b.c, .var [ci p, ci f, ci n]]⟩ Q = r := by
 have hs3 := hs.s3
 have hcan : b.can ⟨p, f, n⟩ (d4P set) = (List.range b.singers.length).all fun i => !(b.a1B ⟨p, f, n⟩ i (d4P set)).isEmpty := by
  simp only [Book.can, Book.strong, List.all_map]; rfl
 rw [hcan] at hQ
 refine b8u (fun i a => ⟨[(1, vi set), (2, .sc (.ptr 0 0)), (5, .sc (ownC 3 (acc.map Cost.c))), (6, vi p), (7, vi f), (8, vi n), (9, .sc (.ptr 1 0)), (10, vb a), (11, vi i)], [.var b.c, .var [ci p, ci f, ci n]]⟩) (List.range b.singers.length) (fun i => !(b.a1B ⟨p, f, n⟩ i (d4P set)).isEmpty)
  (fun i a => (.exit 6, ⟨[(1, vi set), (2, .sc (.ptr 0 0)), (5, .sc (ownC 3 (acc.map Cost.c))), (6, vi p), (7, vi f), (8, vi n), (9, .sc (.ptr 1 0)), (10, vb a), (11, vi i), (59, vb false)], [.var b.c, .var [ci p, ci f, ci n]]⟩)) rfl ?_ ?_ ?_ hQ
 ·intro i x hx
  have hi : i < b.singers.length := by have := (List.getElem?_eq_some_iff.1 hx).1; simpa using this
  rw [List.getElem?_range hi] at hx
  obtain rfl := Option.some.inj hx
  have hlt : decide ((i : Int) < b.singers.length) = true := decide_eq_true (by omega)
  have hiw : IntKind.i64.wrap ((i : Int) + 1) = i + 1 := wrap_i64 (by omega) (by omega)
  have hk := d5U (Γ := Γ) b hs ⟨p, f, n⟩ h0 h1 h2 i hi set
  simp only [Cost.c] at hk
  have hem : decide (0 < ((b.a1B ⟨p, f, n⟩ i (d4P set)).length : Int)) = !(b.a1B ⟨p, f, n⟩ i (d4P set)).isEmpty := by
   cases b.a1B ⟨p, f, n⟩ i (d4P set) <;> simp
  simp only [go_sem, simprocAttr, d4L, hlt, hiw, hk, b7L, hem]
  rfl
 ·intro i _
  simp only [go_sem, simprocAttr, d4L]
 ·have hlt : decide ((b.singers.length : Int) < b.singers.length) = false := decide_eq_false (by omega)
  rw [List.length_range]
  simp only [go_sem, simprocAttr, d4L, hlt]
theorem d6b (b : Book) [hb : b.Fits] (hs : Sane b) (set : Int) (acc : List Cost) (ha : acc.length <= 100) (p f : Int) (h0 : b.c0.has p) (h1 : b.c1.has f) {β : Type} (Q : Ex -> St -> Option β) :
 E Γ d5q ⟨[(1, vi set), (2, .sc (.ptr 0 0)), (5, .sc (ownC 3 (acc.map Cost.c))), (6, vi p), (7, vi f), (8, vi b.c2.lo)], [.var b.c]⟩ Q =
 Q (.exit 4) ⟨[(1, vi set), (2, .sc (.ptr 0 0)), (5, .sc (ownC 3 ((acc ++ (b.P2 p f).filter fun c => b.can c (d4P set)).map Cost.c))), (6, vi p), (7, vi f), (8, vi (b.c2.hi + 1)), (45, vb false)], [.var b.c]⟩ := by
 have k2 := hs.k2
 let g : Nat -> List Cost := fun j => acc ++ ((((List.range j).map fun (k : Nat) => b.c2.lo + (k : Int)).map fun n => (⟨p, f, n⟩ : Cost)).filter fun c => b.can c (d4P set))
 have hgl : ∀ j, (g j).length <= acc.length + j := fun j => by
  simp only [g, List.length_append]
  have := List.length_filter_le (fun c => b.can c (d4P set)) (((List.range j).map fun (k : Nat) => b.c2.lo + (k : Int)).map fun n => (⟨p, f, n⟩ : Cost))
  simp only [List.length_map, List.length_range] at this; omega
 have hgs : ∀ j, g (j + 1) = if b.can ⟨p, f, b.c2.lo + j⟩ (d4P set) then g j ++ [⟨p, f, b.c2.lo + j⟩] else g j := fun j => by
  simp only [g, d5D, List.map_append, List.map_cons, List.map_nil, List.filter_append, List.filter_cons, List.filter_nil]
  split <;> simp
 refine a4q (b.c2.hi - b.c2.lo + 1).toNat (fun j (_ : Unit) => ⟨[(1, vi set), (2, .sc (.ptr 0 0)), (5, .sc (ownC 3 ((g j).map Cost.c))), (6, vi p), (7, vi f), (8, vi (b.c2.lo + j))], [.var b.c]⟩) (fun _ _ => True)
  (fun _ => (.exit 4, ⟨[(1, vi set), (2, .sc (.ptr 0 0)), (5, .sc (ownC 3 ((acc ++ (b.P2 p f).filter fun c => b.can c (d4P set)).map Cost.c))), (6, vi p), (7, vi f), (8, vi (b.c2.hi + 1)), (45, vb false)], [.var b.c]⟩)) () ?_ trivial ?_ ?_ (fun _ _ => rfl)
 ·simp [g]
 ·intro j _ hj _
  refine ⟨(), trivial, ?_⟩
  have hle : decide (b.c2.lo + (j : Int) <= b.c2.hi) = true := decide_eq_true (by omega)
  have hjw : IntKind.i64.wrap (b.c2.lo + (j : Int) + 1) = b.c2.lo + ((j + 1 : Nat) : Int) := by rw [wrap_i64 (by omega) (by omega)]; omega
  have hh2 : b.c2.has (b.c2.lo + j) := ⟨by omega, by omega⟩
  have happ := a2K 3 ((g j).map Cost.c) .full [ci p, ci f, ci (b.c2.lo + j)] (by have := hgl j; simp only [List.length_map, room]; omega)
  rw [hgs]
  simp only [go_sem, simprocAttr, d4W, hle]
  refine d6c b hs set (g j) p f (b.c2.lo + j) h0 h1 hh2 fun i => ?_
  cases hc : b.can ⟨p, f, b.c2.lo + j⟩ (d4P set) with
  | true =>
   simp only [if_true, List.map_append, List.map_cons, List.map_nil, Cost.c]
   simp only [go_sem, simprocAttr, hjw, happ]
  | false =>
   simp only [Bool.false_eq_true, if_false]
   simp only [go_sem, simprocAttr, hjw]
 ·intro _ _
  have hm : b.c2.lo + ((b.c2.hi - b.c2.lo + 1).toNat : Int) = b.c2.hi + 1 := by omega
  have hle : decide (b.c2.hi + 1 <= b.c2.hi) = false := decide_eq_false (by omega)
  rw [hm]
  simp only [go_sem, simprocAttr, d4W, hle]
  rfl
theorem d6a (b : Book) [hb : b.Fits] (hs : Sane b) (set : Int) (acc : List Cost) (ha : acc.length <= 50) (p : Int) (h0 : b.c0.has p) {β : Type} (Q : Ex -> St -> Option β) :
 E Γ d5p ⟨[(1, vi set), (2, .sc (.ptr 0 0)), (5, .sc (ownC 3 (acc.map Cost.c))), (6, vi p), (7, vi b.c1.lo)], [.var b.c]⟩ Q =
 Q (.exit 2) ⟨[(1, vi set), (2, .sc (.ptr 0 0)), (5, .sc (ownC 3 ((acc ++ (b.P1 p).filter fun c => b.can c (d4P set)).map Cost.c))), (6, vi p), (7, vi (b.c1.hi + 1)), (33, vb false)], [.var b.c]⟩ := by
 have k1 := hs.k1
 let g : Nat -> List Cost := fun j => acc ++ ((((List.range j).map fun (k : Nat) => b.c1.lo + (k : Int)).flatMap fun f => b.P2 p f).filter fun c => b.can c (d4P set))
 have hgl : ∀ j, (g j).length <= acc.length + 2 * j := fun j => by
  simp only [g, List.length_append]
  have h1 := List.length_filter_le (fun c => b.can c (d4P set)) (((List.range j).map fun (k : Nat) => b.c1.lo + (k : Int)).flatMap fun f => b.P2 p f)
  have h2 := a2G (fun f => b.P2 p f) 2 (fun f => d5S hs p f) ((List.range j).map fun (k : Nat) => b.c1.lo + (k : Int))
  simp only [List.length_map, List.length_range] at h2; omega
 have hgs : ∀ j, g (j + 1) = g j ++ (b.P2 p (b.c1.lo + j)).filter fun c => b.can c (d4P set) := fun j => by
  simp only [g, d5D, List.flatMap_append, List.flatMap_cons, List.flatMap_nil, List.append_nil, List.filter_append, List.append_assoc]
 refine a4q (b.c1.hi - b.c1.lo + 1).toNat (fun j (_ : Unit) => ⟨[(1, vi set), (2, .sc (.ptr 0 0)), (5, .sc (ownC 3 ((g j).map Cost.c))), (6, vi p), (7, vi (b.c1.lo + j))], [.var b.c]⟩) (fun _ _ => True)
  (fun _ => (.exit 2, ⟨[(1, vi set), (2, .sc (.ptr 0 0)), (5, .sc (ownC 3 ((acc ++ (b.P1 p).filter fun c => b.can c (d4P set)).map Cost.c))), (6, vi p), (7, vi (b.c1.hi + 1)), (33, vb false)], [.var b.c]⟩)) () ?_ trivial ?_ ?_ (fun _ _ => rfl)
 ·simp [g]
 ·intro j _ hj _
  refine ⟨(), trivial, ?_⟩
  have hle : decide (b.c1.lo + (j : Int) <= b.c1.hi) = true := decide_eq_true (by omega)
  have hjw : IntKind.i64.wrap (b.c1.lo + (j : Int) + 1) = b.c1.lo + ((j + 1 : Nat) : Int) := by rw [wrap_i64 (by omega) (by omega)]; omega
  have hL {β : Type} (Q : Ex -> St -> Option β) := d6b (Γ := Γ) b hs set (g j) (by have := hgl j; omega) p (b.c1.lo + j) h0 ⟨by omega, by omega⟩ Q
  rw [hgs]
  simp only [go_sem, simprocAttr, d4V, hle, hL, hjw]
 ·intro _ _
  have hm : b.c1.lo + ((b.c1.hi - b.c1.lo + 1).toNat : Int) = b.c1.hi + 1 := by omega
  have hle : decide (b.c1.hi + 1 <= b.c1.hi) = false := decide_eq_false (by omega)
  rw [hm]
  simp only [go_sem, simprocAttr, d4V, hle]
  rfl
theorem d5L (b : Book) [hb : b.Fits] (hs : Sane b) (set : Int) : K Γ (.fn 147) [.agg b.c, vi set] [] = some (.sc (.sl (kS (b.d4N set)) 3 ((b.d4N set).map Cost.c)), []) := by
 have k0 := hs.k0
 have hL {β : Type} (Q : Ex -> St -> Option β) : E Γ d5o ⟨[(1, vi set), (2, .sc (.ptr 0 0)), (5, .sc (.sl .nil 3 [])), (6, vi b.c0.lo)], [.var b.c]⟩ Q =
  Q (.exit 0) ⟨[(1, vi set), (2, .sc (.ptr 0 0)), (5, .sc (ownC 3 ((b.d4N set).map Cost.c))), (6, vi (b.c0.hi + 1)), (21, vb false)], [.var b.c]⟩ := by
  let g : Nat -> List Cost := fun j => (((List.range j).map fun (k : Nat) => b.c0.lo + (k : Int)).flatMap fun p => b.P1 p).filter fun c => b.can c (d4P set)
  have hgl : ∀ j, (g j).length <= 4 * j := fun j => by
   have h1 := List.length_filter_le (fun c => b.can c (d4P set)) (((List.range j).map fun (k : Nat) => b.c0.lo + (k : Int)).flatMap fun p => b.P1 p)
   have h2 := a2G (fun p => b.P1 p) 4 (fun p => d6o hs p) ((List.range j).map fun (k : Nat) => b.c0.lo + (k : Int))
   simp only [List.length_map, List.length_range] at h2
   simp only [g]; omega
  have hgs : ∀ j, g (j + 1) = g j ++ (b.P1 (b.c0.lo + j)).filter fun c => b.can c (d4P set) := fun j => by
   simp only [g, d5D, List.flatMap_append, List.flatMap_cons, List.flatMap_nil, List.append_nil, List.filter_append]
  refine a4q (b.c0.hi - b.c0.lo + 1).toNat (fun j (_ : Unit) => ⟨[(1, vi set), (2, .sc (.ptr 0 0)), (5, .sc (ownC 3 ((g j).map Cost.c))), (6, vi (b.c0.lo + j))], [.var b.c]⟩) (fun _ _ => True)
   (fun _ => (.exit 0, ⟨[(1, vi set), (2, .sc (.ptr 0 0)), (5, .sc (ownC 3 ((b.d4N set).map Cost.c))), (6, vi (b.c0.hi + 1)), (21, vb false)], [.var b.c]⟩)) () ?_ trivial ?_ ?_ (fun _ _ => rfl)
  ·simp [g, ownC]
  ·intro j _ hj _
   refine ⟨(), trivial, ?_⟩
   have hle : decide (b.c0.lo + (j : Int) <= b.c0.hi) = true := decide_eq_true (by omega)
   have hjw : IntKind.i64.wrap (b.c0.lo + (j : Int) + 1) = b.c0.lo + ((j + 1 : Nat) : Int) := by rw [wrap_i64 (by omega) (by omega)]; omega
   have hL {β : Type} (Q : Ex -> St -> Option β) := d6a (Γ := Γ) b hs set (g j) (by have := hgl j; omega) (b.c0.lo + j) ⟨by omega, by omega⟩ Q
   rw [hgs]
   simp only [go_sem, simprocAttr, d4U, hle, hL, hjw]
  ·intro _ _
   have hm : b.c0.lo + ((b.c0.hi - b.c0.lo + 1).toNat : Int) = b.c0.hi + 1 := by omega
   have hle : decide (b.c0.hi + 1 <= b.c0.hi) = false := decide_eq_false (by omega)
   rw [hm]
   simp only [go_sem, simprocAttr, d4U, hle]
   rfl
 have hu := a9I 3 ((b.d4N set).map Cost.c)
 rw [d6p] at hu
 rw [K_fn P04.f147 _ _ rfl]
 simp only [go_sem, simprocAttr, d5d, hL, hu]
end
end Go.Pm.St
namespace Go.Pm.St
open Ac
theorem a5Z {b : Book} (hv : b.valid = true) (is : Bool) : b.err is = if is then if b.now.isEmpty then 42 else 0 else 41 := by simp only [Book.err, hv, if_true]
section
variable {Γ : Env} [P04 Γ] [G04 Γ]
end
end Go.Pm.St
namespace Go.Pm.St
open Ac
theorem d5W (n : Int) : d2J 0 n = false := by
 simp only [d2J, Int.zero_fdiv]
 have : decide (a5l .i64 (BitVec.ofInt 64 0 &&& BitVec.ofInt 64 1) = 1) = false := by decide
 rw [this, Bool.and_false]
theorem d5N : d4P 0 = fun _ => false := funext fun n => d5W n
theorem d5w (b : Book) : b.d4N 0 = b.now.map Prod.fst := by
 simp only [Book.d4N, d5N, Book.now, Book.a3d, List.map_map]
 exact (List.map_id _).symm
theorem d5H {b : Book} {set : Int} {c : Cost} (h : c ∈ b.d4N set) : b.c0.has c.p /\ b.c1.has c.f /\ b.c2.has c.n := by
 simp only [Book.d4N, List.mem_filter] at h
 exact b2c.1 h.1
theorem d5A {b : Book} (hs : Sane b) (set : Int) : (b.d4N set).length <= 8 := Nat.le_trans (List.length_filter_le _ _) (b6P hs)
theorem d5E (b : Book) (i d : Nat) (hi : i < b.singers.length) (r : Nat -> Bool) : alls b b.now i d r = (b.d4N 0).flatMap fun c => (b.a1B c i (d4P 0)).map fun n => a2B b.days c n r d := by
 rw [d5w, d5N, List.flatMap_map]
 simp only [alls]
 have : ∀ t ∈ b.now, allOf b i d r t = (b.a1B t.1 i fun _ => false).map fun n => a2B b.days t.1 n r d := fun t ht => by
  simp only [Book.now, Book.a3d, List.mem_map] at ht
  obtain ⟨c, -, rfl⟩ := ht
  simp [allOf, Book.strong, hi]
 generalize b.now = l at this ⊢
 induction l with
 | nil => rfl
 | cons t l ih => simp only [List.flatMap_cons, this t (by simp), ih fun t ht => this t (by simp [ht])]
def d5i (a : Int × Int) (v : Int) : Int × Int := (min a.1 v, max a.2 v)
theorem d5z : ∀ (l : List Int) (a : Int × Int), l.foldl d5i a = (l.foldl min a.1, l.foldl max a.2)
 | [], a => rfl
 | x :: l, a => by simp only [List.foldl_cons, d5z l]; rfl
theorem d5X {l : List Int} (h : l ≠ []) (hl : ∀ v ∈ l, -1000 <= v /\ v <= 1000) : l.foldl d5i (1000, -1000) = (b2a l, a9Z l) := by
 rw [d5z]
 cases l with
 | nil => exact absurd rfl h
 | cons x l =>
  have := hl x (by simp)
  have e1 : min 1000 x = x := by omega
  have e2 : max (-1000) x = x := by omega
  simp only [List.foldl_cons, e1, e2, b2a, a9Z]
section
variable {Γ : Env} [P04 Γ] [G04 Γ]
def Book.askK (b : Book) (is : Bool) : SK := if b.err is = 0 then kS (b.d4N 0) else .nil
def Book.askL (b : Book) (is : Bool) : List Cost := if b.err is = 0 then b.d4N 0 else []
theorem d5C (b : Book) [hb : b.Fits] (is : Bool) : K Γ (.fn 114) [.agg b.c, vb is] [] = some (.tup [.sc (.sl (b.askK is) 3 ((b.askL is).map Cost.c)), vi (b.err is)], []) := by
 have hc := d5B (Γ := Γ) b
 cases hv : b.valid with
 | false =>
  rw [hv] at hc
  have he : b.err is = 40 := b0G hv
  have h0 : ¬ b.err is = 0 := by rw [he]; decide
  simp only [Book.askK, Book.askL, if_neg h0, he]
  rw [K_fn P04.f114 _ _ rfl]
  simp only [go_sem, simprocAttr, d4I, hc, Bool.false_eq_true]
 | true =>
  rw [hv] at hc
  cases is with
  | false =>
   have he : b.err false = 41 := by rw [a5Z hv]; rfl
   have h0 : ¬ b.err false = 0 := by rw [he]; decide
   simp only [Book.askK, Book.askL, if_neg h0, he]
   rw [K_fn P04.f114 _ _ rfl]
   simp only [go_sem, simprocAttr, d4I, hc]
  | true =>
   have hs := a2n.1 hv
   have hk := d5L (Γ := Γ) b hs 0
   by_cases hne : b.now = []
   ·have he : b.err true = 42 := by rw [a5Z hv, hne]; rfl
    have h0 : ¬ b.err true = 0 := by rw [he]; decide
    have hL : b.d4N 0 = [] := by rw [d5w, hne]; rfl
    rw [hL] at hk
    simp only [Book.askK, Book.askL, if_neg h0, he]
    rw [K_fn P04.f114 _ _ rfl]
    simp only [go_sem, simprocAttr, d4I, hc, hk, List.map_nil]
   ·have he : b.err true = 0 := by rw [a5Z hv]; cases h : b.now <;> simp_all
    have hd : decide (((b.d4N 0).length : Int) = 0) = false := by rw [d5w, List.length_map]; cases h : b.now <;> simp_all; omega
    simp only [Book.askK, Book.askL, if_pos he, he]
    rw [K_fn P04.f114 _ _ rfl]
    simp only [go_sem, simprocAttr, d4I, hc, hk, hd, List.length_map]
theorem d6d (b : Book) [hb : b.Fits] (hs : Sane b) (k1 : SK) (l : List Cost) (m : Nat) (c : Cost) (hm : l[m]? = some c) (h0 : b.c0.has c.p) (h1 : b.c1.has c.f) (h2 : b.c2.has c.n) (i d : Nat) (hd : d < b.days.length) (k2 : SK) (rs : List Rest) (hrs : rs.length <= 1000000) (k3 : SK) (own : List Int) (ho : own.length <= 3) (h30 : ∀ n ∈ own, 0 <= n /\ n <= 30) (a0 : Int × Int) {β : Type} (Q : Ex -> St -> Option β) :
 E Γ d5u ⟨[(1, .sc (.sl k1 3 (l.map Cost.c))), (2, vi i), (3, vi d), (4, .sc (.sl k2 2 (rs.map Rest.c))), (5, .sc (.ptr 0 0)), (10, .sc (.ptr 1 0)), (11, .sc (.ptr 2 0)), (12, vi m), (13, .sc (.sl k3 1 (li own))), (14, vi 0)], [.var b.c, .var [ci 0, ci 0], .var [ci a0.1, ci a0.2]]⟩ Q =
 Q (.exit 2) ⟨[(1, .sc (.sl k1 3 (l.map Cost.c))), (2, vi i), (3, vi d), (4, .sc (.sl k2 2 (rs.map Rest.c))), (5, .sc (.ptr 0 0)), (10, .sc (.ptr 1 0)), (11, .sc (.ptr 2 0)), (12, vi m), (13, .sc (.sl k3 1 (li own))), (14, vi own.length), (32, vb false)], [.var b.c, .var [ci 0, ci 0], .var [ci (own.foldl (fun a n => d5i a (a2B b.days c n (a2Y rs i) d)) a0).1, ci (own.foldl (fun a n => d5i a (a2B b.days c n (a2Y rs i) d)) a0).2]]⟩ := by
 refine (a6g (fun j (a : Int × Int) => ⟨[(1, .sc (.sl k1 3 (l.map Cost.c))), (2, vi i), (3, vi d), (4, .sc (.sl k2 2 (rs.map Rest.c))), (5, .sc (.ptr 0 0)), (10, .sc (.ptr 1 0)), (11, .sc (.ptr 2 0)), (12, vi m), (13, .sc (.sl k3 1 (li own))), (14, vi j)], [.var b.c, .var [ci 0, ci 0], .var [ci a.1, ci a.2]]⟩) own (fun a n => d5i a (a2B b.days c n (a2Y rs i) d))
  (fun a => (.exit 2, ⟨[(1, .sc (.sl k1 3 (l.map Cost.c))), (2, vi i), (3, vi d), (4, .sc (.sl k2 2 (rs.map Rest.c))), (5, .sc (.ptr 0 0)), (10, .sc (.ptr 1 0)), (11, .sc (.ptr 2 0)), (12, vi m), (13, .sc (.sl k3 1 (li own))), (14, vi own.length), (32, vb false)], [.var b.c, .var [ci 0, ci 0], .var [ci a.1, ci a.2]]⟩)) Q (fun j a n hx => ?_) (fun a => ?_) a0).trans rfl
 ·have hlt' := (List.getElem?_eq_some_iff.1 hx).1
  have hlt : decide ((j : Int) < own.length) = true := decide_eq_true (by omega)
  have hiw : IntKind.i64.wrap ((j : Int) + 1) = j + 1 := wrap_i64 (by omega) (by omega)
  have hn := h30 n (List.mem_of_getElem? hx)
  have hk := d5O (Γ := Γ) b hs c h0 h1 h2 (i : Nat) n hn.1 hn.2 d hd k2 rs hrs
  (simp only [go_sem, simprocAttr, d4Z, hx, hm, hlt, hiw, hk, b7L, d5i]; repeat' ((first | refine brY ?_ | refine brN ?_ | refine brA ?_ | refine brD ?_ | refine brF ?_); (try simp only [go_sem, simprocAttr, d4Z, hx, hm, hlt, hiw, hk, b7L, d5i])))
  rfl
 ·have hlt : decide ((own.length : Int) < own.length) = false := decide_eq_false (by omega)
  (simp only [go_sem, simprocAttr, d4Z, hlt, b7L]; repeat' ((first | refine brY ?_ | refine brN ?_ | refine brA ?_ | refine brD ?_ | refine brF ?_); (try simp only [go_sem, simprocAttr, d4Z, hlt, b7L])))
theorem d5G (b : Book) [hb : b.Fits] (hs : Sane b) (hne : b.now ≠ []) (k1 : SK) (i d : Nat) (hi : i < b.singers.length) (hd : d < b.days.length) (k2 : SK) (rs : List Rest) (hrs : rs.length <= 1000000) :
 K Γ (.fn 149) [.agg b.c, .sc (.sl k1 3 ((b.d4N 0).map Cost.c)), vi i, vi d, .sc (.sl k2 2 (rs.map Rest.c))] [] = some (.agg [ci (b.low i d (a2Y rs i)), ci (b.high i d (a2Y rs i))], []) := by
 have hl8 := d5A hs 0
 have hL {β : Type} (Q : Ex -> St -> Option β) : E Γ d5t ⟨[(1, .sc (.sl k1 3 ((b.d4N 0).map Cost.c))), (2, vi i), (3, vi d), (4, .sc (.sl k2 2 (rs.map Rest.c))), (5, .sc (.ptr 0 0)), (10, .sc (.ptr 1 0)), (11, .sc (.ptr 2 0)), (12, vi 0)], [.var b.c, .var [ci 0, ci 0], .var [ci 1000, ci (-1000)]]⟩ Q =
  Q (.exit 0) ⟨[(1, .sc (.sl k1 3 ((b.d4N 0).map Cost.c))), (2, vi i), (3, vi d), (4, .sc (.sl k2 2 (rs.map Rest.c))), (5, .sc (.ptr 0 0)), (10, .sc (.ptr 1 0)), (11, .sc (.ptr 2 0)), (12, vi (b.d4N 0).length), (19, vb false)], [.var b.c, .var [ci 0, ci 0], .var [ci (b.low i d (a2Y rs i)), ci (b.high i d (a2Y rs i))]]⟩ := by
  refine (a6g (fun j (a : Int × Int) => ⟨[(1, .sc (.sl k1 3 ((b.d4N 0).map Cost.c))), (2, vi i), (3, vi d), (4, .sc (.sl k2 2 (rs.map Rest.c))), (5, .sc (.ptr 0 0)), (10, .sc (.ptr 1 0)), (11, .sc (.ptr 2 0)), (12, vi j)], [.var b.c, .var [ci 0, ci 0], .var [ci a.1, ci a.2]]⟩) (b.d4N 0) (fun a c => (b.a1B c i (d4P 0)).foldl (fun a n => d5i a (a2B b.days c n (a2Y rs i) d)) a)
   (fun a => (.exit 0, ⟨[(1, .sc (.sl k1 3 ((b.d4N 0).map Cost.c))), (2, vi i), (3, vi d), (4, .sc (.sl k2 2 (rs.map Rest.c))), (5, .sc (.ptr 0 0)), (10, .sc (.ptr 1 0)), (11, .sc (.ptr 2 0)), (12, vi (b.d4N 0).length), (19, vb false)], [.var b.c, .var [ci 0, ci 0], .var [ci a.1, ci a.2]]⟩)) Q (fun j a c hx => ?_) (fun a => ?_) (1000, -1000)).trans ?_
  ·have hlt' := (List.getElem?_eq_some_iff.1 hx).1
   have hlt : decide ((j : Int) < (b.d4N 0).length) = true := decide_eq_true (by omega)
   have hiw : IntKind.i64.wrap ((j : Int) + 1) = j + 1 := wrap_i64 (by omega) (by omega)
   obtain ⟨h0, h1, h2⟩ := d5H (List.mem_of_getElem? hx)
   have hk := d5U (Γ := Γ) b hs c h0 h1 h2 i hi 0
   obtain ⟨o1, o2⟩ := b4X hs (c := c) (i := i) (but := d4P 0) rfl
   have hL1 (k3 : SK) {β : Type} (Q : Ex -> St -> Option β) := d6d (Γ := Γ) b hs k1 (b.d4N 0) j c hx h0 h1 h2 i d hd k2 rs hrs k3 (b.a1B c i (d4P 0)) o1 o2 a Q
   (simp only [go_sem, simprocAttr, d4Y, hx, hlt, hiw, hk, hL1, List.length_map]; repeat' ((first | refine brY ?_ | refine brN ?_ | refine brA ?_ | refine brD ?_ | refine brF ?_); (try simp only [go_sem, simprocAttr, d4Y, hx, hlt, hiw, hk, hL1, List.length_map])))
   rfl
  ·have hlt : decide (((b.d4N 0).length : Int) < (b.d4N 0).length) = false := decide_eq_false (by omega)
   (simp only [go_sem, simprocAttr, d4Y, hlt, List.length_map]; repeat' ((first | refine brY ?_ | refine brN ?_ | refine brA ?_ | refine brD ?_ | refine brF ?_); (try simp only [go_sem, simprocAttr, d4Y, hlt, List.length_map])))
  ·have e : (b.d4N 0).foldl (fun a c => (b.a1B c i (d4P 0)).foldl (fun a n => d5i a (a2B b.days c n (a2Y rs i) d)) a) (1000, -1000) = (b.low i d (a2Y rs i), b.high i d (a2Y rs i)) := by
    rw [Book.low, Book.high, ← d5X (by obtain ⟨x, l, h⟩ := c0F (b7Z hs) hne (d := d) (r := a2Y rs i) hi; rw [h]; simp) (fun v hv => ?_), d5E b i d hi, foldl_flatMap]
    ·simp only [List.foldl_map]
    ·rw [d5E b i d hi, List.mem_flatMap] at hv
     obtain ⟨c, hc, hv⟩ := hv
     rw [List.mem_map] at hv
     obtain ⟨n, hn, rfl⟩ := hv
     obtain ⟨h0, h1, h2⟩ := d5H hc
     have hn30 := (b4X hs (c := c) (i := i) (but := d4P 0) rfl).2 n hn
     have g1 := b3h hs h0 h1 h2 hn30.1 (r := a2Y rs i) d
     have hm : Mild b.days c := by
      have k0 := hs.k0; have k1 := hs.k1
      simp only [Span.has] at h0 h1
      exact ⟨by omega, by omega, fun x hx => ⟨(hs.dy x hx).1.1, (hs.dy x hx).2.1.1⟩⟩
     have g2 := b3i hm (s := n) (r := a2Y rs i) d
     have hd5 := hs.d5
     omega
   rw [e]
 rw [K_fn P04.f149 _ _ rfl]
 simp only [go_sem, simprocAttr, d5g, hL]
end
end Go.Pm.St
namespace Go.Pm.St
open Ac
theorem d5J {b : Book} {is : Bool} (he : b.err is = 0) : b.askL is = b.d4N 0 := by simp only [Book.askL, if_pos he]
section
variable {Γ : Env} [P04 Γ] [G04 Γ]
end
end Go.Pm.St
namespace Go.Pm.St
open Ac
end Go.Pm.St
namespace Go.Pm.St
open Ac
theorem d9k {l m : List Rest} (h : l.Perm m) (i : Int) (d : Nat) : a2Y l i d = a2Y m i d := by
 rw [Bool.eq_iff_iff]
 exact ⟨fun hr => d8T (fun x hx => h.mem_iff.1 hx) hr, fun hr => d8T (fun x hx => h.mem_iff.2 hx) hr⟩
theorem d9a (b : Book) (l : List Rest) (i : Nat) : onF (a1M b.F l) i = fun e : Nat => b.rest i e || a2Y l i e := by
 funext e; simp only [onF, b5f, F_at, Book.rest]
theorem d9b {b : Book} {l m : List Rest} {i : Nat} (h : ∀ e : Nat, a2Y l i e = a2Y m i e) : b.well (a1M b.F l) i = b.well (a1M b.F m) i := by
 have : onF (a1M b.F l) i = onF (a1M b.F m) i := by rw [d9a, d9a]; funext e; rw [h]
 simp only [Book.well, this]
theorem d8Q {l : List Rest} {i : Int} (h : ∀ x ∈ l, x.singer ≠ i) (e : Nat) : a2Y l i e = false := by
 rw [Bool.eq_false_iff]
 intro hr
 simp only [a2Y, List.any_eq_true, Bool.and_eq_true, decide_eq_true_eq] at hr
 obtain ⟨x, hx, -, hs⟩ := hr
 exact h x hx hs
theorem d9c {b : Book} : ∀ (n : Nat) (p : KL), p ∈ b.a0V n -> ∀ i, i < n -> b.well (a1M b.F p.2) i = true
 | n + 1, p, h, i, hi => by
  simp only [Book.a0V, List.mem_flatMap, List.mem_map] at h
  obtain ⟨q, hq, own, ho, rfl⟩ := h
  rw [b7F]
  by_cases e : i = n
  ·subst e
   have hw : b.well (a1M b.F own) i = true := by
    simp only [Book.alone, a5c, List.mem_filter] at ho; exact ho.2
   rw [← hw]
   refine d9b fun e => ?_
   rw [d1k, d8Q (fun x hx => ?_), Bool.false_or]
   have := (d8K b i q hq).2 x hx; omega
  ·rw [← d9c n q hq i (by omega)]
   refine d9b fun t => ?_
   rw [d1k, d8Q (l := own) (fun x hx => ?_), Bool.or_false]
   have := (d8Y ho).2 x hx; omega
theorem d9w {b : Book} {a : Option (List Rest)} {l s : List Rest} (h : b.look a l = some s) : a = some s \/ (s = a1w l /\ b.enough (a1M b.F (a1w l)) = true) := by
 unfold Book.look at h
 split at h
 ·split at h
  ·rename_i he
   simp only [Option.some.injEq] at h
   exact .inr ⟨h.symm, by simpa using he⟩
  ·cases h
 ·split at h
  ·exact .inl h
  ·split at h
   ·rename_i he
    simp only [Option.some.injEq] at h
    simp only [Bool.and_eq_true] at he
    exact .inr ⟨h.symm, he.2⟩
   ·exact .inl h
theorem d8M {b : Book} : ∀ (ps : List KL) (a : Option (List Rest)) (s : List Rest), ps.foldl (fun a p => b.look a p.2) a = some s -> a = some s \/ ∃ p ∈ ps, s = a1w p.2 /\ b.enough (a1M b.F s) = true
 | [], a, s, h => .inl h
 | p :: ps, a, s, h => by
  rcases d8M ps _ s h with h1 | ⟨q, hq, h2⟩
  ·rcases d9w h1 with h3 | ⟨h3, h4⟩
   ·exact .inl h3
   ·exact .inr ⟨p, by simp, h3, by rw [h3]; exact h4⟩
  ·exact .inr ⟨q, by simp [hq], h2⟩
theorem d9g {b : Book} {s : List Rest} (h : b.best = some s) : b.b5J (a1M b.F s) = true /\ b.enough (a1M b.F s) = true /\ ∃ p ∈ b.a0V b.singers.length, s = a1w p.2 := by
 rcases d8M _ _ _ h with h1 | ⟨p, hp, h2, h3⟩
 ·cases h1
 ·refine ⟨?_, h3, p, hp, h2⟩
  simp only [Book.b5J, Option.isNone_iff_eq_none, a3y]
  intro i hi
  rw [h2, d9b (fun e => d9k (b6V p.2) i e), d9c _ p hp i hi]; rfl
end Go.Pm.St
namespace Go.Pm.St
open Ac
/-! ### The order of plans -/
theorem e0z {x y : Rest} : x.cmp y = 0 <-> x = y := by
 obtain ⟨a, b⟩ := x; obtain ⟨c, d⟩ := y
 unfold Rest.cmp cmp3
 simp only [Rest.mk.injEq]
 by_cases h1 : a < c
 ·simp [h1]; omega
 ·by_cases h2 : c < a
  ·simp [h1, h2]; omega
  ·have : a = c := by omega
   by_cases h3 : b < d
   ·simp [h1, h2, h3, this]; omega
   ·by_cases h4 : d < b <;> simp [h1, h2, h3, h4, this] <;> omega
theorem e0T {α : Type} (p : Nat -> α -> Bool) : ∀ (l : List α) (n : Nat), a0z p (n + 1) l = (a0z (fun i x => p (i + 1) x) n l).map fun q => (q.1 + 1, q.2)
 | [], _ => rfl
 | x :: l, n => by
  simp only [a0z]
  split
  ·rfl
  ·exact e0T p l (n + 1)
theorem e1i : cmpL [] [] = 0 := rfl
theorem e0N (x y : Rest) (l m : List Rest) : cmpL (x :: l) (y :: m) = if x.cmp y = 0 then cmpL l m else x.cmp y := by
 unfold cmpL
 by_cases h : x.cmp y = 0
 ·simp only [a0z, List.getElem?_cons_zero, h, decide_true, Bool.not_true, if_true, Bool.false_eq_true, if_false, e0T, List.getElem?_cons_succ]
  cases a0z (fun i (x : Rest) => match m[i]? with | some y => !decide (x.cmp y = 0) | none => true) 0 l with
  | none => simp
  | some q => simp
 ·simp [a0z, h]
theorem e0O : ∀ l : List Rest, cmpL l l = 0
 | [] => rfl
 | x :: l => by rw [e0N, if_pos (e0z.2 rfl), e0O l]
theorem e0I : ∀ {l m n : List Rest}, l.length = m.length -> m.length = n.length -> cmpL l m < 0 -> cmpL m n < 0 -> cmpL l n < 0
 | [], [], [], _, _, h, _ => by simp [e1i] at h
 | x :: l, y :: m, z :: n, h1, h2, h3, h4 => by
  simp only [List.length_cons, Nat.add_right_cancel_iff] at h1 h2
  rw [e0N] at h3 h4 ⊢
  by_cases a : x.cmp y = 0
  ·rw [if_pos a] at h3
   have e := e0z.1 a
   subst e
   by_cases c : x.cmp z = 0
   ·rw [if_pos c] at h4 ⊢
    exact e0I h1 h2 h3 h4
   ·rw [if_neg c] at h4 ⊢; exact h4
  ·rw [if_neg a] at h3
   by_cases c : y.cmp z = 0
   ·have e := e0z.1 c
    subst e
    rw [if_neg a]; exact h3
   ·rw [if_neg c] at h4
    rw [cmp_neg] at h3 h4
    have h5 : x.cmp z < 0 := by rw [cmp_neg]; omega
    rw [if_neg (by omega)]; exact h5
theorem e0u {l m : List Rest} : better l m = true <-> l.length < m.length \/ (l.length = m.length /\ cmpL l m < 0) := by
 unfold better cmp3
 rw [decide_eq_true_eq]
 by_cases h1 : l.length < m.length
 ·simp [h1]
 ·by_cases h2 : m.length < l.length
  ·simp [h1, h2]; omega
  ·have : l.length = m.length := by omega
   simp [h1, h2, this]
theorem e0E (l : List Rest) : better l l = false := by
 rw [Bool.eq_false_iff]; intro h
 rw [e0u, e0O] at h; omega
theorem e0S {l m n : List Rest} (h1 : better l m = true) (h2 : better m n = true) : better l n = true := by
 rw [e0u] at h1 h2 ⊢
 rcases h1 with h1 | ⟨h1, h3⟩ <;> rcases h2 with h2 | ⟨h2, h4⟩
 ·exact .inl (by omega)
 ·exact .inl (by omega)
 ·exact .inl (by omega)
 ·exact .inr ⟨by omega, e0I h1 h2 h3 h4⟩
/-! ### A look at one plan after the other finds the best one -/
def Kept (t : List Rest) (a : Option (List Rest)) : Prop := ∃ s, a = some s /\ better t s = false
theorem e1f {b : Book} {t l : List Rest} {a : Option (List Rest)} (h : Kept t a) : Kept t (b.look a l) := by
 obtain ⟨s, rfl, h⟩ := h
 simp only [Book.look]
 split
 ·exact ⟨s, rfl, h⟩
 ·split
  ·rename_i hb
   rw [Bool.and_eq_true] at hb
   refine ⟨_, rfl, ?_⟩
   rw [Bool.eq_false_iff]; intro hx
   rw [e0S hx hb.1] at h; cases h
  ·exact ⟨s, rfl, h⟩
theorem e1l {b : Book} {l : List Rest} {a : Option (List Rest)} (h : b.enough (a1M b.F (a1w l)) = true) : Kept (a1w l) (b.look a l) := by
 cases a with
 | none => exact ⟨a1w l, by simp only [Book.look, h, if_true], e0E _⟩
 | some s =>
  simp only [Book.look, h, Bool.and_true]
  split
  ·rename_i hl
   refine ⟨s, rfl, ?_⟩
   rw [Bool.eq_false_iff, Ne, e0u, a8l]; omega
  ·split
   ·exact ⟨_, rfl, e0E _⟩
   ·rename_i hb
    exact ⟨s, rfl, by simpa using hb⟩
theorem e0P {b : Book} {t : List Rest} : ∀ (ps : List KL) (a : Option (List Rest)), Kept t a -> Kept t (ps.foldl (fun a p => b.look a p.2) a)
 | [], _, h => h
 | _ :: ps, _, h => e0P ps _ (e1f h)
theorem e0U {b : Book} {t : List Rest} (he : b.enough (a1M b.F t) = true) : ∀ (ps : List KL) (a : Option (List Rest)), (∃ p ∈ ps, a1w p.2 = t) -> Kept t (ps.foldl (fun a p => b.look a p.2) a)
 | [], _, h => by obtain ⟨p, hp, _⟩ := h; cases hp
 | q :: ps, a, h => by
  obtain ⟨p, hp, ht⟩ := h
  rcases List.mem_cons.1 hp with e | hp
  ·subst e; subst ht
   exact e0P ps _ (e1l he)
  ·exact e0U he ps _ ⟨p, hp, ht⟩
/-! ### Each plan is looked at -/
theorem e0B {α : Type} {r : α -> α -> Prop} (hr : ∀ x y, r x y -> ¬ r y x) : ∀ {m l : List α}, m.Pairwise r -> l.Pairwise r -> (∀ x ∈ l, x ∈ m) -> l.Sublist m
 | _, [], _, _, _ => List.nil_sublist _
 | [], x :: l, _, _, h => by have := h x (by simp); cases this
 | y :: m, x :: l, hm, hl, h => by
  rw [List.pairwise_cons] at hm hl
  have hirr : ∀ z, ¬ r z z := fun z hz => hr z z hz hz
  by_cases e : x = y
  ·subst e
   refine (e0B hr hm.2 hl.2 fun z hz => ?_).cons_cons _
   rcases List.mem_cons.1 (h z (by simp [hz])) with e | h1
   ·subst e; exact absurd (hl.1 z hz) (hirr z)
   ·exact h1
  ·have hx : x ∈ m := by
    rcases List.mem_cons.1 (h x (by simp)) with e' | h1
    ·exact absurd e' e
    ·exact h1
   refine (e0B hr hm.2 (List.pairwise_cons.2 hl) fun z hz => ?_).cons _
   rcases List.mem_cons.1 (h z hz) with e' | h1
   ·subst e'
    rcases List.mem_cons.1 hz with e' | hz
    ·exact absurd e'.symm e
    ·exact absurd (hm.1 x hx) (hr _ _ (hl.1 z hz))
   ·exact h1
theorem e0D : ∀ set < 32, ∀ k < 5, b1v set k = set.testBit k := by decide +kernel
theorem e1g {s t : Nat} (l : List Rest) {j : Nat} (h : ∀ k < j, b1v s k = b1v t k) : subN s l j = subN t l j := by
 unfold subN
 congr 1
 refine List.filter_congr fun k hk => ?_
 rw [List.mem_range] at hk; rw [h k hk]
theorem e1b {l : List Rest} (hl : l.length <= 5) : ∀ (j : Nat), j <= l.length -> ∀ own, own.Sublist (l.take j) -> ∃ set, set < 2 ^ j /\ subN set l j = own
 | 0, _, own, h => ⟨0, by simp, by simp only [List.take_zero, List.sublist_nil] at h; subst h; rfl⟩
 | j + 1, hj, own, h => by
  have hx := List.getElem?_eq_getElem (l := l) (show j < l.length by omega)
  have h32 : 2 ^ (j + 1) <= 32 := b6h (show j + 1 <= 5 by omega)
  have hp : 2 ^ (j + 1) = 2 ^ j + 2 ^ j := by rw [Nat.pow_succ]; omega
  rw [take_snoc hx, List.sublist_append_iff] at h
  obtain ⟨a, c, rfl, ha, hc⟩ := h
  obtain ⟨s, hs, rfl⟩ := e1b hl j (by omega) a ha
  have hbs : b1v s j = false := by
   rw [e0D s (by omega) j (by omega)]
   exact Nat.testBit_lt_two_pow hs
  rcases List.sublist_cons_iff.1 hc with hc | ⟨c', rfl, hc'⟩
  ·rw [List.sublist_nil] at hc; subst hc
   refine ⟨s, by omega, ?_⟩
   rw [b8m s hx, hbs, List.append_nil]; rfl
  ·rw [List.sublist_nil] at hc'; subst hc'
   refine ⟨2 ^ j + s, by omega, ?_⟩
   have hb1 : b1v (2 ^ j + s) j = true := by
    rw [e0D _ (by omega) j (by omega), Nat.testBit_two_pow_add_eq]
    rw [e0D s (by omega) j (by omega)] at hbs
    simp [hbs]
   rw [b8m _ hx, hb1, if_pos rfl]
   congr 1
   refine e1g l fun k hk => ?_
   rw [e0D _ (by omega) k (by omega), e0D s (by omega) k (by omega), Nat.testBit_two_pow_add_gt hk]
theorem e1s {l own : List Rest} (hl : l.length <= 5) (h : own.Sublist l) : ∃ set, set < 2 ^ l.length /\ sub set l = own :=
 e1b hl l.length (Nat.le_refl _) own (by rwa [List.take_length])
def ofS (l : List Rest) (i : Nat) : List Rest := l.filter fun x => decide (x.singer = i)
theorem e1a {l : List Rest} {i : Nat} {x : Rest} : x ∈ ofS l i <-> x ∈ l /\ x.singer = i := by simp [ofS]
theorem e0Z (l : List Rest) (i e : Nat) : a2Y (ofS l i) i e = a2Y l i e := by
 rw [Bool.eq_iff_iff]
 simp only [a2Y, List.any_eq_true, Bool.and_eq_true, decide_eq_true_eq, e1a]
 constructor
 ·rintro ⟨x, ⟨h1, h2⟩, h3⟩; exact ⟨x, h1, h3⟩
 ·rintro ⟨x, h1, h3⟩; exact ⟨x, ⟨h1, h3.2⟩, h3⟩
theorem e0A {b : Book} {l : List Rest} : b.a4k l = true <-> (∀ y ∈ l, b.a2O y.day = true /\ a2b b.signs <= y.day /\ b.a1f y.singer = true /\ b.rests.any (·.same y) = false) /\ l.Pairwise fun x y => x.lt y = true := by
 rw [b6w]
 have hstep : (∀ (i : Nat) y, l[i]? = some y -> ∀ x, 0 < i -> l[i - 1]? = some x -> x.cmp y < 0) <-> l.Pairwise fun x y => x.lt y = true := by
  induction l with
  | nil => simp
  | cons a l ih =>
   rw [List.pairwise_cons, ← ih]
   constructor
   ·intro h
    have h' : ∀ (i : Nat) y, l[i]? = some y -> ∀ x, 0 < i -> l[i - 1]? = some x -> x.cmp y < 0 := fun i y hy x hi hx => by
     refine h (i + 1) y (by simpa using hy) x (by omega) ?_
     rw [Nat.add_sub_cancel]
     obtain ⟨k, rfl⟩ : ∃ k, i = k + 1 := ⟨i - 1, by omega⟩
     simpa using hx
    refine ⟨?_, h'⟩
    have : ∀ (i : Nat) y, l[i]? = some y -> a.lt y = true := by
     intro i
     induction i with
     | zero =>
      intro y hy
      have := h 1 y (by simpa using hy) a (by omega) (by simp)
      rw [lt_iff, ← cmp_neg]; exact this
     | succ i ihi =>
      intro y hy
      obtain ⟨x, hx⟩ : ∃ x, l[i]? = some x := ⟨_, List.getElem?_eq_getElem (by have := (List.getElem?_eq_some_iff.1 hy).1; omega)⟩
      have h1 := ihi x hx
      have h2 := h' (i + 1) y hy x (by omega) (by simpa using hx)
      rw [cmp_neg] at h2
      rw [lt_iff] at h1 ⊢; omega
    intro y hy
    obtain ⟨i, hi⟩ := List.mem_iff_getElem?.1 hy
    exact this i y hi
   ·rintro ⟨h1, h2⟩ i y hy x hi hx
    obtain ⟨k, rfl⟩ : ∃ k, i = k + 1 := ⟨i - 1, by omega⟩
    rw [List.getElem?_cons_succ] at hy
    rw [Nat.add_sub_cancel] at hx
    cases k with
    | zero =>
     simp only [List.getElem?_cons_zero, Option.some.injEq] at hx
     subst hx
     have := h1 y (List.mem_of_getElem? hy)
     rw [lt_iff, ← cmp_neg] at this; exact this
    | succ k =>
     rw [List.getElem?_cons_succ] at hx
     exact h2 (k + 1) y hy x (by omega) (by simpa using hx)
 rw [← hstep]
 constructor
 ·intro h
  refine ⟨fun y hy => ?_, fun i y hy => (h i y hy).2.2.2.2⟩
  obtain ⟨i, hi⟩ := List.mem_iff_getElem?.1 hy
  obtain ⟨h1, h2, h3, h4, _⟩ := h i y hi
  exact ⟨h1, h2, h3, h4⟩
 ·rintro ⟨h1, h2⟩ i y hy
  obtain ⟨g1, g2, g3, g4⟩ := h1 y (List.mem_of_getElem? hy)
  exact ⟨g1, g2, g3, g4, h2 i y hy⟩
theorem e1m {b : Book} {l m : List Rest} (h : b.a4k m = true) (hs : l.Sublist m) : b.a4k l = true := by
 rw [e0A] at h ⊢
 exact ⟨fun y hy => h.1 y (hs.subset hy), h.2.sublist hs⟩
theorem e0V (x y : Rest) (h : x.lt y = true) : ¬ y.lt x = true := by rw [lt_iff] at h ⊢; omega
theorem e0J {b : Book} {y : Rest} {d i : Nat} (hd : y.day = d) (hi : y.singer = i) : b.rests.any (·.same y) = b.rest i d := by
 simp only [Book.rest, a2Y]
 congr 1; funext x
 simp only [Rest.same, hd, hi]
theorem e0W {b : Book} (hs : Sane b) {i : Nat} {y : Rest} : y ∈ b.free i <-> y.singer = i /\ a2b b.signs <= y.day /\ b.a2O y.day = true /\ b.rests.any (·.same y) = false := by
 have ho := o_eq hs
 simp only [Book.free, a7u, List.mem_map, List.mem_filter, List.mem_range, Bool.not_eq_true', Book.a2O, within_iff]
 constructor
 ·rintro ⟨k, ⟨h1, h2⟩, rfl⟩
  refine ⟨rfl, by simp only; omega, by simp only; omega, ?_⟩
  rw [e0J (d := b.o + k) (i := i) rfl rfl]; exact h2
 ·rintro ⟨h1, h2, h3, h4⟩
  refine ⟨(y.day - b.o).toNat, ⟨by omega, ?_⟩, ?_⟩
  ·rw [← e0J (d := b.o + (y.day - b.o).toNat) (i := i) (y := y) (by omega) h1]; exact h4
  ·obtain ⟨d, s⟩ := y
   simp only at h1 h2 h3
   simp only [Rest.mk.injEq]; omega
theorem e1k (b : Book) (i : Nat) : (b.free i).Pairwise fun x y => x.lt y = true := by
 simp only [Book.free, a7u]
 rw [List.pairwise_map]
 refine ((List.pairwise_lt_range (n := b.days.length - b.o)).filter _).imp fun h => ?_
 rw [lt_iff]; simp only; omega
theorem e1c {b : Book} (hs : Sane b) {l : List Rest} (hp : b.a4k l = true) {i : Nat} (hw : b.well (a1M b.F l) i = true) : ofS l i ∈ b.alone i := by
 rw [e0A] at hp
 have hsub : (ofS l i).Sublist (b.free i) := by
  refine e0B (r := fun x y => Rest.lt x y = true) e0V (e1k b i) (hp.2.sublist List.filter_sublist) fun x hx => ?_
  rw [e1a] at hx
  obtain ⟨h1, h2, h3, h4⟩ := hp.1 x hx.1
  exact (e0W hs).2 ⟨hx.2, h2, h1, h4⟩
 obtain ⟨set, hset, he⟩ := e1s (a9i hs i) hsub
 simp only [Book.alone, a5c, List.mem_filter, List.mem_map, List.mem_range]
 refine ⟨⟨set, hset, he⟩, ?_⟩
 rw [← hw]
 exact d9b fun e => e0Z l i e
def catS (l : List Rest) : Nat -> List Rest
 | 0 => []
 | n + 1 => catS l n ++ ofS l n
theorem e0M (l : List Rest) : ∀ n, (catS l n).Perm (l.filter fun x => decide (0 <= x.singer /\ x.singer < n))
 | 0 => by
  have : l.filter (fun x => decide (0 <= x.singer /\ x.singer < ((0 : Nat) : Int))) = [] := by
   rw [List.filter_eq_nil_iff]; intro x _; simp only [decide_eq_true_eq]; omega
  rw [this]; exact List.Perm.nil
 | n + 1 => by
  have h := (e0M l n).append_right (ofS l n)
  refine h.trans ?_
  clear h
  induction l with
  | nil => exact List.Perm.nil
  | cons x l ih =>
   by_cases h1 : 0 <= x.singer /\ x.singer < n
   ·rw [List.filter_cons_of_pos (by simpa using h1), List.filter_cons_of_pos (by simp only [decide_eq_true_eq]; omega)]
    have : ofS (x :: l) n = ofS l n := by rw [ofS, List.filter_cons_of_neg (by simp only [decide_eq_true_eq]; omega)]; rfl
    rw [this, List.cons_append]
    exact ih.cons x
   ·rw [List.filter_cons_of_neg (by simpa using h1)]
    by_cases h2 : x.singer = n
    ·have : ofS (x :: l) n = x :: ofS l n := by rw [ofS, List.filter_cons_of_pos (by simpa using h2)]; rfl
     rw [this, List.filter_cons_of_pos (by simp only [decide_eq_true_eq]; omega)]
     exact List.perm_middle.trans (ih.cons x)
    ·have : ofS (x :: l) n = ofS l n := by rw [ofS, List.filter_cons_of_neg (by simpa using h2)]; rfl
     rw [this, List.filter_cons_of_neg (by simp only [decide_eq_true_eq]; omega)]
     exact ih
theorem e0Q {b : Book} (hs : Sane b) {l : List Rest} (hp : b.a4k l = true) (hw : ∀ i, i < b.singers.length -> b.well (a1M b.F l) i = true) : ∀ n, n <= b.singers.length -> ∃ p ∈ b.a0V n, p.2 = catS l n
 | 0, _ => ⟨(.nil, []), by simp [Book.a0V], rfl⟩
 | n + 1, h => by
  obtain ⟨p, h1, h2⟩ := e0Q hs hp hw n (by omega)
  refine ⟨a2P p (ofS l n), ?_, ?_⟩
  ·simp only [Book.a0V, List.mem_flatMap, List.mem_map]
   exact ⟨p, h1, _, e1c hs hp (hw n (by omega)), rfl⟩
  ·rw [b7F, h2]; rfl
theorem e1o {l : List Rest} (h : l.Pairwise fun x y => x.lt y = true) : Up l := h.imp fun {x y} h => by
 rw [Bool.eq_false_iff]; exact e0V x y h
theorem e0Y {b : Book} (hs : Sane b) {l : List Rest} (hp : b.a4k l = true) (hw : b.b5J (a1M b.F l) = true) : ∃ p ∈ b.a0V b.singers.length, a1w p.2 = l := by
 simp only [Book.b5J, Option.isNone_iff_eq_none, a3y, Bool.not_eq_false'] at hw
 obtain ⟨p, h1, h2⟩ := e0Q hs hp hw _ (Nat.le_refl _)
 rw [e0A] at hp
 refine ⟨p, h1, e0m (b9L _) (e1o hp.2) ((b6V _).trans ?_)⟩
 rw [h2]
 refine (e0M l _).trans ?_
 rw [List.filter_eq_self.2]
 intro x hx
 have h3 := (hp.1 x hx).2.2.1
 rw [Book.a1f, within_iff] at h3
 simp only [decide_eq_true_eq]; omega
def Book.good (b : Book) (l : List Rest) : Bool := b.b5J (a1M b.F l) && b.enough (a1M b.F l)
theorem e0y {b : Book} (hs : Sane b) {l : List Rest} (hp : b.a4k l = true) (hg : b.good l = true) : ∃ s, b.best = some s /\ better l s = false := by
 rw [Book.good, Bool.and_eq_true] at hg
 exact e0U hg.2 _ none (e0Y hs hp hg.1)
theorem e0C {b : Book} (hs : Sane b) {s : List Rest} (h : b.best = some s) : b.a4k s = true /\ b.good s = true := by
 obtain ⟨h1, h2, p, hp, rfl⟩ := d9g h
 refine ⟨?_, by rw [Book.good, h1, h2]; rfl⟩
 have hfree : ∀ n, ∀ q ∈ b.a0V n, ∀ x ∈ q.2, ∃ i, i < n /\ x ∈ b.free i := by
  intro n
  induction n with
  | zero => intro q hq x hx; simp only [Book.a0V, List.mem_singleton] at hq; subst hq; cases hx
  | succ n ih =>
   intro q hq x hx
   simp only [Book.a0V, List.mem_flatMap, List.mem_map] at hq
   obtain ⟨r, hr, own, ho, rfl⟩ := hq
   rw [b7F] at hx
   rcases List.mem_append.1 hx with hx | hx
   ·obtain ⟨i, hi, hm⟩ := ih r hr x hx; exact ⟨i, by omega, hm⟩
   ·simp only [Book.alone, a5c, List.mem_filter, List.mem_map] at ho
    obtain ⟨⟨t, -, rfl⟩, -⟩ := ho
    exact ⟨n, by omega, (sub_sub t _).subset hx⟩
 rw [e0A]
 constructor
 ·intro y hy
  obtain ⟨i, hi, hm⟩ := hfree _ p hp y ((b6V _).mem_iff.1 hy)
  obtain ⟨g1, g2, g3, g4⟩ := (e0W hs).1 hm
  exact ⟨g3, g2, by rw [Book.a1f, within_iff]; omega, g4⟩
 ·have hnd := ((b6V p.2).nodup_iff).2 (d8K b _ p hp).1
  have hup := b9L p.2
  refine (hup.and hnd).imp fun {x y} h => ?_
  obtain ⟨h1, h2⟩ := h
  rw [Bool.eq_false_iff, Ne, lt_iff] at h1
  rw [lt_iff]
  obtain ⟨a, c⟩ := x; obtain ⟨d, e⟩ := y
  simp only [Ne, Rest.mk.injEq] at h1 h2 ⊢; omega
theorem e1e {b : Book} (hs : Sane b) {s l : List Rest} (h : b.best = some s) (hl : l.Sublist s) (hn : l.length < s.length) : b.a4k l = true /\ b.good l = false := by
 have hp := e1m (e0C hs h).1 hl
 refine ⟨hp, ?_⟩
 rw [Bool.eq_false_iff]; intro hg
 obtain ⟨t, h1, h2⟩ := e0y hs hp hg
 rw [h] at h1
 simp only [Option.some.injEq] at h1
 subst h1
 rw [Bool.eq_false_iff, Ne, e0u] at h2; exact h2 (.inl hn)
end Go.Pm.St
namespace Go.Pm.St
open Ac
def jn (l : List Rest) : C := match l with | [] => .sl .full 2 [] | _ :: _ => .own 2 (rl l)
def kF (l : List Rest) : SK := match l with | [] => .full | _ :: _ => .shared
theorem e1n (l : List Rest) : a0r (jn l) = .sl (kF l) 2 (rl l) := by cases l <;> rfl
theorem e0X (n : Nat) (l : List Rest) : C.under n (jn l) = true := by cases l <;> rfl
theorem e0K (k : SK) (l : List Rest) (h : l.length <= 1000) : appended 2 (.sc (.sl .full 2 [])) (.sc (.sl k 2 (rl l))) = some (jn l) := by
 cases l with
 | nil => simp [appended, elems, jn, rl, room]
 | cons x l => simp only [List.length_cons] at h; simp [appended, elems, jn, rl, room]; omega
theorem e1d (k : SK) (l m : List Rest) (h : l.length + m.length <= 1000) : appended 2 (.sc (jn l)) (.sc (.sl k 2 (rl m))) = some (jn (l ++ m)) := by
 cases l with
 | nil => simp only [List.length_nil, Nat.zero_add] at h; exact e0K k m h
 | cons x l => simp only [List.length_cons] at h; simp [appended, elems, jn, rl, room]; omega
theorem e1p (l : List Rest) (x : Rest) (h : l.length <= 100) : appended 2 (.sc (jn l)) (.sc (.sl .full 2 [[ci x.day, ci x.singer]])) = some (.own 2 (rl (l ++ [x]))) := by
 have := e1d .full l [x] (by simp only [List.length_singleton]; omega)
 have e : jn (l ++ [x]) = .own 2 (rl (l ++ [x])) := by cases l <;> rfl
 rw [e] at this; exact this
end Go.Pm.St
namespace Go.Pm.St
open Ac
def Book.allR (b : Book) (l : List Rest) : List Rest := b.rests ++ l
theorem e2G (b : Book) (l : List Rest) (i : Nat) : (fun e : Nat => a2Y (b.allR l) i e) = onF (a1M b.F l) i := by
 rw [d9a]; funext e
 rw [Book.allR, d1k]; rfl
def e2m (b : Book) (r : Nat -> Bool) (e : Nat) : Bool := !a5d b.days e || r e
section
variable {Γ : Env} [P04 Γ] [G04 Γ]
theorem e2J (b : Book) (hs : Sane b) : K Γ (.fn 115) [.agg b.c] [] = some (vi b.o, []) := by
 have hg4 := hs.g4
 have hd5 := hs.d5
 have key : ∀ (l : List Sign) (n : Int), (∀ x ∈ l, 0 <= x.day /\ x.day < b.days.length) -> 0 <= n /\ n <= b.days.length -> 0 <= l.foldl (fun n x => max n (x.day + 1)) n /\ l.foldl (fun n x => max n (x.day + 1)) n <= b.days.length := by
  intro l
  induction l with
  | nil => intro n _ h; exact h
  | cons x l ih =>
   intro n hx hn
   have := hx x (by simp)
   exact ih (max n (x.day + 1)) (fun y hy => hx y (by simp [hy])) (by omega)
 rw [← (o_eq hs).1]
 rw [K_fn P04.f115 _ _ rfl]
 simp only [go_sem, simprocAttr, e2k]
 refine a4Q (fun i => ⟨[(1, .sc (.ptr 0 0)), (3, vi (a2b (b.signs.take i))), (4, vi i)], [.var b.c]⟩) b.signs (.exit 0, ⟨[(1, .sc (.ptr 0 0)), (3, vi (a2b b.signs)), (4, vi b.signs.length), (9, vb false)], [.var b.c]⟩) _ rfl ?_ ?_ |>.trans ?_
 ·intro i x hx
  have hlt' := (List.getElem?_eq_some_iff.1 hx).1
  have hlt : decide ((i : Int) < b.signs.length) = true := decide_eq_true (by omega)
  have hiw : IntKind.i64.wrap ((i : Int) + 1) = i + 1 := wrap_i64 (by omega) (by omega)
  have hok := hs.sg x (List.mem_of_getElem? hx)
  have hdw : IntKind.i64.wrap (x.day + 1) = x.day + 1 := wrap_i64 (by omega) (by omega)
  have hsn : a2b (b.signs.take (i + 1)) = max (a2b (b.signs.take i)) (x.day + 1) := by rw [take_snoc hx]; simp [a2b]
  rw [hsn]
  (simp only [go_sem, simprocAttr, e1X, hx, hiw, hlt, hdw]; repeat' ((first | refine brY ?_ | refine brN ?_ | refine brA ?_ | refine brD ?_ | refine brF ?_); (try simp only [go_sem, simprocAttr, e1X, hx, hiw, hlt, hdw])))
  rfl
 ·have hlt : decide ((b.signs.length : Int) < b.signs.length) = false := decide_eq_false (by omega)
  rw [List.take_length]
  (simp only [go_sem, simprocAttr, e1X, hlt]; repeat' ((first | refine brY ?_ | refine brN ?_ | refine brA ?_ | refine brD ?_ | refine brF ?_); (try simp only [go_sem, simprocAttr, e1X, hlt])))
 ·(simp only [go_sem, simprocAttr]; repeat' (first | ((first | refine brY ?_ | refine brN ?_ | refine brA ?_ | refine brD ?_ | refine brF ?_ | ((first | apply a0k | apply a0j); (· intro h; simp only [go_sem, simprocAttr, a0p h]; exact rfl))); (try simp only [go_sem, simprocAttr])) | ((first | apply a0e | apply d7E | apply a0a) <;> intro h <;> (try simp only [go_sem, simprocAttr, h]))))
theorem e3O (b : Book) [hb : b.Fits] (hs : Sane b) (i d : Nat) (hd : d < b.days.length) (k : SK) (l : List Rest) (hl : l.length <= 1000000) : K Γ (.fn 148) [.agg b.c, vi i, vi d, .sc (.sl k 2 (l.map Rest.c))] [] = some (vb (third b.days (fun e => a2Y l i e) d), []) := by
 have hd5 := hs.d5
 by_cases h2 : d < 2
 ·have d1 : decide ((d : Int) < 2) = true := decide_eq_true (by omega)
  have e : third b.days (fun e => a2Y l i e) d = false := by simp only [third, decide_eq_false (show ¬ 2 <= d by omega), Bool.false_and]
  rw [e]
  rw [K_fn P04.f148 _ _ rfl]
  (simp only [go_sem, simprocAttr, e1L, d1]; repeat' ((first | refine brY ?_ | refine brN ?_ | refine brA ?_ | refine brD ?_ | refine brF ?_); (try simp only [go_sem, simprocAttr, e1L, d1])))
 ·have d1 : decide ((d : Int) < 2) = false := decide_eq_false (by omega)
  have dw : IntKind.i64.wrap ((d : Int) - 2) = ((d - 2 : Nat) : Int) := by rw [wrap_i64 (by omega) (by omega)]; omega
  have hL {β : Type} (Q : Ex -> St -> Option β) : E Γ e2v ⟨[(1, vi i), (2, vi d), (3, .sc (.sl k 2 (l.map Rest.c))), (4, .sc (.ptr 0 0)), (9, vi ((d - 2 : Nat) : Int))], [.var b.c]⟩ Q =
   match a1I (fun j => e2m b (fun e => a2Y l i e) (d - 2 + j)) 3 with
   | some _ => Q .ret ⟨[(8, vb false)], [.var b.c]⟩
   | none => Q (.exit 0) ⟨[(1, vi i), (2, vi d), (3, .sc (.sl k 2 (l.map Rest.c))), (4, .sc (.ptr 0 0)), (9, vi ((d + 1 : Nat) : Int)), (16, vb false)], [.var b.c]⟩ := by
   refine (a6N 3 (fun j => ⟨[(1, vi i), (2, vi d), (3, .sc (.sl k 2 (l.map Rest.c))), (4, .sc (.ptr 0 0)), (9, vi ((d - 2 + j : Nat) : Int))], [.var b.c]⟩) (fun j => e2m b (fun e => a2Y l i e) (d - 2 + j))
    (fun _ => (.ret, ⟨[(8, vb false)], [.var b.c]⟩)) (.exit 0, ⟨[(1, vi i), (2, vi d), (3, .sc (.sl k 2 (l.map Rest.c))), (4, .sc (.ptr 0 0)), (9, vi ((d + 1 : Nat) : Int)), (16, vb false)], [.var b.c]⟩) Q rfl ?_ ?_ ?_).trans ?_
   ·intro j hj hf
    obtain ⟨x, hx⟩ : ∃ x, b.days[d - 2 + j]? = some x := ⟨_, List.getElem?_eq_getElem (by omega)⟩
    have hle : decide (((d - 2 + j : Nat) : Int) <= d) = true := decide_eq_true (by omega)
    have hw : IntKind.i64.wrap (((d - 2 + j : Nat) : Int) + 1) = ((d - 2 + (j + 1) : Nat) : Int) := by rw [wrap_i64 (by omega) (by omega)]; omega
    have hr := d5P (Γ := Γ) k l hl i (d - 2 + j)
    simp only [e2m, Bool.or_eq_false_iff, Bool.not_eq_false', a5d, hx] at hf
    rw [hf.2] at hr
    have hfu := (hs.dy x (List.mem_of_getElem? hx)).2.1
    have hz : decide (x.full = 0) = false := by have := hf.1; simpa using this
    (simp only [go_sem, simprocAttr, e1B, hx, hle, hw, hr, hz]; repeat' ((first | refine brY ?_ | refine brN ?_ | refine brA ?_ | refine brD ?_ | refine brF ?_); (try simp only [go_sem, simprocAttr, e1B, hx, hle, hw, hr, hz])))
   ·intro j hj hf
    obtain ⟨x, hx⟩ : ∃ x, b.days[d - 2 + j]? = some x := ⟨_, List.getElem?_eq_getElem (by omega)⟩
    have hle : decide (((d - 2 + j : Nat) : Int) <= d) = true := decide_eq_true (by omega)
    have hr := d5P (Γ := Γ) k l hl i (d - 2 + j)
    have hfu := (hs.dy x (List.mem_of_getElem? hx)).2.1
    by_cases hx0 : x.full = 0
    ·have hz := decide_eq_true hx0
     (simp only [go_sem, simprocAttr, e1B, hx, hle, hr, hz]; repeat' ((first | refine brY ?_ | refine brN ?_ | refine brA ?_ | refine brD ?_ | refine brF ?_); (try simp only [go_sem, simprocAttr, e1B, hx, hle, hr, hz])))
    ·have hz := decide_eq_false hx0
     have hrt : a2Y l i (d - 2 + j) = true := by
      simpa [e2m, a5d, hx, hx0] using hf
     rw [hrt] at hr
     (simp only [go_sem, simprocAttr, e1B, hx, hle, hr, hz]; repeat' ((first | refine brY ?_ | refine brN ?_ | refine brA ?_ | refine brD ?_ | refine brF ?_); (try simp only [go_sem, simprocAttr, e1B, hx, hle, hr, hz])))
   ·have hle : decide (((d + 1 : Nat) : Int) <= d) = false := decide_eq_false (by omega)
    have e : d - 2 + 3 = d + 1 := by omega
    rw [e]
    simp only [go_sem, simprocAttr, e1B, hle]
   ·cases a1I (fun j => e2m b (fun e => a2Y l i e) (d - 2 + j)) 3 <;> rfl
  have hth : third b.days (fun e => a2Y l i e) d = (a1I (fun j => e2m b (fun e => a2Y l i e) (d - 2 + j)) 3).isNone := by
   rw [Bool.eq_iff_iff, Option.isNone_iff_eq_none, a3y]
   simp only [third, Bool.and_eq_true, decide_eq_true_eq, Bool.not_eq_true', e2m, Bool.or_eq_false_iff, Bool.not_eq_false']
   have e1 : d - 2 + 1 = d - 1 := by omega
   have e2 : d - 2 + 2 = d := by omega
   constructor
   ·rintro ⟨-, h0, h1, h3⟩ j hj
    have hj : j = 0 \/ j = 1 \/ j = 2 := by omega
    rcases hj with rfl | rfl | rfl
    ·exact h0
    ·rw [e1]; exact h1
    ·rw [e2]; exact h3
   ·intro h
    have g1 := h 1 (by omega); have g2 := h 2 (by omega)
    rw [e1] at g1; rw [e2] at g2
    exact ⟨by omega, h 0 (by omega), g1, g2⟩
  rw [hth]
  cases h0 : a1I (fun j => e2m b (fun e => a2Y l i e) (d - 2 + j)) 3 with
  | none => simp only [h0] at hL; rw [K_fn P04.f148 _ _ rfl]; simp only [go_sem, simprocAttr, e1L, d1, dw, hL, Option.isNone_none]
  | some q => simp only [h0] at hL; rw [K_fn P04.f148 _ _ rfl]; simp only [go_sem, simprocAttr, e1L, d1, dw, hL, Option.isNone_some]
theorem e2H (b : Book) [hb : b.Fits] (hs : Sane b) (hne : b.now ≠ []) (k1 : SK) (i d : Nat) (hi : i < b.singers.length) (hd : d < b.days.length) (k : SK) (l : List Rest) (hl : l.length <= 1000000) :
 K Γ (.fn 116) [.agg b.c, .sc (.sl k1 3 ((b.d4N 0).map Cost.c)), vi i, vi d, .sc (.sl k 2 (l.map Rest.c))] [] = some (vb (b.harm i d (fun e => a2Y l i e)), []) := by
 have hT := e3O (Γ := Γ) b hs i d hd k l hl
 have hS := d5G (Γ := Γ) b hs hne k1 i d hi hd k l hl
 simp only [Book.harm]
 cases ht : third b.days (fun e => a2Y l i e) d with
 | true =>
  rw [ht] at hT
  rw [K_fn P04.f116 _ _ rfl]
  simp only [go_sem, simprocAttr, e1R, hT, Bool.true_or]
 | false =>
  rw [ht] at hT
  simp only [Bool.false_or]
  rw [K_fn P04.f116 _ _ rfl]
  simp only [go_sem, simprocAttr, e1R, hT, hS]
theorem e3i (b : Book) [hb : b.Fits] (hs : Sane b) (hne : b.now ≠ []) (k1 : SK) (d : Nat) (hd : d < b.days.length) {β : Type} (Q : Ex -> St -> Option β) :
 E Γ e2u ⟨[(1, .sc (.ptr 0 0)), (5, .sc (.sl k1 3 ((b.d4N 0).map Cost.c))), (7, vi d), (8, vi 0)], [.var b.c]⟩ Q = match b.a5q d with
 | some i => Q .ret ⟨[(2, vi d), (3, vi i), (4, vi 0)], [.var b.c]⟩
 | none => Q (.exit 2) ⟨[(1, .sc (.ptr 0 0)), (5, .sc (.sl k1 3 ((b.d4N 0).map Cost.c))), (7, vi d), (8, vi b.singers.length), (30, vb false)], [.var b.c]⟩ := by
 have hs3 := hs.s3; have hr6 := hs.r6
 refine a6N b.singers.length (fun i => ⟨[(1, .sc (.ptr 0 0)), (5, .sc (.sl k1 3 ((b.d4N 0).map Cost.c))), (7, vi d), (8, vi i)], [.var b.c]⟩) (fun i => b.harm i d (b.rest i))
  (fun i => (.ret, ⟨[(2, vi d), (3, vi i), (4, vi 0)], [.var b.c]⟩)) (.exit 2, ⟨[(1, .sc (.ptr 0 0)), (5, .sc (.sl k1 3 ((b.d4N 0).map Cost.c))), (7, vi d), (8, vi b.singers.length), (30, vb false)], [.var b.c]⟩) Q rfl ?_ ?_ ?_
 ·intro i hi hf
  have hlt := decide_eq_true (show (i : Int) < b.singers.length by omega)
  have hiw : IntKind.i64.wrap ((i : Int) + 1) = i + 1 := wrap_i64 (by omega) (by omega)
  have hk := e2H (Γ := Γ) b hs hne k1 i d hi hd b.kr b.rests (by omega)
  have e : b.harm i d (fun e => a2Y b.rests i e) = b.harm i d (b.rest i) := rfl
  rw [e, hf] at hk
  simp only [go_sem, simprocAttr, e1J, hlt, hiw, hk]
  rfl
 ·intro i hi hf
  have hlt := decide_eq_true (show (i : Int) < b.singers.length by omega)
  have hk := e2H (Γ := Γ) b hs hne k1 i d hi hd b.kr b.rests (by omega)
  have e : b.harm i d (fun e => a2Y b.rests i e) = b.harm i d (b.rest i) := rfl
  rw [e, hf] at hk
  simp only [go_sem, simprocAttr, e1J, hlt, hk]
 ·have hlt := decide_eq_false (show ¬ (b.singers.length : Int) < b.singers.length by omega)
  simp only [go_sem, simprocAttr, e1J, hlt]
theorem e3N (b : Book) [hb : b.Fits] : K Γ (.fn 102) [.agg b.c] [] = some (.tup [vi b.first.1.1, vi b.first.1.2, vi b.first.2], []) := by
 have ha := d5C (Γ := Γ) b true
 by_cases he : b.err true = 0
 ·obtain ⟨hv, -, hne⟩ := a5T he
  have hs := a2n.1 hv
  have hd5 := hs.d5
  obtain ⟨ho, hol⟩ := o_eq hs
  have hok := e2J (Γ := Γ) b hs
  rw [d5J he, he] at ha
  have hL {β : Type} (Q : Ex -> St -> Option β) : E Γ e2t ⟨[(1, .sc (.ptr 0 0)), (5, .sc (.sl (b.askK true) 3 ((b.d4N 0).map Cost.c))), (7, vi b.o)], [.var b.c]⟩ Q =
   match a1I (fun k => (b.a5q (b.o + k)).isSome) (b.days.length - b.o) with
   | some k => Q .ret ⟨[(2, vi ((b.o + k : Nat) : Int)), (3, vi ((b.a5q (b.o + k)).getD 0 : Nat)), (4, vi 0)], [.var b.c]⟩
   | none => Q (.exit 0) ⟨[(1, .sc (.ptr 0 0)), (5, .sc (.sl (b.askK true) 3 ((b.d4N 0).map Cost.c))), (7, vi b.days.length), (23, vb false)], [.var b.c]⟩ := by
   refine (a6N (b.days.length - b.o) (fun k => ⟨[(1, .sc (.ptr 0 0)), (5, .sc (.sl (b.askK true) 3 ((b.d4N 0).map Cost.c))), (7, vi ((b.o + k : Nat) : Int))], [.var b.c]⟩) (fun k => (b.a5q (b.o + k)).isSome)
    (fun k => (.ret, ⟨[(2, vi ((b.o + k : Nat) : Int)), (3, vi ((b.a5q (b.o + k)).getD 0 : Nat)), (4, vi 0)], [.var b.c]⟩)) (.exit 0, ⟨[(1, .sc (.ptr 0 0)), (5, .sc (.sl (b.askK true) 3 ((b.d4N 0).map Cost.c))), (7, vi b.days.length), (23, vb false)], [.var b.c]⟩) Q rfl ?_ ?_ ?_).trans ?_
   ·intro k hk hf
    have hlt : decide (((b.o + k : Nat) : Int) < b.days.length) = true := decide_eq_true (by omega)
    have hdw : IntKind.i64.wrap (((b.o + k : Nat) : Int) + 1) = ((b.o + (k + 1) : Nat) : Int) := by rw [wrap_i64 (by omega) (by omega)]; omega
    have hL {β : Type} (Q : Ex -> St -> Option β) := e3i (Γ := Γ) b hs hne (b.askK true) (b.o + k) (by omega) Q
    rw [Option.isSome_eq_false_iff, Option.isNone_iff_eq_none] at hf
    simp only [hf] at hL
    simp only [go_sem, simprocAttr, e1I, hlt, hdw, hL]
   ·intro k hk hf
    have hlt : decide (((b.o + k : Nat) : Int) < b.days.length) = true := decide_eq_true (by omega)
    have hL {β : Type} (Q : Ex -> St -> Option β) := e3i (Γ := Γ) b hs hne (b.askK true) (b.o + k) (by omega) Q
    obtain ⟨i, hi⟩ := Option.isSome_iff_exists.1 hf
    simp only [hi] at hL
    simp only [hi, Option.getD_some]
    simp only [go_sem, simprocAttr, e1I, hlt, hL]
   ·have hlt : decide (((b.o + (b.days.length - b.o) : Nat) : Int) < b.days.length) = false := decide_eq_false (by omega)
    have e : b.o + (b.days.length - b.o) = b.days.length := by omega
    rw [e] at hlt ⊢
    simp only [go_sem, simprocAttr, e1I, hlt]
   ·cases a1I (fun k => (b.a5q (b.o + k)).isSome) (b.days.length - b.o) <;> rfl
  simp only [Book.first, if_pos he, Book.a4n]
  cases hf : a1I (fun k => (b.a5q (b.o + k)).isSome) (b.days.length - b.o) with
  | none => simp only [hf] at hL; rw [K_fn P04.f102 _ _ rfl]; simp only [go_sem, simprocAttr, e1K, ha, hok, hL]
  | some k => simp only [hf] at hL; rw [K_fn P04.f102 _ _ rfl]; simp only [go_sem, simprocAttr, e1K, ha, hok, hL]
 ·have hd : decide (b.err true = 0) = false := decide_eq_false he
  simp only [Book.first, if_neg he]
  rw [K_fn P04.f102 _ _ rfl]
  simp only [go_sem, simprocAttr, e1K, ha, hd]
def Book.rbad (b : Book) (l : List Rest) (i : Nat) (y : Rest) : Bool :=
 (!within y.day b.o (b.days.length - 1) || !b.a1f y.singer || b.rests.any fun x => decide (x = ⟨y.day, y.singer⟩)) || (decide (0 < i) && (match l[i - 1]? with | some x => decide (0 <= x.cmp y) | none => false))
theorem e3H {b : Book} (hs : Sane b) (l : List Rest) : (a0z (b.rbad l) 0 l).isNone = b.a4k l := by
 have ho := o_eq hs
 rw [Bool.eq_iff_iff, b6w, Option.isNone_iff_eq_none, a2L]
 refine forall_congr' fun i => forall_congr' fun y => ?_
 by_cases hy : l[i]? = some y
 ·simp only [hy, forall_const, Nat.zero_add, Book.rbad, Bool.or_eq_false_iff, Bool.not_eq_false', Bool.and_eq_false_iff, decide_eq_false_iff_not, within_iff, Book.a2O, and_assoc]
  have hsame : (b.rests.any fun x => decide (x = ⟨y.day, y.singer⟩)) = b.rests.any (·.same y) := by
   congr 1; funext x
   obtain ⟨a, c⟩ := x; obtain ⟨e, f⟩ := y
   by_cases h1 : a = e <;> by_cases h2 : c = f <;> simp [Rest.same, h1, h2]
  rw [hsame]
  constructor
  ·rintro ⟨h1, h2, h3, h4, h5⟩
   refine ⟨by omega, h2, by omega, h3, h4, fun x hi hx => ?_⟩
   rcases h5 with h5 | h5
   ·exact absurd hi h5
   ·rw [hx] at h5
    simp only [decide_eq_false_iff_not] at h5; omega
  ·rintro ⟨h1, h2, h3, h4, h5, h6⟩
   refine ⟨by omega, h2, h4, h5, ?_⟩
   by_cases hi : 0 < i
   ·refine .inr ?_
    cases hx : l[i - 1]? with
    | none => rfl
    | some x =>
     have := h6 x hi hx
     exact decide_eq_false (by omega)
   ·exact .inl hi
 ·simp [hy]
theorem e3D {x y : Rest} : 0 <= x.cmp y <-> y.day < x.day \/ (y.day = x.day /\ y.singer <= x.singer) := by
 have := cmp_neg (x := x) (y := y)
 have h : 0 <= x.cmp y <-> ¬ x.cmp y < 0 := by omega
 rw [h, this]; omega
set_option maxHeartbeats 1000000 in
theorem e3m (b : Book) [hb : b.Fits] (hs : Sane b) (k : SK) (l : List Rest) (hl : l.length <= 9223372036854775807) : K Γ (.fn 120) [.agg b.c, .sc (.sl k 2 (l.map Rest.c))] [] = some (vb (b.a4k l), []) := by
 have hs3 := hs.s3; have hd5 := hs.d5; have hr6 := hs.r6
 have hop := e2J (Γ := Γ) b hs
 have hdw : IntKind.i64.wrap ((b.days.length : Int) - 1) = b.days.length - 1 := wrap_i64 (by omega) (by omega)
 have hsi (n : Int) := d5x (Γ := Γ) b n
 have hre (i d : Int) := d5Q (Γ := Γ) b.kr b.rests (by omega) i d
 have hL {β : Type} (Q : Ex -> St -> Option β) : E Γ e2r ⟨[(1, .sc (.sl k 2 (l.map Rest.c))), (2, .sc (.ptr 0 0)), (5, vi 0)], [.var b.c]⟩ Q =
  match a0z (b.rbad l) 0 l with
  | some q => Q .ret ⟨[(4, vb false)], [.var b.c, .var q.2.c]⟩
  | none => Q (.exit 0) ⟨[(1, .sc (.sl k 2 (l.map Rest.c))), (2, .sc (.ptr 0 0)), (5, vi l.length), (10, vb false)], [.var b.c]⟩ := by
  refine (a4L (fun j => ⟨[(1, .sc (.sl k 2 (l.map Rest.c))), (2, .sc (.ptr 0 0)), (5, vi j)], [.var b.c]⟩) l (b.rbad l)
   (fun _ x => (.ret, ⟨[(4, vb false)], [.var b.c, .var x.c]⟩)) (.exit 0, ⟨[(1, .sc (.sl k 2 (l.map Rest.c))), (2, .sc (.ptr 0 0)), (5, vi l.length), (10, vb false)], [.var b.c]⟩) Q ?_ ?_ ?_).trans ?_
  ·intro j y hy hf
   have hlt' := (List.getElem?_eq_some_iff.1 hy).1
   have hlt := decide_eq_true (show (j : Int) < l.length by omega)
   have hiw : IntKind.i64.wrap ((j : Int) + 1) = j + 1 := wrap_i64 (by omega) (by omega)
   simp only [Book.rbad, Bool.or_eq_false_iff, Bool.not_eq_false'] at hf
   obtain ⟨⟨⟨f1, f2⟩, f3⟩, f4⟩ := hf
   by_cases h0 : j = 0
   ·subst h0
    (simp only [go_sem, simprocAttr, e1w, hy, hlt, hiw, hop, hdw, hsi, hre, f1, f2, f3, List.length_map]; repeat' ((first | refine brY ?_ | refine brN ?_ | refine brA ?_ | refine brD ?_ | refine brF ?_); (try simp only [go_sem, simprocAttr, e1w, hy, hlt, hiw, hop, hdw, hsi, hre, f1, f2, f3, List.length_map])))
   ·have hgt := decide_eq_true (show (0 : Int) < j by omega)
    have hjw : IntKind.i64.wrap ((j : Int) - 1) = ((j - 1 : Nat) : Int) := by rw [wrap_i64 (by omega) (by omega)]; omega
    obtain ⟨x, hx⟩ : ∃ x, l[j - 1]? = some x := ⟨_, List.getElem?_eq_getElem (by omega)⟩
    rw [hx, decide_eq_true (show 0 < j by omega), Bool.true_and] at f4
    have f4 := of_decide_eq_false f4
    rw [e3D] at f4
    have e1 := decide_eq_false (show ¬ y.day < x.day by omega)
    by_cases h2 : y.day = x.day
    ·have e2 := decide_eq_true h2
     have e3 := decide_eq_false (show ¬ y.singer <= x.singer by omega)
     (simp only [go_sem, simprocAttr, e1w, hy, hx, hlt, hiw, hgt, hjw, hop, hdw, hsi, hre, f1, f2, f3, e1, e2, e3, List.length_map]; repeat' ((first | refine brY ?_ | refine brN ?_ | refine brA ?_ | refine brD ?_ | refine brF ?_); (try simp only [go_sem, simprocAttr, e1w, hy, hx, hlt, hiw, hgt, hjw, hop, hdw, hsi, hre, f1, f2, f3, e1, e2, e3, List.length_map])))
     rfl
    ·have e2 := decide_eq_false h2
     (simp only [go_sem, simprocAttr, e1w, hy, hx, hlt, hiw, hgt, hjw, hop, hdw, hsi, hre, f1, f2, f3, e1, e2, List.length_map]; repeat' ((first | refine brY ?_ | refine brN ?_ | refine brA ?_ | refine brD ?_ | refine brF ?_); (try simp only [go_sem, simprocAttr, e1w, hy, hx, hlt, hiw, hgt, hjw, hop, hdw, hsi, hre, f1, f2, f3, e1, e2, List.length_map])))
     rfl
  ·intro j y hy hf
   have hlt' := (List.getElem?_eq_some_iff.1 hy).1
   have hlt := decide_eq_true (show (j : Int) < l.length by omega)
   cases f1 : within y.day b.o (b.days.length - 1) with
   | false => (simp only [go_sem, simprocAttr, e1w, hy, hlt, hop, hdw, hsi, hre, f1, List.length_map]; repeat' ((first | refine brY ?_ | refine brN ?_ | refine brA ?_ | refine brD ?_ | refine brF ?_); (try simp only [go_sem, simprocAttr, e1w, hy, hlt, hop, hdw, hsi, hre, f1, List.length_map])))
   | true =>
    cases f2 : b.a1f y.singer with
    | false => (simp only [go_sem, simprocAttr, e1w, hy, hlt, hop, hdw, hsi, hre, f1, f2, List.length_map]; repeat' ((first | refine brY ?_ | refine brN ?_ | refine brA ?_ | refine brD ?_ | refine brF ?_); (try simp only [go_sem, simprocAttr, e1w, hy, hlt, hop, hdw, hsi, hre, f1, f2, List.length_map])))
    | true =>
     cases f3 : b.rests.any fun x => decide (x = ⟨y.day, y.singer⟩) with
     | true => (simp only [go_sem, simprocAttr, e1w, hy, hlt, hop, hdw, hsi, hre, f1, f2, f3, List.length_map]; repeat' ((first | refine brY ?_ | refine brN ?_ | refine brA ?_ | refine brD ?_ | refine brF ?_); (try simp only [go_sem, simprocAttr, e1w, hy, hlt, hop, hdw, hsi, hre, f1, f2, f3, List.length_map])))
     | false =>
      simp only [Book.rbad, f1, f2, f3, Bool.not_true, Bool.false_or, Bool.and_eq_true, decide_eq_true_eq] at hf
      obtain ⟨h0, f4⟩ := hf
      have hgt := decide_eq_true (show (0 : Int) < j by omega)
      have hjw : IntKind.i64.wrap ((j : Int) - 1) = ((j - 1 : Nat) : Int) := by rw [wrap_i64 (by omega) (by omega)]; omega
      obtain ⟨x, hx⟩ : ∃ x, l[j - 1]? = some x := ⟨_, List.getElem?_eq_getElem (by omega)⟩
      rw [hx] at f4
      have f4 := of_decide_eq_true f4
      rw [e3D] at f4
      by_cases h1 : y.day < x.day
      ·have e1 := decide_eq_true h1
       (simp only [go_sem, simprocAttr, e1w, hy, hx, hlt, hgt, hjw, hop, hdw, hsi, hre, f1, f2, f3, e1, List.length_map]; repeat' ((first | refine brY ?_ | refine brN ?_ | refine brA ?_ | refine brD ?_ | refine brF ?_); (try simp only [go_sem, simprocAttr, e1w, hy, hx, hlt, hgt, hjw, hop, hdw, hsi, hre, f1, f2, f3, e1, List.length_map])))
      ·have e1 := decide_eq_false h1
       have e2 := decide_eq_true (show y.day = x.day by omega)
       have e3 := decide_eq_true (show y.singer <= x.singer by omega)
       (simp only [go_sem, simprocAttr, e1w, hy, hx, hlt, hgt, hjw, hop, hdw, hsi, hre, f1, f2, f3, e1, e2, e3, List.length_map]; repeat' ((first | refine brY ?_ | refine brN ?_ | refine brA ?_ | refine brD ?_ | refine brF ?_); (try simp only [go_sem, simprocAttr, e1w, hy, hx, hlt, hgt, hjw, hop, hdw, hsi, hre, f1, f2, f3, e1, e2, e3, List.length_map])))
  ·have hlt := decide_eq_false (show ¬ (l.length : Int) < l.length by omega)
   simp only [go_sem, simprocAttr, e1w, hlt, List.length_map]
  ·cases a0z (b.rbad l) 0 l <;> rfl
 rw [← e3H hs]
 cases h0 : a0z (b.rbad l) 0 l with
 | some q => simp only [h0] at hL; rw [K_fn P04.f120 _ _ rfl]; simp only [go_sem, simprocAttr, e1S, hL, Option.isNone_some]
 | none => simp only [h0] at hL; rw [K_fn P04.f120 _ _ rfl]; simp only [go_sem, simprocAttr, e1S, hL, Option.isNone_none]
theorem e3Z (b : Book) [hb : b.Fits] (k : SK) (l : List Rest) (hl : l.length <= 9223372036854775807) : K Γ (.fn 104) [.agg b.c, .sc (.sl k 2 (l.map Rest.c))] [] = some (.tup [vb (b.valid && b.a4k l), vi (if b.valid then 0 else 40)], []) := by
 have hc := d5B (Γ := Γ) b
 cases hv : b.valid with
 | false =>
  simp only [hv] at hc
  rw [K_fn P04.f104 _ _ rfl]
  simp only [go_sem, simprocAttr, e1Z, hc]
 | true =>
  have hi := e3m (Γ := Γ) b (a2n.1 hv) k l hl
  simp only [hv] at hc
  rw [K_fn P04.f104 _ _ rfl]
  simp only [go_sem, simprocAttr, e1Z, hc, hi]
theorem e3p (b : Book) [hb : b.Fits] (hs : Sane b) (k : SK) (l : List Rest) (hl : l.length <= 500) : K Γ (.fn 124) [.agg b.c, .sc (.sl k 2 (l.map Rest.c))] [] = some (.sc (.sl (kF (b.allR l)) 2 ((b.allR l).map Rest.c)), []) := by
 have hr6 := hs.r6
 have hA := e0K b.kr b.rests (by omega)
 have hJ := e1d k b.rests l (by omega)
 have hU := e0X
 have hun := e1n
 rw [K_fn P04.f124 _ _ rfl]
 simp only [go_sem, simprocAttr, e2g, hA, hJ, hU, hun]
 rfl
theorem e2Y (b : Book) [hb : b.Fits] (hs : Sane b) (k : SK) (l : List Rest) (hl : l.length <= 500) (d : Nat) {β : Type} (Q : Ex -> St -> Option β) :
 E Γ e2q ⟨[(1, .sc (.sl k 2 ((b.allR l).map Rest.c))), (2, .sc (.ptr 0 0)), (5, vi d), (6, vi 0), (7, vi 0)], [.var b.c]⟩ Q =
 Q (.exit 2) ⟨[(1, .sc (.sl k 2 ((b.allR l).map Rest.c))), (2, .sc (.ptr 0 0)), (5, vi d), (6, vi (b.sing (a1M b.F l) d)), (7, vi b.singers.length), (21, vb false)], [.var b.c]⟩ := by
 have hs3 := hs.s3; have hr6 := hs.r6
 have hle : ∀ k, ((List.range k).filter fun i => !onF (a1M b.F l) i d).length <= k := fun k => Nat.le_trans (List.length_filter_le _ _) (by simp)
 refine a4q b.singers.length (fun j (_ : Unit) => ⟨[(1, .sc (.sl k 2 ((b.allR l).map Rest.c))), (2, .sc (.ptr 0 0)), (5, vi d), (6, vi (((List.range j).filter fun i => !onF (a1M b.F l) i d).length : Nat)), (7, vi j)], [.var b.c]⟩) (fun _ _ => True)
  (fun _ => (.exit 2, ⟨[(1, .sc (.sl k 2 ((b.allR l).map Rest.c))), (2, .sc (.ptr 0 0)), (5, vi d), (6, vi (b.sing (a1M b.F l) d)), (7, vi b.singers.length), (21, vb false)], [.var b.c]⟩)) () rfl trivial ?_ ?_ (fun _ _ => rfl)
 ·intro j _ hj _
  refine ⟨(), trivial, ?_⟩
  have hlt := decide_eq_true (show (j : Int) < b.singers.length by omega)
  have hjw : IntKind.i64.wrap ((j : Int) + 1) = j + 1 := wrap_i64 (by omega) (by omega)
  have hk3 := hle j
  have hnw : IntKind.i64.wrap ((((List.range j).filter fun i => !onF (a1M b.F l) i d).length : Int) + 1) = ((((List.range j).filter fun i => !onF (a1M b.F l) i d).length + 1 : Nat) : Int) := by rw [wrap_i64 (by omega) (by omega)]; omega
  have hr := d5P (Γ := Γ) k (b.allR l) (by rw [Book.allR, List.length_append]; omega) j d
  have hrF : a2Y (b.allR l) (j : Nat) d = onF (a1M b.F l) j d := congrFun (e2G b l j) d
  rw [hrF] at hr
  rw [List.range_succ, List.filter_append, List.filter_cons, List.filter_nil]
  cases hf : onF (a1M b.F l) j d with
  | true =>
   rw [hf] at hr
   simp only [Bool.not_true, Bool.false_eq_true, if_false, List.append_nil]
   simp only [go_sem, simprocAttr, e1G, hlt, hjw, hr]
   rfl
  | false =>
   rw [hf] at hr
   simp only [Bool.not_false, if_true, List.length_append, List.length_cons, List.length_nil, Nat.zero_add]
   simp only [go_sem, simprocAttr, e1G, hlt, hjw, hr, hnw]
   rfl
 ·intro _ _
  have hlt := decide_eq_false (show ¬ (b.singers.length : Int) < b.singers.length by omega)
  simp only [go_sem, simprocAttr, e1G, hlt]
  rfl
theorem e3k (b : Book) [hb : b.Fits] (hs : Sane b) (k : SK) (l : List Rest) (hl : l.length <= 500) : K Γ (.fn 125) [.agg b.c, .sc (.sl k 2 ((b.allR l).map Rest.c))] [] = some (vb (b.enough (a1M b.F l)), []) := by
 have hd5 := hs.d5
 obtain ⟨ho, hol⟩ := o_eq hs
 have hok := e2J (Γ := Γ) b hs
 have hL {β : Type} (Q : Ex -> St -> Option β) : E Γ e2p ⟨[(1, .sc (.sl k 2 ((b.allR l).map Rest.c))), (2, .sc (.ptr 0 0)), (5, vi b.o)], [.var b.c]⟩ Q =
  match a1I (fun k => decide ((b.sing (a1M b.F l) (b.o + k) : Int) < b.a8P (b.o + k))) (b.days.length - b.o) with
  | some _ => Q .ret ⟨[(4, vb false)], [.var b.c]⟩
  | none => Q (.exit 0) ⟨[(1, .sc (.sl k 2 ((b.allR l).map Rest.c))), (2, .sc (.ptr 0 0)), (5, vi b.days.length), (14, vb false)], [.var b.c]⟩ := by
  refine (a6N (b.days.length - b.o) (fun j => ⟨[(1, .sc (.sl k 2 ((b.allR l).map Rest.c))), (2, .sc (.ptr 0 0)), (5, vi ((b.o + j : Nat) : Int))], [.var b.c]⟩) (fun k => decide ((b.sing (a1M b.F l) (b.o + k) : Int) < b.a8P (b.o + k)))
   (fun _ => (.ret, ⟨[(4, vb false)], [.var b.c]⟩)) (.exit 0, ⟨[(1, .sc (.sl k 2 ((b.allR l).map Rest.c))), (2, .sc (.ptr 0 0)), (5, vi b.days.length), (14, vb false)], [.var b.c]⟩) Q rfl ?_ ?_ ?_).trans ?_
  ·intro j hj hf
   have hlt : decide (((b.o + j : Nat) : Int) < b.days.length) = true := decide_eq_true (by omega)
   have hdw : IntKind.i64.wrap (((b.o + j : Nat) : Int) + 1) = ((b.o + (j + 1) : Nat) : Int) := by rw [wrap_i64 (by omega) (by omega)]; omega
   obtain ⟨x, hx⟩ : ∃ x, b.days[b.o + j]? = some x := ⟨_, List.getElem?_eq_getElem (by omega)⟩
   have hL {β : Type} (Q : Ex -> St -> Option β) := e2Y (Γ := Γ) b hs k l hl (b.o + j) Q
   simp only [Book.a8P, hx] at hf
   (simp only [go_sem, simprocAttr, e1F, hlt, hdw, hL, hx, hf]; repeat' ((first | refine brY ?_ | refine brN ?_ | refine brA ?_ | refine brD ?_ | refine brF ?_); (try simp only [go_sem, simprocAttr, e1F, hlt, hdw, hL, hx, hf])))
  ·intro j hj hf
   have hlt : decide (((b.o + j : Nat) : Int) < b.days.length) = true := decide_eq_true (by omega)
   obtain ⟨x, hx⟩ : ∃ x, b.days[b.o + j]? = some x := ⟨_, List.getElem?_eq_getElem (by omega)⟩
   have hL {β : Type} (Q : Ex -> St -> Option β) := e2Y (Γ := Γ) b hs k l hl (b.o + j) Q
   simp only [Book.a8P, hx] at hf
   (simp only [go_sem, simprocAttr, e1F, hlt, hL, hx, hf]; repeat' ((first | refine brY ?_ | refine brN ?_ | refine brA ?_ | refine brD ?_ | refine brF ?_); (try simp only [go_sem, simprocAttr, e1F, hlt, hL, hx, hf])))
  ·have hlt : decide (((b.o + (b.days.length - b.o) : Nat) : Int) < b.days.length) = false := decide_eq_false (by omega)
   have e : b.o + (b.days.length - b.o) = b.days.length := by omega
   rw [e] at hlt ⊢
   simp only [go_sem, simprocAttr, e1F, hlt]
  ·cases a1I (fun k => decide ((b.sing (a1M b.F l) (b.o + k) : Int) < b.a8P (b.o + k))) (b.days.length - b.o) <;> rfl
 simp only [Book.enough]
 cases hf : a1I (fun k => decide ((b.sing (a1M b.F l) (b.o + k) : Int) < b.a8P (b.o + k))) (b.days.length - b.o) with
 | none => simp only [hf] at hL; rw [K_fn P04.f125 _ _ rfl]; simp only [go_sem, simprocAttr, e1Q, hok, hL, Option.isNone_none]
 | some q => simp only [hf] at hL; rw [K_fn P04.f125 _ _ rfl]; simp only [go_sem, simprocAttr, e1Q, hok, hL, Option.isNone_some]
theorem e3v (b : Book) [hb : b.Fits] (hs : Sane b) (hne : b.now ≠ []) (k1 : SK) (i : Nat) (hi : i < b.singers.length) (k : SK) (l : List Rest) (hl : l.length <= 500) :
 K Γ (.fn 126) [.agg b.c, .sc (.sl k1 3 ((b.d4N 0).map Cost.c)), vi i, .sc (.sl k 2 ((b.allR l).map Rest.c))] [] = some (vb (b.well (a1M b.F l) i), []) := by
 have hd5 := hs.d5; have hr6 := hs.r6
 obtain ⟨ho, hol⟩ := o_eq hs
 have hok := e2J (Γ := Γ) b hs
 have hL {β : Type} (Q : Ex -> St -> Option β) : E Γ e2z ⟨[(1, .sc (.sl k1 3 ((b.d4N 0).map Cost.c))), (2, vi i), (3, .sc (.sl k 2 ((b.allR l).map Rest.c))), (4, .sc (.ptr 0 0)), (9, vi b.o)], [.var b.c]⟩ Q =
  match a1I (fun k => b.harm i (b.o + k) (onF (a1M b.F l) i)) (b.days.length - b.o) with
  | some _ => Q .ret ⟨[(8, vb false)], [.var b.c]⟩
  | none => Q (.exit 0) ⟨[(1, .sc (.sl k1 3 ((b.d4N 0).map Cost.c))), (2, vi i), (3, .sc (.sl k 2 ((b.allR l).map Rest.c))), (4, .sc (.ptr 0 0)), (9, vi b.days.length), (16, vb false)], [.var b.c]⟩ := by
  refine (a6N (b.days.length - b.o) (fun j => ⟨[(1, .sc (.sl k1 3 ((b.d4N 0).map Cost.c))), (2, vi i), (3, .sc (.sl k 2 ((b.allR l).map Rest.c))), (4, .sc (.ptr 0 0)), (9, vi ((b.o + j : Nat) : Int))], [.var b.c]⟩) (fun k => b.harm i (b.o + k) (onF (a1M b.F l) i))
   (fun _ => (.ret, ⟨[(8, vb false)], [.var b.c]⟩)) (.exit 0, ⟨[(1, .sc (.sl k1 3 ((b.d4N 0).map Cost.c))), (2, vi i), (3, .sc (.sl k 2 ((b.allR l).map Rest.c))), (4, .sc (.ptr 0 0)), (9, vi b.days.length), (16, vb false)], [.var b.c]⟩) Q rfl ?_ ?_ ?_).trans ?_
  ·intro j hj hf
   have hlt : decide (((b.o + j : Nat) : Int) < b.days.length) = true := decide_eq_true (by omega)
   have hdw : IntKind.i64.wrap (((b.o + j : Nat) : Int) + 1) = ((b.o + (j + 1) : Nat) : Int) := by rw [wrap_i64 (by omega) (by omega)]; omega
   have hk := e2H (Γ := Γ) b hs hne k1 i (b.o + j) hi (by omega) k (b.allR l) (by rw [Book.allR, List.length_append]; omega)
   rw [e2G, hf] at hk
   simp only [go_sem, simprocAttr, e1M, hlt, hdw, hk]
  ·intro j hj hf
   have hlt : decide (((b.o + j : Nat) : Int) < b.days.length) = true := decide_eq_true (by omega)
   have hk := e2H (Γ := Γ) b hs hne k1 i (b.o + j) hi (by omega) k (b.allR l) (by rw [Book.allR, List.length_append]; omega)
   rw [e2G, hf] at hk
   simp only [go_sem, simprocAttr, e1M, hlt, hk]
  ·have hlt : decide (((b.o + (b.days.length - b.o) : Nat) : Int) < b.days.length) = false := decide_eq_false (by omega)
   have e : b.o + (b.days.length - b.o) = b.days.length := by omega
   rw [e] at hlt ⊢
   simp only [go_sem, simprocAttr, e1M, hlt]
  ·cases a1I (fun k => b.harm i (b.o + k) (onF (a1M b.F l) i)) (b.days.length - b.o) <;> rfl
 simp only [Book.well]
 cases hf : a1I (fun k => b.harm i (b.o + k) (onF (a1M b.F l) i)) (b.days.length - b.o) with
 | none => simp only [hf] at hL; rw [K_fn P04.f126 _ _ rfl]; simp only [go_sem, simprocAttr, e1V, hok, hL, Option.isNone_none]
 | some q => simp only [hf] at hL; rw [K_fn P04.f126 _ _ rfl]; simp only [go_sem, simprocAttr, e1V, hok, hL, Option.isNone_some]
end
end Go.Pm.St
namespace Go.Pm.St
open Ac
def Book.bare (b : Book) : Book := { b with kg := .nil, signs := [] }
def Book.lie (b : Book) (m : Rest) : Book := { b with kr := .shared, rests := b.rests ++ [m] }
def ownR (b : Book) (m : Rest) : List C := [.sl b.ks 2 (b.singers.map Span.c), ci b.c0.lo, ci b.c0.hi, ci b.c1.lo, ci b.c1.hi, ci b.c2.lo, ci b.c2.hi, .sl b.kd 3 (b.days.map Day.c), .own 2 (b.rests.map Rest.c ++ [m.c]), .sl b.kg 4 (b.signs.map Sign.c)]
@[go_sem] theorem d1T (b : Book) : b.c.set 9 (.sl .nil 4 []) = b.bare.c := nrfl rfl
@[go_sem] theorem d1O (b : Book) (m : Rest) : b.bare.c.set 8 (.own 2 (b.rests.map Rest.c ++ [m.c])) = ownR b.bare m := nrfl rfl
@[go_sem] theorem d1U (b : Book) (m : Rest) : a0R (ownR b m) 0 10 = some (ownR b m) := nrfl rfl
@[go_sem] theorem d1V (b : Book) (m : Rest) : (ownR b m).map a0r = (b.lie m).c := by
 simp [ownR, Book.lie, Book.c, a0r]
@[go_sem] theorem d1S (b : Book) (m : Rest) (n : Nat) : C.a0G n (ownR b m) = true := by simp [ownR, go_sem]
section
variable {Γ : Env} [P04 Γ] [G04 Γ]
end
end Go.Pm.St
namespace Go.Pm.St
open Ac
def Incr (f n : Int) : List Int -> Prop
 | [] => True
 | x :: xs => f <= x /\ x < n /\ Incr (x + 1) n xs
theorem Incr.mem {n : Int} : ∀ {f : Int} {l : List Int}, Incr f n l -> ∀ x, x ∈ l -> f <= x /\ x < n
 | f, [], _, x, h => by simp at h
 | f, y :: l, hi, x, h => by
  obtain ⟨h1, h2, h3⟩ := hi
  rcases List.mem_cons.1 h with rfl | h
  ·exact ⟨h1, h2⟩
  ·have := h3.mem x h; omega
def before : List Int -> List Int -> Bool
 | [], [] => false
 | [], _ :: _ => true
 | _ :: _, [] => false
 | x :: xs, y :: ys => if x = y then before xs ys else decide (x < y)
theorem d2O (l : List Int) (x : Int) : a2r (l ++ [x]) = x + 1 := by
 have : l ++ [x] ≠ [] := by simp
 simp [a2r]
def Book.but (b : Book) (l : List Int) : List Truth := b.a3d fun n => l.contains n
theorem choose_spec (b : Book) : ∀ (r : Nat) (l : List Int),
 ((b.choose r l).2 = true -> ∃ e, (b.choose r l).1 = l ++ e /\ e.length = r /\ Incr (a2r l) b.signs.length e /\ b.but (l ++ e) ≠ [] /\ ∀ e', e'.length = r -> Incr (a2r l) b.signs.length e' -> b.but (l ++ e') ≠ [] -> before e' e = false) ∧
 ((b.choose r l).2 = false -> ∀ e', e'.length = r -> Incr (a2r l) b.signs.length e' -> b.but (l ++ e') = [])
 | 0, l => by
  refine ⟨fun h => ?_, fun h => ?_⟩
  ·have h' : (!(b.but l).isEmpty) = true := h
   have hn : b.but l ≠ [] := fun e => by rw [e] at h'; cases h'
   exact ⟨[], by simp [Book.choose], rfl, trivial, by simpa using hn, fun e' he' _ _ => by cases e' with | nil => rfl | cons => simp at he'⟩
  ·intro e' he' _
   have h' : (!(b.but l).isEmpty) = false := h
   cases e' with
   | nil => cases hq : b.but l with
    | nil => simpa using hq
    | cons x xs => rw [hq] at h'; cases h'
   | cons => simp at he'
 | r + 1, l => by
  have hr : ∀ i : Nat, i < (b.signs.length - a2r l).toNat -> (List.range (b.signs.length - a2r l).toNat)[i]? = some i := fun i hi => List.getElem?_range hi
  cases hf : a0z (fun i _ => (b.choose r (l ++ [a2r l + (i : Nat)])).2) 0 (List.range (b.signs.length - a2r l).toNat) with
  | none =>
   have hc : b.choose (r + 1) l = ([], false) := by simp only [Book.choose, hf]
   rw [hc]
   refine ⟨fun h => (by cases h), fun _ e' he' hi => ?_⟩
   cases e' with
   | nil => simp at he'
   | cons x xs =>
    obtain ⟨h1, h2, h3⟩ := hi
    have hx : x = a2r l + ((x - a2r l).toNat : Int) := by omega
    have := a2L.1 hf (x - a2r l).toNat _ (hr _ (by omega))
    rw [Nat.zero_add, ← hx] at this
    have hq := (choose_spec b r (l ++ [x])).2 this xs (by simpa using he') (by rw [d2O]; exact h3)
    simpa using hq
  | some q =>
   obtain ⟨i, j⟩ := q
   obtain ⟨-, g2, g3, g4⟩ := a3F hf
   have hil : i < (b.signs.length - a2r l).toNat := by have := (List.getElem?_eq_some_iff.1 g2).1; simp at this; omega
   have hc : b.choose (r + 1) l = ((b.choose r (l ++ [a2r l + (i : Nat)])).1, true) := by simp only [Book.choose, hf]
   rw [hc]
   refine ⟨fun _ => ?_, fun h => (by cases h)⟩
   obtain ⟨e, h1, h2, h3, h4, h5⟩ := (choose_spec b r (l ++ [a2r l + (i : Nat)])).1 g3
   rw [d2O] at h3 h5
   refine ⟨(a2r l + (i : Nat)) :: e, by rw [h1]; simp, by simp [h2], ⟨by omega, by omega, h3⟩, by simpa using h4, ?_⟩
   intro e' he' hi' ht'
   cases e' with
   | nil => simp at he'
   | cons x xs =>
    obtain ⟨k1, k2, k3⟩ := hi'
    simp only [before]
    by_cases hxe : x = a2r l + (i : Nat)
    ·rw [if_pos hxe]
     subst hxe
     exact h5 xs (by simpa using he') k3 (by simpa using ht')
    ·rw [if_neg hxe]
     by_cases hlt : x < a2r l + (i : Nat)
     ·have hx : x = a2r l + ((x - a2r l).toNat : Int) := by omega
      have := g4 (x - a2r l).toNat _ (by omega) (hr _ (by omega))
      rw [Nat.zero_add, ← hx] at this
      have hq := (choose_spec b r (l ++ [x])).2 this xs (by simpa using he') (by rw [d2O]; exact k3)
      exact absurd (by simpa using hq) ht'
     ·exact decide_eq_false hlt
def Book.d2x (b : Book) (l : List Int) (i : Nat) : List Sign := (List.range i).foldl (fun acc (j : Nat) => match b.signs[j]? with | some x => if l.contains (j : Int) then acc else acc ++ [x] | none => acc) []
def Book.d2Z (b : Book) (L : List Sign) : Book := { b with kg := if L = [] then .nil else .shared, signs := L }
def Book.without (b : Book) (l : List Int) : Book := b.d2Z (b.d2x l b.signs.length)
def B9 (b : Book) (c : C) : List C := [.sl b.ks 2 (b.singers.map Span.c), ci b.c0.lo, ci b.c0.hi, ci b.c1.lo, ci b.c1.hi, ci b.c2.lo, ci b.c2.hi, .sl b.kd 3 (b.days.map Day.c), .sl b.kr 2 (b.rests.map Rest.c), c]
section
variable (b : Book) (c c' : C)
@[go_sem] theorem d3C : (B9 b c)[9]? = some c := nrfl rfl
@[go_sem] theorem d3E : (B9 b c).set 9 c' = B9 b c' := nrfl rfl
@[go_sem] theorem d3z (n : Nat) : C.a0G n (B9 b c) = C.a0G n [c] := by simp [B9, C.a0G, C.under]
@[go_sem] theorem d3D : (B9 b c).length = 10 := nrfl rfl
@[go_sem] theorem d3B : a0R (B9 b c) 0 10 = some (B9 b c) := nrfl rfl
end
section
variable {Γ : Env} [P04 Γ] [G04 Γ]
end
end Go.Pm.St
namespace Go.Pm.St
open Ac
theorem d7b (p : Nat -> Bool) : ∀ m : Nat, m <= 5 -> ∃ s : Nat, s < 2 ^ m /\ ∀ j : Nat, j < m -> d2J (s : Int) (j : Int) = p j := by
 intro m hm
 have key : ∀ p0 p1 p2 p3 p4 : Bool, ∀ m : Fin 6, ∃ s : Fin 32, s.val < 2 ^ m.val /\ ∀ j : Fin 5, j.val < m.val -> d2J (s.val : Int) (j.val : Int) = [p0, p1, p2, p3, p4].getD j.val false := by decide +kernel
 obtain ⟨s, h1, h2⟩ := key (p 0) (p 1) (p 2) (p 3) (p 4) ⟨m, by omega⟩
 refine ⟨s.val, h1, fun j hj => ?_⟩
 have := h2 ⟨j, by omega⟩ hj
 rw [this]
 have hc : j = 0 \/ j = 1 \/ j = 2 \/ j = 3 \/ j = 4 := by omega
 rcases hc with rfl | rfl | rfl | rfl | rfl <;> rfl
structure BestI (b : Book) (i : Nat) (a : List Int) : Prop where
 incr : Incr 0 b.signs.length a
 ne : b.but a ≠ []
 least : ∀ s : Nat, s < i -> b.but (d2D s b.signs.length) ≠ [] -> shorter (d2D s b.signs.length) a = false
section
variable {Γ : Env} [P04 Γ] [G04 Γ]
end
end Go.Pm.St
