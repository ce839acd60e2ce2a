/- The statement StrainTrue, part 7. -/
import Derived.Test.YtjmjifbnckecjaaDoorStrainTrueL6
set_option linter.all false
set_option maxRecDepth 100000
namespace Go.Pm.St
open Ac
def Sink (D : List Rest) (a i j : Nat) : Prop := ∀ p q, a <= p -> p < q -> q <= i -> q ≠ j -> (elt D q).lt (elt D p) = false
theorem d9h {D : List Rest} {a i j : Nat} (h : Sink D a i j) (hj : a <= j) (hs : j = a \/ (elt D j).lt (elt D (j - 1)) = false) : d8w D a (i + 1) := by
 intro p q h1 h2 h3
 by_cases e : q = j
 . subst e
   rcases hs with hs | hs
   . omega
   . by_cases e : p = q - 1
     . subst e; exact hs
     . exact a8M (h p (q - 1) h1 (by omega) (by omega) (by omega)) hs
 . exact h p q h1 h2 (by omega) e
theorem d9z {D : List Rest} {a i q : Nat} (h : Sink D a i (q + 1)) (hl : i < D.length) (h1 : a <= q) (h2 : q + 1 <= i) (hlt : (elt D (q + 1)).lt (elt D q) = true) : Sink (sw D (q + 1) q) a i q := by
 intro p t h3 h4 h5 h6
 have hw : ∀ k, elt (sw D (q + 1) q) k = if k = q then elt D (q + 1) else if k = q + 1 then elt D q else elt D k := fun k => d8S (by omega) (by omega)
 rw [hw t, hw p, if_neg h6]
 by_cases e1 : t = q + 1
 . subst e1
   rw [if_pos rfl]
   by_cases e2 : p = q
   . subst e2; rw [if_pos rfl]; exact lt_asymm hlt
   . rw [if_neg e2, if_neg (by omega)]
     exact h p q h3 (by omega) (by omega) (by omega)
 . rw [if_neg e1]
   by_cases e2 : p = q
   . subst e2; rw [if_pos rfl]
     exact h (p + 1) t (by omega) (by omega) h5 e1
   . rw [if_neg e2]
     by_cases e3 : p = q + 1
     . subst e3; rw [if_pos rfl]
       exact h q t (by omega) (by omega) h5 e1
     . rw [if_neg e3]
       exact h p t h3 h4 h5 e1
section
variable {Γ : Env} [P04 Γ] [G04 Γ]
abbrev rowC (r n : Nat) : V := .sc (.msl r 0 n 0 2)
abbrev cmpC : V := .sc (.fn (.fn 131) [] [] [])
theorem d9Z (H : List Obj) (N r : Nat) (hn : H.length = N) (hr : r < N) (hu : H.all (Obj.under N) = true) (D0 : List Rest) (hl : D0.length <= 1000) (a b i : Nat) (hb : b <= D0.length) (hai : a <= i) (hib : i < b) (D : List Rest) (hD : Seg D0 D a b) (hI : d8w D a i) :
   ∃ (D' : List Rest) (j' : Nat), Seg D0 D' a b /\ d8w D' a (i + 1) /\ ∀ {β : Type} (Q : Ex -> St -> Option β),
     E Γ a2p ⟨[(0, rowC r D0.length), (1, vi a), (2, vi b), (3, cmpC), (8, vi i), (9, vi i)], H.set r (.var (a1A D))⟩ Q =
     Q (.exit 2) ⟨[(0, rowC r D0.length), (1, vi a), (2, vi b), (3, cmpC), (8, vi i), (9, vi j'), (34, vb false)], H.set r (.var (a1A D'))⟩ := by
 have hrl : r < H.length := by omega
 have hg (v : Obj) : (H.set r v)[r]? = some v := b1c _ _ _ hrl
 have hun (v : List Rest) : (H.set r (.var (a1A v))).all (Obj.under N) = true := a6R _ _ _ _ hu (by simp [go_sem])
 have hT (v : Obj) : (H.set r v).take N = H.set r v := List.take_of_length_le (by simp [hn])
 obtain ⟨p, hp, hQ⟩ := d8B (Γ := Γ) (keep := [0, 1, 2, 3, 8, 9]) (B := a0B) (σ := List Rest × Nat)
   (fun s => ⟨[(0, rowC r D0.length), (1, vi a), (2, vi b), (3, cmpC), (8, vi i), (9, vi s.2)], H.set r (.var (a1A s.1))⟩) (fun s => s.2)
   (fun s => Seg D0 s.1 a b /\ a <= s.2 /\ s.2 <= i /\ Sink s.1 a i s.2)
   (fun p => ∃ (D' : List Rest) (j' : Nat), Seg D0 D' a b /\ d8w D' a (i + 1) /\ p = (.exit 2, ⟨[(0, rowC r D0.length), (1, vi a), (2, vi b), (3, cmpC), (8, vi i), (9, vi j'), (34, vb false)], H.set r (.var (a1A D'))⟩))
   (by
     rintro ⟨D, j⟩ ⟨h1, h2, h3, h4⟩
     simp only at h1 h2 h3 h4 ⊢
     have hlen := h1.len
     by_cases hja : j = a
     . right
       refine ⟨_, ⟨D, j, h1, d9h h4 h2 (.inl hja), rfl⟩, ?_⟩
       have hp0 : decide ((a : Int) < (j : Int)) = false := decide_eq_false (by omega)
       (simp only [go_sem, simprocAttr, a0B, hp0]; repeat' (first | ((first | refine brY ?_ | refine brN ?_ | refine brA ?_ | refine brD ?_ | refine brF ?_ | ((first | apply a0k | apply a0j); (. intro h; simp only [go_sem, simprocAttr, a0p h, a0B, hp0]; exact rfl))); (try simp only [go_sem, simprocAttr, a0B, hp0])) | ((first | apply a0e | apply d7E | apply a0a) <;> intro h <;> (try simp only [go_sem, simprocAttr, h, a0B, hp0]))))
     . obtain ⟨q, rfl⟩ : ∃ q, j = q + 1 := ⟨j - 1, by omega⟩
       have hA := a7h _ _ _ (d8b (D := D) (k := q + 1) (by omega))
       have hB := a7h _ _ _ (d8b (D := D) (k := q) (by omega))
       have hp0 : decide ((a : Int) < ((q + 1 : Nat) : Int)) = true := decide_eq_true (by omega)
       have hw : IntKind.i64.wrap (((q + 1 : Nat) : Int) - 1) = (q : Int) := by rw [wrap_i64 (by omega) (by omega)]; omega
       have hb1 : decide (0 <= ((q + 1 : Nat) : Int) /\ ((q + 1 : Nat) : Int) < D0.length) = true := decide_eq_true (by omega)
       have hb2 : decide (0 <= (q : Int) /\ (q : Int) < D0.length) = true := decide_eq_true (by omega)
       cases hc' : (elt D (q + 1)).lt (elt D q) with
       | false =>
         right
         refine ⟨_, ⟨D, q + 1, h1, d9h h4 h2 (.inr hc'), rfl⟩, ?_⟩
         have hc : decide ((elt D (q + 1)).cmp (elt D q) < 0) = false := hc'
         (simp only [go_sem, simprocAttr, a0B, hp0, hw, hb1, hb2, hg, hA, hB, hc, hn, a0E, hrl, Int.toNat_natCast, Nat.zero_add]; repeat' (first | ((first | refine brY ?_ | refine brN ?_ | refine brA ?_ | refine brD ?_ | refine brF ?_ | ((first | apply a0k | apply a0j); (. intro h; simp only [go_sem, simprocAttr, a0p h, a0B, hp0, hw, hb1, hb2, hg, hA, hB, hc, hn, a0E, hrl, Int.toNat_natCast, Nat.zero_add]; exact rfl))); (try simp only [go_sem, simprocAttr, a0B, hp0, hw, hb1, hb2, hg, hA, hB, hc, hn, a0E, hrl, Int.toNat_natCast, Nat.zero_add])) | ((first | apply a0e | apply d7E | apply a0a) <;> intro h <;> (try simp only [go_sem, simprocAttr, h, a0B, hp0, hw, hb1, hb2, hg, hA, hB, hc, hn, a0E, hrl, Int.toNat_natCast, Nat.zero_add]))))
       | true =>
         left
         have hc : decide ((elt D (q + 1)).cmp (elt D q) < 0) = true := hc'
         refine ⟨(sw D (q + 1) q, q), ⟨h1.trans (Seg.sw (by omega) (by omega) (by omega) (by omega)), by simp only; omega, by simp only; omega, d9z h4 (by omega) (by omega) h3 hc'⟩, by simp only; omega, ?_⟩
         have hS1 := a9W D (q + 1) (elt D q) (by omega)
         have hS2 := a9W (D.set (q + 1) (elt D q)) q (elt D (q + 1)) (by rw [List.length_set]; omega)
         have hq1 : decide ((q + 1) * 2 + 2 <= 2 * D.length) = true := decide_eq_true (by omega)
         have hq2 : decide (q * 2 + 2 <= 2 * D.length) = true := decide_eq_true (by omega)
         have hsw : (D.set (q + 1) (elt D q)).set q (elt D (q + 1)) = sw D (q + 1) q := rfl
         rw [hsw] at hS2
         (simp only [go_sem, simprocAttr, a0B, hp0, hw, hb1, hb2, hq1, hq2, hg, hA, hB, hS1, hS2, hc, hn, a0E, hrl, hT, hun, Int.toNat_natCast, Nat.zero_add, List.length_set]; repeat' (first | ((first | refine brY ?_ | refine brN ?_ | refine brA ?_ | refine brD ?_ | refine brF ?_ | ((first | apply a0k | apply a0j); (. intro h; simp only [go_sem, simprocAttr, a0p h, a0B, hp0, hw, hb1, hb2, hq1, hq2, hg, hA, hB, hS1, hS2, hc, hn, a0E, hrl, hT, hun, Int.toNat_natCast, Nat.zero_add, List.length_set]; exact rfl))); (try simp only [go_sem, simprocAttr, a0B, hp0, hw, hb1, hb2, hq1, hq2, hg, hA, hB, hS1, hS2, hc, hn, a0E, hrl, hT, hun, Int.toNat_natCast, Nat.zero_add, List.length_set])) | ((first | apply a0e | apply d7E | apply a0a) <;> intro h <;> (try simp only [go_sem, simprocAttr, h, a0B, hp0, hw, hb1, hb2, hq1, hq2, hg, hA, hB, hS1, hS2, hc, hn, a0E, hrl, hT, hun, Int.toNat_natCast, Nat.zero_add, List.length_set])))))
   (D, i) ⟨hD, hai, Nat.le_refl _, fun p q h1 h2 h3 h4 => hI p q h1 h2 (by omega)⟩
 obtain ⟨D', j', h1, h2, rfl⟩ := hp
 exact ⟨D', j', h1, h2, fun Q => hQ Q⟩
theorem e0b (H : List Obj) (N r : Nat) (hn : H.length = N) (hr : r < N) (hu : H.all (Obj.under N) = true) (D : List Rest) (hl : D.length <= 1000) (a b : Nat) (hab : a <= b) (hb : b <= D.length) (hH : H[r]? = some (.var (a1A D))) :
   ∃ D', Seg D D' a b /\ d8w D' a b /\ K Γ (.fn 178) [rowC r D.length, vi a, vi b, cmpC] H = some (.tup [], H.set r (.var (a1A D'))) := by
 have hrl : r < H.length := by omega
 have hun (v : List Rest) : (H.set r (.var (a1A v))).all (Obj.under N) = true := a6R _ _ _ _ hu (by simp [go_sem])
 have hT (v : Obj) : (H.set r v).take N = H.set r v := List.take_of_length_le (by simp [hn])
 have h0 : H.set r (.var (a1A D)) = H := b1j _ _ _ hH
 obtain ⟨p, hp, hQ⟩ := d8B (Γ := Γ) (keep := [0, 1, 2, 3, 8]) (B := a0F) (σ := List Rest × Nat)
   (fun s => ⟨[(0, rowC r D.length), (1, vi a), (2, vi b), (3, cmpC), (8, vi s.2)], H.set r (.var (a1A s.1))⟩) (fun s => b - s.2)
   (fun s => Seg D s.1 a b /\ a + 1 <= s.2 /\ d8w s.1 a s.2)
   (fun p => ∃ (D' : List Rest) (i' : Nat), Seg D D' a b /\ d8w D' a b /\ p = (.exit 0, ⟨[(0, rowC r D.length), (1, vi a), (2, vi b), (3, cmpC), (8, vi i'), (14, vb false)], H.set r (.var (a1A D'))⟩))
   (by
     rintro ⟨E, i⟩ ⟨h1, h2, h3⟩
     simp only at h1 h2 h3 ⊢
     by_cases hib : i < b
     . left
       obtain ⟨D', j', g1, g2, hL⟩ := d9Z (Γ := Γ) H N r hn hr hu D hl a b i hb (by omega) hib E h1 h3
       refine ⟨(D', i + 1), ⟨g1, by simp only; omega, g2⟩, by simp only; omega, ?_⟩
       have hlt : decide ((i : Int) < b) = true := decide_eq_true (by omega)
       have hiw : IntKind.i64.wrap ((i : Int) + 1) = ((i + 1 : Nat) : Int) := by rw [wrap_i64 (by omega) (by omega)]; omega
       (simp only [go_sem, simprocAttr, a0F, hlt, hiw, hL, hn, a0E, hT, hun]; repeat' (first | ((first | refine brY ?_ | refine brN ?_ | refine brA ?_ | refine brD ?_ | refine brF ?_ | ((first | apply a0k | apply a0j); (. intro h; simp only [go_sem, simprocAttr, a0p h, a0F, hlt, hiw, hL, hn, a0E, hT, hun]; exact rfl))); (try simp only [go_sem, simprocAttr, a0F, hlt, hiw, hL, hn, a0E, hT, hun])) | ((first | apply a0e | apply d7E | apply a0a) <;> intro h <;> (try simp only [go_sem, simprocAttr, h, a0F, hlt, hiw, hL, hn, a0E, hT, hun]))))
     . right
       refine ⟨_, ⟨E, i, h1, fun p q k1 k2 k3 => h3 p q k1 k2 (by omega), rfl⟩, ?_⟩
       have hlt : decide ((i : Int) < b) = false := decide_eq_false (by omega)
       (simp only [go_sem, simprocAttr, a0F, hlt]; repeat' (first | ((first | refine brY ?_ | refine brN ?_ | refine brA ?_ | refine brD ?_ | refine brF ?_ | ((first | apply a0k | apply a0j); (. intro h; simp only [go_sem, simprocAttr, a0p h, a0F, hlt]; exact rfl))); (try simp only [go_sem, simprocAttr, a0F, hlt])) | ((first | apply a0e | apply d7E | apply a0a) <;> intro h <;> (try simp only [go_sem, simprocAttr, h, a0F, hlt])))))
   (D, a + 1) ⟨Seg.refl _ _ _, Nat.le_refl _, fun p q k1 k2 k3 => by omega⟩
 obtain ⟨D', i', g1, g2, rfl⟩ := hp
 refine ⟨D', g1, g2, ?_⟩
 simp only [h0] at hQ
 have hL : a1L = .loop [0, 1, 2, 3, 8] a0F := rfl
 rw [← hL] at hQ
 have haw : IntKind.i64.wrap ((a : Int) + 1) = ((a + 1 : Nat) : Int) := by rw [wrap_i64 (by omega) (by omega)]; omega
 rw [K_fn P04.f178 _ _ rfl]
 (simp only [go_sem, simprocAttr, a1c, haw, hQ, hn, a0E, hT, hun]; repeat' (first | ((first | refine brY ?_ | refine brN ?_ | refine brA ?_ | refine brD ?_ | refine brF ?_ | ((first | apply a0k | apply a0j); (. intro h; simp only [go_sem, simprocAttr, a0p h, a1c, haw, hQ, hn, a0E, hT, hun]; exact rfl))); (try simp only [go_sem, simprocAttr, a1c, haw, hQ, hn, a0E, hT, hun])) | ((first | apply a0e | apply d7E | apply a0a) <;> intro h <;> (try simp only [go_sem, simprocAttr, h, a1c, haw, hQ, hn, a0E, hT, hun]))))
end
end Go.Pm.St
namespace Go.Pm.St
open Ac
section
variable {Γ : Env} [P04 Γ] [G04 Γ]
theorem d9G (H : List Obj) (N r : Nat) (hn : H.length = N) (hr : r < N) (hu : H.all (Obj.under N) = true) (D : List Rest) (hl : D.length <= 1000) (hH : H[r]? = some (.var (a1A D))) (a b : Nat) (ha : a < D.length) (hb : b < D.length) (s : Int) (hs : 0 <= s /\ s <= 100) :
   K Γ (.fn 198) [rowC r D.length, vi a, vi b, .sc (.ptr N 0), cmpC] (H ++ [.var [ci s]]) =
     if (elt D b).lt (elt D a) then some (.tup [vi b, vi a], H ++ [.var [ci (s + 1)]]) else some (.tup [vi a, vi b], H ++ [.var [ci s]]) := by
 have hrl : r < H.length := by omega
 have hGr (o : Obj) : (H ++ [o])[r]? = some (.var (a1A D)) := by rw [List.getElem?_append_left hrl, hH]
 have hA := a7h _ _ _ (d8b (D := D) (k := a) ha)
 have hB := a7h _ _ _ (d8b (D := D) (k := b) hb)
 have hb1 : decide (0 <= (a : Int) /\ (a : Int) < D.length) = true := decide_eq_true (by omega)
 have hb2 : decide (0 <= (b : Int) /\ (b : Int) < D.length) = true := decide_eq_true (by omega)
 have hw : IntKind.i64.wrap (s + 1) = s + 1 := wrap_i64 (by omega) (by omega)
 cases hc' : (elt D b).lt (elt D a) with
 | false =>
   have hc : decide ((elt D b).cmp (elt D a) < 0) = false := hc'
   rw [if_neg (by decide)]
   rw [K_fn P04.f198 _ _ rfl]
   (simp only [go_sem, simprocAttr, d7R, hn, a0E, hrl, hGr, hA, hB, hb1, hb2, hc, hu, a0Q, Int.toNat_natCast, Nat.zero_add]; repeat' (first | ((first | refine brY ?_ | refine brN ?_ | refine brA ?_ | refine brD ?_ | refine brF ?_ | ((first | apply a0k | apply a0j); (. intro h; simp only [go_sem, simprocAttr, a0p h, d7R, hn, a0E, hrl, hGr, hA, hB, hb1, hb2, hc, hu, a0Q, Int.toNat_natCast, Nat.zero_add]; exact rfl))); (try simp only [go_sem, simprocAttr, d7R, hn, a0E, hrl, hGr, hA, hB, hb1, hb2, hc, hu, a0Q, Int.toNat_natCast, Nat.zero_add])) | ((first | apply a0e | apply d7E | apply a0a) <;> intro h <;> (try simp only [go_sem, simprocAttr, h, d7R, hn, a0E, hrl, hGr, hA, hB, hb1, hb2, hc, hu, a0Q, Int.toNat_natCast, Nat.zero_add]))))
 | true =>
   have hc : decide ((elt D b).cmp (elt D a) < 0) = true := hc'
   rw [if_pos rfl]
   rw [K_fn P04.f198 _ _ rfl]
   (simp only [go_sem, simprocAttr, d7R, hn, a0E, hrl, hGr, hA, hB, hb1, hb2, hc, hw, hu, a0Q, Int.toNat_natCast, Nat.zero_add]; repeat' (first | ((first | refine brY ?_ | refine brN ?_ | refine brA ?_ | refine brD ?_ | refine brF ?_ | ((first | apply a0k | apply a0j); (. intro h; simp only [go_sem, simprocAttr, a0p h, d7R, hn, a0E, hrl, hGr, hA, hB, hb1, hb2, hc, hw, hu, a0Q, Int.toNat_natCast, Nat.zero_add]; exact rfl))); (try simp only [go_sem, simprocAttr, d7R, hn, a0E, hrl, hGr, hA, hB, hb1, hb2, hc, hw, hu, a0Q, Int.toNat_natCast, Nat.zero_add])) | ((first | apply a0e | apply d7E | apply a0a) <;> intro h <;> (try simp only [go_sem, simprocAttr, h, d7R, hn, a0E, hrl, hGr, hA, hB, hb1, hb2, hc, hw, hu, a0Q, Int.toNat_natCast, Nat.zero_add]))))
theorem d9F (H : List Obj) (N r : Nat) (hn : H.length = N) (hr : r < N) (hu : H.all (Obj.under N) = true) (D : List Rest) (hl : D.length <= 1000) (hH : H[r]? = some (.var (a1A D))) (a b c : Nat) (ha : a < D.length) (hb : b < D.length) (hc : c < D.length)
   (hab : elt D a ≠ elt D b) (hac : elt D a ≠ elt D c) (hbc : elt D b ≠ elt D c) :
   ∃ (p : Nat) (s' : Int) (u w : Nat), (0 <= s' /\ s' <= 3) /\ (p = a \/ p = b \/ p = c) /\ (u = a \/ u = b \/ u = c) /\ (w = a \/ w = b \/ w = c) /\ (elt D u).lt (elt D p) = true /\ (elt D p).lt (elt D w) = true ∧
     K Γ (.fn 195) [rowC r D.length, vi a, vi b, vi c, .sc (.ptr N 0), cmpC] (H ++ [.var [ci 0]]) = some (vi p, H ++ [.var [ci s']]) := by
 have O (x y : Nat) (s : Int) (hx : x < D.length) (hy : y < D.length) (hs : 0 <= s /\ s <= 100) := d9G (Γ := Γ) H N r hn hr hu D hl hH x y hx hy s hs
 have hN (s : Int) : (H ++ [Obj.var [ci s]]).all (Obj.under (N + 1)) = true := by
   rw [List.all_append, Bool.and_eq_true]
   exact ⟨by simp [a0Q, hu], by simp [go_sem]⟩
 cases l1 : (elt D b).lt (elt D a) with
 | false =>
   have o1 := O a b 0 ha hb (by omega)
   rw [l1, if_neg (by decide)] at o1
   have g1 := d8H (fun h => hab h.symm) l1
   cases l2 : (elt D c).lt (elt D b) with
   | false =>
     have o2 := O b c 0 hb hc (by omega)
     rw [l2, if_neg (by decide)] at o2
     have g2 := d8H (fun h => hbc h.symm) l2
     refine ⟨b, 0, a, c, by omega, .inr (.inl rfl), .inl rfl, .inr (.inr rfl), g1, g2, ?_⟩
     rw [K_fn P04.f195 _ _ rfl]
     (simp only [go_sem, simprocAttr, d7F, hn, a0E, o1, o2, hN, hu, a0Q]; repeat' (first | ((first | refine brY ?_ | refine brN ?_ | refine brA ?_ | refine brD ?_ | refine brF ?_ | ((first | apply a0k | apply a0j); (. intro h; simp only [go_sem, simprocAttr, a0p h, d7F, hn, a0E, o1, o2, hN, hu, a0Q]; exact rfl))); (try simp only [go_sem, simprocAttr, d7F, hn, a0E, o1, o2, hN, hu, a0Q])) | ((first | apply a0e | apply d7E | apply a0a) <;> intro h <;> (try simp only [go_sem, simprocAttr, h, d7F, hn, a0E, o1, o2, hN, hu, a0Q]))))
   | true =>
     have o2 := O b c 0 hb hc (by omega)
     rw [l2, if_pos rfl] at o2
     have o3 := O a c 1 ha hc (by omega)
     cases l3 : (elt D c).lt (elt D a) with
     | false =>
       rw [l3, if_neg (by decide)] at o3
       refine ⟨c, 1, a, b, by omega, .inr (.inr rfl), .inl rfl, .inr (.inl rfl), d8H (fun h => hac h.symm) l3, l2, ?_⟩
       rw [K_fn P04.f195 _ _ rfl]
       (simp only [go_sem, simprocAttr, d7F, hn, a0E, o1, o2, o3, hN, hu, a0Q]; repeat' (first | ((first | refine brY ?_ | refine brN ?_ | refine brA ?_ | refine brD ?_ | refine brF ?_ | ((first | apply a0k | apply a0j); (. intro h; simp only [go_sem, simprocAttr, a0p h, d7F, hn, a0E, o1, o2, o3, hN, hu, a0Q]; exact rfl))); (try simp only [go_sem, simprocAttr, d7F, hn, a0E, o1, o2, o3, hN, hu, a0Q])) | ((first | apply a0e | apply d7E | apply a0a) <;> intro h <;> (try simp only [go_sem, simprocAttr, h, d7F, hn, a0E, o1, o2, o3, hN, hu, a0Q]))))
     | true =>
       rw [l3, if_pos rfl] at o3
       refine ⟨a, 2, c, b, by omega, .inl rfl, .inr (.inr rfl), .inr (.inl rfl), l3, g1, ?_⟩
       rw [K_fn P04.f195 _ _ rfl]
       (simp only [go_sem, simprocAttr, d7F, hn, a0E, o1, o2, o3, hN, hu, a0Q]; repeat' (first | ((first | refine brY ?_ | refine brN ?_ | refine brA ?_ | refine brD ?_ | refine brF ?_ | ((first | apply a0k | apply a0j); (. intro h; simp only [go_sem, simprocAttr, a0p h, d7F, hn, a0E, o1, o2, o3, hN, hu, a0Q]; exact rfl))); (try simp only [go_sem, simprocAttr, d7F, hn, a0E, o1, o2, o3, hN, hu, a0Q])) | ((first | apply a0e | apply d7E | apply a0a) <;> intro h <;> (try simp only [go_sem, simprocAttr, h, d7F, hn, a0E, o1, o2, o3, hN, hu, a0Q]))))
 | true =>
   have o1 := O a b 0 ha hb (by omega)
   rw [l1, if_pos rfl] at o1
   cases l2 : (elt D c).lt (elt D a) with
   | false =>
     have o2 := O a c 1 ha hc (by omega)
     rw [l2, if_neg (by decide)] at o2
     have o3 := O b a 1 hb ha (by omega)
     rw [lt_asymm l1, if_neg (by decide)] at o3
     refine ⟨a, 1, b, c, by omega, .inl rfl, .inr (.inl rfl), .inr (.inr rfl), l1, d8H (fun h => hac h.symm) l2, ?_⟩
     rw [K_fn P04.f195 _ _ rfl]
     (simp only [go_sem, simprocAttr, d7F, hn, a0E, o1, o2, o3, hN, hu, a0Q]; repeat' (first | ((first | refine brY ?_ | refine brN ?_ | refine brA ?_ | refine brD ?_ | refine brF ?_ | ((first | apply a0k | apply a0j); (. intro h; simp only [go_sem, simprocAttr, a0p h, d7F, hn, a0E, o1, o2, o3, hN, hu, a0Q]; exact rfl))); (try simp only [go_sem, simprocAttr, d7F, hn, a0E, o1, o2, o3, hN, hu, a0Q])) | ((first | apply a0e | apply d7E | apply a0a) <;> intro h <;> (try simp only [go_sem, simprocAttr, h, d7F, hn, a0E, o1, o2, o3, hN, hu, a0Q]))))
   | true =>
     have o2 := O a c 1 ha hc (by omega)
     rw [l2, if_pos rfl] at o2
     have o3 := O b c 2 hb hc (by omega)
     cases l3 : (elt D c).lt (elt D b) with
     | false =>
       rw [l3, if_neg (by decide)] at o3
       refine ⟨c, 2, b, a, by omega, .inr (.inr rfl), .inr (.inl rfl), .inl rfl, d8H (fun h => hbc h.symm) l3, l2, ?_⟩
       rw [K_fn P04.f195 _ _ rfl]
       (simp only [go_sem, simprocAttr, d7F, hn, a0E, o1, o2, o3, hN, hu, a0Q]; repeat' (first | ((first | refine brY ?_ | refine brN ?_ | refine brA ?_ | refine brD ?_ | refine brF ?_ | ((first | apply a0k | apply a0j); (. intro h; simp only [go_sem, simprocAttr, a0p h, d7F, hn, a0E, o1, o2, o3, hN, hu, a0Q]; exact rfl))); (try simp only [go_sem, simprocAttr, d7F, hn, a0E, o1, o2, o3, hN, hu, a0Q])) | ((first | apply a0e | apply d7E | apply a0a) <;> intro h <;> (try simp only [go_sem, simprocAttr, h, d7F, hn, a0E, o1, o2, o3, hN, hu, a0Q]))))
     | true =>
       rw [l3, if_pos rfl] at o3
       refine ⟨b, 3, c, a, by omega, .inr (.inl rfl), .inr (.inr rfl), .inl rfl, l3, l1, ?_⟩
       rw [K_fn P04.f195 _ _ rfl]
       (simp only [go_sem, simprocAttr, d7F, hn, a0E, o1, o2, o3, hN, hu, a0Q]; repeat' (first | ((first | refine brY ?_ | refine brN ?_ | refine brA ?_ | refine brD ?_ | refine brF ?_ | ((first | apply a0k | apply a0j); (. intro h; simp only [go_sem, simprocAttr, a0p h, d7F, hn, a0E, o1, o2, o3, hN, hu, a0Q]; exact rfl))); (try simp only [go_sem, simprocAttr, d7F, hn, a0E, o1, o2, o3, hN, hu, a0Q])) | ((first | apply a0e | apply d7E | apply a0a) <;> intro h <;> (try simp only [go_sem, simprocAttr, h, d7F, hn, a0E, o1, o2, o3, hN, hu, a0Q]))))
theorem d9S (H : List Obj) (N r : Nat) (hn : H.length = N) (hr : r < N) (hu : H.all (Obj.under N) = true) (D : List Rest) (hl : D.length <= 1000) (hH : H[r]? = some (.var (a1A D))) (a b : Nat) (hb : b <= D.length) (h13 : a + 13 <= b) (h15 : b <= a + 15)
   (hd : ∀ i j, a <= i -> i < j -> j < b -> elt D i ≠ elt D j) :
   ∃ (p u w : Nat) (hint : Int), (hint = 0 \/ hint = 1) /\ (a < p /\ p < b) /\ (a <= u /\ u < b) /\ (a <= w /\ w < b) /\ (elt D u).lt (elt D p) = true /\ (elt D p).lt (elt D w) = true ∧
     K Γ (.fn 181) [rowC r D.length, vi a, vi b, cmpC] H = some (.tup [vi p, vi hint], H) := by
 obtain ⟨p, s', u, w, h1, h2, h3, h4, h5, h6, hM⟩ := d9F (Γ := Γ) H N r hn hr hu D hl hH (a + 3) (a + 6) (a + 9) (by omega) (by omega) (by omega) (hd _ _ (by omega) (by omega) (by omega)) (hd _ _ (by omega) (by omega) (by omega)) (hd _ _ (by omega) (by omega) (by omega))
 have hT : (H ++ [Obj.var [ci s']]).take N = H := by rw [← hn]; exact List.take_left
 have hw : IntKind.i64.wrap ((b : Int) - a) = (b : Int) - a := wrap_i64 (by omega) (by omega)
 have hq : ((b : Int) - a).tdiv 4 = 3 := by
   have : (b : Int) - a = 13 \/ (b : Int) - a = 14 \/ (b : Int) - a = 15 := by omega
   rcases this with h | h | h <;> rw [h] <;> decide
 have w3 : IntKind.i64.wrap ((a : Int) + 3) = ((a + 3 : Nat) : Int) := by rw [wrap_i64 (by omega) (by omega)]; omega
 have w6 : IntKind.i64.wrap ((a : Int) + 6) = ((a + 6 : Nat) : Int) := by rw [wrap_i64 (by omega) (by omega)]; omega
 have w9 : IntKind.i64.wrap ((a : Int) + 9) = ((a + 9 : Nat) : Int) := by rw [wrap_i64 (by omega) (by omega)]; omega
 have c1 : decide (8 <= (b : Int) - a) = true := decide_eq_true (by omega)
 have c2 : decide (50 <= (b : Int) - a) = false := decide_eq_false (by omega)
 by_cases hs0 : s' = 0
 . subst hs0
   refine ⟨p, u, w, 1, .inr rfl, by omega, by omega, by omega, h5, h6, ?_⟩
   rw [K_fn P04.f181 _ _ rfl]
   (simp only [go_sem, simprocAttr, d7O, hn, a0E, hw, hq, w3, w6, w9, c1, c2, hM, hT, hu, a0Q]; repeat' (first | ((first | refine brY ?_ | refine brN ?_ | refine brA ?_ | refine brD ?_ | refine brF ?_ | ((first | apply a0k | apply a0j); (. intro h; simp only [go_sem, simprocAttr, a0p h, d7O, hn, a0E, hw, hq, w3, w6, w9, c1, c2, hM, hT, hu, a0Q]; exact rfl))); (try simp only [go_sem, simprocAttr, d7O, hn, a0E, hw, hq, w3, w6, w9, c1, c2, hM, hT, hu, a0Q])) | ((first | apply a0e | apply d7E | apply a0a) <;> intro h <;> (try simp only [go_sem, simprocAttr, h, d7O, hn, a0E, hw, hq, w3, w6, w9, c1, c2, hM, hT, hu, a0Q]))))
 . have d1 : decide (s' = 0) = false := decide_eq_false (by omega)
   have d2 : decide (s' = 12) = false := decide_eq_false (by omega)
   refine ⟨p, u, w, 0, .inl rfl, by omega, by omega, by omega, h5, h6, ?_⟩
   rw [K_fn P04.f181 _ _ rfl]
   (simp only [go_sem, simprocAttr, d7O, hn, a0E, hw, hq, w3, w6, w9, c1, c2, hM, hT, hu, a0Q, d1, d2]; repeat' (first | ((first | refine brY ?_ | refine brN ?_ | refine brA ?_ | refine brD ?_ | refine brF ?_ | ((first | apply a0k | apply a0j); (. intro h; simp only [go_sem, simprocAttr, a0p h, d7O, hn, a0E, hw, hq, w3, w6, w9, c1, c2, hM, hT, hu, a0Q, d1, d2]; exact rfl))); (try simp only [go_sem, simprocAttr, d7O, hn, a0E, hw, hq, w3, w6, w9, c1, c2, hM, hT, hu, a0Q, d1, d2])) | ((first | apply a0e | apply d7E | apply a0a) <;> intro h <;> (try simp only [go_sem, simprocAttr, h, d7O, hn, a0E, hw, hq, w3, w6, w9, c1, c2, hM, hT, hu, a0Q, d1, d2]))))
theorem d9x (H : List Obj) (N r : Nat) (hn : H.length = N) (hr : r < N) (hu : H.all (Obj.under N) = true) (D : List Rest) (hl : D.length <= 1000) (hH : H[r]? = some (.var (a1A D))) (a b : Nat) (hb : b <= D.length) (h13 : a + 13 <= b) (h15 : b <= a + 15) :
   ∃ is : Bool, (is = true -> d8w D a b) /\ K Γ (.fn 183) [rowC r D.length, vi a, vi b, cmpC] H = some (vb is, H) := by
 have hrl : r < H.length := by omega
 have hT : H.take N = H := List.take_of_length_le (by omega)
 obtain ⟨p, hp, hQ⟩ := d8B (Γ := Γ) (keep := [0, 1, 2, 3, 9, 10]) (B := d7G) (σ := Nat × Bool)
   (fun s => ⟨[(0, rowC r D.length), (1, vi a), (2, vi b), (3, cmpC), (9, vi s.1), (10, vi 0)] ++ (if s.2 then [(16, vb true)] else []), H⟩) (fun s => b - s.1)
   (fun s => a + 1 <= s.1 /\ s.1 <= b /\ d8w D a s.1)
   (fun p => ∃ i : Nat, i <= b /\ (i = b -> d8w D a b) /\ p = (.exit 2, ⟨[(0, rowC r D.length), (1, vi a), (2, vi b), (3, cmpC), (9, vi i), (10, vi 0), (36, vb false)], H⟩))
   (by
     rintro ⟨i, f⟩ ⟨h1, h2, h3⟩
     simp only at h1 h2 h3 ⊢
     obtain ⟨q, rfl⟩ : ∃ q, i = q + 1 := ⟨i - 1, by omega⟩
     by_cases hib : q + 1 = b
     . right
       refine ⟨_, ⟨q + 1, h2, fun _ => hib ▸ h3, rfl⟩, ?_⟩
       have hlt : decide (((q + 1 : Nat) : Int) < b) = false := decide_eq_false (by omega)
       cases f <;> (simp only [go_sem, simprocAttr, d7G, hlt, Bool.false_eq_true]; repeat' (first | ((first | refine brY ?_ | refine brN ?_ | refine brA ?_ | refine brD ?_ | refine brF ?_ | ((first | apply a0k | apply a0j); (. intro h; simp only [go_sem, simprocAttr, a0p h, d7G, hlt, Bool.false_eq_true]; exact rfl))); (try simp only [go_sem, simprocAttr, d7G, hlt, Bool.false_eq_true])) | ((first | apply a0e | apply d7E | apply a0a) <;> intro h <;> (try simp only [go_sem, simprocAttr, h, d7G, hlt, Bool.false_eq_true]))))
     . have hA := a7h _ _ _ (d8b (D := D) (k := q + 1) (by omega))
       have hB := a7h _ _ _ (d8b (D := D) (k := q) (by omega))
       have hlt : decide (((q + 1 : Nat) : Int) < b) = true := decide_eq_true (by omega)
       have hw : IntKind.i64.wrap (((q + 1 : Nat) : Int) - 1) = (q : Int) := by rw [wrap_i64 (by omega) (by omega)]; omega
       have hiw : IntKind.i64.wrap (((q + 1 : Nat) : Int) + 1) = ((q + 1 + 1 : Nat) : Int) := by rw [wrap_i64 (by omega) (by omega)]; omega
       have hb1 : decide (0 <= ((q + 1 : Nat) : Int) /\ ((q + 1 : Nat) : Int) < D.length) = true := decide_eq_true (by omega)
       have hb2 : decide (0 <= (q : Int) /\ (q : Int) < D.length) = true := decide_eq_true (by omega)
       cases hc' : (elt D (q + 1)).lt (elt D q) with
       | true =>
         right
         have hc : decide ((elt D (q + 1)).cmp (elt D q) < 0) = true := hc'
         refine ⟨_, ⟨q + 1, h2, fun h => absurd h hib, rfl⟩, ?_⟩
         cases f <;> (simp only [go_sem, simprocAttr, d7G, Bool.false_eq_true, hn, a0E, hrl, hH, hA, hB, hlt, hw, hb1, hb2, hc, hu, a0Q, Int.toNat_natCast, Nat.zero_add]; repeat' (first | ((first | refine brY ?_ | refine brN ?_ | refine brA ?_ | refine brD ?_ | refine brF ?_ | ((first | apply a0k | apply a0j); (. intro h; simp only [go_sem, simprocAttr, a0p h, d7G, Bool.false_eq_true, hn, a0E, hrl, hH, hA, hB, hlt, hw, hb1, hb2, hc, hu, a0Q, Int.toNat_natCast, Nat.zero_add]; exact rfl))); (try simp only [go_sem, simprocAttr, d7G, Bool.false_eq_true, hn, a0E, hrl, hH, hA, hB, hlt, hw, hb1, hb2, hc, hu, a0Q, Int.toNat_natCast, Nat.zero_add])) | ((first | apply a0e | apply d7E | apply a0a) <;> intro h <;> (try simp only [go_sem, simprocAttr, h, d7G, Bool.false_eq_true, hn, a0E, hrl, hH, hA, hB, hlt, hw, hb1, hb2, hc, hu, a0Q, Int.toNat_natCast, Nat.zero_add]))))
       | false =>
         left
         have hc : decide ((elt D (q + 1)).cmp (elt D q) < 0) = false := hc'
         refine ⟨(q + 1 + 1, false), ⟨by simp only; omega, by simp only; omega, fun s t k1 k2 k3 => ?_⟩, by simp only; omega, ?_⟩
         . by_cases e : t = q + 1
           . subst e
             by_cases e2 : s = q
             . subst e2; exact hc'
             . exact a8M (h3 s q k1 (by omega) (by omega)) hc'
           . exact h3 s t k1 k2 (by omega)
         . cases f <;> (simp only [go_sem, simprocAttr, d7G, Bool.false_eq_true, hn, a0E, hrl, hH, hA, hB, hlt, hw, hiw, hb1, hb2, hc, hu, hT, a0Q, Int.toNat_natCast, Nat.zero_add]; repeat' (first | ((first | refine brY ?_ | refine brN ?_ | refine brA ?_ | refine brD ?_ | refine brF ?_ | ((first | apply a0k | apply a0j); (. intro h; simp only [go_sem, simprocAttr, a0p h, d7G, Bool.false_eq_true, hn, a0E, hrl, hH, hA, hB, hlt, hw, hiw, hb1, hb2, hc, hu, hT, a0Q, Int.toNat_natCast, Nat.zero_add]; exact rfl))); (try simp only [go_sem, simprocAttr, d7G, Bool.false_eq_true, hn, a0E, hrl, hH, hA, hB, hlt, hw, hiw, hb1, hb2, hc, hu, hT, a0Q, Int.toNat_natCast, Nat.zero_add])) | ((first | apply a0e | apply d7E | apply a0a) <;> intro h <;> (try simp only [go_sem, simprocAttr, h, d7G, Bool.false_eq_true, hn, a0E, hrl, hH, hA, hB, hlt, hw, hiw, hb1, hb2, hc, hu, hT, a0Q, Int.toNat_natCast, Nat.zero_add])))))
   (a + 1, true) ⟨Nat.le_refl _, by simp only; omega, fun s t k1 k2 k3 => by simp only at k3; omega⟩
 obtain ⟨i, g1, g2, rfl⟩ := hp
 have hL : d8g = .loop [0, 1, 2, 3, 9, 10] d7G := rfl
 rw [← hL] at hQ
 simp only [if_true, List.cons_append, List.nil_append] at hQ
 have haw : IntKind.i64.wrap ((a : Int) + 1) = ((a + 1 : Nat) : Int) := by rw [wrap_i64 (by omega) (by omega)]; omega
 have hw : IntKind.i64.wrap ((b : Int) - a) = (b : Int) - a := wrap_i64 (by omega) (by omega)
 have c2 : decide ((b : Int) - a < 50) = true := decide_eq_true (by omega)
 by_cases hib : i = b
 . refine ⟨true, fun _ => g2 hib, ?_⟩
   have hd := decide_eq_true (show (i : Int) = b by omega)
   rw [K_fn P04.f183 _ _ rfl]
   (simp only [go_sem, simprocAttr, d7L, d7N, d7M, a1J, haw, hQ, hd, hn, a0E, hT, hu]; repeat' (first | ((first | refine brY ?_ | refine brN ?_ | refine brA ?_ | refine brD ?_ | refine brF ?_ | ((first | apply a0k | apply a0j); (. intro h; simp only [go_sem, simprocAttr, a0p h, d7L, d7N, d7M, a1J, haw, hQ, hd, hn, a0E, hT, hu]; exact rfl))); (try simp only [go_sem, simprocAttr, d7L, d7N, d7M, a1J, haw, hQ, hd, hn, a0E, hT, hu])) | ((first | apply a0e | apply d7E | apply a0a) <;> intro h <;> (try simp only [go_sem, simprocAttr, h, d7L, d7N, d7M, a1J, haw, hQ, hd, hn, a0E, hT, hu]))))
 . refine ⟨false, fun h => (by cases h), ?_⟩
   have hd := decide_eq_false (show ¬ (i : Int) = b by omega)
   rw [K_fn P04.f183 _ _ rfl]
   (simp only [go_sem, simprocAttr, d7L, d7N, d7M, a1J, haw, hQ, hd, hw, c2, hn, a0E, hT, hu]; repeat' (first | ((first | refine brY ?_ | refine brN ?_ | refine brA ?_ | refine brD ?_ | refine brF ?_ | ((first | apply a0k | apply a0j); (. intro h; simp only [go_sem, simprocAttr, a0p h, d7L, d7N, d7M, a1J, haw, hQ, hd, hw, c2, hn, a0E, hT, hu]; exact rfl))); (try simp only [go_sem, simprocAttr, d7L, d7N, d7M, a1J, haw, hQ, hd, hw, c2, hn, a0E, hT, hu])) | ((first | apply a0e | apply d7E | apply a0a) <;> intro h <;> (try simp only [go_sem, simprocAttr, h, d7L, d7N, d7M, a1J, haw, hQ, hd, hw, c2, hn, a0E, hT, hu]))))
end
end Go.Pm.St
namespace Go.Pm.St
open Ac
structure Part (D0 D : List Rest) (a b : Nat) (x : Rest) (i j : Nat) : Prop where
 seg : Seg D0 D a b
 piv : elt D a = x
 lo : ∀ k, a < k -> k < i -> (elt D k).lt x = true
 hi : ∀ k, j < k -> k < b -> (elt D k).lt x = false
 ai : a < i
 ij : i <= j + 1
 jb : j < b
theorem Part.swap {D0 D : List Rest} {a b i j : Nat} {x : Rest} (h : Part D0 D a b x i j) (hb : b <= D.length) (hij : i <= j) (h1 : (elt D i).lt x = false) (h2 : (elt D j).lt x = true) : i < j /\ Part D0 (sw D i j) a b x (i + 1) (j - 1) := by
 have hne : i ≠ j := fun e => by rw [e, h2] at h1; cases h1
 have hai := h.ai; have hjb := h.jb
 have hw : ∀ k, elt (sw D i j) k = if k = j then elt D i else if k = i then elt D j else elt D k := fun k => d8S (by omega) (by omega)
 refine ⟨by omega, h.seg.trans (Seg.sw (by omega) (by omega) (by omega) (by omega)), ?_, fun k k1 k2 => ?_, fun k k1 k2 => ?_, by omega, by omega, by omega⟩
 . rw [hw, if_neg (by omega), if_neg (by omega)]; exact h.piv
 . rw [hw, if_neg (by omega)]
   by_cases e : k = i
   . rw [if_pos e]; exact h2
   . rw [if_neg e]; exact h.lo k k1 (by omega)
 . rw [hw]
   by_cases e : k = j
   . rw [if_pos e]; exact h1
   . rw [if_neg e, if_neg (by omega)]; exact h.hi k (by omega) k2
theorem Part.done {D0 D : List Rest} {a b i j : Nat} {x : Rest} (h : Part D0 D a b x i j) (hb : b <= D.length) (hij : j < i) : a <= j /\ j < b /\ Seg D0 (sw D j a) a b /\ elt (sw D j a) j = x /\ (∀ k, a <= k -> k < j -> (elt (sw D j a) k).lt x = true) /\ ∀ k, j < k -> k < b -> (elt (sw D j a) k).lt x = false := by
 have hai := h.ai; have hjb := h.jb; have h3 := h.ij
 have hw : ∀ k, elt (sw D j a) k = if k = a then elt D j else if k = j then elt D a else elt D k := fun k => d8S (by omega) (by omega)
 refine ⟨by omega, hjb, h.seg.trans (Seg.sw (by omega) (by omega) (by omega) (by omega)), ?_, fun k k1 k2 => ?_, fun k k1 k2 => ?_⟩
 . rw [hw]
   by_cases e : j = a
   . rw [if_pos e, e]; exact h.piv
   . rw [if_neg e, if_pos rfl]; exact h.piv
 . rw [hw]
   by_cases e : k = a
   . rw [if_pos e]; exact h.lo j (by omega) (by omega)
   . rw [if_neg e, if_neg (by omega)]; exact h.lo k (by omega) (by omega)
 . rw [hw, if_neg (by omega), if_neg (by omega)]; exact h.hi k k1 k2
section
variable {Γ : Env} [P04 Γ] [G04 Γ]
theorem d9N (H : List Obj) (N r : Nat) (hn : H.length = N) (hr : r < N) (hu : H.all (Obj.under N) = true) (D0 D : List Rest) (hl : D.length <= 1000) (hH : H[r]? = some (.var (a1A D))) (a b : Nat) (hb : b <= D.length) (x : Rest) (i j : Nat) (hP : Part D0 D a b x i j) :
   ∃ i' : Nat, Part D0 D a b x i' j /\ i <= i' /\ (j < i' \/ (elt D i').lt x = false) /\ ∀ {β : Type} (Q : Ex -> St -> Option β),
     E Γ d8k ⟨[(0, rowC r D.length), (1, vi a), (4, cmpC), (12, vi i), (13, vi j)], H⟩ Q = Q (.exit 0) ⟨[(0, rowC r D.length), (1, vi a), (4, cmpC), (12, vi i'), (13, vi j), (47, vb false)], H⟩ := by
 have hrl : r < H.length := by omega
 have hT : H.take N = H := List.take_of_length_le (by omega)
 obtain ⟨p, hp, hQ⟩ := d8B (Γ := Γ) (keep := [0, 1, 4, 12, 13]) (B := d7H) (σ := Nat)
   (fun i => ⟨[(0, rowC r D.length), (1, vi a), (4, cmpC), (12, vi i), (13, vi j)], H⟩) (fun i => j + 1 - i) (fun i1 => Part D0 D a b x i1 j /\ i <= i1)
   (fun p => ∃ i' : Nat, Part D0 D a b x i' j /\ i <= i' /\ (j < i' \/ (elt D i').lt x = false) /\ p = (.exit 0, ⟨[(0, rowC r D.length), (1, vi a), (4, cmpC), (12, vi i'), (13, vi j), (47, vb false)], H⟩))
   (by
     intro i h1
     obtain ⟨h1, h0⟩ := h1
     have hai := h1.ai; have hjb := h1.jb
     by_cases hij : i <= j
     . have hA := a7h _ _ _ (d8b (D := D) (k := i) (by omega))
       have hB := a7h _ _ _ (d8b (D := D) (k := a) (by omega))
       rw [h1.piv] at hB
       have hle : decide ((i : Int) <= j) = true := decide_eq_true (by omega)
       have hiw : IntKind.i64.wrap ((i : Int) + 1) = ((i + 1 : Nat) : Int) := by rw [wrap_i64 (by omega) (by omega)]; omega
       have hb1 : decide (0 <= (i : Int) /\ (i : Int) < D.length) = true := decide_eq_true (by omega)
       have hb2 : decide (0 <= (a : Int) /\ (a : Int) < D.length) = true := decide_eq_true (by omega)
       cases hc' : (elt D i).lt x with
       | true =>
         left
         have hc : decide ((elt D i).cmp x < 0) = true := hc'
         refine ⟨i + 1, ⟨⟨h1.seg, h1.piv, fun k k1 k2 => ?_, h1.hi, by omega, by omega, hjb⟩, by omega⟩, by omega, ?_⟩
         . by_cases e : k = i
           . subst e; exact hc'
           . exact h1.lo k k1 (by omega)
         . (simp only [go_sem, simprocAttr, d7H, hn, a0E, hrl, hH, hA, hB, hle, hiw, hb1, hb2, hc, hu, hT, a0Q, Int.toNat_natCast, Nat.zero_add]; repeat' (first | ((first | refine brY ?_ | refine brN ?_ | refine brA ?_ | refine brD ?_ | refine brF ?_ | ((first | apply a0k | apply a0j); (. intro h; simp only [go_sem, simprocAttr, a0p h, d7H, hn, a0E, hrl, hH, hA, hB, hle, hiw, hb1, hb2, hc, hu, hT, a0Q, Int.toNat_natCast, Nat.zero_add]; exact rfl))); (try simp only [go_sem, simprocAttr, d7H, hn, a0E, hrl, hH, hA, hB, hle, hiw, hb1, hb2, hc, hu, hT, a0Q, Int.toNat_natCast, Nat.zero_add])) | ((first | apply a0e | apply d7E | apply a0a) <;> intro h <;> (try simp only [go_sem, simprocAttr, h, d7H, hn, a0E, hrl, hH, hA, hB, hle, hiw, hb1, hb2, hc, hu, hT, a0Q, Int.toNat_natCast, Nat.zero_add]))))
       | false =>
         right
         have hc : decide ((elt D i).cmp x < 0) = false := hc'
         refine ⟨_, ⟨i, h1, h0, .inr hc', rfl⟩, ?_⟩
         (simp only [go_sem, simprocAttr, d7H, hn, a0E, hrl, hH, hA, hB, hle, hb1, hb2, hc, hu, hT, a0Q, Int.toNat_natCast, Nat.zero_add]; repeat' (first | ((first | refine brY ?_ | refine brN ?_ | refine brA ?_ | refine brD ?_ | refine brF ?_ | ((first | apply a0k | apply a0j); (. intro h; simp only [go_sem, simprocAttr, a0p h, d7H, hn, a0E, hrl, hH, hA, hB, hle, hb1, hb2, hc, hu, hT, a0Q, Int.toNat_natCast, Nat.zero_add]; exact rfl))); (try simp only [go_sem, simprocAttr, d7H, hn, a0E, hrl, hH, hA, hB, hle, hb1, hb2, hc, hu, hT, a0Q, Int.toNat_natCast, Nat.zero_add])) | ((first | apply a0e | apply d7E | apply a0a) <;> intro h <;> (try simp only [go_sem, simprocAttr, h, d7H, hn, a0E, hrl, hH, hA, hB, hle, hb1, hb2, hc, hu, hT, a0Q, Int.toNat_natCast, Nat.zero_add]))))
     . right
       have hle : decide ((i : Int) <= j) = false := decide_eq_false (by omega)
       refine ⟨_, ⟨i, h1, h0, .inl (by omega), rfl⟩, ?_⟩
       (simp only [go_sem, simprocAttr, d7H, hle]; repeat' (first | ((first | refine brY ?_ | refine brN ?_ | refine brA ?_ | refine brD ?_ | refine brF ?_ | ((first | apply a0k | apply a0j); (. intro h; simp only [go_sem, simprocAttr, a0p h, d7H, hle]; exact rfl))); (try simp only [go_sem, simprocAttr, d7H, hle])) | ((first | apply a0e | apply d7E | apply a0a) <;> intro h <;> (try simp only [go_sem, simprocAttr, h, d7H, hle]))))) i ⟨hP, Nat.le_refl _⟩
 obtain ⟨i', g1, g0, g2, rfl⟩ := hp
 exact ⟨i', g1, g0, g2, fun Q => hQ Q⟩
theorem d9O (H : List Obj) (N r : Nat) (hn : H.length = N) (hr : r < N) (hu : H.all (Obj.under N) = true) (D0 D : List Rest) (hl : D.length <= 1000) (hH : H[r]? = some (.var (a1A D))) (a b : Nat) (hb : b <= D.length) (x : Rest) (i j : Nat) (hP : Part D0 D a b x i j) :
   ∃ j' : Nat, Part D0 D a b x i j' /\ j' <= j /\ (j' < i \/ (elt D j').lt x = true) /\ ∀ {β : Type} (Q : Ex -> St -> Option β),
     E Γ d8l ⟨[(0, rowC r D.length), (1, vi a), (4, cmpC), (12, vi i), (13, vi j), (47, vb false)], H⟩ Q = Q (.exit 2) ⟨[(0, rowC r D.length), (1, vi a), (4, cmpC), (12, vi i), (13, vi j'), (66, vb false)], H⟩ := by
 have hrl : r < H.length := by omega
 have hT : H.take N = H := List.take_of_length_le (by omega)
 obtain ⟨p, hp, hQ⟩ := d8B (Γ := Γ) (keep := [0, 1, 4, 12, 13]) (B := d7I) (σ := Nat × Bool)
   (fun s => ⟨[(0, rowC r D.length), (1, vi a), (4, cmpC), (12, vi i), (13, vi s.1)] ++ (if s.2 then [(47, vb false)] else []), H⟩) (fun s => s.1) (fun s => Part D0 D a b x i s.1 /\ s.1 <= j)
   (fun p => ∃ j' : Nat, Part D0 D a b x i j' /\ j' <= j /\ (j' < i \/ (elt D j').lt x = true) /\ p = (.exit 2, ⟨[(0, rowC r D.length), (1, vi a), (4, cmpC), (12, vi i), (13, vi j'), (66, vb false)], H⟩))
   (by
     rintro ⟨j, f⟩ ⟨h1, h0⟩
     simp only at h1 h0 ⊢
     have hai := h1.ai; have hjb := h1.jb
     by_cases hij : i <= j
     . have hA := a7h _ _ _ (d8b (D := D) (k := j) (by omega))
       have hB := a7h _ _ _ (d8b (D := D) (k := a) (by omega))
       rw [h1.piv] at hB
       have hle : decide ((i : Int) <= j) = true := decide_eq_true (by omega)
       have hiw : IntKind.i64.wrap ((j : Int) - 1) = ((j - 1 : Nat) : Int) := by rw [wrap_i64 (by omega) (by omega)]; omega
       have hb1 : decide (0 <= (j : Int) /\ (j : Int) < D.length) = true := decide_eq_true (by omega)
       have hb2 : decide (0 <= (a : Int) /\ (a : Int) < D.length) = true := decide_eq_true (by omega)
       cases hc' : (elt D j).lt x with
       | false =>
         left
         have hc : decide ((elt D j).cmp x < 0) = false := hc'
         refine ⟨(j - 1, false), ⟨⟨h1.seg, h1.piv, h1.lo, fun k k1 k2 => ?_, hai, by simp only; omega, by simp only; omega⟩, by simp only; omega⟩, by simp only; omega, ?_⟩
         . by_cases e : k = j
           . subst e; exact hc'
           . exact h1.hi k (by simp only at k1; omega) k2
         . cases f <;> (simp only [go_sem, simprocAttr, d7I, Bool.false_eq_true, hn, a0E, hrl, hH, hA, hB, hle, hiw, hb1, hb2, hc, hu, hT, a0Q, Int.toNat_natCast, Nat.zero_add]; repeat' (first | ((first | refine brY ?_ | refine brN ?_ | refine brA ?_ | refine brD ?_ | refine brF ?_ | ((first | apply a0k | apply a0j); (. intro h; simp only [go_sem, simprocAttr, a0p h, d7I, Bool.false_eq_true, hn, a0E, hrl, hH, hA, hB, hle, hiw, hb1, hb2, hc, hu, hT, a0Q, Int.toNat_natCast, Nat.zero_add]; exact rfl))); (try simp only [go_sem, simprocAttr, d7I, Bool.false_eq_true, hn, a0E, hrl, hH, hA, hB, hle, hiw, hb1, hb2, hc, hu, hT, a0Q, Int.toNat_natCast, Nat.zero_add])) | ((first | apply a0e | apply d7E | apply a0a) <;> intro h <;> (try simp only [go_sem, simprocAttr, h, d7I, Bool.false_eq_true, hn, a0E, hrl, hH, hA, hB, hle, hiw, hb1, hb2, hc, hu, hT, a0Q, Int.toNat_natCast, Nat.zero_add]))))
       | true =>
         right
         have hc : decide ((elt D j).cmp x < 0) = true := hc'
         refine ⟨_, ⟨j, h1, h0, .inr hc', rfl⟩, ?_⟩
         cases f <;> (simp only [go_sem, simprocAttr, d7I, Bool.false_eq_true, hn, a0E, hrl, hH, hA, hB, hle, hb1, hb2, hc, hu, hT, a0Q, Int.toNat_natCast, Nat.zero_add]; repeat' (first | ((first | refine brY ?_ | refine brN ?_ | refine brA ?_ | refine brD ?_ | refine brF ?_ | ((first | apply a0k | apply a0j); (. intro h; simp only [go_sem, simprocAttr, a0p h, d7I, Bool.false_eq_true, hn, a0E, hrl, hH, hA, hB, hle, hb1, hb2, hc, hu, hT, a0Q, Int.toNat_natCast, Nat.zero_add]; exact rfl))); (try simp only [go_sem, simprocAttr, d7I, Bool.false_eq_true, hn, a0E, hrl, hH, hA, hB, hle, hb1, hb2, hc, hu, hT, a0Q, Int.toNat_natCast, Nat.zero_add])) | ((first | apply a0e | apply d7E | apply a0a) <;> intro h <;> (try simp only [go_sem, simprocAttr, h, d7I, Bool.false_eq_true, hn, a0E, hrl, hH, hA, hB, hle, hb1, hb2, hc, hu, hT, a0Q, Int.toNat_natCast, Nat.zero_add]))))
     . right
       have hle : decide ((i : Int) <= j) = false := decide_eq_false (by omega)
       refine ⟨_, ⟨j, h1, h0, .inl (by omega), rfl⟩, ?_⟩
       cases f <;> (simp only [go_sem, simprocAttr, d7I, Bool.false_eq_true, hle]; repeat' (first | ((first | refine brY ?_ | refine brN ?_ | refine brA ?_ | refine brD ?_ | refine brF ?_ | ((first | apply a0k | apply a0j); (. intro h; simp only [go_sem, simprocAttr, a0p h, d7I, Bool.false_eq_true, hle]; exact rfl))); (try simp only [go_sem, simprocAttr, d7I, Bool.false_eq_true, hle])) | ((first | apply a0e | apply d7E | apply a0a) <;> intro h <;> (try simp only [go_sem, simprocAttr, h, d7I, Bool.false_eq_true, hle]))))) (j, true) ⟨hP, Nat.le_refl _⟩
 obtain ⟨j', g1, g0, g2, rfl⟩ := hp
 exact ⟨j', g1, g0, g2, fun Q => hQ Q⟩
theorem d9Q (H : List Obj) (N r : Nat) (hn : H.length = N) (hr : r < N) (hu : H.all (Obj.under N) = true) (D0 D : List Rest) (hl : D.length <= 1000) (hH : H[r]? = some (.var (a1A D))) (a b : Nat) (hb : b <= D.length) (x : Rest) (i j : Nat) (hP : Part D0 D a b x i j) :
   ∃ i' : Nat, Part D0 D a b x i' j /\ i <= i' /\ (j < i' \/ (elt D i').lt x = false) /\ ∀ {β : Type} (Q : Ex -> St -> Option β),
     E Γ d8n ⟨[(0, rowC r D.length), (1, vi a), (4, cmpC), (12, vi i), (13, vi j)], H⟩ Q = Q (.exit 6) ⟨[(0, rowC r D.length), (1, vi a), (4, cmpC), (12, vi i'), (13, vi j), (120, vb false)], H⟩ := by
 have hrl : r < H.length := by omega
 have hT : H.take N = H := List.take_of_length_le (by omega)
 obtain ⟨p, hp, hQ⟩ := d8B (Γ := Γ) (keep := [0, 1, 4, 12, 13]) (B := d7J) (σ := Nat)
   (fun i => ⟨[(0, rowC r D.length), (1, vi a), (4, cmpC), (12, vi i), (13, vi j)], H⟩) (fun i => j + 1 - i) (fun i1 => Part D0 D a b x i1 j /\ i <= i1)
   (fun p => ∃ i' : Nat, Part D0 D a b x i' j /\ i <= i' /\ (j < i' \/ (elt D i').lt x = false) /\ p = (.exit 6, ⟨[(0, rowC r D.length), (1, vi a), (4, cmpC), (12, vi i'), (13, vi j), (120, vb false)], H⟩))
   (by
     intro i h1
     obtain ⟨h1, h0⟩ := h1
     have hai := h1.ai; have hjb := h1.jb
     by_cases hij : i <= j
     . have hA := a7h _ _ _ (d8b (D := D) (k := i) (by omega))
       have hB := a7h _ _ _ (d8b (D := D) (k := a) (by omega))
       rw [h1.piv] at hB
       have hle : decide ((i : Int) <= j) = true := decide_eq_true (by omega)
       have hiw : IntKind.i64.wrap ((i : Int) + 1) = ((i + 1 : Nat) : Int) := by rw [wrap_i64 (by omega) (by omega)]; omega
       have hb1 : decide (0 <= (i : Int) /\ (i : Int) < D.length) = true := decide_eq_true (by omega)
       have hb2 : decide (0 <= (a : Int) /\ (a : Int) < D.length) = true := decide_eq_true (by omega)
       cases hc' : (elt D i).lt x with
       | true =>
         left
         have hc : decide ((elt D i).cmp x < 0) = true := hc'
         refine ⟨i + 1, ⟨⟨h1.seg, h1.piv, fun k k1 k2 => ?_, h1.hi, by omega, by omega, hjb⟩, by omega⟩, by omega, ?_⟩
         . by_cases e : k = i
           . subst e; exact hc'
           . exact h1.lo k k1 (by omega)
         . (simp only [go_sem, simprocAttr, d7J, hn, a0E, hrl, hH, hA, hB, hle, hiw, hb1, hb2, hc, hu, hT, a0Q, Int.toNat_natCast, Nat.zero_add]; repeat' (first | ((first | refine brY ?_ | refine brN ?_ | refine brA ?_ | refine brD ?_ | refine brF ?_ | ((first | apply a0k | apply a0j); (. intro h; simp only [go_sem, simprocAttr, a0p h, d7J, hn, a0E, hrl, hH, hA, hB, hle, hiw, hb1, hb2, hc, hu, hT, a0Q, Int.toNat_natCast, Nat.zero_add]; exact rfl))); (try simp only [go_sem, simprocAttr, d7J, hn, a0E, hrl, hH, hA, hB, hle, hiw, hb1, hb2, hc, hu, hT, a0Q, Int.toNat_natCast, Nat.zero_add])) | ((first | apply a0e | apply d7E | apply a0a) <;> intro h <;> (try simp only [go_sem, simprocAttr, h, d7J, hn, a0E, hrl, hH, hA, hB, hle, hiw, hb1, hb2, hc, hu, hT, a0Q, Int.toNat_natCast, Nat.zero_add]))))
       | false =>
         right
         have hc : decide ((elt D i).cmp x < 0) = false := hc'
         refine ⟨_, ⟨i, h1, h0, .inr hc', rfl⟩, ?_⟩
         (simp only [go_sem, simprocAttr, d7J, hn, a0E, hrl, hH, hA, hB, hle, hb1, hb2, hc, hu, hT, a0Q, Int.toNat_natCast, Nat.zero_add]; repeat' (first | ((first | refine brY ?_ | refine brN ?_ | refine brA ?_ | refine brD ?_ | refine brF ?_ | ((first | apply a0k | apply a0j); (. intro h; simp only [go_sem, simprocAttr, a0p h, d7J, hn, a0E, hrl, hH, hA, hB, hle, hb1, hb2, hc, hu, hT, a0Q, Int.toNat_natCast, Nat.zero_add]; exact rfl))); (try simp only [go_sem, simprocAttr, d7J, hn, a0E, hrl, hH, hA, hB, hle, hb1, hb2, hc, hu, hT, a0Q, Int.toNat_natCast, Nat.zero_add])) | ((first | apply a0e | apply d7E | apply a0a) <;> intro h <;> (try simp only [go_sem, simprocAttr, h, d7J, hn, a0E, hrl, hH, hA, hB, hle, hb1, hb2, hc, hu, hT, a0Q, Int.toNat_natCast, Nat.zero_add]))))
     . right
       have hle : decide ((i : Int) <= j) = false := decide_eq_false (by omega)
       refine ⟨_, ⟨i, h1, h0, .inl (by omega), rfl⟩, ?_⟩
       (simp only [go_sem, simprocAttr, d7J, hle]; repeat' (first | ((first | refine brY ?_ | refine brN ?_ | refine brA ?_ | refine brD ?_ | refine brF ?_ | ((first | apply a0k | apply a0j); (. intro h; simp only [go_sem, simprocAttr, a0p h, d7J, hle]; exact rfl))); (try simp only [go_sem, simprocAttr, d7J, hle])) | ((first | apply a0e | apply d7E | apply a0a) <;> intro h <;> (try simp only [go_sem, simprocAttr, h, d7J, hle]))))) i ⟨hP, Nat.le_refl _⟩
 obtain ⟨i', g1, g0, g2, rfl⟩ := hp
 exact ⟨i', g1, g0, g2, fun Q => hQ Q⟩
theorem d9R (H : List Obj) (N r : Nat) (hn : H.length = N) (hr : r < N) (hu : H.all (Obj.under N) = true) (D0 D : List Rest) (hl : D.length <= 1000) (hH : H[r]? = some (.var (a1A D))) (a b : Nat) (hb : b <= D.length) (x : Rest) (i j : Nat) (hP : Part D0 D a b x i j) :
   ∃ j' : Nat, Part D0 D a b x i j' /\ j' <= j /\ (j' < i \/ (elt D j').lt x = true) /\ ∀ {β : Type} (Q : Ex -> St -> Option β),
     E Γ d8o ⟨[(0, rowC r D.length), (1, vi a), (4, cmpC), (12, vi i), (13, vi j), (120, vb false)], H⟩ Q = Q (.exit 8) ⟨[(0, rowC r D.length), (1, vi a), (4, cmpC), (12, vi i), (13, vi j'), (139, vb false)], H⟩ := by
 have hrl : r < H.length := by omega
 have hT : H.take N = H := List.take_of_length_le (by omega)
 obtain ⟨p, hp, hQ⟩ := d8B (Γ := Γ) (keep := [0, 1, 4, 12, 13]) (B := d7K) (σ := Nat × Bool)
   (fun s => ⟨[(0, rowC r D.length), (1, vi a), (4, cmpC), (12, vi i), (13, vi s.1)] ++ (if s.2 then [(120, vb false)] else []), H⟩) (fun s => s.1) (fun s => Part D0 D a b x i s.1 /\ s.1 <= j)
   (fun p => ∃ j' : Nat, Part D0 D a b x i j' /\ j' <= j /\ (j' < i \/ (elt D j').lt x = true) /\ p = (.exit 8, ⟨[(0, rowC r D.length), (1, vi a), (4, cmpC), (12, vi i), (13, vi j'), (139, vb false)], H⟩))
   (by
     rintro ⟨j, f⟩ ⟨h1, h0⟩
     simp only at h1 h0 ⊢
     have hai := h1.ai; have hjb := h1.jb
     by_cases hij : i <= j
     . have hA := a7h _ _ _ (d8b (D := D) (k := j) (by omega))
       have hB := a7h _ _ _ (d8b (D := D) (k := a) (by omega))
       rw [h1.piv] at hB
       have hle : decide ((i : Int) <= j) = true := decide_eq_true (by omega)
       have hiw : IntKind.i64.wrap ((j : Int) - 1) = ((j - 1 : Nat) : Int) := by rw [wrap_i64 (by omega) (by omega)]; omega
       have hb1 : decide (0 <= (j : Int) /\ (j : Int) < D.length) = true := decide_eq_true (by omega)
       have hb2 : decide (0 <= (a : Int) /\ (a : Int) < D.length) = true := decide_eq_true (by omega)
       cases hc' : (elt D j).lt x with
       | false =>
         left
         have hc : decide ((elt D j).cmp x < 0) = false := hc'
         refine ⟨(j - 1, false), ⟨⟨h1.seg, h1.piv, h1.lo, fun k k1 k2 => ?_, hai, by simp only; omega, by simp only; omega⟩, by simp only; omega⟩, by simp only; omega, ?_⟩
         . by_cases e : k = j
           . subst e; exact hc'
           . exact h1.hi k (by simp only at k1; omega) k2
         . cases f <;> (simp only [go_sem, simprocAttr, d7K, Bool.false_eq_true, hn, a0E, hrl, hH, hA, hB, hle, hiw, hb1, hb2, hc, hu, hT, a0Q, Int.toNat_natCast, Nat.zero_add]; repeat' (first | ((first | refine brY ?_ | refine brN ?_ | refine brA ?_ | refine brD ?_ | refine brF ?_ | ((first | apply a0k | apply a0j); (. intro h; simp only [go_sem, simprocAttr, a0p h, d7K, Bool.false_eq_true, hn, a0E, hrl, hH, hA, hB, hle, hiw, hb1, hb2, hc, hu, hT, a0Q, Int.toNat_natCast, Nat.zero_add]; exact rfl))); (try simp only [go_sem, simprocAttr, d7K, Bool.false_eq_true, hn, a0E, hrl, hH, hA, hB, hle, hiw, hb1, hb2, hc, hu, hT, a0Q, Int.toNat_natCast, Nat.zero_add])) | ((first | apply a0e | apply d7E | apply a0a) <;> intro h <;> (try simp only [go_sem, simprocAttr, h, d7K, Bool.false_eq_true, hn, a0E, hrl, hH, hA, hB, hle, hiw, hb1, hb2, hc, hu, hT, a0Q, Int.toNat_natCast, Nat.zero_add]))))
       | true =>
         right
         have hc : decide ((elt D j).cmp x < 0) = true := hc'
         refine ⟨_, ⟨j, h1, h0, .inr hc', rfl⟩, ?_⟩
         cases f <;> (simp only [go_sem, simprocAttr, d7K, Bool.false_eq_true, hn, a0E, hrl, hH, hA, hB, hle, hb1, hb2, hc, hu, hT, a0Q, Int.toNat_natCast, Nat.zero_add]; repeat' (first | ((first | refine brY ?_ | refine brN ?_ | refine brA ?_ | refine brD ?_ | refine brF ?_ | ((first | apply a0k | apply a0j); (. intro h; simp only [go_sem, simprocAttr, a0p h, d7K, Bool.false_eq_true, hn, a0E, hrl, hH, hA, hB, hle, hb1, hb2, hc, hu, hT, a0Q, Int.toNat_natCast, Nat.zero_add]; exact rfl))); (try simp only [go_sem, simprocAttr, d7K, Bool.false_eq_true, hn, a0E, hrl, hH, hA, hB, hle, hb1, hb2, hc, hu, hT, a0Q, Int.toNat_natCast, Nat.zero_add])) | ((first | apply a0e | apply d7E | apply a0a) <;> intro h <;> (try simp only [go_sem, simprocAttr, h, d7K, Bool.false_eq_true, hn, a0E, hrl, hH, hA, hB, hle, hb1, hb2, hc, hu, hT, a0Q, Int.toNat_natCast, Nat.zero_add]))))
     . right
       have hle : decide ((i : Int) <= j) = false := decide_eq_false (by omega)
       refine ⟨_, ⟨j, h1, h0, .inl (by omega), rfl⟩, ?_⟩
       cases f <;> (simp only [go_sem, simprocAttr, d7K, Bool.false_eq_true, hle]; repeat' (first | ((first | refine brY ?_ | refine brN ?_ | refine brA ?_ | refine brD ?_ | refine brF ?_ | ((first | apply a0k | apply a0j); (. intro h; simp only [go_sem, simprocAttr, a0p h, d7K, Bool.false_eq_true, hle]; exact rfl))); (try simp only [go_sem, simprocAttr, d7K, Bool.false_eq_true, hle])) | ((first | apply a0e | apply d7E | apply a0a) <;> intro h <;> (try simp only [go_sem, simprocAttr, h, d7K, Bool.false_eq_true, hle]))))) (j, true) ⟨hP, Nat.le_refl _⟩
 obtain ⟨j', g1, g0, g2, rfl⟩ := hp
 exact ⟨j', g1, g0, g2, fun Q => hQ Q⟩
theorem d9P (H : List Obj) (N r : Nat) (hn : H.length = N) (hr : r < N) (hu : H.all (Obj.under N) = true) (D0 D : List Rest) (hl : D0.length <= 1000) (a b : Nat) (hb : b <= D0.length) (x : Rest) (i j : Nat) (hP : Part D0 D a b x i j) :
   ∃ (D' : List Rest) (i' j' : Nat), Part D0 D' a b x i' j' /\ j' < i' /\ ∀ {β : Type} (Q : Ex -> St -> Option β),
     E Γ d8m ⟨[(0, rowC r D0.length), (1, vi a), (4, cmpC), (12, vi i), (13, vi j)], H.set r (.var (a1A D))⟩ Q = Q (.exit 4) ⟨[(0, rowC r D0.length), (1, vi a), (4, cmpC), (12, vi i'), (13, vi j'), (144, vb true)], H.set r (.var (a1A D'))⟩ := by
 have hrl : r < H.length := by omega
 have hg (v : Obj) : (H.set r v)[r]? = some v := b1c _ _ _ hrl
 have hun (v : List Rest) : (H.set r (.var (a1A v))).all (Obj.under N) = true := a6R _ _ _ _ hu (by simp [go_sem])
 have hT (v : Obj) : (H.set r v).take N = H.set r v := List.take_of_length_le (by simp [hn])
 have hlen' (v : Obj) : (H.set r v).length = N := by simp [hn]
 obtain ⟨p, hp, hQ⟩ := d8B (Γ := Γ) (keep := [0, 1, 4, 12, 13]) (B := d7Q) (σ := List Rest × Nat × Nat)
   (fun s => ⟨[(0, rowC r D0.length), (1, vi a), (4, cmpC), (12, vi s.2.1), (13, vi s.2.2)], H.set r (.var (a1A s.1))⟩) (fun s => s.2.2 + 1 - s.2.1) (fun s => Part D0 s.1 a b x s.2.1 s.2.2)
   (fun p => ∃ (D' : List Rest) (i' j' : Nat), Part D0 D' a b x i' j' /\ j' < i' /\ p = (.exit 4, ⟨[(0, rowC r D0.length), (1, vi a), (4, cmpC), (12, vi i'), (13, vi j'), (144, vb true)], H.set r (.var (a1A D'))⟩))
   (by
     rintro ⟨D, i, j⟩ h1
     simp only at h1 ⊢
     have hlen := h1.seg.len
     obtain ⟨i', g1, g2, g3, hL3⟩ := d9Q (Γ := Γ) (H.set r (.var (a1A D))) N r (hlen' _) hr (hun D) D0 D (by omega) (hg _) a b (by omega) x i j h1
     obtain ⟨j', k1, k2, k3, hL4⟩ := d9R (Γ := Γ) (H.set r (.var (a1A D))) N r (hlen' _) hr (hun D) D0 D (by omega) (hg _) a b (by omega) x i' j g1
     rw [hlen] at hL3 hL4
     have hai := k1.ai; have hjb := k1.jb
     by_cases hij : j' < i'
     . right
       refine ⟨_, ⟨D, i', j', k1, hij, rfl⟩, ?_⟩
       have hgt : decide ((j' : Int) < i') = true := decide_eq_true (by omega)
       (simp only [go_sem, simprocAttr, d7Q, hL3, hL4, hgt]; repeat' (first | ((first | refine brY ?_ | refine brN ?_ | refine brA ?_ | refine brD ?_ | refine brF ?_ | ((first | apply a0k | apply a0j); (. intro h; simp only [go_sem, simprocAttr, a0p h, d7Q, hL3, hL4, hgt]; exact rfl))); (try simp only [go_sem, simprocAttr, d7Q, hL3, hL4, hgt])) | ((first | apply a0e | apply d7E | apply a0a) <;> intro h <;> (try simp only [go_sem, simprocAttr, h, d7Q, hL3, hL4, hgt]))))
     . left
       have h2 : (elt D i').lt x = false := by rcases g3 with h | h; omega; exact h
       have h3 : (elt D j').lt x = true := by rcases k3 with h | h; omega; exact h
       obtain ⟨hlt, hP'⟩ := k1.swap (by omega) (by omega) h2 h3
       refine ⟨(sw D i' j', i' + 1, j' - 1), hP', by simp only; omega, ?_⟩
       have hgt : decide ((j' : Int) < i') = false := decide_eq_false (by omega)
       have hA := a7h _ _ _ (d8b (D := D) (k := i') (by omega))
       have hB := a7h _ _ _ (d8b (D := D) (k := j') (by omega))
       have hS1 := a9W D i' (elt D j') (by omega)
       have hS2 := a9W (D.set i' (elt D j')) j' (elt D i') (by rw [List.length_set]; omega)
       have hsw : (D.set i' (elt D j')).set j' (elt D i') = sw D i' j' := rfl
       rw [hsw] at hS2
       have hb1 : decide (0 <= (i' : Int) /\ (i' : Int) < D0.length) = true := decide_eq_true (by omega)
       have hb2 : decide (0 <= (j' : Int) /\ (j' : Int) < D0.length) = true := decide_eq_true (by omega)
       have hq1 : decide (i' * 2 + 2 <= 2 * D.length) = true := decide_eq_true (by omega)
       have hq2 : decide (j' * 2 + 2 <= 2 * D.length) = true := decide_eq_true (by omega)
       have hiw : IntKind.i64.wrap ((i' : Int) + 1) = ((i' + 1 : Nat) : Int) := by rw [wrap_i64 (by omega) (by omega)]; omega
       have hjw : IntKind.i64.wrap ((j' : Int) - 1) = ((j' - 1 : Nat) : Int) := by rw [wrap_i64 (by omega) (by omega)]; omega
       (simp only [go_sem, simprocAttr, d7Q, hL3, hL4, hgt, hb1, hb2, hq1, hq2, hg, hA, hB, hS1, hS2, hiw, hjw, hn, a0E, hrl, hT, hun, Int.toNat_natCast, Nat.zero_add, List.length_set]; repeat' (first | ((first | refine brY ?_ | refine brN ?_ | refine brA ?_ | refine brD ?_ | refine brF ?_ | ((first | apply a0k | apply a0j); (. intro h; simp only [go_sem, simprocAttr, a0p h, d7Q, hL3, hL4, hgt, hb1, hb2, hq1, hq2, hg, hA, hB, hS1, hS2, hiw, hjw, hn, a0E, hrl, hT, hun, Int.toNat_natCast, Nat.zero_add, List.length_set]; exact rfl))); (try simp only [go_sem, simprocAttr, d7Q, hL3, hL4, hgt, hb1, hb2, hq1, hq2, hg, hA, hB, hS1, hS2, hiw, hjw, hn, a0E, hrl, hT, hun, Int.toNat_natCast, Nat.zero_add, List.length_set])) | ((first | apply a0e | apply d7E | apply a0a) <;> intro h <;> (try simp only [go_sem, simprocAttr, h, d7Q, hL3, hL4, hgt, hb1, hb2, hq1, hq2, hg, hA, hB, hS1, hS2, hiw, hjw, hn, a0E, hrl, hT, hun, Int.toNat_natCast, Nat.zero_add, List.length_set]))))) (D, i, j) hP
 obtain ⟨D', i', j', g1, g2, rfl⟩ := hp
 exact ⟨D', i', j', g1, g2, fun Q => hQ Q⟩
theorem d9n (H : List Obj) (N r : Nat) (hn : H.length = N) (hr : r < N) (hu : H.all (Obj.under N) = true) (D : List Rest) (hl : D.length <= 1000) (hH : H[r]? = some (.var (a1A D))) (a b p : Nat) (hb : b <= D.length) (hab : a < b) (hp : a <= p /\ p < b) :
   ∃ (D' : List Rest) (m : Nat) (al : Bool), Seg D D' a b /\ (a <= m /\ m < b) /\ elt D' m = elt D p /\ (∀ k, a <= k -> k < m -> (elt D' k).lt (elt D p) = true) /\ (∀ k, m < k -> k < b -> (elt D' k).lt (elt D p) = false) ∧
     K Γ (.fn 185) [rowC r D.length, vi a, vi b, vi p, cmpC] H = some (.tup [vi m, vb al], H.set r (.var (a1A D'))) := by
 have hrl : r < H.length := by omega
 have hg (v : Obj) : (H.set r v)[r]? = some v := b1c _ _ _ hrl
 have hun (v : List Rest) : (H.set r (.var (a1A v))).all (Obj.under N) = true := a6R _ _ _ _ hu (by simp [go_sem])
 have hT (v : Obj) : (H.set r v).take N = H.set r v := List.take_of_length_le (by simp [hn])
 have hlen' (v : Obj) : (H.set r v).length = N := by simp [hn]
 -- the pivot goes to the front
 have hA := a7h _ _ _ (d8b (D := D) (k := a) (by omega))
 have hB := a7h _ _ _ (d8b (D := D) (k := p) (by omega))
 have hS1 := a9W D a (elt D p) (by omega)
 have hS2 := a9W (D.set a (elt D p)) p (elt D a) (by rw [List.length_set]; omega)
 have hsw : (D.set a (elt D p)).set p (elt D a) = sw D a p := rfl
 rw [hsw] at hS2
 have hb1 : decide (0 <= (a : Int) /\ (a : Int) < D.length) = true := decide_eq_true (by omega)
 have hb2 : decide (0 <= (p : Int) /\ (p : Int) < D.length) = true := decide_eq_true (by omega)
 have hq1 : decide (a * 2 + 2 <= 2 * D.length) = true := decide_eq_true (by omega)
 have hq2 : decide (p * 2 + 2 <= 2 * D.length) = true := decide_eq_true (by omega)
 have haw : IntKind.i64.wrap ((a : Int) + 1) = ((a + 1 : Nat) : Int) := by rw [wrap_i64 (by omega) (by omega)]; omega
 have hbw : IntKind.i64.wrap ((b : Int) - 1) = ((b - 1 : Nat) : Int) := by rw [wrap_i64 (by omega) (by omega)]; omega
 have hl1 := e0a D a p
 have hpv : elt (sw D a p) a = elt D p := by
   rw [d8S (by omega) (by omega)]
   by_cases e : a = p
   . rw [if_pos e, e]
   . rw [if_neg e, if_pos rfl]
 have hP1 : Part D (sw D a p) a b (elt D p) (a + 1) (b - 1) :=
   ⟨Seg.sw (by omega) (by omega) (by omega) hp, hpv, fun k k1 k2 => by omega, fun k k1 k2 => by omega, by omega, by omega, by omega⟩
 obtain ⟨i, g1, -, g3, hL0⟩ := d9N (Γ := Γ) (H.set r (.var (a1A (sw D a p)))) N r (hlen' _) hr (hun _) D (sw D a p) (by omega) (hg _) a b (by omega) _ _ _ hP1
 obtain ⟨j, k1, -, k3, hL1⟩ := d9O (Γ := Γ) (H.set r (.var (a1A (sw D a p)))) N r (hlen' _) hr (hun _) D (sw D a p) (by omega) (hg _) a b (by omega) _ _ _ g1
 rw [hl1] at hL0 hL1
 -- the pivot goes between the two
 have fin (E : List Rest) (i j : Nat) (h : Part D E a b (elt D p) i j) (hij : j < i) :
     (a <= j /\ j < b) /\ Seg D (sw E j a) a b /\ elt (sw E j a) j = elt D p /\ (∀ k, a <= k -> k < j -> (elt (sw E j a) k).lt (elt D p) = true) /\ (∀ k, j < k -> k < b -> (elt (sw E j a) k).lt (elt D p) = false) ∧
     a0R (a1A E) (a * 2) 2 = some (elt E a).c /\ a0R (a1A E) (j * 2) 2 = some (elt E j).c /\ a1H (a1A E) (j * 2) (elt E a).c = a1A (E.set j (elt E a)) /\ a1H (a1A (E.set j (elt E a))) (a * 2) (elt E j).c = a1A (sw E j a) ∧
     decide (0 <= (j : Int) /\ (j : Int) < D.length) = true /\ decide (a * 2 + 2 <= 2 * E.length) = true /\ decide (j * 2 + 2 <= 2 * E.length) = true := by
   have hlen := h.seg.len
   obtain ⟨f1, f2, f3, f4, f5, f6⟩ := h.done (by omega) hij
   exact ⟨⟨f1, f2⟩, f3, f4, f5, f6, a7h _ _ _ (d8b (by omega)), a7h _ _ _ (d8b (by omega)), a9W E j (elt E a) (by omega), a9W (E.set j (elt E a)) a (elt E j) (by rw [List.length_set]; omega), decide_eq_true (by omega), decide_eq_true (by omega), decide_eq_true (by omega)⟩
 by_cases hij : j < i
 . obtain ⟨f1, f2, f3, f4, f5, f6, f7, f8, f9, f10, f11, f12⟩ := fin _ i j k1 hij
   refine ⟨_, j, true, f2, f1, f3, f4, f5, ?_⟩
   have hgt : decide ((j : Int) < i) = true := decide_eq_true (by omega)
   rw [K_fn P04.f185 _ _ rfl]
   (simp only [go_sem, simprocAttr, d7P, hn, a0E, hrl, hH, hA, hB, hS1, hS2, hb1, hb2, hq1, hq2, haw, hbw, hg, hT, hun, hL0, hL1, hgt, f6, f7, f8, f9, f10, f11, f12, Int.toNat_natCast, Nat.zero_add, List.length_set]; repeat' (first | ((first | refine brY ?_ | refine brN ?_ | refine brA ?_ | refine brD ?_ | refine brF ?_ | ((first | apply a0k | apply a0j); (. intro h; simp only [go_sem, simprocAttr, a0p h, d7P, hn, a0E, hrl, hH, hA, hB, hS1, hS2, hb1, hb2, hq1, hq2, haw, hbw, hg, hT, hun, hL0, hL1, hgt, f6, f7, f8, f9, f10, f11, f12, Int.toNat_natCast, Nat.zero_add, List.length_set]; exact rfl))); (try simp only [go_sem, simprocAttr, d7P, hn, a0E, hrl, hH, hA, hB, hS1, hS2, hb1, hb2, hq1, hq2, haw, hbw, hg, hT, hun, hL0, hL1, hgt, f6, f7, f8, f9, f10, f11, f12, Int.toNat_natCast, Nat.zero_add, List.length_set])) | ((first | apply a0e | apply d7E | apply a0a) <;> intro h <;> (try simp only [go_sem, simprocAttr, h, d7P, hn, a0E, hrl, hH, hA, hB, hS1, hS2, hb1, hb2, hq1, hq2, haw, hbw, hg, hT, hun, hL0, hL1, hgt, f6, f7, f8, f9, f10, f11, f12, Int.toNat_natCast, Nat.zero_add, List.length_set]))))
 . have hjb' := k1.jb
   have h2 : (elt (sw D a p) i).lt (elt D p) = false := by
     rcases g3 with h | h
     . omega
     . exact h
   have h3 : (elt (sw D a p) j).lt (elt D p) = true := by rcases k3 with h | h; omega; exact h
   obtain ⟨hlt, hP2⟩ := k1.swap (by omega) (by omega) h2 h3
   have hai := k1.ai; have hjb := k1.jb
   have iA := a7h _ _ _ (d8b (D := sw D a p) (k := i) (by omega))
   have iB := a7h _ _ _ (d8b (D := sw D a p) (k := j) (by omega))
   have iS1 := a9W (sw D a p) i (elt (sw D a p) j) (by omega)
   have iS2 := a9W ((sw D a p).set i (elt (sw D a p) j)) j (elt (sw D a p) i) (by rw [List.length_set]; omega)
   have isw : ((sw D a p).set i (elt (sw D a p) j)).set j (elt (sw D a p) i) = sw (sw D a p) i j := rfl
   rw [isw] at iS2
   have ib1 : decide (0 <= (i : Int) /\ (i : Int) < D.length) = true := decide_eq_true (by omega)
   have ib2 : decide (0 <= (j : Int) /\ (j : Int) < D.length) = true := decide_eq_true (by omega)
   have iq1 : decide (i * 2 + 2 <= 2 * (sw D a p).length) = true := decide_eq_true (by omega)
   have iq2 : decide (j * 2 + 2 <= 2 * (sw D a p).length) = true := decide_eq_true (by omega)
   have iw : IntKind.i64.wrap ((i : Int) + 1) = ((i + 1 : Nat) : Int) := by rw [wrap_i64 (by omega) (by omega)]; omega
   have jw : IntKind.i64.wrap ((j : Int) - 1) = ((j - 1 : Nat) : Int) := by rw [wrap_i64 (by omega) (by omega)]; omega
   have hgt : decide ((j : Int) < i) = false := decide_eq_false (by omega)
   obtain ⟨D', i', j', q1, q2, hL2⟩ := d9P (Γ := Γ) H N r hn hr hu D (sw (sw D a p) i j) hl a b hb (elt D p) (i + 1) (j - 1) hP2
   obtain ⟨f1, f2, f3, f4, f5, f6, f7, f8, f9, f10, f11, f12⟩ := fin D' i' j' q1 q2
   refine ⟨_, j', false, f2, f1, f3, f4, f5, ?_⟩
   rw [K_fn P04.f185 _ _ rfl]
   (simp only [go_sem, simprocAttr, d7P, hn, a0E, hrl, hH, hA, hB, hS1, hS2, hb1, hb2, hq1, hq2, haw, hbw, hg, hT, hun, hL0, hL1, hgt, iA, iB, iS1, iS2, ib1, ib2, iq1, iq2, iw, jw, hL2, f6, f7, f8, f9, f10, f11, f12, Int.toNat_natCast, Nat.zero_add, List.length_set]; repeat' (first | ((first | refine brY ?_ | refine brN ?_ | refine brA ?_ | refine brD ?_ | refine brF ?_ | ((first | apply a0k | apply a0j); (. intro h; simp only [go_sem, simprocAttr, a0p h, d7P, hn, a0E, hrl, hH, hA, hB, hS1, hS2, hb1, hb2, hq1, hq2, haw, hbw, hg, hT, hun, hL0, hL1, hgt, iA, iB, iS1, iS2, ib1, ib2, iq1, iq2, iw, jw, hL2, f6, f7, f8, f9, f10, f11, f12, Int.toNat_natCast, Nat.zero_add, List.length_set]; exact rfl))); (try simp only [go_sem, simprocAttr, d7P, hn, a0E, hrl, hH, hA, hB, hS1, hS2, hb1, hb2, hq1, hq2, haw, hbw, hg, hT, hun, hL0, hL1, hgt, iA, iB, iS1, iS2, ib1, ib2, iq1, iq2, iw, jw, hL2, f6, f7, f8, f9, f10, f11, f12, Int.toNat_natCast, Nat.zero_add, List.length_set])) | ((first | apply a0e | apply d7E | apply a0a) <;> intro h <;> (try simp only [go_sem, simprocAttr, h, d7P, hn, a0E, hrl, hH, hA, hB, hS1, hS2, hb1, hb2, hq1, hq2, haw, hbw, hg, hT, hun, hL0, hL1, hgt, iA, iB, iS1, iS2, ib1, ib2, iq1, iq2, iw, jw, hL2, f6, f7, f8, f9, f10, f11, f12, Int.toNat_natCast, Nat.zero_add, List.length_set]))))
end
end Go.Pm.St
namespace Go.Pm.St
open Ac
theorem Seg.symm {D D' : List Rest} {a b : Nat} (h : Seg D D' a b) : Seg D' D a b := ⟨h.perm.symm, fun k hk => (h.out k hk).symm⟩
def Diff (D : List Rest) (a b : Nat) : Prop := ∀ i j, a <= i -> i < j -> j < b -> elt D i ≠ elt D j
theorem d8O {D : List Rest} (h : D.Nodup) {b : Nat} (hb : b <= D.length) (a : Nat) : Diff D a b := by
 intro i j h1 h2 h3 e
 have := List.pairwise_iff_getElem.1 h i j (by omega) (by omega) h2
 exact this (by simpa [elt, show i < D.length by omega, show j < D.length by omega] using e)
def d9q (D : List Rest) (a b : Nat) : Prop := a = 0 \/ ∀ k, a <= k -> k < b -> (elt D (a - 1)).lt (elt D k) = true
def Good (D : List Rest) (a b a' b' : Nat) : Prop := ∀ D', Seg D D' a' b' -> d8w D' a' b' -> d8w D' a b
theorem d9v {D D1 D2 : List Rest} {a b a' b' m : Nat} {x : Rest} (hg : Good D a b a' b') (hb : b' <= D.length) (h1 : Seg D D1 a' b') (hm : a' <= m /\ m < b') (hx : elt D1 m = x) (hlo : ∀ k, a' <= k -> k < m -> (elt D1 k).lt x = true) (hhi : ∀ k, m < k -> k < b' -> (elt D1 k).lt x = false)
   (h2 : Seg D1 D2 a' m) (ho : d8w D2 a' m) : Good D2 a b (m + 1) b' := by
 intro D3 h3 ho3
 have l1 := h1.len; have l2 := h2.len
 have hlo2 := h2.all (by omega) (fun y => y.lt x = true) hlo
 have hhi2 : ∀ k, m + 1 <= k -> k < b' -> (elt D2 k).lt x = false := fun k k1 k2 => by rw [h2.out k (.inr (by omega))]; exact hhi k (by omega) k2
 have hhi3 := h3.all (by omega) (fun y => y.lt x = false) hhi2
 have hx3 : elt D3 m = x := by rw [h3.out m (.inl (by omega)), h2.out m (.inr (by omega)), hx]
 have hlo3 : ∀ k, k < m -> elt D3 k = elt D2 k := fun k hk => h3.out k (.inl (by omega))
 refine hg D3 ((h1.trans (h2.mono (by omega) (by omega))).trans (h3.mono (by omega) (by omega))) fun p q k1 k2 k3 => ?_
 by_cases e1 : q < m
 . rw [hlo3 q e1, hlo3 p (by omega)]; exact ho p q k1 k2 e1
 . by_cases e2 : m < p
   . exact ho3 p q (by omega) k2 k3
   . by_cases e3 : q = m
     . rw [e3, hx3, hlo3 p (by omega)]
       exact lt_asymm (hlo2 p k1 (by omega))
     . have hq := hhi3 q (by omega) k3
       by_cases e4 : p = m
       . rw [e4, hx3]; exact hq
       . rw [hlo3 p (by omega)]
         exact a8M (lt_asymm (hlo2 p k1 (by omega))) hq
theorem d9s {D D1 D2 : List Rest} {a b a' b' m : Nat} {x : Rest} (hg : Good D a b a' b') (hb : b' <= D.length) (h1 : Seg D D1 a' b') (hm : a' <= m /\ m < b') (hx : elt D1 m = x) (hlo : ∀ k, a' <= k -> k < m -> (elt D1 k).lt x = true) (hhi : ∀ k, m < k -> k < b' -> (elt D1 k).lt x = false)
   (h2 : Seg D1 D2 (m + 1) b') (ho : d8w D2 (m + 1) b') : Good D2 a b a' m := by
 intro D3 h3 ho3
 have l1 := h1.len; have l2 := h2.len
 have hlo2 : ∀ k, a' <= k -> k < m -> (elt D2 k).lt x = true := fun k k1 k2 => by rw [h2.out k (.inl (by omega))]; exact hlo k k1 k2
 have hlo3 := h3.all (by omega) (fun y => y.lt x = true) hlo2
 have hhi2 := h2.all (by omega) (fun y => y.lt x = false) (fun k k1 k2 => hhi k (by omega) k2)
 have hx3 : elt D3 m = x := by rw [h3.out m (.inr (by omega)), h2.out m (.inl (by omega)), hx]
 have hhi3 : ∀ k, m < k -> elt D3 k = elt D2 k := fun k hk => h3.out k (.inr (by omega))
 refine hg D3 ((h1.trans (h2.mono (by omega) (by omega))).trans (h3.mono (by omega) (by omega))) fun p q k1 k2 k3 => ?_
 by_cases e1 : q < m
 . exact ho3 p q k1 k2 e1
 . by_cases e2 : m < p
   . rw [hhi3 q (by omega), hhi3 p e2]; exact ho p q (by omega) k2 k3
   . by_cases e3 : q = m
     . rw [e3, hx3]
       exact lt_asymm (hlo3 p k1 (by omega))
     . have hq : (elt D3 q).lt x = false := by rw [hhi3 q (by omega)]; exact hhi2 q (by omega) k3
       by_cases e4 : p = m
       . rw [e4, hx3]; exact hq
       . exact a8M (lt_asymm (hlo3 p k1 (by omega))) hq
theorem Diff.sub {D : List Rest} {a b c d : Nat} (h : Diff D a b) (h1 : a <= c) (h2 : d <= b) : Diff D c d := fun i j k1 k2 k3 => h i j (by omega) k2 (by omega)
section
variable {Γ : Env} [P04 Γ] [G04 Γ]
set_option maxHeartbeats 8000000 in
theorem e0l (N r : Nat) (hr : r < N) (lim : Int) : ∀ (n : Nat) (H : List Obj) (D : List Rest) (a b : Nat), H.length = N -> H.all (Obj.under N) = true -> D.length <= 1000 -> D.Nodup -> H[r]? = some (.var (a1A D)) →
   a <= b -> b <= D.length -> b - a <= n -> n <= 15 -> (13 <= n -> lim ≠ 0) -> d9q D a b →
   ∃ D', Seg D D' a b /\ d8w D' a b /\ K Γ (.fn 162) [rowC r D.length, vi a, vi b, vi lim, cmpC] H = some (.tup [], H.set r (.var (a1A D'))) := by
 intro n
 induction n using Nat.strongRecOn with
 | ind n ih =>
 intro H D0 a b hn hu hl hnd hH hab hb hba hn15 hlim hfr
 have hrl : r < H.length := by omega
 have hg (v : Obj) : (H.set r v)[r]? = some v := b1c _ _ _ hrl
 have hun (v : List Rest) : (H.set r (.var (a1A v))).all (Obj.under N) = true := a6R _ _ _ _ hu (by simp [go_sem])
 have hT (v : Obj) : (H.set r v).take N = H.set r v := List.take_of_length_le (by simp [hn])
 have hlen' (v : Obj) : (H.set r v).length = N := by simp [hn]
 have hss (v w : Obj) : (H.set r v).set r w = H.set r w := List.set_set ..
 have h0 : H.set r (.var (a1A D0)) = H := b1j _ _ _ hH
 obtain ⟨p, hp, hQ⟩ := d8B (Γ := Γ) (keep := [0, 1, 2, 3, 4, 10, 11]) (B := a1X) (σ := List Rest × Nat × Nat × Bool)
   (fun s => ⟨[(0, rowC r D0.length), (1, vi s.2.1), (2, vi s.2.2.1), (3, vi lim), (4, cmpC), (10, vb true), (11, vb s.2.2.2)], H.set r (.var (a1A s.1))⟩) (fun s => s.2.2.1 - s.2.1)
   (fun s => Seg D0 s.1 a b /\ a <= s.2.1 /\ s.2.1 <= s.2.2.1 /\ s.2.2.1 <= b /\ d9q s.1 s.2.1 s.2.2.1 /\ Good s.1 a b s.2.1 s.2.2.1)
   (fun p => ∃ (D' : List Rest) (t : List (Nat × V)), Seg D0 D' a b /\ d8w D' a b /\ p = (.ret, ⟨t, H.set r (.var (a1A D'))⟩))
   (by
     rintro ⟨D, a', b', w⟩ ⟨h1, h2, h3, h4, h5, h6⟩
     simp only at h1 h2 h3 h4 h5 h6 ⊢
     have hlen := h1.len
     have hnd' : D.Nodup := h1.perm.nodup_iff.2 hnd
     have hw : IntKind.i64.wrap ((b' : Int) - a') = (b' : Int) - a' := wrap_i64 (by omega) (by omega)
     by_cases h12 : b' - a' <= 12
     . right
       obtain ⟨D', g1, g2, hK⟩ := e0b (Γ := Γ) (H.set r (.var (a1A D))) N r (hlen' _) hr (hun D) D (by omega) a' b' h3 (by omega) (hg _)
       rw [hlen, hss] at hK
       refine ⟨_, ⟨D', [], h1.trans (g1.mono h2 h4), h6 D' g1 g2, rfl⟩, ?_⟩
       have hle : decide ((b' : Int) - a' <= 12) = true := decide_eq_true (by omega)
       (simp only [go_sem, simprocAttr, a1X, hw, hle, hK, hn, a0E, hT, hun]; repeat' (first | ((first | refine brY ?_ | refine brN ?_ | refine brA ?_ | refine brD ?_ | refine brF ?_ | ((first | apply a0k | apply a0j); (. intro h; simp only [go_sem, simprocAttr, a0p h, a1X, hw, hle, hK, hn, a0E, hT, hun]; exact rfl))); (try simp only [go_sem, simprocAttr, a1X, hw, hle, hK, hn, a0E, hT, hun])) | ((first | apply a0e | apply d7E | apply a0a) <;> intro h <;> (try simp only [go_sem, simprocAttr, h, a1X, hw, hle, hK, hn, a0E, hT, hun]))))
     . have hle : decide ((b' : Int) - a' <= 12) = false := decide_eq_false (by omega)
       have hl0 : decide (lim = 0) = false := decide_eq_false (hlim (by omega))
       obtain ⟨p, u, q, hint, i1, i2, i3, i4, i5, i6, hPv⟩ := d9S (Γ := Γ) (H.set r (.var (a1A D))) N r (hlen' _) hr (hun D) D (by omega) (hg _) a' b' (by omega) (by omega) (by omega) (d8O hnd' (by omega) a')
       obtain ⟨is, hIs, hPa⟩ := d9x (Γ := Γ) (H.set r (.var (a1A D))) N r (hlen' _) hr (hun D) D (by omega) (hg _) a' b' (by omega) (by omega) (by omega)
       obtain ⟨D1, m, al, j1, j2, j3, j4, j5, hPt⟩ := d9n (Γ := Γ) (H.set r (.var (a1A D))) N r (hlen' _) hr (hun D) D (by omega) (hg _) a' b' p (by omega) (by omega) (by omega)
       rw [hlen] at hPv hPa hPt
       rw [hss] at hPt
       have hlen1 := j1.len
       by_cases hret : w = true /\ hint = 1 /\ is = true
       . obtain ⟨rfl, rfl, rfl⟩ := hret
         right
         refine ⟨_, ⟨D, [(0, rowC r D0.length), (1, vi a'), (2, vi b'), (3, vi lim), (4, cmpC), (10, vb true), (11, vb true), (12, vi ((b' : Int) - a')), (13, vi p), (80, vb true)], h1, h6 D (Seg.refl _ _ _) (hIs rfl), rfl⟩, ?_⟩
         (simp only [go_sem, simprocAttr, a1X, hw, hle, hl0, hPv, hPa, hn, a0E, hT, hun]; repeat' (first | ((first | refine brY ?_ | refine brN ?_ | refine brA ?_ | refine brD ?_ | refine brF ?_ | ((first | apply a0k | apply a0j); (. intro h; simp only [go_sem, simprocAttr, a0p h, a1X, hw, hle, hl0, hPv, hPa, hn, a0E, hT, hun]; exact rfl))); (try simp only [go_sem, simprocAttr, a1X, hw, hle, hl0, hPv, hPa, hn, a0E, hT, hun])) | ((first | apply a0e | apply d7E | apply a0a) <;> intro h <;> (try simp only [go_sem, simprocAttr, h, a1X, hw, hle, hl0, hPv, hPa, hn, a0E, hT, hun]))))
       . left
         -- both sides of the pivot
         have hm : a' < m := by
           refine Decidable.byContradiction fun hc => ?_
           have hma : m = a' := by omega
           have hall : ∀ k, a' <= k -> k < b' -> (elt D1 k).lt (elt D p) = false := fun k k1 k2 => by
             by_cases e : k = m
             . rw [e, j3]; rw [Bool.eq_false_iff]; intro h; have := lt_asymm h; rw [h] at this; cases this
             . exact j5 k (by omega) k2
           have := j1.symm.all (by omega) (fun y => y.lt (elt D p) = false) hall u i3.1 i3.2
           rw [i5] at this; cases this
         have hnd1 : D1.Nodup := j1.perm.nodup_iff.2 hnd'
         have fr : d9q D1 a' b' := by
           rcases h5 with h | h
           . exact .inl h
           . by_cases h0 : a' = 0
             . exact .inl h0
             . right
               rw [j1.out (a' - 1) (.inl (by omega))]
               exact j1.all (by omega) (fun y => (elt D (a' - 1)).lt y = true) h
         have hgt : decide ((0 : Int) < a') = decide (0 < a') := by simp
         have hfa : 0 < a' -> decide ((elt D (a' - 1)).cmp (elt D p) < 0) = true := fun h => by
           rcases h5 with h' | h'
           . omega
           . exact h' p (by omega) i2.2
         have hA : 0 < a' -> a0R (a1A D) ((a' - 1) * 2) 2 = some (elt D (a' - 1)).c := fun h => a7h _ _ _ (d8b (by omega))
         have hB := a7h _ _ _ (d8b (D := D) (k := p) (by omega))
         have haw : 0 < a' -> IntKind.i64.wrap ((a' : Int) - 1) = ((a' - 1 : Nat) : Int) := fun h => by rw [wrap_i64 (by omega) (by omega)]; omega
         have hb1 : 0 < a' -> decide (0 <= ((a' - 1 : Nat) : Int) /\ ((a' - 1 : Nat) : Int) < D0.length) = true := fun h => decide_eq_true (by omega)
         have hb2 : decide (0 <= (p : Int) /\ (p : Int) < D0.length) = true := decide_eq_true (by omega)
         have w1 : IntKind.i64.wrap ((m : Int) - a') = (m : Int) - a' := wrap_i64 (by omega) (by omega)
         have w2 : IntKind.i64.wrap ((b' : Int) - m) = (b' : Int) - m := wrap_i64 (by omega) (by omega)
         have w3 : IntKind.i64.wrap ((m : Int) + 1) = ((m + 1 : Nat) : Int) := by rw [wrap_i64 (by omega) (by omega)]; omega
         have hq : ((b' : Int) - a').tdiv 8 = 1 := by
           have : (b' : Int) - a' = 13 \/ (b' : Int) - a' = 14 \/ (b' : Int) - a' = 15 := by omega
           rcases this with h | h | h <;> rw [h] <;> decide
         have hw8 : IntKind.i64.wrap 1 = 1 := by decide
         have t1 : decide (1 <= (m : Int) - a') = true := decide_eq_true (by omega)
         have t2 : decide (1 <= (b' : Int) - m) = true := decide_eq_true (by omega)
         by_cases hlr : (m : Int) - a' < b' - m
         . have hd := decide_eq_true hlr
           obtain ⟨D2, k1, k2, hK⟩ := ih (m - a') (by omega) (H.set r (.var (a1A D1))) D1 a' m (hlen' _) (hun D1) (by omega) hnd1 (hg _) (by omega) (by omega) (by omega) (by omega) (fun h => hlim (by omega)) (by
             rcases fr with h | h
             . exact .inl h
             . exact .inr fun k k1 k2 => h k k1 (by omega))
           rw [hlen1, hlen, hss] at hK
           have hG := d9v h6 (by omega) j1 ⟨by omega, j2.2⟩ j3 j4 j5 k1 k2
           refine ⟨(D2, m + 1, b', al), ⟨(h1.trans (j1.mono h2 h4)).trans (k1.mono (by omega) (by omega)), by simp only; omega, by simp only; omega, h4, ?_, hG⟩, by simp only; omega, ?_⟩
           . right
             intro k e1 e2
             simp only at e1 e2 ⊢
             rw [Nat.add_sub_cancel, k1.out k (.inr (by omega)), k1.out m (.inr (by omega)), j3]
             refine d8H (fun h => ?_) (j5 k (by omega) e2)
             rw [← j3] at h
             exact d8O hnd1 (show b' <= D1.length by omega) a' m k (by omega) (by omega) e2 h.symm
           . by_cases ha0 : 0 < a'
             . have g0 := decide_eq_true ha0
               rw [g0] at hgt
               have e1 := hfa ha0; have e2 := hA ha0; have e3 := haw ha0; have e4 := hb1 ha0
               rcases i1 with rfl | rfl <;> cases w <;> cases is <;> first
                 | exact absurd ⟨rfl, rfl, rfl⟩ hret
                 | (simp only [go_sem, simprocAttr, a1X, hw, hle, hl0, hPv, hPa, hPt, hgt, hg, e1, e2, e3, e4, hB, hb2, w1, w2, w3, hq, hw8, t1, t2, hd, hK, hn, a0E, hT, hun, hrl, Int.toNat_natCast, Nat.zero_add]; repeat' (first | ((first | refine brY ?_ | refine brN ?_ | refine brA ?_ | refine brD ?_ | refine brF ?_ | ((first | apply a0k | apply a0j); (. intro h; simp only [go_sem, simprocAttr, a0p h, a1X, hw, hle, hl0, hPv, hPa, hPt, hgt, hg, e1, e2, e3, e4, hB, hb2, w1, w2, w3, hq, hw8, t1, t2, hd, hK, hn, a0E, hT, hun, hrl, Int.toNat_natCast, Nat.zero_add]; exact rfl))); (try simp only [go_sem, simprocAttr, a1X, hw, hle, hl0, hPv, hPa, hPt, hgt, hg, e1, e2, e3, e4, hB, hb2, w1, w2, w3, hq, hw8, t1, t2, hd, hK, hn, a0E, hT, hun, hrl, Int.toNat_natCast, Nat.zero_add])) | ((first | apply a0e | apply d7E | apply a0a) <;> intro h <;> (try simp only [go_sem, simprocAttr, h, a1X, hw, hle, hl0, hPv, hPa, hPt, hgt, hg, e1, e2, e3, e4, hB, hb2, w1, w2, w3, hq, hw8, t1, t2, hd, hK, hn, a0E, hT, hun, hrl, Int.toNat_natCast, Nat.zero_add]))))
             . have g0 := decide_eq_false ha0
               rw [g0] at hgt
               rcases i1 with rfl | rfl <;> cases w <;> cases is <;> first
                 | exact absurd ⟨rfl, rfl, rfl⟩ hret
                 | (simp only [go_sem, simprocAttr, a1X, hw, hle, hl0, hPv, hPa, hPt, hgt, w1, w2, w3, hq, hw8, t1, t2, hd, hK, hn, a0E, hT, hun, hrl, Int.toNat_natCast, Nat.zero_add]; repeat' (first | ((first | refine brY ?_ | refine brN ?_ | refine brA ?_ | refine brD ?_ | refine brF ?_ | ((first | apply a0k | apply a0j); (. intro h; simp only [go_sem, simprocAttr, a0p h, a1X, hw, hle, hl0, hPv, hPa, hPt, hgt, w1, w2, w3, hq, hw8, t1, t2, hd, hK, hn, a0E, hT, hun, hrl, Int.toNat_natCast, Nat.zero_add]; exact rfl))); (try simp only [go_sem, simprocAttr, a1X, hw, hle, hl0, hPv, hPa, hPt, hgt, w1, w2, w3, hq, hw8, t1, t2, hd, hK, hn, a0E, hT, hun, hrl, Int.toNat_natCast, Nat.zero_add])) | ((first | apply a0e | apply d7E | apply a0a) <;> intro h <;> (try simp only [go_sem, simprocAttr, h, a1X, hw, hle, hl0, hPv, hPa, hPt, hgt, w1, w2, w3, hq, hw8, t1, t2, hd, hK, hn, a0E, hT, hun, hrl, Int.toNat_natCast, Nat.zero_add]))))
         . have hd := decide_eq_false hlr
           obtain ⟨D2, k1, k2, hK⟩ := ih (b' - (m + 1)) (by omega) (H.set r (.var (a1A D1))) D1 (m + 1) b' (hlen' _) (hun D1) (by omega) hnd1 (hg _) (by omega) (by omega) (by omega) (by omega) (fun h => hlim (by omega)) (by
             right
             intro k e1 e2
             rw [Nat.add_sub_cancel, j3]
             refine d8H (fun h => ?_) (j5 k (by omega) e2)
             rw [← j3] at h
             exact d8O hnd1 (show b' <= D1.length by omega) a' m k (by omega) (by omega) e2 h.symm)
           rw [hlen1, hlen, hss] at hK
           have hG := d9s h6 (by omega) j1 ⟨by omega, j2.2⟩ j3 j4 j5 k1 k2
           refine ⟨(D2, a', m, al), ⟨(h1.trans (j1.mono h2 h4)).trans (k1.mono (by omega) (by omega)), h2, by simp only; omega, by simp only; omega, ?_, hG⟩, by simp only; omega, ?_⟩
           . rcases fr with h | h
             . exact .inl h
             . by_cases ha0 : a' = 0
               . exact .inl ha0
               . right
                 intro k e1 e2
                 simp only at e1 e2 ⊢
                 rw [k1.out k (.inl (by omega)), k1.out (a' - 1) (.inl (by omega))]
                 exact h k e1 (by omega)
           . by_cases ha0 : 0 < a'
             . have g0 := decide_eq_true ha0
               rw [g0] at hgt
               have e1 := hfa ha0; have e2 := hA ha0; have e3 := haw ha0; have e4 := hb1 ha0
               rcases i1 with rfl | rfl <;> cases w <;> cases is <;> first
                 | exact absurd ⟨rfl, rfl, rfl⟩ hret
                 | (simp only [go_sem, simprocAttr, a1X, hw, hle, hl0, hPv, hPa, hPt, hgt, hg, e1, e2, e3, e4, hB, hb2, w1, w2, w3, hq, hw8, t1, t2, hd, hK, hn, a0E, hT, hun, hrl, Int.toNat_natCast, Nat.zero_add]; repeat' (first | ((first | refine brY ?_ | refine brN ?_ | refine brA ?_ | refine brD ?_ | refine brF ?_ | ((first | apply a0k | apply a0j); (. intro h; simp only [go_sem, simprocAttr, a0p h, a1X, hw, hle, hl0, hPv, hPa, hPt, hgt, hg, e1, e2, e3, e4, hB, hb2, w1, w2, w3, hq, hw8, t1, t2, hd, hK, hn, a0E, hT, hun, hrl, Int.toNat_natCast, Nat.zero_add]; exact rfl))); (try simp only [go_sem, simprocAttr, a1X, hw, hle, hl0, hPv, hPa, hPt, hgt, hg, e1, e2, e3, e4, hB, hb2, w1, w2, w3, hq, hw8, t1, t2, hd, hK, hn, a0E, hT, hun, hrl, Int.toNat_natCast, Nat.zero_add])) | ((first | apply a0e | apply d7E | apply a0a) <;> intro h <;> (try simp only [go_sem, simprocAttr, h, a1X, hw, hle, hl0, hPv, hPa, hPt, hgt, hg, e1, e2, e3, e4, hB, hb2, w1, w2, w3, hq, hw8, t1, t2, hd, hK, hn, a0E, hT, hun, hrl, Int.toNat_natCast, Nat.zero_add]))))
             . have g0 := decide_eq_false ha0
               rw [g0] at hgt
               rcases i1 with rfl | rfl <;> cases w <;> cases is <;> first
                 | exact absurd ⟨rfl, rfl, rfl⟩ hret
                 | (simp only [go_sem, simprocAttr, a1X, hw, hle, hl0, hPv, hPa, hPt, hgt, w1, w2, w3, hq, hw8, t1, t2, hd, hK, hn, a0E, hT, hun, hrl, Int.toNat_natCast, Nat.zero_add]; repeat' (first | ((first | refine brY ?_ | refine brN ?_ | refine brA ?_ | refine brD ?_ | refine brF ?_ | ((first | apply a0k | apply a0j); (. intro h; simp only [go_sem, simprocAttr, a0p h, a1X, hw, hle, hl0, hPv, hPa, hPt, hgt, w1, w2, w3, hq, hw8, t1, t2, hd, hK, hn, a0E, hT, hun, hrl, Int.toNat_natCast, Nat.zero_add]; exact rfl))); (try simp only [go_sem, simprocAttr, a1X, hw, hle, hl0, hPv, hPa, hPt, hgt, w1, w2, w3, hq, hw8, t1, t2, hd, hK, hn, a0E, hT, hun, hrl, Int.toNat_natCast, Nat.zero_add])) | ((first | apply a0e | apply d7E | apply a0a) <;> intro h <;> (try simp only [go_sem, simprocAttr, h, a1X, hw, hle, hl0, hPv, hPa, hPt, hgt, w1, w2, w3, hq, hw8, t1, t2, hd, hK, hn, a0E, hT, hun, hrl, Int.toNat_natCast, Nat.zero_add])))))
   (D0, a, b, true) ⟨Seg.refl _ _ _, Nat.le_refl _, hab, Nat.le_refl _, hfr, fun D' _ h => h⟩
 obtain ⟨D', t, g1, g2, rfl⟩ := hp
 refine ⟨D', g1, g2, ?_⟩
 simp only [h0] at hQ
 have hL : a1Y = .loop [0, 1, 2, 3, 4, 10, 11] a1X := rfl
 rw [← hL] at hQ
 rw [K_fn P04.f162 _ _ rfl]
 (simp only [go_sem, simprocAttr, a1v, hQ, hn, a0E, hT, hun]; repeat' (first | ((first | refine brY ?_ | refine brN ?_ | refine brA ?_ | refine brD ?_ | refine brF ?_ | ((first | apply a0k | apply a0j); (. intro h; simp only [go_sem, simprocAttr, a0p h, a1v, hQ, hn, a0E, hT, hun]; exact rfl))); (try simp only [go_sem, simprocAttr, a1v, hQ, hn, a0E, hT, hun])) | ((first | apply a0e | apply d7E | apply a0a) <;> intro h <;> (try simp only [go_sem, simprocAttr, h, a1v, hQ, hn, a0E, hT, hun]))))
def d9Y (Γ : Env) (P : List Rest -> Prop) : Prop := ∀ (H : List Obj) (N r : Nat) (l : List Rest), H.length = N -> r < N -> H.all (Obj.under N) = true -> P l -> H[r]? = some (.var (a1A l)) →
 K Γ (.fn 130) [.sc (.msl r 0 l.length 0 2), .sc (.fn (.fn 131) [] [] [])] H = some (.tup [], H.set r (.var (a1A (a1w l))))
theorem d9T : d9Y Γ (fun l => l.length <= 15 /\ l.Nodup) := by
 intro H N r l hn hr hu hl hH
 obtain ⟨hl, hnd⟩ := hl
 have hun (v : List Rest) : (H.set r (.var (a1A v))).all (Obj.under N) = true := a6R _ _ _ _ hu (by simp [go_sem])
 have hT (v : Obj) : (H.set r v).take N = H.set r v := List.take_of_length_le (by simp [hn])
 obtain ⟨v, h1, h2, hv⟩ := c0k (Γ := Γ) l.length hl
 have hw : IntKind.u64.wrap (l.length : Int) = l.length := by
   have : ∀ n : Nat, n <= 15 -> IntKind.u64.wrap (n : Int) = n := by decide
   exact this _ hl
 obtain ⟨D', g1, g2, hK⟩ := e0l (Γ := Γ) N r hr v l.length H l 0 l.length hn hu (by omega) hnd hH (Nat.zero_le _) (Nat.le_refl _) (by omega) hl (fun h => by have := h2 (by omega); omega) (.inl rfl)
 have e := d9t g1.perm (by rw [g1.len]; exact g2)
 rw [e] at hK
 change K Γ (.fn 162) [rowC r l.length, vi 0, vi l.length, vi v, cmpC] H = _ at hK
 rw [K_fn P04.f130 _ _ rfl]
 (simp only [go_sem, simprocAttr, a0X, hw, hv, hK, hn, a0E, hT, hun]; repeat' (first | ((first | refine brY ?_ | refine brN ?_ | refine brA ?_ | refine brD ?_ | refine brF ?_ | ((first | apply a0k | apply a0j); (. intro h; simp only [go_sem, simprocAttr, a0p h, a0X, hw, hv, hK, hn, a0E, hT, hun]; exact rfl))); (try simp only [go_sem, simprocAttr, a0X, hw, hv, hK, hn, a0E, hT, hun])) | ((first | apply a0e | apply d7E | apply a0a) <;> intro h <;> (try simp only [go_sem, simprocAttr, h, a0X, hw, hv, hK, hn, a0E, hT, hun]))))
end
end Go.Pm.St
namespace Go.Pm.St
open Ac
def drawn (s : Span) (n : Int) : Int := s.lo + turn n (s.hi - s.lo + 1)
section
variable {Γ : Env} [P04 Γ]
@[go_sem] theorem d0l (a b c : Int) : K Γ (.fn 29) [vi a, vi b, vi c] [] = some (vb (within a b c), []) := by
 rw [K_fn P04.f29 _ _ rfl]
 (simp only [go_sem, simprocAttr, a2w]; repeat' (first | ((first | refine brY ?_ | refine brN ?_ | refine brA ?_ | refine brD ?_ | refine brF ?_ | ((first | apply a0k | apply a0j); (. intro h; simp only [go_sem, simprocAttr, a0p h, a2w]; exact rfl))); (try simp only [go_sem, simprocAttr, a2w])) | ((first | apply a0e | apply d7E | apply a0a) <;> intro h <;> (try simp only [go_sem, simprocAttr, h, a2w]))))
 all_goals (simp_all [within]; try (intros; omega))
@[go_sem] theorem c7G (a b : Int) : K Γ (.fn 33) [vi a, vi b] [] = some (.agg [ci a, ci b], []) := by
 rw [K_fn P04.f33 _ _ rfl]
 simp only [go_sem, simprocAttr, a3N]
@[go_sem] theorem d0m (a : Int) : K Γ (.fn 30) [vi a] [] = some (.agg [ci a, ci a], []) := by
 rw [K_fn P04.f30 _ _ rfl]
 simp only [go_sem, simprocAttr, a4A]
@[go_sem] theorem d4r (a b n : Int) : K Γ (.fn 28) [.agg [ci a, ci b], vi n] [] = some (vb (within n a b), []) := by
 rw [K_fn P04.f28 _ _ rfl]
 simp only [go_sem, simprocAttr, d4d]
theorem b7i (s : Span) (low high wide : Int) (hl : 0 <= low) (hh : high <= 1000) :
   K Γ (.fn 49) [.agg [ci s.lo, ci s.hi], vi low, vi high, vi wide] [] = some (vb (s.is low high wide), []) := by
 rw [K_fn P04.f49 _ _ rfl]
 (simp only [go_sem, simprocAttr, a2v]; repeat' (first | ((first | refine brY ?_ | refine brN ?_ | refine brA ?_ | refine brD ?_ | refine brF ?_ | ((first | apply a0k | apply a0j); (. intro h; simp only [go_sem, simprocAttr, a0p h, a2v]; exact rfl))); (try simp only [go_sem, simprocAttr, a2v])) | ((first | apply a0e | apply d7E | apply a0a) <;> intro h <;> (try simp only [go_sem, simprocAttr, h, a2v]))))
 by_cases h : low <= s.lo /\ s.lo <= s.hi /\ s.hi <= high
 . rw [wrap_i64 (by omega) (by omega)]; rfl
 . simp only [Span.is]
   have e : (decide (low <= s.lo) && decide (s.lo <= s.hi) && decide (s.hi <= high)) = false := by
     rw [Bool.eq_false_iff]; intro e; simp only [Bool.and_eq_true, decide_eq_true_eq] at e; omega
   simp only [e, Bool.false_and]
@[go_sem] theorem d0x (n below : Int) (hb : below <= 1000000) : K Γ (.fn 27) [vi n, vi below] [] = some (vi (turn n below), []) := by
 rw [K_fn P04.f27 _ _ rfl]
 by_cases h : below < 1
 . have hd := decide_eq_true h
   simp only [go_sem, simprocAttr, a2U, hd, turn, h]
 . have hd := decide_eq_false h
   have hz : decide (below = 0) = false := decide_eq_false (by omega)
   have h1 := Int.tmod_lt_of_pos n (show 0 < below by omega)
   have h2 : -below < n.tmod below := by
     have := Int.tmod_lt_of_pos (-n) (show 0 < below by omega)
     rw [Int.neg_tmod] at this; omega
   have hw : IntKind.i64.wrap (n.tmod below + below) = n.tmod below + below := wrap_i64 (by omega) (by omega)
   by_cases hneg : n.tmod below < 0
   . have hd2 := decide_eq_true hneg
     simp only [go_sem, simprocAttr, a2U, hd, hz, hd2, hw, turn, h, hneg]
   . have hd2 := decide_eq_false hneg
     simp only [go_sem, simprocAttr, a2U, hd, hz, hd2, hw, turn, h, hneg]
@[go_sem] theorem e0n (k : SK) (l : List Int) (n : Int) (hl : l.length <= 1000000) : K Γ (.fn 63) [.sc (.sl k 1 (l.map fun x => [ci x])), vi n] [] = some (vi (d8d l n), []) := by
 rw [K_fn P04.f63 _ _ rfl]
 by_cases h : l = []
 . subst h
   (simp only [go_sem, simprocAttr, d7V, d8d, List.map_nil, List.length_nil]; repeat' (first | ((first | refine brY ?_ | refine brN ?_ | refine brA ?_ | refine brD ?_ | refine brF ?_ | ((first | apply a0k | apply a0j); (. intro h; simp only [go_sem, simprocAttr, a0p h, d7V, d8d, List.map_nil, List.length_nil]; exact rfl))); (try simp only [go_sem, simprocAttr, d7V, d8d, List.map_nil, List.length_nil])) | ((first | apply a0e | apply d7E | apply a0a) <;> intro h <;> (try simp only [go_sem, simprocAttr, h, d7V, d8d, List.map_nil, List.length_nil]))))
 . have hp : l.length ≠ 0 := fun e => h (List.length_eq_zero_iff.1 e)
   have hz : decide ((l.length : Int) = 0) = false := decide_eq_false (by omega)
   have ht := c1x n l.length (by omega)
   have hg : l[(turn n l.length).toNat]? = some (l.getD (turn n l.length).toNat 0) := by
     simp only [List.getD, List.getElem?_eq_getElem (show (turn n l.length).toNat < l.length by omega), Option.getD_some]
   have hle : (l.length : Int) <= 1000000 := by omega
   (simp only [go_sem, simprocAttr, d7V, hz, hle, hg, d8d, h]; repeat' (first | ((first | refine brY ?_ | refine brN ?_ | refine brA ?_ | refine brD ?_ | refine brF ?_ | ((first | apply a0k | apply a0j); (. intro h; simp only [go_sem, simprocAttr, a0p h, d7V, hz, hle, hg, d8d, h]; exact rfl))); (try simp only [go_sem, simprocAttr, d7V, hz, hle, hg, d8d, h])) | ((first | apply a0e | apply d7E | apply a0a) <;> intro h <;> (try simp only [go_sem, simprocAttr, h, d7V, hz, hle, hg, d8d, h]))))
@[go_sem] theorem d8R (s : Span) (n : Int) (hs : -1000 <= s.lo /\ s.lo <= 1000) (hh : -1000 <= s.hi /\ s.hi <= 1000) : K Γ (.fn 64) [.agg [ci s.lo, ci s.hi], vi n] [] = some (vi (drawn s n), []) := by
 have hw : IntKind.i64.wrap (IntKind.i64.wrap (s.hi - s.lo) + 1) = s.hi - s.lo + 1 := by
   rw [wrap_i64 (x := s.hi - s.lo) (by omega) (by omega), wrap_i64 (by omega) (by omega)]
 have hle : s.hi - s.lo + 1 <= 1000000 := by omega
 have hb : -10000 <= turn n (s.hi - s.lo + 1) /\ turn n (s.hi - s.lo + 1) <= 10000 := by
   by_cases h : 1 <= s.hi - s.lo + 1
   . have := c1x n _ h; omega
   . simp only [turn, if_pos (show s.hi - s.lo + 1 < 1 by omega)]; omega
 have hw2 : IntKind.i64.wrap (s.lo + turn n (s.hi - s.lo + 1)) = s.lo + turn n (s.hi - s.lo + 1) := wrap_i64 (by omega) (by omega)
 rw [K_fn P04.f64 _ _ rfl]
 simp only [go_sem, simprocAttr, d8x, hw, hle, hw2, drawn]
@[go_sem] theorem c0w (k k' : SK) (l m : List Int) (hl : l.length <= 1000000) (hm : m.length <= 1000000) : K Γ (.fn 23) [.sc (.sl k 1 (l.map fun x => [ci x])), .sc (.sl k' 1 (m.map fun x => [ci x]))] [] = some (vb (decide (l = m)), []) := by
 rw [K_fn P04.f23 _ _ rfl]
 by_cases hlm : (l.length : Int) = m.length
 . have d1 := decide_eq_true hlm
   have hz : (l.zip m).length = l.length := by simp [List.length_zip]; omega
   simp only [go_sem, simprocAttr, a3l, d1]
   refine (b5G (fun i (a : Bool) => ⟨[(0, .sc (.sl k 1 (l.map fun x => [ci x]))), (1, .sc (.sl k' 1 (m.map fun x => [ci x]))), (5, vb a), (6, vi i)], []⟩) (l.zip m)
     (fun i a p => if a then .inl (decide (p.1 = p.2)) else .inr (.exit 0, ⟨[(0, .sc (.sl k 1 (l.map fun x => [ci x]))), (1, .sc (.sl k' 1 (m.map fun x => [ci x]))), (5, vb false), (6, vi i), (18, vb false)], []⟩))
     (fun a => (.exit 0, ⟨[(0, .sc (.sl k 1 (l.map fun x => [ci x]))), (1, .sc (.sl k' 1 (m.map fun x => [ci x]))), (5, vb a), (6, vi (l.zip m).length), (18, vb false)], []⟩)) _ ?_ ?_ ?_ true).trans ?_
   . intro i a p a' hp hf
     obtain ⟨h1, h2⟩ := List.getElem?_zip_eq_some.1 hp
     have d1 := decide_eq_true (show (i : Int) < l.length by have := (List.getElem?_eq_some_iff.1 h1).1; omega)
     have hi : IntKind.i64.wrap ((i : Int) + 1) = i + 1 := wrap_i64 (by have := (List.getElem?_eq_some_iff.1 h1).1; omega) (by have := (List.getElem?_eq_some_iff.1 h1).1; omega)
     cases a with
     | false => simp at hf
     | true =>
       simp only [if_true, Sum.inl.injEq] at hf
       subst hf
       (simp only [go_sem, simprocAttr, a1b, h1, h2, d1, hi]; repeat' (first | ((first | refine brY ?_ | refine brN ?_ | refine brA ?_ | refine brD ?_ | refine brF ?_ | ((first | apply a0k | apply a0j); (. intro h; simp only [go_sem, simprocAttr, a0p h, a1b, h1, h2, d1, hi]; exact rfl))); (try simp only [go_sem, simprocAttr, a1b, h1, h2, d1, hi])) | ((first | apply a0e | apply d7E | apply a0a) <;> intro h <;> (try simp only [go_sem, simprocAttr, h, a1b, h1, h2, d1, hi]))))
       rfl
   . intro i a p r hp hf
     cases a with
     | true => simp at hf
     | false =>
       simp only [Bool.false_eq_true, if_false, Sum.inr.injEq] at hf
       subst hf
       (simp only [go_sem, simprocAttr, a1b]; repeat' (first | ((first | refine brY ?_ | refine brN ?_ | refine brA ?_ | refine brD ?_ | refine brF ?_ | ((first | apply a0k | apply a0j); (. intro h; simp only [go_sem, simprocAttr, a0p h, a1b]; exact rfl))); (try simp only [go_sem, simprocAttr, a1b])) | ((first | apply a0e | apply d7E | apply a0a) <;> intro h <;> (try simp only [go_sem, simprocAttr, h, a1b]))))
   . intro a
     have d1 : decide (((l.zip m).length : Int) < l.length) = false := decide_eq_false (by omega)
     cases a with
     | true => simp only [go_sem, simprocAttr, a1b, d1]
     | false => simp only [go_sem, simprocAttr, a1b]
   . have key : ∀ (ps : List (Int × Int)) (n : Nat) (a : Bool), ∃ j e, a4N (fun (i : Nat) (a : Bool) (p : Int × Int) => if a then Sum.inl (decide (p.1 = p.2)) else Sum.inr (Ex.exit 0, (⟨[(0, .sc (.sl k 1 (l.map fun x => [ci x]))), (1, .sc (.sl k' 1 (m.map fun x => [ci x]))), (5, vb false), (6, vi i), (18, vb false)], []⟩ : St)))
         (fun a => (.exit 0, ⟨[(0, .sc (.sl k 1 (l.map fun x => [ci x]))), (1, .sc (.sl k' 1 (m.map fun x => [ci x]))), (5, vb a), (6, vi (l.zip m).length), (18, vb false)], []⟩)) n a ps =
         (.exit 0, ⟨[(0, .sc (.sl k 1 (l.map fun x => [ci x]))), (1, .sc (.sl k' 1 (m.map fun x => [ci x]))), (5, vb e), (6, vi j), (18, vb false)], []⟩) /\ e = (a && decide (∀ p, p ∈ ps -> p.1 = p.2)) := by
       intro ps
       induction ps with
       | nil => intro n a; exact ⟨_, a, rfl, by simp⟩
       | cons p ps ih =>
         intro n a
         cases a with
         | false => exact ⟨n, false, rfl, by simp⟩
         | true =>
           obtain ⟨j, e, h1, h2⟩ := ih (n + 1) (decide (p.1 = p.2))
           refine ⟨j, e, by simp only [a4N, if_true]; exact h1, ?_⟩
           rw [h2, Bool.true_and]
           by_cases hp : p.1 = p.2
           . have e1 : (∀ q, q ∈ p :: ps -> q.1 = q.2) <-> (∀ q, q ∈ ps -> q.1 = q.2) := by simp [hp]
             rw [decide_eq_true hp, Bool.true_and, decide_eq_decide.2 e1]
           . have e1 : ¬ (∀ q, q ∈ p :: ps -> q.1 = q.2) := fun h => hp (h p (by simp))
             rw [decide_eq_false hp, Bool.false_and, decide_eq_false e1]
     obtain ⟨j, e, h1, h2⟩ := key (l.zip m) 0 true
     rw [h1]
     have he : e = decide (l = m) := by
       rw [h2, Bool.true_and, decide_eq_decide]
       constructor
       . intro h
         apply List.ext_getElem?
         intro i
         by_cases hi : i < l.length
         . have hi' : i < m.length := by omega
           have := h (l[i], m[i]) (List.mem_of_getElem? (List.getElem?_zip_eq_some.2 ⟨List.getElem?_eq_getElem hi, List.getElem?_eq_getElem hi'⟩))
           rw [List.getElem?_eq_getElem hi, List.getElem?_eq_getElem hi']
           exact congrArg some this
         . rw [List.getElem?_eq_none (by omega), List.getElem?_eq_none (by omega)]
       . rintro rfl p hp
         obtain ⟨i, hi⟩ := List.getElem?_of_mem hp
         obtain ⟨a1, a2⟩ := List.getElem?_zip_eq_some.1 hi
         rw [a1] at a2; exact Option.some.inj a2
     subst he
     (simp only [go_sem, simprocAttr]; repeat' (first | ((first | refine brY ?_ | refine brN ?_ | refine brA ?_ | refine brD ?_ | refine brF ?_ | ((first | apply a0k | apply a0j); (. intro h; simp only [go_sem, simprocAttr, a0p h]; exact rfl))); (try simp only [go_sem, simprocAttr])) | ((first | apply a0e | apply d7E | apply a0a) <;> intro h <;> (try simp only [go_sem, simprocAttr, h]))))
 . have d1 := decide_eq_false hlm
   have hne : decide (l = m) = false := decide_eq_false (fun e => hlm (by rw [e]))
   simp only [go_sem, simprocAttr, a3l, d1, hne, a6n, a1b, a1J]
end
end Go.Pm.St
namespace Go.Pm.St
open Ac
def b1v (set k : Nat) : Bool := decide (a5l .i64 (BitVec.ofInt 64 ((set : Int).fdiv (2 ^ k)) &&& BitVec.ofInt 64 1) = 1)
def a7u (b : Book) (i : Nat) (j : Nat) : List Rest := ((List.range j).filter fun k => !b.rest i (b.o + k)).map fun (k : Nat) => ⟨((b.o + k : Nat) : Int), i⟩
def Book.free (b : Book) (i : Nat) : List Rest := a7u b i (b.days.length - b.o)
theorem b6r (b : Book) (i j : Nat) : a7u b i (j + 1) = if b.rest i (b.o + j) then a7u b i j else a7u b i j ++ [⟨((b.o + j : Nat) : Int), i⟩] := by
 simp only [a7u, List.range_succ, List.filter_append, List.map_append]
 cases h : b.rest i (b.o + j) <;> simp [h]
theorem b2Z (b : Book) (i j : Nat) : (a7u b i j).length <= j := by
 simp only [a7u, List.length_map]
 exact Nat.le_trans (List.length_filter_le _ _) (by simp)
def subN (set : Nat) (l : List Rest) (j : Nat) : List Rest := ((List.range j).filter fun k => b1v set k).filterMap fun k => l[k]?
def sub (set : Nat) (l : List Rest) : List Rest := subN set l l.length
theorem b8m (set : Nat) {l : List Rest} {j : Nat} {x : Rest} (h : l[j]? = some x) : subN set l (j + 1) = if b1v set j then subN set l j ++ [x] else subN set l j := by
 simp only [subN, List.range_succ, List.filter_append, List.filterMap_append]
 cases hb : b1v set j <;> simp [hb, h]
theorem b1n (set : Nat) (l : List Rest) (j : Nat) : (subN set l j).length <= j := by
 simp only [subN]
 refine Nat.le_trans (List.length_filterMap_le _ _) (Nat.le_trans (List.length_filter_le _ _) (by simp))
def a5c (b : Book) (i j : Nat) : List (List Rest) := ((List.range j).map fun s => sub s (b.free i)).filter fun l => b.well (a1M b.F l) i
def Book.alone (b : Book) (i : Nat) : List (List Rest) := a5c b i (2 ^ (b.free i).length)
theorem b5g (b : Book) (i j : Nat) : a5c b i (j + 1) = if b.well (a1M b.F (sub j (b.free i))) i then a5c b i j ++ [sub j (b.free i)] else a5c b i j := by
 simp only [a5c, List.range_succ, List.map_append, List.filter_append]
 cases h : b.well (a1M b.F (sub j (b.free i))) i <;> simp [h]
theorem b1s (b : Book) (i j : Nat) : (a5c b i j).length <= j := by
 simp only [a5c]
 exact Nat.le_trans (List.length_filter_le _ _) (by simp)
abbrev rl (l : List Rest) : List (List C) := l.map Rest.c
def rC (l : List Rest) : C := .sl (kS l) 2 (rl l)
abbrev rlC (ls : List (List Rest)) : List (List C) := ls.map fun l => [rC l]
theorem b3u (l : List Rest) (x : Rest) : rl (l ++ [x]) = rl l ++ [x.c] := by simp [rl]
theorem b6S (l : List (List Rest)) (x : List Rest) : rlC (l ++ [x]) = rlC l ++ [[rC x]] := by simp [rlC]
theorem b1p (l : List Rest) : a0r (ownC 2 (rl l)) = rC l := by rw [a9I, rC]; cases l <;> rfl
theorem b8q (l : List (List Rest)) : a0r (ownC 1 (rlC l)) = .sl (kS l) 1 (rlC l) := by rw [a9I]; cases l <;> rfl
theorem b9t {n : Nat} (h : n <= 5) : IntKind.i64.wrap (1 * 2 ^ (n.min IntKind.i64.bits)) = ((2 ^ n : Nat) : Int) := by
 have : ∀ n : Nat, n <= 5 -> IntKind.i64.wrap (1 * 2 ^ (n.min IntKind.i64.bits)) = ((2 ^ n : Nat) : Int) := by decide
 exact this n h
theorem b6h {n : Nat} (h : n <= 5) : 2 ^ n <= 32 := Nat.pow_le_pow_right (by decide) h
section
variable {Γ : Env} [P04 Γ] [G04 Γ]
theorem b8w (b : Book) (hs : Sane b) (i : Nat) (hi : i < b.singers.length) {β : Type} (Q : Ex -> St -> Option β) :
   E Γ a6C ⟨[(1, vi i), (2, .sc (.ptr 0 0)), (5, .sc (.sl .nil 2 [])), (6, vi b.o)], [.var (O b b.now)]⟩ Q =
   Q (.exit 0) ⟨[(1, vi i), (2, .sc (.ptr 0 0)), (5, .sc (ownC 2 (rl (b.free i)))), (6, vi b.days.length), (20, vb false)], [.var (O b b.now)]⟩ := by
 have hO := a1R b b.now
 have hd5 := hs.d5
 obtain ⟨ho, hol⟩ := o_eq hs
 refine a4q (b.days.length - b.o) (fun j (_ : Unit) => ⟨[(1, vi i), (2, .sc (.ptr 0 0)), (5, .sc (ownC 2 (rl (a7u b i j)))), (6, vi ((b.o + j : Nat) : Int))], [.var (O b b.now)]⟩) (fun _ _ => True)
   (fun _ => (.exit 0, ⟨[(1, vi i), (2, .sc (.ptr 0 0)), (5, .sc (ownC 2 (rl (b.free i)))), (6, vi b.days.length), (20, vb false)], [.var (O b b.now)]⟩)) () rfl trivial ?_ ?_ (fun _ _ => rfl)
 . intro j _ hj _
   refine ⟨(), trivial, ?_⟩
   have hlt : decide (((b.o + j : Nat) : Int) < b.days.length) = true := decide_eq_true (by omega)
   have hw : IntKind.i64.wrap (((b.o + j : Nat) : Int) + 1) = ((b.o + (j + 1) : Nat) : Int) := by rw [wrap_i64 (by omega) (by omega)]; omega
   have hF := F_at b (b.o + j) i
   change b.F [((b.o + j : Nat) : Int), (i : Int)] = b.rest i (b.o + j) at hF
   have happ := a2K 2 (rl (a7u b i j)) .full [ci ((b.o + j : Nat) : Int), ci i] (by have := b2Z b i j; simp only [rl, List.length_map, room]; omega)
   rw [b6r]
   cases hr : b.rest i (b.o + j) with
   | true =>
     rw [hr] at hF
     simp only [if_true]
     simp only [go_sem, simprocAttr, a3s, hlt, hw, hF, hO]
   | false =>
     rw [hr] at hF
     simp only [Bool.false_eq_true, if_false, b3u, Rest.c]
     simp only [go_sem, simprocAttr, a3s, hlt, hw, hF, hO, happ]
 . intro _ _
   have hlt : decide (((b.o + (b.days.length - b.o) : Nat) : Int) < b.days.length) = false := decide_eq_false (by omega)
   have e : b.o + (b.days.length - b.o) = b.days.length := by omega
   simp only [e] at hlt ⊢
   simp only [go_sem, simprocAttr, a3s, hlt]
   rfl
theorem b8y (b : Book) (i : Nat) (set : Nat) (hset : set <= 40) (l : List Rest) (hl : l.length <= 5) (c5 c7 : C) (h5 : ∀ n, C.under n c5 = true) (h7 : ∀ n, C.under n c7 = true) (p : Int) {β : Type} (Q : Ex -> St -> Option β) :
   E Γ a6E ⟨[(1, vi i), (2, .sc (.ptr 0 0)), (5, .sc c5), (7, .sc c7), (8, vi set), (9, .sc (.sl .nil 2 [])), (38, vi p), (39, vi set), (42, .sc (rC l)), (43, vi l.length), (44, vi 0)], [.var (O b b.now)]⟩ Q =
   Q (.exit 4) ⟨[(1, vi i), (2, .sc (.ptr 0 0)), (5, .sc c5), (7, .sc c7), (8, vi set), (9, .sc (ownC 2 (rl (sub set l)))), (38, vi p), (39, vi set), (42, .sc (rC l)), (43, vi l.length), (44, vi l.length), (45, vb false)], [.var (O b b.now)]⟩ := by
 have hO := a1R b b.now
 refine a4Q (fun j => ⟨[(1, vi i), (2, .sc (.ptr 0 0)), (5, .sc c5), (7, .sc c7), (8, vi set), (9, .sc (ownC 2 (rl (subN set l j)))), (38, vi p), (39, vi set), (42, .sc (rC l)), (43, vi l.length), (44, vi j)], [.var (O b b.now)]⟩) l
   (.exit 4, ⟨[(1, vi i), (2, .sc (.ptr 0 0)), (5, .sc c5), (7, .sc c7), (8, vi set), (9, .sc (ownC 2 (rl (sub set l)))), (38, vi p), (39, vi set), (42, .sc (rC l)), (43, vi l.length), (44, vi l.length), (45, vb false)], [.var (O b b.now)]⟩) Q rfl ?_ ?_
 . intro j x hx
   have hlt : j < l.length := (List.getElem?_eq_some_iff.1 hx).1
   have hw : IntKind.i64.wrap ((j : Int) + 1) = j + 1 := wrap_i64 (by omega) (by omega)
   have hm : Nat.min j IntKind.i64.bits = j := Nat.min_eq_left (show j <= 64 by omega)
   have hn : decide ((j : Int) < 0) = false := decide_eq_false (by omega)
   have happ := a2K 2 (rl (subN set l j)) .full x.c (by have := b1n set l j; simp only [rl, List.length_map, room]; omega)
   rw [b8m set hx]
   have hb : decide (a5l .i64 (BitVec.ofInt IntKind.i64.bits ((set : Int).fdiv (2 ^ j)) &&& BitVec.ofInt IntKind.i64.bits 1) = 1) = b1v set j := rfl
   cases hbt : b1v set j with
   | true =>
     rw [hbt] at hb
     simp only [if_true, b3u]
     (simp only [go_sem, simprocAttr, a0T, rC, hx, hw, hm, hn, hb, hO, h5, h7, happ]; repeat' (first | ((first | refine brY ?_ | refine brN ?_ | refine brA ?_ | refine brD ?_ | refine brF ?_ | ((first | apply a0k | apply a0j); (. intro h; simp only [go_sem, simprocAttr, a0p h, a0T, rC, hx, hw, hm, hn, hb, hO, h5, h7, happ]; exact rfl))); (try simp only [go_sem, simprocAttr, a0T, rC, hx, hw, hm, hn, hb, hO, h5, h7, happ])) | ((first | apply a0e | apply d7E | apply a0a) <;> intro h <;> (try simp only [go_sem, simprocAttr, h, a0T, rC, hx, hw, hm, hn, hb, hO, h5, h7, happ]))))
     rfl
   | false =>
     rw [hbt] at hb
     simp only [Bool.false_eq_true, if_false]
     (simp only [go_sem, simprocAttr, a0T, rC, hx, hw, hm, hn, hb, hO, h5, h7]; repeat' (first | ((first | refine brY ?_ | refine brN ?_ | refine brA ?_ | refine brD ?_ | refine brF ?_ | ((first | apply a0k | apply a0j); (. intro h; simp only [go_sem, simprocAttr, a0p h, a0T, rC, hx, hw, hm, hn, hb, hO, h5, h7]; exact rfl))); (try simp only [go_sem, simprocAttr, a0T, rC, hx, hw, hm, hn, hb, hO, h5, h7])) | ((first | apply a0e | apply d7E | apply a0a) <;> intro h <;> (try simp only [go_sem, simprocAttr, h, a0T, rC, hx, hw, hm, hn, hb, hO, h5, h7]))))
     rfl
 . (simp only [go_sem, simprocAttr, a0T, rC]; repeat' (first | ((first | refine brY ?_ | refine brN ?_ | refine brA ?_ | refine brD ?_ | refine brF ?_ | ((first | apply a0k | apply a0j); (. intro h; simp only [go_sem, simprocAttr, a0p h, a0T, rC]; exact rfl))); (try simp only [go_sem, simprocAttr, a0T, rC])) | ((first | apply a0e | apply d7E | apply a0a) <;> intro h <;> (try simp only [go_sem, simprocAttr, h, a0T, rC]))))
   rfl
theorem a9i {b : Book} (hs : Sane b) (i : Nat) : (b.free i).length <= 5 := by
 have := b2Z b i (b.days.length - b.o)
 have := hs.d5
 simp only [Book.free]; omega
theorem b8x (b : Book) [hb : b.Fits] (hs : Sane b) (hne : b.now ≠ []) (i : Nat) (hi : i < b.singers.length) {β : Type} (Q : Ex -> St -> Option β) :
   E Γ a6D ⟨[(1, vi i), (2, .sc (.ptr 0 0)), (5, .sc (ownC 2 (rl (b.free i)))), (7, .sc (.sl .nil 1 [])), (38, vi ((2 ^ (b.free i).length : Nat) : Int)), (39, vi 0)], [.var (O b b.now)]⟩ Q =
   Q (.exit 2) ⟨[(1, vi i), (2, .sc (.ptr 0 0)), (5, .sc (ownC 2 (rl (b.free i)))), (7, .sc (ownC 1 (rlC (b.alone i)))), (38, vi ((2 ^ (b.free i).length : Nat) : Int)), (39, vi ((2 ^ (b.free i).length : Nat) : Int)), (40, vb false)], [.var (O b b.now)]⟩ := by
 have hO := a1R b b.now
 have hun := O_un b b.now
 have hOp := a3w b b.now
 have hf5 := a9i hs i
 have hp := b6h hf5
 refine a4q (2 ^ (b.free i).length) (fun j (_ : Unit) => ⟨[(1, vi i), (2, .sc (.ptr 0 0)), (5, .sc (ownC 2 (rl (b.free i)))), (7, .sc (ownC 1 (rlC (a5c b i j)))), (38, vi ((2 ^ (b.free i).length : Nat) : Int)), (39, vi j)], [.var (O b b.now)]⟩) (fun _ _ => True)
   (fun _ => (.exit 2, ⟨[(1, vi i), (2, .sc (.ptr 0 0)), (5, .sc (ownC 2 (rl (b.free i)))), (7, .sc (ownC 1 (rlC (b.alone i)))), (38, vi ((2 ^ (b.free i).length : Nat) : Int)), (39, vi ((2 ^ (b.free i).length : Nat) : Int)), (40, vb false)], [.var (O b b.now)]⟩)) () rfl trivial ?_ ?_ (fun _ _ => rfl)
 . intro j _ hj _
   refine ⟨(), trivial, ?_⟩
   have hlt : decide ((j : Int) < ((2 ^ (b.free i).length : Nat) : Int)) = true := decide_eq_true (by omega)
   have hw : IntKind.i64.wrap ((j : Int) + 1) = ((j + 1 : Nat) : Int) := by rw [wrap_i64 (by omega) (by omega)]; omega
   have hL {β : Type} (Q : Ex -> St -> Option β) := b8y (Γ := Γ) b i j (by omega) (b.free i) hf5 (ownC 2 (rl (b.free i))) (ownC 1 (rlC (a5c b i j))) (fun n => a7C _ _ _) (fun n => a7C _ _ _) ((2 ^ (b.free i).length : Nat) : Int) Q
   have hu5 := b1p (b.free i)
   have hu9 := b1p (sub j (b.free i))
   have hsl : (sub j (b.free i)).length <= 5 := Nat.le_trans (b1n _ _ _) hf5
   have hwk := b2z (Γ := Γ) (kS (sub j (b.free i))) (sub j (b.free i)) (by omega) b.F
   have hwe := b5e (Γ := Γ) b hs hne i hi (a1M b.F (sub j (b.free i)))
   have happ := a2K 1 (rlC (a5c b i j)) .full [rC (sub j (b.free i))] (by have := b1s b i j; simp only [rlC, List.length_map, room]; omega)
   have hrp : C.pure (rC (sub j (b.free i))) = true := rfl
   simp only [rC] at hL hu5 hu9 happ hrp
   rw [b5g]
   cases hwl : b.well (a1M b.F (sub j (b.free i))) i with
   | true =>
     rw [hwl] at hwe
     simp only [if_true, b6S, rC]
     simp only [go_sem, simprocAttr, a3t, hlt, hw, hu5, hu9, hL, hwk, hwe, happ, hrp, hO, hun, hOp, List.length_map]
   | false =>
     rw [hwl] at hwe
     simp only [Bool.false_eq_true, if_false]
     simp only [go_sem, simprocAttr, a3t, hlt, hw, hu5, hu9, hL, hwk, hwe, hrp, hO, hun, hOp, List.length_map]
 . intro _ _
   have hlt : decide (((2 ^ (b.free i).length : Nat) : Int) < ((2 ^ (b.free i).length : Nat) : Int)) = false := decide_eq_false (by omega)
   simp only [go_sem, simprocAttr, a3t, hlt]
   rfl
theorem c0G (b : Book) [hb : b.Fits] (hs : Sane b) (hne : b.now ≠ []) (i : Nat) (hi : i < b.singers.length) :
   K Γ (.fn 127) [.agg (O b b.now), vi i] [] = some (.sc (.sl (kS (b.alone i)) 1 (rlC (b.alone i))), []) := by
 have hO := a1R b b.now
 have hf5 := a9i hs i
 obtain ⟨ho, hol⟩ := o_eq hs
 have hok := b0g (Γ := Γ) b hs
 rw [ho] at hok
 have hL0 {β : Type} (Q : Ex -> St -> Option β) := b8w (Γ := Γ) b hs i hi Q
 have hL1 {β : Type} (Q : Ex -> St -> Option β) := b8x (Γ := Γ) b hs hne i hi Q
 have hu5 := b1p (b.free i)
 have hu7 := b8q (b.alone i)
 have hpw := b9t hf5
 have hn : decide (((b.free i).length : Int) < 0) = false := decide_eq_false (by omega)
 simp only [rC] at hu5
 rw [K_fn P04.f127 _ _ rfl]
 simp only [go_sem, simprocAttr, a4f, hok, hO, hL0, hL1, hu5, hu7, hpw, hn, List.length_map]
end
end Go.Pm.St
namespace Go.Pm.St
open Ac
def cmpL (l m : List Rest) : Int := match a0z (fun i (x : Rest) => match m[i]? with | some y => !decide (x.cmp y = 0) | none => true) 0 l with
 | some (i, x) => (match m[i]? with | some y => x.cmp y | none => 1)
 | none => if l.length < m.length then -1 else 0
def better (l m : List Rest) : Bool := decide ((if cmp3 l.length m.length = 0 then cmpL l m else cmp3 l.length m.length) < 0)
section
variable {Γ : Env} [P04 Γ] [G04 Γ]
theorem c1W (k k' : SK) (l m : List Rest) (hl : l.length <= 1000) (hm : m.length <= 1000) : K Γ (.fn 176) [.sc (.sl k 2 (rl l)), .sc (.sl k' 2 (rl m)), .sc (.fn (.fn 131) [] [] [])] [] = some (vi (cmpL l m), []) := by
 rw [K_fn P04.f176 _ _ rfl]
 simp only [go_sem, simprocAttr, a0D, List.length_map]
 refine (a4L (fun i => ⟨[(0, .sc (.sl k 2 (rl l))), (1, .sc (.sl k' 2 (rl m))), (2, .sc (.fn (.fn 131) [] [] [])), (11, .sc (.sl k 2 (rl l))), (12, vi l.length), (13, vi i)], []⟩) l (fun i (x : Rest) => match m[i]? with | some y => !decide (x.cmp y = 0) | none => true)
   (fun i x => (.ret, match m[i]? with | some y => ⟨[(6, vi (x.cmp y))], [.var x.c, .var y.c]⟩ | none => ⟨[(6, vi 1)], [.var x.c]⟩))
   (.exit 0, ⟨[(0, .sc (.sl k 2 (rl l))), (1, .sc (.sl k' 2 (rl m))), (2, .sc (.fn (.fn 131) [] [] [])), (11, .sc (.sl k 2 (rl l))), (12, vi l.length), (13, vi l.length), (14, vb false)], []⟩) _ ?_ ?_ ?_).trans ?_
 . intro i x hx hf
   have hlt : i < l.length := (List.getElem?_eq_some_iff.1 hx).1
   have hw : IntKind.i64.wrap ((i : Int) + 1) = i + 1 := wrap_i64 (by omega) (by omega)
   cases hy : m[i]? with
   | none => simp [hy] at hf
   | some y =>
     simp only [hy, Bool.not_eq_false'] at hf
     have hml : i < m.length := (List.getElem?_eq_some_iff.1 hy).1
     have hge : decide ((m.length : Int) <= (i : Int)) = false := decide_eq_false (by omega)
     (simp only [go_sem, simprocAttr, a0i, hx, hy, hw, hge, hf, List.length_map]; repeat' (first | ((first | refine brY ?_ | refine brN ?_ | refine brA ?_ | refine brD ?_ | refine brF ?_ | ((first | apply a0k | apply a0j); (. intro h; simp only [go_sem, simprocAttr, a0p h, a0i, hx, hy, hw, hge, hf, List.length_map]; exact rfl))); (try simp only [go_sem, simprocAttr, a0i, hx, hy, hw, hge, hf, List.length_map])) | ((first | apply a0e | apply d7E | apply a0a) <;> intro h <;> (try simp only [go_sem, simprocAttr, h, a0i, hx, hy, hw, hge, hf, List.length_map]))))
     rfl
 . intro i x hx hf
   have hlt : i < l.length := (List.getElem?_eq_some_iff.1 hx).1
   cases hy : m[i]? with
   | none =>
     have hml : ¬ i < m.length := fun h => by rw [List.getElem?_eq_getElem h] at hy; cases hy
     have hge : decide ((m.length : Int) <= (i : Int)) = true := decide_eq_true (by omega)
     (simp only [go_sem, simprocAttr, a0i, hx, hge, List.length_map]; repeat' (first | ((first | refine brY ?_ | refine brN ?_ | refine brA ?_ | refine brD ?_ | refine brF ?_ | ((first | apply a0k | apply a0j); (. intro h; simp only [go_sem, simprocAttr, a0p h, a0i, hx, hge, List.length_map]; exact rfl))); (try simp only [go_sem, simprocAttr, a0i, hx, hge, List.length_map])) | ((first | apply a0e | apply d7E | apply a0a) <;> intro h <;> (try simp only [go_sem, simprocAttr, h, a0i, hx, hge, List.length_map]))))
   | some y =>
     simp only [hy, Bool.not_eq_true'] at hf
     have hml : i < m.length := (List.getElem?_eq_some_iff.1 hy).1
     have hge : decide ((m.length : Int) <= (i : Int)) = false := decide_eq_false (by omega)
     (simp only [go_sem, simprocAttr, a0i, hx, hy, hge, hf, List.length_map]; repeat' (first | ((first | refine brY ?_ | refine brN ?_ | refine brA ?_ | refine brD ?_ | refine brF ?_ | ((first | apply a0k | apply a0j); (. intro h; simp only [go_sem, simprocAttr, a0p h, a0i, hx, hy, hge, hf, List.length_map]; exact rfl))); (try simp only [go_sem, simprocAttr, a0i, hx, hy, hge, hf, List.length_map])) | ((first | apply a0e | apply d7E | apply a0a) <;> intro h <;> (try simp only [go_sem, simprocAttr, h, a0i, hx, hy, hge, hf, List.length_map]))))
 . simp only [go_sem, simprocAttr, a0i]
 . unfold cmpL
   cases h : a0z (fun i (x : Rest) => match m[i]? with | some y => !decide (x.cmp y = 0) | none => true) 0 l with
   | none =>
     by_cases hlm : l.length < m.length
     . have hd : decide ((l.length : Int) < m.length) = true := decide_eq_true (by omega)
       simp only [go_sem, simprocAttr, hd, List.length_map, if_pos hlm]
     . have hd : decide ((l.length : Int) < m.length) = false := decide_eq_false (by omega)
       simp only [go_sem, simprocAttr, hd, List.length_map, if_neg hlm]
   | some q =>
     obtain ⟨i, x⟩ := q
     cases hy : m[i]? with
     | none => simp only [hy]; (simp only [go_sem, simprocAttr]; repeat' (first | ((first | refine brY ?_ | refine brN ?_ | refine brA ?_ | refine brD ?_ | refine brF ?_ | ((first | apply a0k | apply a0j); (. intro h; simp only [go_sem, simprocAttr, a0p h]; exact rfl))); (try simp only [go_sem, simprocAttr])) | ((first | apply a0e | apply d7E | apply a0a) <;> intro h <;> (try simp only [go_sem, simprocAttr, h]))))
     | some y => simp only [hy]; (simp only [go_sem, simprocAttr]; repeat' (first | ((first | refine brY ?_ | refine brN ?_ | refine brA ?_ | refine brD ?_ | refine brF ?_ | ((first | apply a0k | apply a0j); (. intro h; simp only [go_sem, simprocAttr, a0p h]; exact rfl))); (try simp only [go_sem, simprocAttr])) | ((first | apply a0e | apply d7E | apply a0a) <;> intro h <;> (try simp only [go_sem, simprocAttr, h]))))
theorem b8z (k k' : SK) (l m : List Rest) (hl : l.length <= 1000) (hm : m.length <= 1000) : K Γ (.fn 160) [.sc (.sl k 2 (rl l)), .sc (.sl k' 2 (rl m))] [] = some (vb (better l m), []) := by
 have hc := c1W (Γ := Γ) k k' l m hl hm
 rw [K_fn P04.f160 _ _ rfl]
 simp only [go_sem, simprocAttr, a5a, hc, List.length_map]
 rfl
@[go_sem] theorem c8h : K Γ (.fn 128) [] [] = some (.agg [.fn (.fn 160) [] [] []], []) := by
 rw [K_fn P04.f128 _ _ rfl]
 simp only [go_sem, simprocAttr, a5L]
end
/-! ### The best plan -/
def Book.look (b : Book) (a : Option (List Rest)) (l : List Rest) : Option (List Rest) := match a with
 | none => if b.enough (a1M b.F (a1w l)) then some (a1w l) else none
 | some best => if best.length < l.length then a else if better (a1w l) best && b.enough (a1M b.F (a1w l)) then some (a1w l) else a
end Go.Pm.St
namespace Go.Pm.St
open Ac
abbrev KL := SK × List Rest
def a2P (p : KL) (own : List Rest) : KL := match own with
 | [] => (topK p.1, p.2)
 | _ :: _ => (.shared, p.2 ++ own)
def pC (p : KL) : C := .sl p.1 2 (rl p.2)
abbrev psC (ps : List KL) : List (List C) := ps.map fun p => [pC p]
def ow (p : KL) (own : List Rest) : C := match own with
 | [] => .sl (topK p.1) 2 (rl p.2)
 | _ :: _ => .own 2 (rl (p.2 ++ own))
theorem b9Y (p : KL) (own : List Rest) : a0r (ow p own) = pC (a2P p own) := by cases own <;> rfl
theorem b5i (p : KL) (k : SK) (own : List Rest) (h : p.2.length + own.length <= room) : appended 2 (.sc (.sl (topK p.1) 2 (rl p.2))) (.sc (.sl k 2 (rl own))) = some (ow p own) := by
 obtain ⟨kp, l⟩ := p
 cases own with
 | nil => cases kp <;> simp at h <;> simp [appended, elems, topK, ow, h]
 | cons x own => cases kp <;> simp at h <;> simp [appended, elems, topK, ow, rl, h]
theorem b9W (p : KL) (own : List Rest) (n : Nat) : C.under n (ow p own) = true := by cases own <;> rfl
attribute [go_sem] b9W
def Book.a0V (b : Book) : Nat -> List KL
 | 0 => [(.nil, [])]
 | i + 1 => (b.a0V i).flatMap fun p => (b.alone i).map (a2P p)
theorem b7F (p : KL) (own : List Rest) : (a2P p own).2 = p.2 ++ own := by cases own <;> simp [a2P]
def Neat (p : KL) : Prop := (p.1 = .nil /\ p.2 = []) \/ (p.1 ≠ .nil /\ p.2 ≠ [])
theorem b7V {p : KL} (h : Neat p) (own : List Rest) : Neat (a2P p own) := by
 obtain ⟨k, l⟩ := p
 cases own with
 | nil => rcases h with ⟨h1, h2⟩ | ⟨h1, h2⟩
          . simp only at h1 h2; subst h1 h2; exact .inl ⟨rfl, rfl⟩
          . refine .inr ⟨?_, h2⟩
            cases k <;> simp_all [a2P, topK]
 | cons x own => exact .inr ⟨by simp [a2P], by simp [a2P]⟩
theorem b2f (b : Book) : ∀ i, ∀ p ∈ b.a0V i, Neat p
 | 0, p, h => by simp only [Book.a0V, List.mem_singleton] at h; subst h; exact .inl ⟨rfl, rfl⟩
 | i + 1, p, h => by
   simp only [Book.a0V, List.mem_flatMap, List.mem_map] at h
   obtain ⟨q, hq, own, -, rfl⟩ := h
   exact b7V (b2f b i q hq) own
theorem d9m (set : Nat) (l : List Rest) : ∀ j, (subN set l j).Sublist (l.take j)
 | 0 => by simp [subN]
 | j + 1 => by
   have ih := d9m set l j
   cases h : l[j]? with
   | none =>
     have e : subN set l (j + 1) = subN set l j := by
       simp only [subN, List.range_succ, List.filter_append, List.filterMap_append]
       cases hb : b1v set j <;> simp [hb, h]
     rw [e]
     have hl : l.length <= j := List.getElem?_eq_none_iff.1 h
     rw [List.take_of_length_le (by omega)]
     rwa [List.take_of_length_le hl] at ih
   | some x =>
     rw [b8m set h, take_snoc h]
     split
     . exact ih.append (List.Sublist.refl _)
     . exact ih.trans (List.sublist_append_left _ _)
theorem sub_sub (set : Nat) (l : List Rest) : (sub set l).Sublist l := by
 have := d9m set l l.length
 rwa [List.take_length] at this
theorem d9r (b : Book) (i : Nat) : (b.free i).Nodup /\ ∀ x ∈ b.free i, x.singer = i := by
 constructor
 . simp only [Book.free, a7u, List.Nodup]
   rw [List.pairwise_map]
   refine ((List.pairwise_lt_range (n := b.days.length - b.o)).filter _).imp fun h => ?_
   simp only [Ne, Rest.mk.injEq]; omega
 . intro x hx
   simp only [Book.free, a7u, List.mem_map] at hx
   obtain ⟨k, -, rfl⟩ := hx; rfl
theorem d8Y {b : Book} {i : Nat} {l : List Rest} (h : l ∈ b.alone i) : l.Nodup /\ ∀ x ∈ l, x.singer = i := by
 simp only [Book.alone, a5c, List.mem_filter, List.mem_map] at h
 obtain ⟨⟨s, -, rfl⟩, -⟩ := h
 obtain ⟨h1, h2⟩ := d9r b i
 have hs := sub_sub s (b.free i)
 exact ⟨h1.sublist hs, fun x hx => h2 x (hs.subset hx)⟩
theorem d8K (b : Book) : ∀ i, ∀ p ∈ b.a0V i, p.2.Nodup /\ ∀ x ∈ p.2, x.singer < i
 | 0, p, h => by simp only [Book.a0V, List.mem_singleton] at h; subst h; exact ⟨List.nodup_nil, fun x hx => by cases hx⟩
 | i + 1, p, h => by
   simp only [Book.a0V, List.mem_flatMap, List.mem_map] at h
   obtain ⟨q, hq, own, ho, rfl⟩ := h
   obtain ⟨h1, h2⟩ := d8K b i q hq
   obtain ⟨h3, h4⟩ := d8Y ho
   rw [b7F]
   refine ⟨List.nodup_append.2 ⟨h1, h3, fun x hx y hy e => ?_⟩, fun x hx => ?_⟩
   . subst e; have := h2 x hx; have := h4 x hy; omega
   . rcases List.mem_append.1 hx with hx | hx
     . have := h2 x hx; omega
     . have := h4 x hx; omega
theorem a9t {b : Book} (hs : Sane b) {i : Nat} {l : List Rest} (h : l ∈ b.alone i) : l.length <= 5 := by
 simp only [Book.alone, a5c, List.mem_filter, List.mem_map] at h
 obtain ⟨⟨s, -, rfl⟩, -⟩ := h
 exact Nat.le_trans (b1n _ _ _) (a9i hs i)
theorem a9M {b : Book} (hs : Sane b) (i : Nat) : (b.alone i).length <= 32 := Nat.le_trans (b1s _ _ _) (b6h (a9i hs i))
theorem a7q {b : Book} (hs : Sane b) : ∀ i, ∀ p ∈ b.a0V i, p.2.length <= 5 * i
 | 0, p, h => by simp only [Book.a0V, List.mem_singleton] at h; subst h; simp
 | i + 1, p, h => by
   simp only [Book.a0V, List.mem_flatMap, List.mem_map] at h
   obtain ⟨q, hq, own, ho, rfl⟩ := h
   have := a7q hs i q hq
   have := a9t hs ho
   rw [b7F, List.length_append]; omega
theorem a8h {b : Book} (hs : Sane b) : ∀ i, (b.a0V i).length <= 32 ^ i
 | 0 => by simp [Book.a0V]
 | i + 1 => by
   have h := a2H (fun p => (b.alone i).map (a2P p)) 32 (b.a0V i) (fun p _ => by rw [List.length_map]; exact a9M hs i)
   have h2 := Nat.mul_le_mul_right 32 (a8h hs i)
   rw [Nat.pow_succ]
   exact Nat.le_trans h h2
theorem b2O {b : Book} (hs : Sane b) (i m : Nat) (hi : i <= 2) : (((b.a0V i).take m).flatMap fun p => (b.alone i).map (a2P p)).length <= 32768 := by
 have h := a2H (fun p => (b.alone i).map (a2P p)) 32 ((b.a0V i).take m) (fun p _ => by rw [List.length_map]; exact a9M hs i)
 have h1 : ((b.a0V i).take m).length <= 32 ^ i := Nat.le_trans (by rw [List.length_take]; exact Nat.min_le_right _ _) (a8h hs i)
 have h2 : 32 ^ i <= 32 ^ 2 := Nat.pow_le_pow_right (by decide) hi
 have : (32 : Nat) ^ 2 = 1024 := by decide
 omega
section
variable {Γ : Env} [P04 Γ] [G04 Γ]
theorem c0B (b : Book) (hs : Sane b) (i : Nat) (more : List KL) (hmore : more.length <= 32768) (kp : SK) (l : List Rest) (hp : l.length <= 10) (ka : SK) (all : List KL) (m : Nat) {β : Type} (Q : Ex -> St -> Option β) :
   E Γ a8Z ⟨[(4, .sc (.ptr 1 0)), (7, vi i), (8, .sc (ownC 1 (psC more))), (10, .sc (.sl kp 2 (rl l))), (29, vi b.singers.length), (30, vi i), (33, .sc (.sl ka 1 (psC all))), (34, vi all.length), (35, vi m), (41, .sc (.sl (kS (b.alone i)) 1 (rlC (b.alone i)))), (42, vi (b.alone i).length), (43, vi 0)], [.var b.c, .var (O b b.now)]⟩ Q =
   Q (.exit 4) ⟨[(4, .sc (.ptr 1 0)), (7, vi i), (8, .sc (ownC 1 (psC (more ++ (b.alone i).map (a2P (kp, l)))))), (10, .sc (.sl kp 2 (rl l))), (29, vi b.singers.length), (30, vi i), (33, .sc (.sl ka 1 (psC all))), (34, vi all.length), (35, vi m), (41, .sc (.sl (kS (b.alone i)) 1 (rlC (b.alone i)))), (42, vi (b.alone i).length), (43, vi (b.alone i).length), (44, vb false)], [.var b.c, .var (O b b.now)]⟩ := by
 have hO := a1R b b.now
 have h32 := a9M hs i
 refine a4Q (fun j => ⟨[(4, .sc (.ptr 1 0)), (7, vi i), (8, .sc (ownC 1 (psC (more ++ ((b.alone i).take j).map (a2P (kp, l)))))), (10, .sc (.sl kp 2 (rl l))), (29, vi b.singers.length), (30, vi i), (33, .sc (.sl ka 1 (psC all))), (34, vi all.length), (35, vi m), (41, .sc (.sl (kS (b.alone i)) 1 (rlC (b.alone i)))), (42, vi (b.alone i).length), (43, vi j)], [.var b.c, .var (O b b.now)]⟩) (b.alone i)
   (.exit 4, ⟨[(4, .sc (.ptr 1 0)), (7, vi i), (8, .sc (ownC 1 (psC (more ++ (b.alone i).map (a2P (kp, l)))))), (10, .sc (.sl kp 2 (rl l))), (29, vi b.singers.length), (30, vi i), (33, .sc (.sl ka 1 (psC all))), (34, vi all.length), (35, vi m), (41, .sc (.sl (kS (b.alone i)) 1 (rlC (b.alone i)))), (42, vi (b.alone i).length), (43, vi (b.alone i).length), (44, vb false)], [.var b.c, .var (O b b.now)]⟩) Q ?_ ?_ ?_
 . simp
 . intro j own hx
   have hlt : j < (b.alone i).length := (List.getElem?_eq_some_iff.1 hx).1
   have hw : IntKind.i64.wrap ((j : Int) + 1) = j + 1 := wrap_i64 (by omega) (by omega)
   have ho5 := a9t hs (List.mem_of_getElem? hx)
   have hS := a6u 2 kp (rl l) l.length (by simp)
   have hA := b5i (kp, l) (kS own) own (by simp only [room]; omega)
   have hU := b9Y (kp, l) own
   have happ := a2K 1 (psC (more ++ ((b.alone i).take j).map (a2P (kp, l)))) .full [pC (a2P (kp, l) own)] (by simp only [List.length_map, List.length_append, List.length_take, room]; omega)
   have hpp : ∀ q : KL, C.pure (pC q) = true := fun _ => rfl
   have hpu : ∀ q : KL, a0r (pC q) = pC q := fun _ => rfl
   have hpc : ∀ q : KL, (V.sc (pC q)).cells = [pC q] := fun _ => rfl
   have hpn : ∀ (q : KL) n, C.under n (pC q) = true := fun _ _ => rfl
   have hxc : (rlC (b.alone i))[j]? = some [rC own] := by rw [rlC, List.getElem?_map, hx]; rfl
   rw [take_snoc hx, List.map_append, ← List.append_assoc, List.map_cons, List.map_nil]
   have hpe : psC (more ++ ((b.alone i).take j).map (a2P (kp, l)) ++ [a2P (kp, l) own]) = psC (more ++ ((b.alone i).take j).map (a2P (kp, l))) ++ [[pC (a2P (kp, l) own)]] := by simp
   rw [hpe]
   simp only at hA
   (simp only [go_sem, simprocAttr, a2l, hx, hxc, rC, hw, hO, hS, hA, hU, happ, hpu, hpn, hpp, hpc, List.length_map]; repeat' (first | ((first | refine brY ?_ | refine brN ?_ | refine brA ?_ | refine brD ?_ | refine brF ?_ | ((first | apply a0k | apply a0j); (. intro h; simp only [go_sem, simprocAttr, a0p h, a2l, hx, hxc, rC, hw, hO, hS, hA, hU, happ, hpu, hpn, hpp, hpc, List.length_map]; exact rfl))); (try simp only [go_sem, simprocAttr, a2l, hx, hxc, rC, hw, hO, hS, hA, hU, happ, hpu, hpn, hpp, hpc, List.length_map])) | ((first | apply a0e | apply d7E | apply a0a) <;> intro h <;> (try simp only [go_sem, simprocAttr, h, a2l, hx, hxc, rC, hw, hO, hS, hA, hU, happ, hpu, hpn, hpp, hpc, List.length_map]))))
   rfl
 . simp only [List.take_length]
   (simp only [go_sem, simprocAttr, a2l]; repeat' (first | ((first | refine brY ?_ | refine brN ?_ | refine brA ?_ | refine brD ?_ | refine brF ?_ | ((first | apply a0k | apply a0j); (. intro h; simp only [go_sem, simprocAttr, a0p h, a2l]; exact rfl))); (try simp only [go_sem, simprocAttr, a2l])) | ((first | apply a0e | apply d7E | apply a0a) <;> intro h <;> (try simp only [go_sem, simprocAttr, h, a2l]))))
theorem b8p (ps : List KL) : a0r (ownC 1 (psC ps)) = .sl (kS ps) 1 (psC ps) := by cases ps <;> rfl
theorem c0A (b : Book) [hb : b.Fits] (hs : Sane b) (hne : b.now ≠ []) (i : Nat) (hi : i < b.singers.length) (ka : SK) {β : Type} (Q : Ex -> St -> Option β) :
   E Γ a8Y ⟨[(4, .sc (.ptr 1 0)), (7, vi i), (8, .sc (.sl .nil 1 [])), (29, vi b.singers.length), (30, vi i), (33, .sc (.sl ka 1 (psC (b.a0V i)))), (34, vi (b.a0V i).length), (35, vi 0)], [.var b.c, .var (O b b.now)]⟩ Q =
   Q (.exit 2) ⟨[(4, .sc (.ptr 1 0)), (7, vi i), (8, .sc (ownC 1 (psC (b.a0V (i + 1))))), (29, vi b.singers.length), (30, vi i), (33, .sc (.sl ka 1 (psC (b.a0V i)))), (34, vi (b.a0V i).length), (35, vi (b.a0V i).length), (36, vb false)], [.var b.c, .var (O b b.now)]⟩ := by
 have hO := a1R b b.now
 have hun := O_un b b.now
 have hOp := a3w b b.now
 have hs3 := hs.s3
 have hi2 : i <= 2 := by omega
 have hlen : (b.a0V i).length <= 1024 := by
   have h1 := a8h hs i
   have h2 : 32 ^ i <= 32 ^ 2 := Nat.pow_le_pow_right (by decide) hi2
   have : (32 : Nat) ^ 2 = 1024 := by decide
   omega
 have hak := c0G (Γ := Γ) b hs hne i hi
 refine a4Q (fun m => ⟨[(4, .sc (.ptr 1 0)), (7, vi i), (8, .sc (ownC 1 (psC (((b.a0V i).take m).flatMap fun p => (b.alone i).map (a2P p))))), (29, vi b.singers.length), (30, vi i), (33, .sc (.sl ka 1 (psC (b.a0V i)))), (34, vi (b.a0V i).length), (35, vi m)], [.var b.c, .var (O b b.now)]⟩) (b.a0V i)
   (.exit 2, ⟨[(4, .sc (.ptr 1 0)), (7, vi i), (8, .sc (ownC 1 (psC (b.a0V (i + 1))))), (29, vi b.singers.length), (30, vi i), (33, .sc (.sl ka 1 (psC (b.a0V i)))), (34, vi (b.a0V i).length), (35, vi (b.a0V i).length), (36, vb false)], [.var b.c, .var (O b b.now)]⟩) Q ?_ ?_ ?_
 . simp [ownC]
 . intro m p hx
   obtain ⟨kp, l⟩ := p
   have hlt : m < (b.a0V i).length := (List.getElem?_eq_some_iff.1 hx).1
   have hw : IntKind.i64.wrap ((m : Int) + 1) = m + 1 := wrap_i64 (by omega) (by omega)
   have hl10 : l.length <= 10 := by have := a7q hs i _ (List.mem_of_getElem? hx); simp only at this; omega
   have hL {β : Type} (Q : Ex -> St -> Option β) := c0B (Γ := Γ) b hs i (((b.a0V i).take m).flatMap fun p => (b.alone i).map (a2P p)) (b2O hs i m hi2) kp l hl10 ka (b.a0V i) m Q
   have hpk : pC (kp, l) = .sl kp 2 (rl l) := rfl
   have hxc : (psC (b.a0V i))[m]? = some [pC (kp, l)] := by rw [List.getElem?_map, hx]; rfl
   rw [take_snoc hx, List.flatMap_append, List.flatMap_cons, List.flatMap_nil, List.append_nil]
   (simp only [go_sem, simprocAttr, a2k, hx, hxc, hpk, hw, hO, hun, hOp, hak, hL, List.length_map]; repeat' (first | ((first | refine brY ?_ | refine brN ?_ | refine brA ?_ | refine brD ?_ | refine brF ?_ | ((first | apply a0k | apply a0j); (. intro h; simp only [go_sem, simprocAttr, a0p h, a2k, hx, hxc, hpk, hw, hO, hun, hOp, hak, hL, List.length_map]; exact rfl))); (try simp only [go_sem, simprocAttr, a2k, hx, hxc, hpk, hw, hO, hun, hOp, hak, hL, List.length_map])) | ((first | apply a0e | apply d7E | apply a0a) <;> intro h <;> (try simp only [go_sem, simprocAttr, h, a2k, hx, hxc, hpk, hw, hO, hun, hOp, hak, hL, List.length_map]))))
   rfl
 . simp only [List.take_length]
   (simp only [go_sem, simprocAttr, a2k]; repeat' (first | ((first | refine brY ?_ | refine brN ?_ | refine brA ?_ | refine brD ?_ | refine brF ?_ | ((first | apply a0k | apply a0j); (. intro h; simp only [go_sem, simprocAttr, a0p h, a2k]; exact rfl))); (try simp only [go_sem, simprocAttr, a2k])) | ((first | apply a0e | apply d7E | apply a0a) <;> intro h <;> (try simp only [go_sem, simprocAttr, h, a2k]))))
   rfl
def kA (b : Book) : Nat -> SK
 | 0 => .full
 | i + 1 => kS (b.a0V (i + 1))
theorem c0z (b : Book) [hb : b.Fits] (hs : Sane b) (hne : b.now ≠ []) {β : Type} (Q : Ex -> St -> Option β) :
   E Γ a8X ⟨[(4, .sc (.ptr 1 0)), (6, .sc (.sl .full 1 [[.sl .nil 2 []]])), (29, vi b.singers.length), (30, vi 0)], [.var b.c, .var (O b b.now)]⟩ Q =
   Q (.exit 0) ⟨[(4, .sc (.ptr 1 0)), (6, .sc (.sl (kA b b.singers.length) 1 (psC (b.a0V b.singers.length)))), (29, vi b.singers.length), (30, vi b.singers.length), (31, vb false)], [.var b.c, .var (O b b.now)]⟩ := by
 have hO := a1R b b.now
 have hs3 := hs.s3
 refine a4q b.singers.length (fun i (_ : Unit) => ⟨[(4, .sc (.ptr 1 0)), (6, .sc (.sl (kA b i) 1 (psC (b.a0V i)))), (29, vi b.singers.length), (30, vi i)], [.var b.c, .var (O b b.now)]⟩) (fun _ _ => True)
   (fun _ => (.exit 0, ⟨[(4, .sc (.ptr 1 0)), (6, .sc (.sl (kA b b.singers.length) 1 (psC (b.a0V b.singers.length)))), (29, vi b.singers.length), (30, vi b.singers.length), (31, vb false)], [.var b.c, .var (O b b.now)]⟩)) () rfl trivial ?_ ?_ (fun _ _ => rfl)
 . intro i _ hi _
   refine ⟨(), trivial, ?_⟩
   have hlt : decide ((i : Int) < b.singers.length) = true := decide_eq_true (by omega)
   have hw : IntKind.i64.wrap ((i : Int) + 1) = i + 1 := wrap_i64 (by omega) (by omega)
   have hL {β : Type} (Q : Ex -> St -> Option β) := c0A (Γ := Γ) b hs hne i hi (kA b i) Q
   have hup := b8p (b.a0V (i + 1))
   simp only [go_sem, simprocAttr, a6W, hlt, hw, hO, hL, hup, List.length_map]
   rfl
 . intro _ _
   simp only [go_sem, simprocAttr, a6W]
end
end Go.Pm.St
namespace Go.Pm.St
open Ac
def a3L (a : Option (List Rest)) : C := match a with
 | none => .sl .nil 2 []
 | some l => .sl (kS l) 2 (rl l)
theorem b5p {t : List (Nat × V)} {i : Nat} {x0 x1 x2 : Obj} {s : List Rest} {n : Nat} (hi : get t i = .sc (.msl 3 0 n 0 2)) (hn : s.length = n) (hl : s.length <= 100) :
   a3G i ⟨t, [x0, x1, x2, .var (a1A s)]⟩ = some ⟨(i, .sc (.sl .shared 2 (rl s))) :: t, [x0, x1, x2, .dead]⟩ := by
 subst hn
 have hm : a3p 400 (.msl 3 0 s.length 0 2) [x0, x1, x2, .var (a1A s)] = some (.sl .shared 2 (rl s), [x0, x1, x2, .dead]) :=
   b2J rfl (b8T s) (fun c hc => (a8z s c hc).1) (by rw [b2W]; omega) (b1J s) (a9V s)
 simp only [a3G, hi, hm]
theorem c0R {t : List (Nat × V)} {i : Nat} {h : List Obj} {k : SK} {es : Nat} {l : List (List C)} (hi : get t i = .sc (.sl k es l)) : a3G i ⟨t, h⟩ = some ⟨t, h⟩ := by
 simp only [a3G, hi]
theorem b9g {b : Book} {a : Option (List Rest)} {l : List Rest} (ha : ∀ s, a = some s -> s.length <= 15) (hl : l.length <= 15) : ∀ s, b.look a l = some s -> s.length <= 15 := by
 intro s hs
 unfold Book.look at hs
 split at hs
 . split at hs
   . simp only [Option.some.injEq] at hs; subst hs; rw [a8l]; exact hl
   . cases hs
 . rename_i best
   split at hs
   . exact ha s hs
   . split at hs
     . simp only [Option.some.injEq] at hs; subst hs; rw [a8l]; exact hl
     . exact ha s hs
theorem a9y {b : Book} : ∀ (ps : List KL) (a : Option (List Rest)), (∀ s, a = some s -> s.length <= 15) -> (∀ p ∈ ps, p.2.length <= 15) -> ∀ s, ps.foldl (fun a p => b.look a p.2) a = some s -> s.length <= 15
 | [], a, ha, _, s, hs => ha s hs
 | p :: ps, a, ha, hp, s, hs => a9y ps _ (b9g ha (hp p (by simp))) (fun q hq => hp q (by simp [hq])) s hs
theorem kS_n : kS ([] : List Rest) = .nil := rfl
theorem a2E : a1w [] = [] := rfl
def Book.looks (b : Book) (ps : List KL) : Option (List Rest) := ps.foldl (fun a p => b.look a p.2) none
theorem b6C (b : Book) (ps : List KL) (k : SK) (l : List Rest) : b.looks (ps ++ [(k, l)]) = b.look (b.looks ps) l := by simp [Book.looks]
section
variable {b : Book} {l best : List Rest}
theorem b6a (h : b.enough (a1M b.F (a1w l)) = true) : b.look none l = some (a1w l) := by simp [Book.look, h]
theorem b5Z (h : b.enough (a1M b.F (a1w l)) = false) : b.look none l = none := by simp [Book.look, h]
theorem b7O (h : best.length < l.length) : b.look (some best) l = some best := by simp [Book.look, h]
theorem b7P (h : ¬ best.length < l.length) (h1 : better (a1w l) best = true) (h2 : b.enough (a1M b.F (a1w l)) = true) : b.look (some best) l = some (a1w l) := by simp [Book.look, h, h1, h2]
theorem b7N (h : ¬ best.length < l.length) (h1 : better (a1w l) best = false) : b.look (some best) l = some best := by simp [Book.look, h1]
theorem b7M (h : ¬ best.length < l.length) (h2 : b.enough (a1M b.F (a1w l)) = false) : b.look (some best) l = some best := by simp [Book.look, h2]
end
section
variable {Γ : Env} [P04 Γ] [G04 Γ]
theorem clone_nil (H : List Obj) : K Γ (.fn 231) [.sc (.sl .nil 2 [])] H = some (.sc (.sl .nil 2 []), H) := by
 rw [K_fn P04.f231 _ _ rfl]
 simp only [go_sem, simprocAttr, a1a]
theorem b9M (x0 x1 x2 : Obj) (u0 : x0.under 3 = true) (u1 : x1.under 3 = true) (u2 : x2.under 3 = true) : K Γ (.fn 130) [.sc (.sl .nil 2 []), .sc (.fn (.fn 131) [] [] [])] [x0, x1, x2] = some (.tup [], [x0, x1, x2]) := by
 have h1 : K Γ (.fn 178) [.sc (.sl .nil 2 []), vi 0, vi 0, .sc (.fn (.fn 131) [] [] [])] [x0, x1, x2] = some (.tup [], [x0, x1, x2]) := by
   rw [K_fn P04.f178 _ _ rfl]
   simp only [go_sem, simprocAttr, a1c, a1L, a0F, a1J, u0, u1, u2]
 have h2 (v : Int) : K Γ (.fn 162) [.sc (.sl .nil 2 []), vi 0, vi 0, vi v, .sc (.fn (.fn 131) [] [] [])] [x0, x1, x2] = some (.tup [], [x0, x1, x2]) := by
   rw [K_fn P04.f162 _ _ rfl]
   simp only [go_sem, simprocAttr, a1v, a1Y, a1X, a1J, h1, u0, u1, u2]
 obtain ⟨v, _, _, hv⟩ := c0k (Γ := Γ) 0 (by omega)
 have hw : IntKind.u64.wrap 0 = 0 := by decide
 replace hv : K Γ (.fn 161) [.sc (.int .u64 0)] [] = some (vi v, []) := hv
 rw [K_fn P04.f130 _ _ rfl]
 simp only [go_sem, simprocAttr, a0X, hw, hv, h2, List.length_nil, u0, u1, u2]
theorem c0C (b : Book) [hb : b.Fits] (hs : Sane b) (ka : SK) (ps : List KL) (hps : ps.length <= 100000) (hneat : ∀ p ∈ ps, Neat p) (hl15 : ∀ p ∈ ps, p.2.length <= 15) (hM : ∀ p ∈ ps, p.2.Nodup) {β : Type} (Q : Ex -> St -> Option β) :
   E Γ a9a ⟨[(4, .sc (.ptr 1 0)), (13, .sc (.sl .nil 2 [])), (14, vb false), (15, .sc (.ptr 2 0)), (63, .sc (.sl ka 1 (psC ps))), (64, vi ps.length), (65, vi 0)], [.var b.c, .var (O b b.now), .var [.fn (.fn 160) [] [] []]]⟩ Q =
   Q (.exit 6) ⟨[(4, .sc (.ptr 1 0)), (13, .sc (a3L (b.looks ps))), (14, vb (b.looks ps).isSome), (15, .sc (.ptr 2 0)), (63, .sc (.sl ka 1 (psC ps))), (64, vi ps.length), (65, vi ps.length), (66, vb false)], [.var b.c, .var (O b b.now), .var [.fn (.fn 160) [] [] []]]⟩ := by
 have hO := a1R b b.now
 have hun := O_un b b.now
 have hOp := a3w b b.now
 refine a4Q (fun m => ⟨[(4, .sc (.ptr 1 0)), (13, .sc (a3L (b.looks (ps.take m)))), (14, vb (b.looks (ps.take m)).isSome), (15, .sc (.ptr 2 0)), (63, .sc (.sl ka 1 (psC ps))), (64, vi ps.length), (65, vi m)], [.var b.c, .var (O b b.now), .var [.fn (.fn 160) [] [] []]]⟩) ps
   (.exit 6, ⟨[(4, .sc (.ptr 1 0)), (13, .sc (a3L (b.looks ps))), (14, vb (b.looks ps).isSome), (15, .sc (.ptr 2 0)), (63, .sc (.sl ka 1 (psC ps))), (64, vi ps.length), (65, vi ps.length), (66, vb false)], [.var b.c, .var (O b b.now), .var [.fn (.fn 160) [] [] []]]⟩) Q ?_ ?_ ?_
 . rfl
 . intro m p hx
   have hlt : m < ps.length := (List.getElem?_eq_some_iff.1 hx).1
   have hw : IntKind.i64.wrap ((m : Int) + 1) = m + 1 := wrap_i64 (by omega) (by omega)
   have hmem := List.mem_of_getElem? hx
   have hA15 := a9y (b := b) (ps.take m) none (by simp) (fun q hq => hl15 q (List.mem_of_mem_take hq))
   have hp15 := hl15 p hmem
   have hpM := hM p hmem
   have hpn := hneat p hmem
   obtain ⟨k, l⟩ := p
   simp only at hp15 hpM
   rw [take_snoc hx, b6C]
   change ∀ s, b.looks (ps.take m) = some s -> s.length <= 15 at hA15
   generalize b.looks (ps.take m) = a at hA15 ⊢
   have hpk : pC (k, l) = .sl k 2 (rl l) := rfl
   have hxc : (psC ps)[m]? = some [pC (k, l)] := by rw [List.getElem?_map, hx]; rfl
   have hlen := a8l l
   have hwk (kk : SK) := b2z (Γ := Γ) kk (a1w l) (by omega) b.F
   have hen := b4i (Γ := Γ) b hs (a1M b.F (a1w l)) (.iset 2 b.F) (.sl (kT b.now) 4 (b.now.map a1g)) rfl
   have hgt (best : List Rest) : decide ((best.length : Int) < (l.length : Int)) = decide (best.length < l.length) := by
     rw [decide_eq_decide]; omega
   have hbet (k1 : SK) (best : List Rest) (hbl : best.length <= 15) := b8z (Γ := Γ) k1 (kS best) (a1w l) best (by omega) (by omega)
   rcases hpn with ⟨h1, h2⟩ | ⟨h1, h2⟩
   . simp only at h1 h2
     subst h1 h2
     rw [a2E] at hwk
     simp only [rl, List.map_nil] at hwk
     have hcl := clone_nil (Γ := Γ) [.var b.c, .var (O b b.now), .var [.fn (.fn 160) [] [] []]]
     have hso := b9M (Γ := Γ) (.var b.c) (.var (O b b.now)) (.var [.fn (.fn 160) [] [] []]) (by simp [go_sem]) (by simp [go_sem, hO]) (by simp [go_sem])
     have hfz {t : List (Nat × V)} {h : List Obj} (hi : get t 17 = .sc (.sl .nil 2 [])) : a3G 17 ⟨t, h⟩ = some ⟨t, h⟩ := c0R hi
     cases a with
     | none =>
       cases he : b.enough (a1M b.F (a1w ([] : List Rest))) with
       | true =>
         rw [b6a he]
         rw [he, a2E] at hen
         simp only [a3L, Option.isSome_none, Option.isSome_some, a2E, kS_n]
         (simp only [go_sem, simprocAttr, a0s, hxc, hpk, hcl, hso, hfz, hwk, hen, hw, hO, hun, hOp, List.length_map, List.map_nil, List.length_nil]; repeat' (first | ((first | refine brY ?_ | refine brN ?_ | refine brA ?_ | refine brD ?_ | refine brF ?_ | ((first | apply a0k | apply a0j); (. intro h; simp only [go_sem, simprocAttr, a0p h, a0s, hxc, hpk, hcl, hso, hfz, hwk, hen, hw, hO, hun, hOp, List.length_map, List.map_nil, List.length_nil]; exact rfl))); (try simp only [go_sem, simprocAttr, a0s, hxc, hpk, hcl, hso, hfz, hwk, hen, hw, hO, hun, hOp, List.length_map, List.map_nil, List.length_nil])) | ((first | apply a0e | apply d7E | apply a0a) <;> intro h <;> (try simp only [go_sem, simprocAttr, h, a0s, hxc, hpk, hcl, hso, hfz, hwk, hen, hw, hO, hun, hOp, List.length_map, List.map_nil, List.length_nil]))))
         rfl
       | false =>
         rw [b5Z he]
         rw [he, a2E] at hen
         simp only [a3L, Option.isSome_none, Option.isSome_some, a2E, kS_n]
         (simp only [go_sem, simprocAttr, a0s, hxc, hpk, hcl, hso, hfz, hwk, hen, hw, hO, hun, hOp, List.length_map, List.map_nil, List.length_nil]; repeat' (first | ((first | refine brY ?_ | refine brN ?_ | refine brA ?_ | refine brD ?_ | refine brF ?_ | ((first | apply a0k | apply a0j); (. intro h; simp only [go_sem, simprocAttr, a0p h, a0s, hxc, hpk, hcl, hso, hfz, hwk, hen, hw, hO, hun, hOp, List.length_map, List.map_nil, List.length_nil]; exact rfl))); (try simp only [go_sem, simprocAttr, a0s, hxc, hpk, hcl, hso, hfz, hwk, hen, hw, hO, hun, hOp, List.length_map, List.map_nil, List.length_nil])) | ((first | apply a0e | apply d7E | apply a0a) <;> intro h <;> (try simp only [go_sem, simprocAttr, h, a0s, hxc, hpk, hcl, hso, hfz, hwk, hen, hw, hO, hun, hOp, List.length_map, List.map_nil, List.length_nil]))))
         rfl
     | some best =>
       have hb15 := hA15 best rfl
       by_cases hmore : best.length < ([] : List Rest).length
       . exact absurd hmore (by simp)
       . have hd := hgt best
         rw [decide_eq_false hmore] at hd
         have hbk := hbet .nil best hb15
         cases hbe : better (a1w ([] : List Rest)) best with
         | true =>
           cases he : b.enough (a1M b.F (a1w ([] : List Rest))) with
           | true =>
             rw [b7P hmore hbe he]
             rw [he, a2E] at hen
             rw [hbe, a2E] at hbk
             simp only [rl, List.map_nil] at hbk
             simp only [a3L, Option.isSome_none, Option.isSome_some, a2E, kS_n]
             (simp only [go_sem, simprocAttr, a0s, hd, hbk, hxc, hpk, hcl, hso, hfz, hwk, hen, hw, hO, hun, hOp, List.length_map, List.map_nil, List.length_nil]; repeat' (first | ((first | refine brY ?_ | refine brN ?_ | refine brA ?_ | refine brD ?_ | refine brF ?_ | ((first | apply a0k | apply a0j); (. intro h; simp only [go_sem, simprocAttr, a0p h, a0s, hd, hbk, hxc, hpk, hcl, hso, hfz, hwk, hen, hw, hO, hun, hOp, List.length_map, List.map_nil, List.length_nil]; exact rfl))); (try simp only [go_sem, simprocAttr, a0s, hd, hbk, hxc, hpk, hcl, hso, hfz, hwk, hen, hw, hO, hun, hOp, List.length_map, List.map_nil, List.length_nil])) | ((first | apply a0e | apply d7E | apply a0a) <;> intro h <;> (try simp only [go_sem, simprocAttr, h, a0s, hd, hbk, hxc, hpk, hcl, hso, hfz, hwk, hen, hw, hO, hun, hOp, List.length_map, List.map_nil, List.length_nil]))))
             rfl
           | false =>
             rw [b7M hmore he]
             rw [he, a2E] at hen
             rw [hbe, a2E] at hbk
             simp only [rl, List.map_nil] at hbk
             simp only [a3L, Option.isSome_none, Option.isSome_some, a2E, kS_n]
             (simp only [go_sem, simprocAttr, a0s, hd, hbk, hxc, hpk, hcl, hso, hfz, hwk, hen, hw, hO, hun, hOp, List.length_map, List.map_nil, List.length_nil]; repeat' (first | ((first | refine brY ?_ | refine brN ?_ | refine brA ?_ | refine brD ?_ | refine brF ?_ | ((first | apply a0k | apply a0j); (. intro h; simp only [go_sem, simprocAttr, a0p h, a0s, hd, hbk, hxc, hpk, hcl, hso, hfz, hwk, hen, hw, hO, hun, hOp, List.length_map, List.map_nil, List.length_nil]; exact rfl))); (try simp only [go_sem, simprocAttr, a0s, hd, hbk, hxc, hpk, hcl, hso, hfz, hwk, hen, hw, hO, hun, hOp, List.length_map, List.map_nil, List.length_nil])) | ((first | apply a0e | apply d7E | apply a0a) <;> intro h <;> (try simp only [go_sem, simprocAttr, h, a0s, hd, hbk, hxc, hpk, hcl, hso, hfz, hwk, hen, hw, hO, hun, hOp, List.length_map, List.map_nil, List.length_nil]))))
             rfl
         | false =>
           rw [b7N hmore hbe]
           rw [hbe, a2E] at hbk
           simp only [rl, List.map_nil] at hbk
           simp only [a3L, Option.isSome_none, Option.isSome_some, a2E, kS_n]
           (simp only [go_sem, simprocAttr, a0s, hd, hbk, hxc, hpk, hcl, hso, hfz, hwk, hen, hw, hO, hun, hOp, List.length_map, List.map_nil, List.length_nil]; repeat' (first | ((first | refine brY ?_ | refine brN ?_ | refine brA ?_ | refine brD ?_ | refine brF ?_ | ((first | apply a0k | apply a0j); (. intro h; simp only [go_sem, simprocAttr, a0p h, a0s, hd, hbk, hxc, hpk, hcl, hso, hfz, hwk, hen, hw, hO, hun, hOp, List.length_map, List.map_nil, List.length_nil]; exact rfl))); (try simp only [go_sem, simprocAttr, a0s, hd, hbk, hxc, hpk, hcl, hso, hfz, hwk, hen, hw, hO, hun, hOp, List.length_map, List.map_nil, List.length_nil])) | ((first | apply a0e | apply d7E | apply a0a) <;> intro h <;> (try simp only [go_sem, simprocAttr, h, a0s, hd, hbk, hxc, hpk, hcl, hso, hfz, hwk, hen, hw, hO, hun, hOp, List.length_map, List.map_nil, List.length_nil]))))
           rfl
   . simp only at h1 h2
     have hcl := c0J (Γ := Γ) k l [.var b.c, .var (O b b.now), .var [.fn (.fn 160) [] [] []]] 3 rfl (by omega) h2 h1
     have hso := d9T (Γ := Γ) [.var b.c, .var (O b b.now), .var [.fn (.fn 160) [] [] []], .var (a1A l)] 4 3 l rfl (by decide) (by simp [go_sem, hO]) ⟨hp15, hpM⟩ rfl
     have hfz {t : List (Nat × V)} {x0 x1 x2 : Obj} (hi : get t 17 = .sc (.msl 3 0 l.length 0 2)) := b5p (t := t) (i := 17) (x0 := x0) (x1 := x1) (x2 := x2) (s := a1w l) hi hlen (by omega)
     have kSs : kS (a1w l) = .shared := by
       cases hs' : a1w l with
       | nil =>
         rw [hs'] at hlen
         exact absurd (List.length_eq_zero_iff.1 hlen.symm) h2
       | cons x s => rfl
     cases a with
     | none =>
       cases he : b.enough (a1M b.F (a1w l)) with
       | true =>
         rw [b6a he]
         rw [he] at hen
         simp only [a3L, Option.isSome_none, Option.isSome_some, kSs]
         (simp only [go_sem, simprocAttr, a0s, hxc, hpk, hcl, hso, hfz, hwk, hen, hw, hO, hun, hOp, List.length_map, List.map_nil, List.length_nil, a1j]; repeat' (first | ((first | refine brY ?_ | refine brN ?_ | refine brA ?_ | refine brD ?_ | refine brF ?_ | ((first | apply a0k | apply a0j); (. intro h; simp only [go_sem, simprocAttr, a0p h, a0s, hxc, hpk, hcl, hso, hfz, hwk, hen, hw, hO, hun, hOp, List.length_map, List.map_nil, List.length_nil, a1j]; exact rfl))); (try simp only [go_sem, simprocAttr, a0s, hxc, hpk, hcl, hso, hfz, hwk, hen, hw, hO, hun, hOp, List.length_map, List.map_nil, List.length_nil, a1j])) | ((first | apply a0e | apply d7E | apply a0a) <;> intro h <;> (try simp only [go_sem, simprocAttr, h, a0s, hxc, hpk, hcl, hso, hfz, hwk, hen, hw, hO, hun, hOp, List.length_map, List.map_nil, List.length_nil, a1j]))))
         rfl
       | false =>
         rw [b5Z he]
         rw [he] at hen
         simp only [a3L, Option.isSome_none, Option.isSome_some, kSs]
         (simp only [go_sem, simprocAttr, a0s, hxc, hpk, hcl, hso, hfz, hwk, hen, hw, hO, hun, hOp, List.length_map, List.map_nil, List.length_nil, a1j]; repeat' (first | ((first | refine brY ?_ | refine brN ?_ | refine brA ?_ | refine brD ?_ | refine brF ?_ | ((first | apply a0k | apply a0j); (. intro h; simp only [go_sem, simprocAttr, a0p h, a0s, hxc, hpk, hcl, hso, hfz, hwk, hen, hw, hO, hun, hOp, List.length_map, List.map_nil, List.length_nil, a1j]; exact rfl))); (try simp only [go_sem, simprocAttr, a0s, hxc, hpk, hcl, hso, hfz, hwk, hen, hw, hO, hun, hOp, List.length_map, List.map_nil, List.length_nil, a1j])) | ((first | apply a0e | apply d7E | apply a0a) <;> intro h <;> (try simp only [go_sem, simprocAttr, h, a0s, hxc, hpk, hcl, hso, hfz, hwk, hen, hw, hO, hun, hOp, List.length_map, List.map_nil, List.length_nil, a1j]))))
         rfl
     | some best =>
       have hb15 := hA15 best rfl
       by_cases hmore : best.length < l.length
       . have hd := hgt best
         rw [decide_eq_true hmore] at hd
         rw [b7O hmore]
         simp only [a3L, Option.isSome_none, Option.isSome_some, kSs]
         (simp only [go_sem, simprocAttr, a0s, hxc, hpk, hd, hw, hO, List.length_map, List.map_nil, List.length_nil]; repeat' (first | ((first | refine brY ?_ | refine brN ?_ | refine brA ?_ | refine brD ?_ | refine brF ?_ | ((first | apply a0k | apply a0j); (. intro h; simp only [go_sem, simprocAttr, a0p h, a0s, hxc, hpk, hd, hw, hO, List.length_map, List.map_nil, List.length_nil]; exact rfl))); (try simp only [go_sem, simprocAttr, a0s, hxc, hpk, hd, hw, hO, List.length_map, List.map_nil, List.length_nil])) | ((first | apply a0e | apply d7E | apply a0a) <;> intro h <;> (try simp only [go_sem, simprocAttr, h, a0s, hxc, hpk, hd, hw, hO, List.length_map, List.map_nil, List.length_nil]))))
         rfl
       . have hd := hgt best
         rw [decide_eq_false hmore] at hd
         have hbk := hbet .shared best hb15
         cases hbe : better (a1w l) best with
         | true =>
           cases he : b.enough (a1M b.F (a1w l)) with
           | true =>
             rw [b7P hmore hbe he]
             rw [he] at hen
             rw [hbe] at hbk
             simp only [a3L, Option.isSome_none, Option.isSome_some, kSs]
             (simp only [go_sem, simprocAttr, a0s, hd, hbk, hxc, hpk, hcl, hso, hfz, hwk, hen, hw, hO, hun, hOp, List.length_map, List.map_nil, List.length_nil, a1j]; repeat' (first | ((first | refine brY ?_ | refine brN ?_ | refine brA ?_ | refine brD ?_ | refine brF ?_ | ((first | apply a0k | apply a0j); (. intro h; simp only [go_sem, simprocAttr, a0p h, a0s, hd, hbk, hxc, hpk, hcl, hso, hfz, hwk, hen, hw, hO, hun, hOp, List.length_map, List.map_nil, List.length_nil, a1j]; exact rfl))); (try simp only [go_sem, simprocAttr, a0s, hd, hbk, hxc, hpk, hcl, hso, hfz, hwk, hen, hw, hO, hun, hOp, List.length_map, List.map_nil, List.length_nil, a1j])) | ((first | apply a0e | apply d7E | apply a0a) <;> intro h <;> (try simp only [go_sem, simprocAttr, h, a0s, hd, hbk, hxc, hpk, hcl, hso, hfz, hwk, hen, hw, hO, hun, hOp, List.length_map, List.map_nil, List.length_nil, a1j]))))
             rfl
           | false =>
             rw [b7M hmore he]
             rw [he] at hen
             rw [hbe] at hbk
             simp only [a3L, Option.isSome_none, Option.isSome_some, kSs]
             (simp only [go_sem, simprocAttr, a0s, hd, hbk, hxc, hpk, hcl, hso, hfz, hwk, hen, hw, hO, hun, hOp, List.length_map, List.map_nil, List.length_nil, a1j]; repeat' (first | ((first | refine brY ?_ | refine brN ?_ | refine brA ?_ | refine brD ?_ | refine brF ?_ | ((first | apply a0k | apply a0j); (. intro h; simp only [go_sem, simprocAttr, a0p h, a0s, hd, hbk, hxc, hpk, hcl, hso, hfz, hwk, hen, hw, hO, hun, hOp, List.length_map, List.map_nil, List.length_nil, a1j]; exact rfl))); (try simp only [go_sem, simprocAttr, a0s, hd, hbk, hxc, hpk, hcl, hso, hfz, hwk, hen, hw, hO, hun, hOp, List.length_map, List.map_nil, List.length_nil, a1j])) | ((first | apply a0e | apply d7E | apply a0a) <;> intro h <;> (try simp only [go_sem, simprocAttr, h, a0s, hd, hbk, hxc, hpk, hcl, hso, hfz, hwk, hen, hw, hO, hun, hOp, List.length_map, List.map_nil, List.length_nil, a1j]))))
             rfl
         | false =>
           rw [b7N hmore hbe]
           rw [hbe] at hbk
           simp only [a3L, Option.isSome_none, Option.isSome_some, kSs]
           (simp only [go_sem, simprocAttr, a0s, hd, hbk, hxc, hpk, hcl, hso, hfz, hwk, hen, hw, hO, hun, hOp, List.length_map, List.map_nil, List.length_nil, a1j]; repeat' (first | ((first | refine brY ?_ | refine brN ?_ | refine brA ?_ | refine brD ?_ | refine brF ?_ | ((first | apply a0k | apply a0j); (. intro h; simp only [go_sem, simprocAttr, a0p h, a0s, hd, hbk, hxc, hpk, hcl, hso, hfz, hwk, hen, hw, hO, hun, hOp, List.length_map, List.map_nil, List.length_nil, a1j]; exact rfl))); (try simp only [go_sem, simprocAttr, a0s, hd, hbk, hxc, hpk, hcl, hso, hfz, hwk, hen, hw, hO, hun, hOp, List.length_map, List.map_nil, List.length_nil, a1j])) | ((first | apply a0e | apply d7E | apply a0a) <;> intro h <;> (try simp only [go_sem, simprocAttr, h, a0s, hd, hbk, hxc, hpk, hcl, hso, hfz, hwk, hen, hw, hO, hun, hOp, List.length_map, List.map_nil, List.length_nil, a1j]))))
           rfl
 . simp only [List.take_length]
   (simp only [go_sem, simprocAttr, a0s]; repeat' (first | ((first | refine brY ?_ | refine brN ?_ | refine brA ?_ | refine brD ?_ | refine brF ?_ | ((first | apply a0k | apply a0j); (. intro h; simp only [go_sem, simprocAttr, a0p h, a0s]; exact rfl))); (try simp only [go_sem, simprocAttr, a0s])) | ((first | apply a0e | apply d7E | apply a0a) <;> intro h <;> (try simp only [go_sem, simprocAttr, h, a0s]))))
def Book.best (b : Book) : Option (List Rest) := b.looks (b.a0V b.singers.length)
def Book.plan (b : Book) : List Rest × Int := if b.err true = 0 then (match b.best with | some l => (l, 0) | none => ([], 4)) else ([], b.err true)
def b2o (b : Book) : SK := if b.err true = 0 then (match b.best with | some l => topK (kS l) | none => .nil) else .nil
theorem b9e {b : Book} (hs : Sane b) : (b.a0V b.singers.length).length <= 100000 /\ ∀ p ∈ b.a0V b.singers.length, p.2.length <= 15 := by
 have hs3 := hs.s3
 refine ⟨?_, fun p hp => ?_⟩
 . have h1 := a8h hs b.singers.length
   have h2 : 32 ^ b.singers.length <= 32 ^ 3 := Nat.pow_le_pow_right (by decide) hs3
   have : (32 : Nat) ^ 3 = 32768 := by decide
   omega
 . have := a7q hs _ p hp; omega
theorem b7k (b : Book) [hb : b.Fits] :
   K Γ (.fn 107) [.agg b.c] [] = some (.tup [.sc (.sl (b2o b) 2 (rl b.plan.1)), vi b.plan.2], []) := by
 obtain ⟨cs, ha, hlen, hp, hun, hO⟩ := a6O (Γ := Γ) b true
 have hu (m : Nat) : C.a0G m cs = true := a0C m _ hp
 by_cases he : b.err true = 0
 . obtain ⟨hv, -, hne⟩ := a5T he
   have hs := a2n.1 hv
   obtain rfl := hO he
   obtain ⟨hj1, hj2⟩ := b9e hs
   have hL0 {β : Type} (Q : Ex -> St -> Option β) := c0z (Γ := Γ) b hs hne Q
   have hL3 {β : Type} (Q : Ex -> St -> Option β) := c0C (Γ := Γ) b hs (kA b b.singers.length) (b.a0V b.singers.length) hj1 (b2f b _) hj2 (fun p hp => (d8K b _ p hp).1) Q
   change ∀ {β : Type} (Q : Ex -> St -> Option β), _ = Q (.exit 6) ⟨[(4, .sc (.ptr 1 0)), (13, .sc (a3L b.best)), (14, vb b.best.isSome), _, _, _, _, _], _⟩ at hL3
   rw [he] at ha
   simp only [Book.plan, b2o, if_pos he]
   cases hbe : b.best with
   | none =>
     simp only [hbe, a3L, Option.isSome_none] at hL3
     rw [K_fn P04.f107 _ _ rfl]
     simp only [go_sem, simprocAttr, a4U, ha, hu, hun, hp, hL0, hL3, List.length_map, List.map_nil]
   | some l =>
     simp only [hbe, a3L, Option.isSome_some] at hL3
     have hS := a6u 2 (kS l) (rl l) l.length (by simp)
     rw [K_fn P04.f107 _ _ rfl]
     simp only [go_sem, simprocAttr, a4U, ha, hu, hun, hp, hL0, hL3, hS, List.length_map]
 . have hd : decide (b.err true = 0) = false := decide_eq_false he
   simp only [Book.plan, b2o, if_neg he]
   rw [K_fn P04.f107 _ _ rfl]
   simp only [go_sem, simprocAttr, a4U, ha, hu, hun, hlen, hp, hd, List.map_nil]
end
end Go.Pm.St
namespace Go.Pm.St
open Ac
def chB (needs : Int) (k : SK) (l : List Sign) : Book := ⟨.full, [⟨10, 11⟩, ⟨8, 8⟩], ⟨2, 3⟩, ⟨4, 4⟩, ⟨3, 4⟩, .full, [⟨1, 1, 1⟩, ⟨0, 1, needs⟩, ⟨0, 1, 1⟩, ⟨2, 0, 1⟩], .nil, [], k, l⟩
def ownX : Book := chB 1 .nil []
def a7j : Book := chB 2 .nil []
def sg3 : Sign := ⟨0, 0, 3, 0⟩
def sg2 : Sign := ⟨1, 0, 2, 0⟩
def a5j : Book := chB 1 .full [sg3]
def a7e : Book := chB 1 .full [sg3, sg2]
instance fits_ch (needs : Int) (k : SK) : (chB needs k []).Fits := ⟨by simp [chB], by simp [chB], by simp [chB], by simp [chB]⟩
instance fits_own : ownX.Fits := fits_ch _ _
instance fits_great : a7j.Fits := fits_ch _ _
instance fits_tried : a5j.Fits := ⟨by simp [a5j, chB], by simp [a5j, chB], by simp [a5j, chB], by simp [a5j, chB]⟩
instance fits_torn : a7e.Fits := ⟨by simp [a7e, chB], by simp [a7e, chB], by simp [a7e, chB], by simp [a7e, chB]⟩
theorem b9q : ownX.plan = ([⟨0, 0⟩, ⟨1, 1⟩], 0) := by decide +kernel
theorem b6u : a7j.plan = ([⟨0, 0⟩, ⟨2, 1⟩], 0) := by decide +kernel
theorem a7k (x y : Rest) : a0c [1, 1] x.c y.c = some (decide (x = y)) := by
 rw [Rest.a0c]
 congr 1
 obtain ⟨a, b⟩ := x; obtain ⟨c, d⟩ := y
 by_cases h1 : a = c <;> by_cases h2 : b = d <;> simp [h1, h2]
section
variable {Γ : Env} [P04 Γ] [G04 Γ]
@[go_sem] theorem b4a (needs : Int) (k : SK) (l : List Sign) : K Γ (.fn 168) [vi needs, .sc (.sl k 4 (l.map Sign.c))] [] = some (.agg (chB needs k l).c, []) := by
 rw [K_fn P04.f168 _ _ rfl]
 simp only [go_sem, simprocAttr, a4s]
 rfl
@[go_sem] theorem c3v (needs : Int) (k : SK) : K Γ (.fn 168) [vi needs, .sc (.sl k 4 [])] [] = some (.agg (chB needs k []).c, []) := b4a needs k []
@[go_sem] theorem d1e : K Γ (.fn 134) [] [] = some (.agg ownX.c, []) := by
 rw [K_fn P04.f134 _ _ rfl]
 simp only [go_sem, simprocAttr, a4W]
 rfl
@[go_sem] theorem c9K : K Γ (.fn 140) [] [] = some (.agg a7j.c, []) := by
 rw [K_fn P04.f140 _ _ rfl]
 simp only [go_sem, simprocAttr, a4b]
 rfl
@[go_sem] theorem c9Z : K Γ (.fn 136) [] [] = some (.agg a5j.c, []) := by
 have h : K Γ (.fn 168) [vi 1, .sc (.sl .full 4 [[ci 0, ci 0, ci 3, ci 0]])] [] = some (.agg a5j.c, []) := b4a 1 .full [sg3]
 rw [K_fn P04.f136 _ _ rfl]
 simp only [go_sem, simprocAttr, a4e, h]
@[go_sem] theorem d0E : K Γ (.fn 142) [] [] = some (.agg a7e.c, []) := by
 have h : K Γ (.fn 168) [vi 1, .sc (.sl .full 4 [[ci 0, ci 0, ci 3, ci 0], [ci 1, ci 0, ci 2, ci 0]])] [] = some (.agg a7e.c, []) := b4a 1 .full [sg3, sg2]
 rw [K_fn P04.f142 _ _ rfl]
 simp only [go_sem, simprocAttr, a4z, h]
theorem c1Q (x : List C) : appended 2 (.sc (.sl .nil 2 [])) (.sc (.sl .full 2 [x])) = some (.own 2 [x]) := by simp [appended, elems, room]
theorem c1R (x y : List C) : appended 2 (.sc (.own 2 [x])) (.sc (.sl .full 2 [y])) = some (.own 2 [x, y]) := by simp [appended, elems, room]
theorem b4S (a b c d : Int) : K Γ (.fn 139) [.sc (.sl .full 1 [[ci a], [ci b], [ci c], [ci d]])] [] = some (.sc (.sl .shared 2 (rl [⟨a, b⟩, ⟨c, d⟩])), []) := by
 rw [K_fn P04.f139 _ _ rfl]
 simp only [go_sem, simprocAttr, a4c, a6l, a6k, a1J, c1Q, c1R]
 rfl
theorem b8g (k k' : SK) (l m : List Rest) (hl : l.length <= 1000) (hm : m.length <= 1000) : K Γ (.fn 109) [.sc (.sl k 2 (rl l)), .sc (.sl k' 2 (rl m))] [] = some (vb (decide (l = m)), []) := by
 rw [K_fn P04.f109 _ _ rfl]
 by_cases hlm : (l.length : Int) = m.length
 . have d1 := decide_eq_true hlm
   have hz : (l.zip m).length = l.length := by simp [List.length_zip]; omega
   simp only [go_sem, simprocAttr, a3x, d1, List.length_map]
   refine (b8u (fun i (a : Bool) => ⟨[(0, .sc (.sl k 2 (rl l))), (1, .sc (.sl k' 2 (rl m))), (5, vb a), (6, vi i)], []⟩) (l.zip m) (fun p => decide (p.1 = p.2))
     (fun i a => (.exit 0, ⟨[(0, .sc (.sl k 2 (rl l))), (1, .sc (.sl k' 2 (rl m))), (5, vb a), (6, vi i), (18, vb false)], []⟩)) rfl ?_ ?_ ?_ ?_)
   . intro i p hp
     obtain ⟨h1, h2⟩ := List.getElem?_zip_eq_some.1 hp
     have hil := (List.getElem?_eq_some_iff.1 h1).1
     have d2 := decide_eq_true (show (i : Int) < l.length by omega)
     have hi : IntKind.i64.wrap ((i : Int) + 1) = i + 1 := wrap_i64 (by omega) (by omega)
     (simp only [go_sem, simprocAttr, a1l, h1, h2, d2, hi, a7k, List.length_map]; repeat' (first | ((first | refine brY ?_ | refine brN ?_ | refine brA ?_ | refine brD ?_ | refine brF ?_ | ((first | apply a0k | apply a0j); (. intro h; simp only [go_sem, simprocAttr, a0p h, a1l, h1, h2, d2, hi, a7k, List.length_map]; exact rfl))); (try simp only [go_sem, simprocAttr, a1l, h1, h2, d2, hi, a7k, List.length_map])) | ((first | apply a0e | apply d7E | apply a0a) <;> intro h <;> (try simp only [go_sem, simprocAttr, h, a1l, h1, h2, d2, hi, a7k, List.length_map]))))
     rfl
   . intro i _
     (simp only [go_sem, simprocAttr, a1l]; repeat' (first | ((first | refine brY ?_ | refine brN ?_ | refine brA ?_ | refine brD ?_ | refine brF ?_ | ((first | apply a0k | apply a0j); (. intro h; simp only [go_sem, simprocAttr, a0p h, a1l]; exact rfl))); (try simp only [go_sem, simprocAttr, a1l])) | ((first | apply a0e | apply d7E | apply a0a) <;> intro h <;> (try simp only [go_sem, simprocAttr, h, a1l]))))
   . have d2 : decide (((l.zip m).length : Int) < l.length) = false := decide_eq_false (by omega)
     simp only [go_sem, simprocAttr, a1l, d2, List.length_map]
   . intro i
     have he : (l.zip m).all (fun p => decide (p.1 = p.2)) = decide (l = m) := by
       rw [Bool.eq_iff_iff, List.all_eq_true, decide_eq_true_eq]
       constructor
       . intro h
         apply List.ext_getElem?
         intro i
         by_cases hi : i < l.length
         . have hi' : i < m.length := by omega
           have := h (l[i], m[i]) (List.mem_of_getElem? (List.getElem?_zip_eq_some.2 ⟨List.getElem?_eq_getElem hi, List.getElem?_eq_getElem hi'⟩))
           rw [List.getElem?_eq_getElem hi, List.getElem?_eq_getElem hi']
           exact congrArg some (of_decide_eq_true this)
         . rw [List.getElem?_eq_none (by omega), List.getElem?_eq_none (by omega)]
       . rintro rfl p hp
         obtain ⟨i, hi⟩ := List.getElem?_of_mem hp
         obtain ⟨a1, a2⟩ := List.getElem?_zip_eq_some.1 hi
         rw [a1] at a2
         exact decide_eq_true (Option.some.inj a2)
     rw [he]
     (simp only [go_sem, simprocAttr]; repeat' (first | ((first | refine brY ?_ | refine brN ?_ | refine brA ?_ | refine brD ?_ | refine brF ?_ | ((first | apply a0k | apply a0j); (. intro h; simp only [go_sem, simprocAttr, a0p h]; exact rfl))); (try simp only [go_sem, simprocAttr])) | ((first | apply a0e | apply d7E | apply a0a) <;> intro h <;> (try simp only [go_sem, simprocAttr, h]))))
 . have d1 := decide_eq_false hlm
   have hne : decide (l = m) = false := decide_eq_false (fun e => hlm (by rw [e]))
   simp only [go_sem, simprocAttr, a3x, d1, hne, a6I, a1l, a1J, List.length_map]
/-! ### What the chapter's examples answer -/
theorem b8J : K Γ (.fn 135) [.agg ownX.c, vi 0, vi 3] [] = some (.tup [.agg [ci (-2), ci 5], vi 0], []) := by
 have e : ownX.left 0 3 = ((-2, 5), 0) := by decide +kernel
 rw [b7j, e]
theorem b8K : K Γ (.fn 135) [.agg a5j.c, vi 1, vi 0] [] = some (.tup [.agg [ci 1, ci 1], vi 0], []) := by
 have e : a5j.left 1 0 = ((1, 1), 0) := by decide +kernel
 rw [b7j, e]
theorem b8H : K Γ (.fn 137) [.agg a5j.c, vi 0] [] = some (.tup [.agg [ci 3, ci 3], vi 0], []) := by
 have e : a5j.costs 0 = ((3, 3), 0) := by decide +kernel
 rw [c0t, e]
theorem b7t : K Γ (.fn 138) [.agg ownX.c, vi 1] [] = some (.tup [vi 2, vi 0], []) := by
 have e : ownX.beyond 1 = (2, 0) := by decide +kernel
 rw [b8s, e]
theorem b8I : K Γ (.fn 101) [.agg ownX.c] [] = some (.tup [vi 2, vi 0, vi 0], []) := by
 have e : ownX.first = ((2, 0), 0) := by decide +kernel
 rw [c0x, e]
theorem c0M : K Γ (.fn 105) [.agg ownX.c, .sc (.sl .shared 2 (rl [⟨0, 0⟩, ⟨1, 1⟩]))] [] = some (.tup [vb true, vi 0], []) := by
 have e : ownX.safe [⟨0, 0⟩, ⟨1, 1⟩] = (true, 0) := by decide +kernel
 rw [c1N ownX .shared [⟨0, 0⟩, ⟨1, 1⟩] (by decide), e]
theorem b8L : K Γ (.fn 107) [.agg ownX.c] [] = some (.tup [.sc (.sl .full 2 (rl [⟨0, 0⟩, ⟨1, 1⟩])), vi 0], []) := by
 have e : b2o ownX = .full := by decide +kernel
 rw [b7k ownX, b9q, e]
theorem b8M : K Γ (.fn 107) [.agg a7j.c] [] = some (.tup [.sc (.sl .full 2 (rl [⟨0, 0⟩, ⟨2, 1⟩])), vi 0], []) := by
 have e : b2o a7j = .full := by decide +kernel
 rw [b7k a7j, b6u, e]
theorem c0L : K Γ (.fn 141) [.agg ownX.c, .agg [ci 1, ci 0, ci 3, ci 1]] [] = some (.tup [vb true, vi 0], []) := by
 have e : ownX.fits ⟨1, 0, 3, 1⟩ = (true, 0) := by decide +kernel
 have := c1M (Γ := Γ) ownX ⟨1, 0, 3, 1⟩
 rw [e] at this; exact this
theorem b8N : K Γ (.fn 143) [.agg a7e.c] [] = some (.tup [.sc (.sl .full 1 [[ci 0]]), vi 0], []) := by
 have e : a7e.wrong = ([0], 0) := by decide +kernel
 have e2 : b2A a7e = .full := by decide +kernel
 rw [c0E, e, e2]; rfl
theorem c1Z : K Γ (.fn 103) [.agg ownX.c, .sc (.sl .shared 2 (rl [⟨0, 0⟩, ⟨1, 1⟩]))] [] = some (.tup [vb true, vi 0], []) := by
 have e : (ownX.valid && ownX.a4k [⟨0, 0⟩, ⟨1, 1⟩]) = true := by decide +kernel
 have a : (if ownX.valid then (0 : Int) else 40) = 0 := by decide +kernel
 rw [c3l ownX .shared [⟨0, 0⟩, ⟨1, 1⟩] (by decide), e, a]
theorem c2r (k k' : SK) : K Γ (.fn 109) [.sc (.sl k 2 (rl [⟨0, 0⟩, ⟨1, 1⟩])), .sc (.sl k' 2 (rl [⟨0, 0⟩, ⟨1, 1⟩]))] [] = some (vb true, []) := by
 rw [b8g k k' _ _ (by decide) (by decide)]; rfl
theorem c2s (k k' : SK) : K Γ (.fn 109) [.sc (.sl k 2 (rl [⟨0, 0⟩, ⟨2, 1⟩])), .sc (.sl k' 2 (rl [⟨0, 0⟩, ⟨2, 1⟩]))] [] = some (vb true, []) := by
 rw [b8g k k' _ _ (by decide) (by decide)]; rfl
theorem b8G (k k' : SK) : K Γ (.fn 23) [.sc (.sl k 1 [[ci 0]]), .sc (.sl k' 1 [[ci 0]])] [] = some (vb true, []) := by
 have := c0w (Γ := Γ) k k' [0] [0] (by decide) (by decide)
 exact this
@[go_sem] theorem c8L : K Γ (.fn 110) [] [] = some (vb true, []) := by
 have h1 := c0M (Γ := Γ); have h2 := b8L (Γ := Γ); have h3 := b8M (Γ := Γ); have h4 := c1Z (Γ := Γ)
 have h5 := b4S (Γ := Γ) 0 0 1 1; have h6 := b4S (Γ := Γ) 0 0 2 1
 have h7 := c2r (Γ := Γ); have h8 := c2s (Γ := Γ)
 simp only [rl, List.map_cons, List.map_nil, Rest.c] at h1 h2 h3 h4 h5 h6 h7 h8
 rw [K_fn P04.f110 _ _ rfl]
 simp only [go_sem, simprocAttr, a3M, b8J, b8K, b8H, b7t, b8I, c0L, b8N, h1, h2, h3, h4, h5, h6, h7, h8, b8G, b4A]
end
end Go.Pm.St
namespace Go.Pm.St
open Ac
theorem b5r (l : List Rest) (i : Int) (d : Nat) : (l.any fun x => decide (x = ⟨(d : Int), i⟩)) = a2Y l i d := by
 unfold a2Y
 congr 1; funext x
 obtain ⟨a, b⟩ := x
 by_cases h1 : a = (d : Int) <;> by_cases h2 : b = i <;> simp [h1, h2]
theorem b4m {α : Type} (p : α -> Bool) (l : List α) : (a0z (fun _ x => p x) 0 l).isSome = l.any p := by
 cases h : a0z (fun _ x => p x) 0 l with
 | none =>
   rw [a2L] at h
   rw [Option.isSome_none, eq_comm, Bool.eq_false_iff]
   intro e
   obtain ⟨x, hx, hp⟩ := List.any_eq_true.1 e
   obtain ⟨i, hi⟩ := List.getElem?_of_mem hx
   rw [h i x hi] at hp; cases hp
 | some q =>
   obtain ⟨i, x⟩ := q
   obtain ⟨_, h2, h3, _⟩ := a3F h
   rw [Option.isSome_some, eq_comm, List.any_eq_true]
   exact ⟨x, List.mem_of_getElem? h2, h3⟩
section
variable {Γ : Env} [P04 Γ] [G04 Γ]
@[go_sem] theorem c9a (s : Span) : K Γ (.fn 49) [.agg s.c, vi 0, vi 30, vi 2] [] = some (vb (s.is 0 30 2), []) := b7i s _ _ _ (by decide) (by decide)
@[go_sem] theorem c9c (s : Span) : K Γ (.fn 49) [.agg [ci s.lo, ci s.hi], vi 0, vi 6, vi 1] [] = some (vb (s.is 0 6 1), []) := b7i s _ _ _ (by decide) (by decide)
theorem b9K (b : Book) [hb : b.Fits] (hv : b.valid = false) : K Γ (.fn 204) [.agg b.c] [] = some (vb false, []) := by
 rw [K_fn P04.f204 _ _ rfl]
 simp only [go_sem, simprocAttr, a3k, hv, Bool.false_eq_true, Bool.false_and, a4v, a1o, a4w, a4u, a4x, a1p, a4y, a1q, a1J]
theorem b9H (b : Book) [hb : b.Fits] (hs : Sane b) {β : Type} (Q : Ex -> St -> Option β) :
   E Γ a4v ⟨[(1, .sc (.ptr 0 0)), (3, vb true), (4, vi 0)], [.var b.c]⟩ Q = Q (.exit 0) ⟨[(1, .sc (.ptr 0 0)), (3, vb true), (4, vi b.singers.length), (44, vb false)], [.var b.c]⟩ := by
 have hs3 := hs.s3
 refine a4Q (fun i => ⟨[(1, .sc (.ptr 0 0)), (3, vb true), (4, vi i)], [.var b.c]⟩) b.singers (.exit 0, ⟨[(1, .sc (.ptr 0 0)), (3, vb true), (4, vi b.singers.length), (44, vb false)], [.var b.c]⟩) Q rfl ?_ ?_
 . intro i x hx
   have hlt : decide ((i : Int) < b.singers.length) = true := decide_eq_true (by have := (List.getElem?_eq_some_iff.1 hx).1; omega)
   have hlt' := (List.getElem?_eq_some_iff.1 hx).1
   have hiw : IntKind.i64.wrap ((i : Int) + 1) = i + 1 := wrap_i64 (by omega) (by omega)
   have hok : x.is 0 30 2 = true := Span.b0d.2 (hs.sp x (List.mem_of_getElem? hx))
   (simp only [go_sem, simprocAttr, a1o, hx, hiw, hlt, hok]; repeat' (first | ((first | refine brY ?_ | refine brN ?_ | refine brA ?_ | refine brD ?_ | refine brF ?_ | ((first | apply a0k | apply a0j); (. intro h; simp only [go_sem, simprocAttr, a0p h, a1o, hx, hiw, hlt, hok]; exact rfl))); (try simp only [go_sem, simprocAttr, a1o, hx, hiw, hlt, hok])) | ((first | apply a0e | apply d7E | apply a0a) <;> intro h <;> (try simp only [go_sem, simprocAttr, h, a1o, hx, hiw, hlt, hok]))))
   rfl
 . have hlt : decide ((b.singers.length : Int) < b.singers.length) = false := decide_eq_false (by omega)
   (simp only [go_sem, simprocAttr, a1o, hlt]; repeat' (first | ((first | refine brY ?_ | refine brN ?_ | refine brA ?_ | refine brD ?_ | refine brF ?_ | ((first | apply a0k | apply a0j); (. intro h; simp only [go_sem, simprocAttr, a0p h, a1o, hlt]; exact rfl))); (try simp only [go_sem, simprocAttr, a1o, hlt])) | ((first | apply a0e | apply d7E | apply a0a) <;> intro h <;> (try simp only [go_sem, simprocAttr, h, a1o, hlt]))))
theorem b9I (b : Book) [hb : b.Fits] (hs : Sane b) {β : Type} (Q : Ex -> St -> Option β) :
   E Γ a4x ⟨[(1, .sc (.ptr 0 0)), (3, vb true), (6, vi 0)], [.var b.c]⟩ Q = Q (.exit 4) ⟨[(1, .sc (.ptr 0 0)), (3, vb true), (6, vi b.days.length), (72, vb false)], [.var b.c]⟩ := by
 have hd5 := hs.d5
 refine a4Q (fun i => ⟨[(1, .sc (.ptr 0 0)), (3, vb true), (6, vi i)], [.var b.c]⟩) b.days (.exit 4, ⟨[(1, .sc (.ptr 0 0)), (3, vb true), (6, vi b.days.length), (72, vb false)], [.var b.c]⟩) Q rfl ?_ ?_
 . intro i x hx
   have hlt : decide ((i : Int) < b.days.length) = true := decide_eq_true (by have := (List.getElem?_eq_some_iff.1 hx).1; omega)
   have hlt' := (List.getElem?_eq_some_iff.1 hx).1
   have hiw : IntKind.i64.wrap ((i : Int) + 1) = i + 1 := wrap_i64 (by omega) (by omega)
   have hok := hs.dy x (List.mem_of_getElem? hx)
   have k1 : within x.plain 0 2 = true := within_iff.2 hok.1
   have k2 : within x.full 0 2 = true := within_iff.2 hok.2.1
   (simp only [go_sem, simprocAttr, a1p, hx, hiw, hlt, k1, k2]; repeat' (first | ((first | refine brY ?_ | refine brN ?_ | refine brA ?_ | refine brD ?_ | refine brF ?_ | ((first | apply a0k | apply a0j); (. intro h; simp only [go_sem, simprocAttr, a0p h, a1p, hx, hiw, hlt, k1, k2]; exact rfl))); (try simp only [go_sem, simprocAttr, a1p, hx, hiw, hlt, k1, k2])) | ((first | apply a0e | apply d7E | apply a0a) <;> intro h <;> (try simp only [go_sem, simprocAttr, h, a1p, hx, hiw, hlt, k1, k2]))))
   rfl
 . have hlt : decide ((b.days.length : Int) < b.days.length) = false := decide_eq_false (by omega)
   (simp only [go_sem, simprocAttr, a1p, hlt]; repeat' (first | ((first | refine brY ?_ | refine brN ?_ | refine brA ?_ | refine brD ?_ | refine brF ?_ | ((first | apply a0k | apply a0j); (. intro h; simp only [go_sem, simprocAttr, a0p h, a1p, hlt]; exact rfl))); (try simp only [go_sem, simprocAttr, a1p, hlt])) | ((first | apply a0e | apply d7E | apply a0a) <;> intro h <;> (try simp only [go_sem, simprocAttr, h, a1p, hlt]))))
theorem b9J (b : Book) [hb : b.Fits] (hs : Sane b) {β : Type} (Q : Ex -> St -> Option β) :
   E Γ a4y ⟨[(1, .sc (.ptr 0 0)), (3, vb true), (8, vi 0)], [.var b.c]⟩ Q = Q (.exit 6) ⟨[(1, .sc (.ptr 0 0)), (3, vb true), (8, vi b.signs.length), (95, vb false)], [.var b.c]⟩ := by
 have hd5 := hs.d5; have hs3 := hs.s3; have hg4 := hs.g4
 have hsw : IntKind.i64.wrap ((b.singers.length : Int) - 1) = b.singers.length - 1 := wrap_i64 (by omega) (by omega)
 have hdw : IntKind.i64.wrap ((b.days.length : Int) - 1) = b.days.length - 1 := wrap_i64 (by omega) (by omega)
 refine a4Q (fun i => ⟨[(1, .sc (.ptr 0 0)), (3, vb true), (8, vi i)], [.var b.c]⟩) b.signs (.exit 6, ⟨[(1, .sc (.ptr 0 0)), (3, vb true), (8, vi b.signs.length), (95, vb false)], [.var b.c]⟩) Q rfl ?_ ?_
 . intro i x hx
   have hlt : decide ((i : Int) < b.signs.length) = true := decide_eq_true (by have := (List.getElem?_eq_some_iff.1 hx).1; omega)
   have hlt' := (List.getElem?_eq_some_iff.1 hx).1
   have hiw : IntKind.i64.wrap ((i : Int) + 1) = i + 1 := wrap_i64 (by omega) (by omega)
   have hok := hs.sg x (List.mem_of_getElem? hx)
   have k1 : within x.singer 0 (b.singers.length - 1) = true := within_iff.2 (by omega)
   have k2 : within x.day 0 (b.days.length - 1) = true := within_iff.2 (by omega)
   have k3 : within x.err 0 3 = true := within_iff.2 hok.2.2.2
   (simp only [go_sem, simprocAttr, a1q, hx, hiw, hlt, k1, k2, k3, hsw, hdw]; repeat' (first | ((first | refine brY ?_ | refine brN ?_ | refine brA ?_ | refine brD ?_ | refine brF ?_ | ((first | apply a0k | apply a0j); (. intro h; simp only [go_sem, simprocAttr, a0p h, a1q, hx, hiw, hlt, k1, k2, k3, hsw, hdw]; exact rfl))); (try simp only [go_sem, simprocAttr, a1q, hx, hiw, hlt, k1, k2, k3, hsw, hdw])) | ((first | apply a0e | apply d7E | apply a0a) <;> intro h <;> (try simp only [go_sem, simprocAttr, h, a1q, hx, hiw, hlt, k1, k2, k3, hsw, hdw]))))
   rfl
 . have hlt : decide ((b.signs.length : Int) < b.signs.length) = false := decide_eq_false (by omega)
   (simp only [go_sem, simprocAttr, a1q, hlt]; repeat' (first | ((first | refine brY ?_ | refine brN ?_ | refine brA ?_ | refine brD ?_ | refine brF ?_ | ((first | apply a0k | apply a0j); (. intro h; simp only [go_sem, simprocAttr, a0p h, a1q, hlt]; exact rfl))); (try simp only [go_sem, simprocAttr, a1q, hlt])) | ((first | apply a0e | apply d7E | apply a0a) <;> intro h <;> (try simp only [go_sem, simprocAttr, h, a1q, hlt]))))
@[go_sem] theorem c9U (b : Book) [hb : b.Fits] : K Γ (.fn 204) [.agg b.c] [] = some (vb b.valid, []) := by
 cases hv : b.valid with
 | false => exact b9K b hv
 | true =>
   obtain ⟨hs, hg⟩ := a8w.1 hv
   have e0 {β : Type} (Q : Ex -> St -> Option β) := b9H (Γ := Γ) b hs Q
   have e2 {β : Type} (Q : Ex -> St -> Option β) := b9I (Γ := Γ) b hs Q
   have e3 {β : Type} (Q : Ex -> St -> Option β) := b9J (Γ := Γ) b hs Q
   have k0 : b.c0.is 0 6 1 = true := Span.b0d.2 hs.k0
   have k1 : b.c1.is 0 6 1 = true := Span.b0d.2 hs.k1
   have k2 : b.c2.is 0 6 1 = true := Span.b0d.2 hs.k2
   have h1 : within b.singers.length 1 3 = true := within_iff.2 (by have := hs.s1; have := hs.s3; omega)
   have h2 : within b.days.length 1 5 = true := within_iff.2 (by have := hs.d1; have := hs.d5; omega)
   have h3 : decide ((b.rests.length : Int) <= 6) = true := decide_eq_true (by have := hs.r6; omega)
   have h4 : decide ((b.signs.length : Int) <= 4) = true := decide_eq_true (by omega)
   rw [K_fn P04.f204 _ _ rfl]
   simp only [go_sem, simprocAttr, a3k, hv, h1, h2, h3, h4, if_true, e0, e2, e3, a4w, a4u, a1J, k0, k1, k2]
@[go_sem] theorem c0Z (b : Book) (hs : Sane b) : K Γ (.fn 205) [.agg b.c] [] = some (vi (a2b b.signs), []) := by
 have hg4 := hs.g4
 have hd5 := hs.d5
 have key : ∀ (l : List Sign) (n : Int), (∀ x ∈ l, 0 <= x.day /\ x.day < b.days.length) -> 0 <= n /\ n <= b.days.length -> 0 <= l.foldl (fun n x => max n (x.day + 1)) n /\ l.foldl (fun n x => max n (x.day + 1)) n <= b.days.length := by
   intro l
   induction l with
   | nil => intro n _ h; exact h
   | cons x l ih =>
     intro n hx hn
     have := hx x (by simp)
     exact ih (max n (x.day + 1)) (fun y hy => hx y (by simp [hy])) (by omega)
 rw [K_fn P04.f205 _ _ rfl]
 simp only [go_sem, simprocAttr, a4t]
 refine a4Q (fun i => ⟨[(1, .sc (.ptr 0 0)), (3, vi (a2b (b.signs.take i))), (4, vi i)], [.var b.c]⟩) b.signs (.exit 0, ⟨[(1, .sc (.ptr 0 0)), (3, vi (a2b b.signs)), (4, vi b.signs.length), (9, vb false)], [.var b.c]⟩) _ rfl ?_ ?_ |>.trans ?_
 . intro i x hx
   have hlt' := (List.getElem?_eq_some_iff.1 hx).1
   have hlt : decide ((i : Int) < b.signs.length) = true := decide_eq_true (by omega)
   have hiw : IntKind.i64.wrap ((i : Int) + 1) = i + 1 := wrap_i64 (by omega) (by omega)
   have hok := hs.sg x (List.mem_of_getElem? hx)
   have hdw : IntKind.i64.wrap (x.day + 1) = x.day + 1 := wrap_i64 (by omega) (by omega)
   have ho := key (b.signs.take i) 0 (fun y hy => (hs.sg y (List.mem_of_mem_take hy)).2.1) (by omega)
   have hsn : a2b (b.signs.take (i + 1)) = max (a2b (b.signs.take i)) (x.day + 1) := by rw [take_snoc hx]; simp [a2b]
   change 0 <= a2b (b.signs.take i) /\ a2b (b.signs.take i) <= _ at ho
   by_cases hge : a2b (b.signs.take i) <= x.day
   . have hd := decide_eq_true hge
     rw [hsn, show max (a2b (b.signs.take i)) (x.day + 1) = x.day + 1 by omega]
     (simp only [go_sem, simprocAttr, a0Y, hx, hiw, hlt, hd, hdw]; repeat' (first | ((first | refine brY ?_ | refine brN ?_ | refine brA ?_ | refine brD ?_ | refine brF ?_ | ((first | apply a0k | apply a0j); (. intro h; simp only [go_sem, simprocAttr, a0p h, a0Y, hx, hiw, hlt, hd, hdw]; exact rfl))); (try simp only [go_sem, simprocAttr, a0Y, hx, hiw, hlt, hd, hdw])) | ((first | apply a0e | apply d7E | apply a0a) <;> intro h <;> (try simp only [go_sem, simprocAttr, h, a0Y, hx, hiw, hlt, hd, hdw]))))
     rfl
   . have hd := decide_eq_false hge
     rw [hsn, show max (a2b (b.signs.take i)) (x.day + 1) = a2b (b.signs.take i) by omega]
     (simp only [go_sem, simprocAttr, a0Y, hx, hiw, hlt, hd, hdw]; repeat' (first | ((first | refine brY ?_ | refine brN ?_ | refine brA ?_ | refine brD ?_ | refine brF ?_ | ((first | apply a0k | apply a0j); (. intro h; simp only [go_sem, simprocAttr, a0p h, a0Y, hx, hiw, hlt, hd, hdw]; exact rfl))); (try simp only [go_sem, simprocAttr, a0Y, hx, hiw, hlt, hd, hdw])) | ((first | apply a0e | apply d7E | apply a0a) <;> intro h <;> (try simp only [go_sem, simprocAttr, h, a0Y, hx, hiw, hlt, hd, hdw]))))
     rfl
 . have hlt : decide ((b.signs.length : Int) < b.signs.length) = false := decide_eq_false (by omega)
   rw [List.take_length]
   (simp only [go_sem, simprocAttr, a0Y, hlt]; repeat' (first | ((first | refine brY ?_ | refine brN ?_ | refine brA ?_ | refine brD ?_ | refine brF ?_ | ((first | apply a0k | apply a0j); (. intro h; simp only [go_sem, simprocAttr, a0p h, a0Y, hlt]; exact rfl))); (try simp only [go_sem, simprocAttr, a0Y, hlt])) | ((first | apply a0e | apply d7E | apply a0a) <;> intro h <;> (try simp only [go_sem, simprocAttr, h, a0Y, hlt]))))
 . (simp only [go_sem, simprocAttr]; repeat' (first | ((first | refine brY ?_ | refine brN ?_ | refine brA ?_ | refine brD ?_ | refine brF ?_ | ((first | apply a0k | apply a0j); (. intro h; simp only [go_sem, simprocAttr, a0p h]; exact rfl))); (try simp only [go_sem, simprocAttr])) | ((first | apply a0e | apply d7E | apply a0a) <;> intro h <;> (try simp only [go_sem, simprocAttr, h]))))
def Book.a5g (b : Book) (plan : List Rest) (i : Int) (d : Int) : Bool := (b.rests.any fun x => decide (x = ⟨d, i⟩)) || plan.any fun x => decide (x = ⟨d, i⟩)
@[go_sem] theorem b9r (b : Book) [hb : b.Fits] (k : SK) (plan : List Rest) (hp : plan.length <= 1000000) (i d : Int) : K Γ (.fn 208) [.agg b.c, .sc (.sl k 2 (plan.map Rest.c)), vi i, vi d] [] = some (vb (b.a5g plan i d), []) := by
 have hr := hb.r
 have hL0 {β : Type} (Q : Ex -> St -> Option β) : E Γ a5X ⟨[(1, .sc (.sl k 2 (plan.map Rest.c))), (4, .sc (.ptr 0 0)), (9, .sc (.ptr 1 0)), (10, vi 0)], [.var b.c, .var [ci d, ci i]]⟩ Q =
     match a0z (fun _ x => decide (x = (⟨d, i⟩ : Rest))) 0 b.rests with
     | some _ => Q .ret ⟨[(8, vb true)], [.var b.c, .var [ci d, ci i]]⟩
     | none => Q (.exit 0) ⟨[(1, .sc (.sl k 2 (plan.map Rest.c))), (4, .sc (.ptr 0 0)), (9, .sc (.ptr 1 0)), (10, vi b.rests.length), (19, vb false)], [.var b.c, .var [ci d, ci i]]⟩ := by
   refine (a4L (fun j => ⟨[(1, .sc (.sl k 2 (plan.map Rest.c))), (4, .sc (.ptr 0 0)), (9, .sc (.ptr 1 0)), (10, vi j)], [.var b.c, .var [ci d, ci i]]⟩) b.rests (fun _ x => decide (x = (⟨d, i⟩ : Rest)))
     (fun _ _ => (.ret, ⟨[(8, vb true)], [.var b.c, .var [ci d, ci i]]⟩)) (.exit 0, ⟨[(1, .sc (.sl k 2 (plan.map Rest.c))), (4, .sc (.ptr 0 0)), (9, .sc (.ptr 1 0)), (10, vi b.rests.length), (19, vb false)], [.var b.c, .var [ci d, ci i]]⟩) Q ?_ ?_ ?_).trans ?_
   . intro j x hx hf
     have hlt' := (List.getElem?_eq_some_iff.1 hx).1
     have hlt : decide ((j : Int) < b.rests.length) = true := decide_eq_true (by omega)
     have hiw : IntKind.i64.wrap ((j : Int) + 1) = j + 1 := wrap_i64 (by omega) (by omega)
     have hk : a0c [1, 1] x.c [ci d, ci i] = some false := by have := a7k x ⟨d, i⟩; rw [hf] at this; exact this
     (simp only [go_sem, simprocAttr, a1h, hx, hiw, hlt, hk]; repeat' (first | ((first | refine brY ?_ | refine brN ?_ | refine brA ?_ | refine brD ?_ | refine brF ?_ | ((first | apply a0k | apply a0j); (. intro h; simp only [go_sem, simprocAttr, a0p h, a1h, hx, hiw, hlt, hk]; exact rfl))); (try simp only [go_sem, simprocAttr, a1h, hx, hiw, hlt, hk])) | ((first | apply a0e | apply d7E | apply a0a) <;> intro h <;> (try simp only [go_sem, simprocAttr, h, a1h, hx, hiw, hlt, hk]))))
     rfl
   . intro j x hx hf
     have hlt' := (List.getElem?_eq_some_iff.1 hx).1
     have hlt : decide ((j : Int) < b.rests.length) = true := decide_eq_true (by omega)
     have hk : a0c [1, 1] x.c [ci d, ci i] = some true := by have := a7k x ⟨d, i⟩; rw [hf] at this; exact this
     (simp only [go_sem, simprocAttr, a1h, hx, hlt, hk]; repeat' (first | ((first | refine brY ?_ | refine brN ?_ | refine brA ?_ | refine brD ?_ | refine brF ?_ | ((first | apply a0k | apply a0j); (. intro h; simp only [go_sem, simprocAttr, a0p h, a1h, hx, hlt, hk]; exact rfl))); (try simp only [go_sem, simprocAttr, a1h, hx, hlt, hk])) | ((first | apply a0e | apply d7E | apply a0a) <;> intro h <;> (try simp only [go_sem, simprocAttr, h, a1h, hx, hlt, hk]))))
   . have hlt : decide ((b.rests.length : Int) < b.rests.length) = false := decide_eq_false (by omega)
     simp only [go_sem, simprocAttr, a1h, hlt]
   . cases a0z (fun _ x => decide (x = (⟨d, i⟩ : Rest))) 0 b.rests <;> rfl
 have hL1 {β : Type} (Q : Ex -> St -> Option β) : E Γ a5Y ⟨[(1, .sc (.sl k 2 (plan.map Rest.c))), (9, .sc (.ptr 1 0)), (11, vi 0)], [.var b.c, .var [ci d, ci i]]⟩ Q =
     match a0z (fun _ x => decide (x = (⟨d, i⟩ : Rest))) 0 plan with
     | some _ => Q .ret ⟨[(8, vb true)], [.var b.c, .var [ci d, ci i]]⟩
     | none => Q (.exit 2) ⟨[(1, .sc (.sl k 2 (plan.map Rest.c))), (9, .sc (.ptr 1 0)), (11, vi plan.length), (32, vb false)], [.var b.c, .var [ci d, ci i]]⟩ := by
   refine (a4L (fun j => ⟨[(1, .sc (.sl k 2 (plan.map Rest.c))), (9, .sc (.ptr 1 0)), (11, vi j)], [.var b.c, .var [ci d, ci i]]⟩) plan (fun _ x => decide (x = (⟨d, i⟩ : Rest)))
     (fun _ _ => (.ret, ⟨[(8, vb true)], [.var b.c, .var [ci d, ci i]]⟩)) (.exit 2, ⟨[(1, .sc (.sl k 2 (plan.map Rest.c))), (9, .sc (.ptr 1 0)), (11, vi plan.length), (32, vb false)], [.var b.c, .var [ci d, ci i]]⟩) Q ?_ ?_ ?_).trans ?_
   . intro j x hx hf
     have hlt' := (List.getElem?_eq_some_iff.1 hx).1
     have hlt : decide ((j : Int) < plan.length) = true := decide_eq_true (by omega)
     have hiw : IntKind.i64.wrap ((j : Int) + 1) = j + 1 := wrap_i64 (by omega) (by omega)
     have hk : a0c [1, 1] x.c [ci d, ci i] = some false := by have := a7k x ⟨d, i⟩; rw [hf] at this; exact this
     (simp only [go_sem, simprocAttr, a1i, hx, hiw, hlt, hk]; repeat' (first | ((first | refine brY ?_ | refine brN ?_ | refine brA ?_ | refine brD ?_ | refine brF ?_ | ((first | apply a0k | apply a0j); (. intro h; simp only [go_sem, simprocAttr, a0p h, a1i, hx, hiw, hlt, hk]; exact rfl))); (try simp only [go_sem, simprocAttr, a1i, hx, hiw, hlt, hk])) | ((first | apply a0e | apply d7E | apply a0a) <;> intro h <;> (try simp only [go_sem, simprocAttr, h, a1i, hx, hiw, hlt, hk]))))
     rfl
   . intro j x hx hf
     have hlt' := (List.getElem?_eq_some_iff.1 hx).1
     have hlt : decide ((j : Int) < plan.length) = true := decide_eq_true (by omega)
     have hk : a0c [1, 1] x.c [ci d, ci i] = some true := by have := a7k x ⟨d, i⟩; rw [hf] at this; exact this
     (simp only [go_sem, simprocAttr, a1i, hx, hlt, hk]; repeat' (first | ((first | refine brY ?_ | refine brN ?_ | refine brA ?_ | refine brD ?_ | refine brF ?_ | ((first | apply a0k | apply a0j); (. intro h; simp only [go_sem, simprocAttr, a0p h, a1i, hx, hlt, hk]; exact rfl))); (try simp only [go_sem, simprocAttr, a1i, hx, hlt, hk])) | ((first | apply a0e | apply d7E | apply a0a) <;> intro h <;> (try simp only [go_sem, simprocAttr, h, a1i, hx, hlt, hk]))))
   . have hlt : decide ((plan.length : Int) < plan.length) = false := decide_eq_false (by omega)
     simp only [go_sem, simprocAttr, a1i, hlt]
   . cases a0z (fun _ x => decide (x = (⟨d, i⟩ : Rest))) 0 plan <;> rfl
 simp only [Book.a5g, ← b4m]
 cases h0 : a0z (fun _ x => decide (x = (⟨d, i⟩ : Rest))) 0 b.rests with
 | some q =>
   simp only [h0] at hL0
   rw [K_fn P04.f208 _ _ rfl]
   simp only [go_sem, simprocAttr, a2z, hL0, Option.isSome_some, Bool.true_or]
 | none =>
   simp only [h0] at hL0
   cases h1 : a0z (fun _ x => decide (x = (⟨d, i⟩ : Rest))) 0 plan with
   | some q =>
     simp only [h1] at hL1
     rw [K_fn P04.f208 _ _ rfl]
     simp only [go_sem, simprocAttr, a2z, hL0, hL1, Option.isSome_some, Option.isSome_none, Bool.false_or]
   | none =>
     simp only [h1] at hL1
     rw [K_fn P04.f208 _ _ rfl]
     simp only [go_sem, simprocAttr, a2z, hL0, hL1, Option.isSome_none, Bool.false_or]
end
theorem b5x (b : Book) (plan : List Rest) (i d : Nat) : b.a5g plan i d = (b.rest i d || a2Y plan i d) := by
 simp only [Book.a5g, b5r, Book.rest]
end Go.Pm.St
namespace Go.Pm.St
open Ac
theorem a5Z {b : Book} (hv : b.valid = true) (is : Bool) : b.err is = if is then if b.now.isEmpty then 42 else 0 else 41 := by simp only [Book.err, hv, if_true]
theorem a7b {b : Book} {i : Nat} (hi : i < b.singers.length) : b.a1f i = true := by rw [Book.a1f, within_iff]; omega
theorem b4w {b : Book} {d : Nat} (hd : d < b.days.length) : b.a2O d = true := by rw [Book.a2O, within_iff]; omega
theorem left_ok {b : Book} (hv : b.valid = true) (hne : b.now ≠ []) {i d : Nat} (hi : i < b.singers.length) (hd : d < b.days.length) : b.left i d = ((b.low i d (b.rest i), b.high i d (b.rest i)), 0) := by
 have he : b.err (b.a1f i && b.a2O d) = 0 := by rw [a5Z hv, a7b hi, b4w hd]; cases h : b.now <;> simp_all
 simp only [Book.left, if_pos he, Int.toNat_natCast]
theorem b7m {b : Book} (hv : b.valid = true) (hne : b.now ≠ []) {i : Nat} (hi : i < b.singers.length) : b.beyond i = (match b.over i (b.rest i) with | some d => ((d : Int), 0) | none => (0, 4)) := by
 have he : b.err (b.a1f i) = 0 := by rw [a5Z hv, a7b hi]; cases h : b.now <;> simp_all
 simp only [Book.beyond, if_pos he, Int.toNat_natCast] <;> rfl
theorem b5c (n : Int) (m : Nat) (h : 1 <= m) : ∃ i : Nat, turn n m = i /\ i < m := by
 have := c1x n m (by omega)
 exact ⟨(turn n m).toNat, by omega, by omega⟩
section
variable {Γ : Env} [P04 Γ] [G04 Γ]
theorem b6O (b : Book) (i d : Nat) : b.a5g [] i d = b.rest i d := by rw [b5x]; simp [a2Y]
end
end Go.Pm.St
namespace Go.Pm.St
open Ac
theorem d1j : ∀ (l : List Int) (x : Int), (l.foldl min x = x \/ l.foldl min x ∈ l) /\ l.foldl min x <= x /\ ∀ y ∈ l, l.foldl min x <= y
 | [], x => ⟨.inl rfl, Int.le_refl _, fun y h => by simp at h⟩
 | z :: l, x => by
   obtain ⟨h1, h2, h3⟩ := d1j l (min x z)
   simp only [List.foldl_cons]
   refine ⟨?_, by omega, fun y hy => ?_⟩
   . rcases h1 with h1 | h1
     . rw [h1]
       by_cases h : x <= z
       . exact .inl (by omega)
       . refine .inr ?_
         rw [show min x z = z by omega]; simp
     . exact .inr (by simp [h1])
   . rcases List.mem_cons.1 hy with rfl | hy
     . omega
     . exact h3 y hy
theorem d1i : ∀ (l : List Int) (x : Int), (l.foldl max x = x \/ l.foldl max x ∈ l) /\ x <= l.foldl max x /\ ∀ y ∈ l, y <= l.foldl max x
 | [], x => ⟨.inl rfl, Int.le_refl _, fun y h => by simp at h⟩
 | z :: l, x => by
   obtain ⟨h1, h2, h3⟩ := d1i l (max x z)
   simp only [List.foldl_cons]
   refine ⟨?_, by omega, fun y hy => ?_⟩
   . rcases h1 with h1 | h1
     . rw [h1]
       by_cases h : z <= x
       . exact .inl (by omega)
       . refine .inr ?_
         rw [show max x z = z by omega]; simp
     . exact .inr (by simp [h1])
   . rcases List.mem_cons.1 hy with rfl | hy
     . omega
     . exact h3 y hy
theorem d1G {l : List Int} (h : l ≠ []) : b2a l ∈ l /\ ∀ y ∈ l, b2a l <= y := by
 cases l with
 | nil => exact absurd rfl h
 | cons x l =>
   obtain ⟨h1, h2, h3⟩ := d1j l x
   refine ⟨?_, fun y hy => ?_⟩
   . show l.foldl min x ∈ x :: l
     rcases h1 with h1 | h1
     . rw [h1]; simp
     . simp [h1]
   . rcases List.mem_cons.1 hy with rfl | hy
     . exact h2
     . exact h3 y hy
theorem d1B {l : List Int} (h : l ≠ []) : a9Z l ∈ l /\ ∀ y ∈ l, y <= a9Z l := by
 cases l with
 | nil => exact absurd rfl h
 | cons x l =>
   obtain ⟨h1, h2, h3⟩ := d1i l x
   refine ⟨?_, fun y hy => ?_⟩
   . show l.foldl max x ∈ x :: l
     rcases h1 with h1 | h1
     . rw [h1]; simp
     . simp [h1]
   . rcases List.mem_cons.1 hy with rfl | hy
     . exact h2
     . exact h3 y hy
abbrev Can (b : Book) (c : Cost) (st : Nat -> Int) : Prop := Way b (fun _ => false) c st
theorem d1Q {b : Book} (hs : Sane b) : b.now ≠ [] <-> ∃ c st, Can b c st := d1M hs
theorem d1L {b : Book} {but : Int -> Bool} {t : Truth} (h : t ∈ b.a3d but) : t.2 = b.strong t.1 but := by
 simp only [Book.a3d, List.mem_map] at h
 obtain ⟨c, -, rfl⟩ := h; rfl
theorem d1l {b : Book} (hs : Sane b) {i d : Nat} (hi : i < b.singers.length) {r : Nat -> Bool} {v : Int} : v ∈ alls b b.now i d r <-> ∃ c st, Can b c st /\ v = a2B b.days c (st i) r d := by
 simp only [alls, List.mem_flatMap, allOf, List.mem_map]
 constructor
 . rintro ⟨t, ht, n, hn, rfl⟩
   have h2 := d1L ht
   have hl : t.2[i]? = some (b.a1B t.1 i fun _ => false) := by rw [h2]; simp [Book.strong, hi]
   rw [hl, Option.getD_some] at hn
   obtain ⟨st, w, e⟩ := d1v hs ht hi hn
   exact ⟨t.1, st, w, by rw [e]⟩
 . rintro ⟨c, st, w, rfl⟩
   refine ⟨_, w.truth hs, st i, ?_, rfl⟩
   have : (b.strong c fun _ => false)[i]? = some (b.a1B c i fun _ => false) := by simp [Book.strong, hi]
   rw [this, Option.getD_some]
   exact w.mem hs hi
theorem d1C {b : Book} (hs : Sane b) (hne : b.now ≠ []) {i d : Nat} {r : Nat -> Bool} (hi : i < b.singers.length) : alls b b.now i d r ≠ [] := by
 obtain ⟨x, l, h⟩ := c0F (b7Z hs) hne (d := d) (r := r) hi
 rw [h]; simp
theorem d1A {b : Book} (hs : Sane b) (hne : b.now ≠ []) {i : Nat} (hi : i < b.singers.length) (d : Nat) (r : Nat -> Bool) :
   (∃ c st, Can b c st /\ b.low i d r = a2B b.days c (st i) r d) /\ ∀ c st, Can b c st -> b.low i d r <= a2B b.days c (st i) r d := by
 obtain ⟨h1, h2⟩ := d1G (d1C hs hne (d := d) (r := r) hi)
 exact ⟨(d1l hs hi).1 h1, fun c st w => h2 _ ((d1l hs hi).2 ⟨c, st, w, rfl⟩)⟩
theorem d1q {b : Book} (hs : Sane b) (hne : b.now ≠ []) {i : Nat} (hi : i < b.singers.length) (d : Nat) (r : Nat -> Bool) :
   (∃ c st, Can b c st /\ b.high i d r = a2B b.days c (st i) r d) /\ ∀ c st, Can b c st -> a2B b.days c (st i) r d <= b.high i d r := by
 obtain ⟨h1, h2⟩ := d1B (d1C hs hne (d := d) (r := r) hi)
 exact ⟨(d1l hs hi).1 h1, fun c st w => h2 _ ((d1l hs hi).2 ⟨c, st, w, rfl⟩)⟩
theorem d3I {b : Book} (hs : Sane b) {k v : Int} : v ∈ b.prs k <-> ∃ c st, Can b c st /\ v = c.at k := by
 simp only [Book.prs, List.mem_map]
 constructor
 . rintro ⟨t, ht, rfl⟩
   obtain ⟨l, hl, hne, -⟩ := (b7Z hs).get ht hs.s1
   have h2 := d1L ht
   have hl' : t.2[0]? = some (b.a1B t.1 0 fun _ => false) := by rw [h2]; simp only [Book.strong, List.getElem?_map, List.getElem?_range (show 0 < b.singers.length from hs.s1)]; rfl
   rw [hl'] at hl
   obtain ⟨n, hn⟩ := List.exists_mem_of_ne_nil _ hne
   rw [← Option.some.inj hl] at hn
   obtain ⟨st, w, -⟩ := d1v hs ht hs.s1 hn
   exact ⟨t.1, st, w, rfl⟩
 . rintro ⟨c, st, w, rfl⟩
   exact ⟨_, w.truth hs, rfl⟩
theorem d3P {b : Book} (hne : b.now ≠ []) (k : Int) : b.prs k ≠ [] := by simpa [Book.prs] using hne
theorem d3K {b : Book} (hs : Sane b) (hne : b.now ≠ []) (k : Int) : (∃ c st, Can b c st /\ b2a (b.prs k) = c.at k) /\ ∀ c st, Can b c st -> b2a (b.prs k) <= c.at k := by
 obtain ⟨h1, h2⟩ := d1G (d3P hne k)
 exact ⟨(d3I hs).1 h1, fun c st w => h2 _ ((d3I hs).2 ⟨c, st, w, rfl⟩)⟩
theorem d3J {b : Book} (hs : Sane b) (hne : b.now ≠ []) (k : Int) : (∃ c st, Can b c st /\ a9Z (b.prs k) = c.at k) /\ ∀ c st, Can b c st -> c.at k <= a9Z (b.prs k) := by
 obtain ⟨h1, h2⟩ := d1B (d3P hne k)
 exact ⟨(d3I hs).1 h1, fun c st w => h2 _ ((d3I hs).2 ⟨c, st, w, rfl⟩)⟩
theorem d3M {b : Book} (hv : b.valid = true) (hne : b.now ≠ []) {k : Int} (hk : within k 0 2 = true) : b.costs k = ((b2a (b.prs k), a9Z (b.prs k)), 0) := by
 have he : b.err (within k 0 2) = 0 := by rw [a5Z hv, hk]; cases h : b.now <;> simp_all
 simp only [Book.costs, if_pos he]
theorem d1K {b : Book} {i : Nat} {r : Nat -> Bool} : b.over i r = none <-> ∀ d, d < b.days.length -> ¬ b.low i d r < 0 := by
 rw [Book.over, a3y]; simp
theorem d1s {b : Book} {i p : Nat} {r : Nat -> Bool} : b.over i r = some p <-> p < b.days.length /\ b.low i p r < 0 /\ ∀ d, d < p -> ¬ b.low i d r < 0 := by
 rw [Book.over, a4j]; simp
end Go.Pm.St
namespace Go.Pm.St
open Ac
def Book.bare (b : Book) : Book := { b with kg := .nil, signs := [] }
def Book.lie (b : Book) (m : Rest) : Book := { b with kr := .shared, rests := b.rests ++ [m] }
def ownR (b : Book) (m : Rest) : List C := [.sl b.ks 2 (b.singers.map Span.c), ci b.c0.lo, ci b.c0.hi, ci b.c1.lo, ci b.c1.hi, ci b.c2.lo, ci b.c2.hi, .sl b.kd 3 (b.days.map Day.c), .own 2 (b.rests.map Rest.c ++ [m.c]), .sl b.kg 4 (b.signs.map Sign.c)]
@[go_sem] theorem d1T (b : Book) : b.c.set 9 (.sl .nil 4 []) = b.bare.c := nrfl rfl
@[go_sem] theorem d1O (b : Book) (m : Rest) : b.bare.c.set 8 (.own 2 (b.rests.map Rest.c ++ [m.c])) = ownR b.bare m := nrfl rfl
@[go_sem] theorem d1U (b : Book) (m : Rest) : a0R (ownR b m) 0 10 = some (ownR b m) := nrfl rfl
@[go_sem] theorem d1V (b : Book) (m : Rest) : (ownR b m).map a0r = (b.lie m).c := by
 simp [ownR, Book.lie, Book.c, a0r]
@[go_sem] theorem d1S (b : Book) (m : Rest) (n : Nat) : C.a0G n (ownR b m) = true := by simp [ownR, go_sem]
theorem d1t {b : Book} (hs : Sane b) : Sane b.bare :=
 ⟨hs.s1, hs.s3, hs.d1, hs.d5, hs.r6, by simp [Book.bare], hs.sp, hs.k0, hs.k1, hs.k2, hs.dy, hs.rs, fun y hy => by cases hy⟩
theorem d1n {b : Book} (h : b.signs = []) {c : Cost} {st : Nat -> Int} : Can b c st <-> b.c0.has c.p /\ b.c1.has c.f /\ b.c2.has c.n /\ ∀ (i : Nat) s, b.singers[i]? = some s -> s.has (st i) :=
 ⟨fun w => ⟨w.c0, w.c1, w.c2, w.str⟩, fun ⟨h0, h1, h2, h3⟩ => ⟨h0, h1, h2, h3, fun j x hx => by rw [h] at hx; cases hx⟩⟩
theorem d1D {b : Book} (hs : Sane b) (h : b.signs = []) : b.now ≠ [] := by
 rw [d1Q hs]
 refine ⟨⟨b.c0.lo, b.c1.lo, b.c2.lo⟩, fun i => ((b.singers[i]?).map Span.lo).getD 0, (d1n h).2 ⟨⟨Int.le_refl _, hs.k0.2.1⟩, ⟨Int.le_refl _, hs.k1.2.1⟩, ⟨Int.le_refl _, hs.k2.2.1⟩, fun i s hi => ?_⟩⟩
 rw [hi]
 exact ⟨Int.le_refl _, (hs.sp s (List.mem_of_getElem? hi)).2.1⟩
section
variable {Γ : Env} [P04 Γ] [G04 Γ]
end
end Go.Pm.St
namespace Go.Pm.St
open Ac
section
variable {Γ : Env} [P04 Γ] [G04 Γ]
end
end Go.Pm.St
namespace Go.Pm.St
open Ac
def Book.price (b : Book) (k : Int) (v : Int) : Book := { b with c0 := if k = 0 then ⟨v, v⟩ else b.c0, c1 := if k = 1 then ⟨v, v⟩ else b.c1, c2 := if k = 2 then ⟨v, v⟩ else b.c2 }
@[go_sem] theorem d4s (b : Book) (v : Int) : (b.c.set 1 (ci v)).set 2 (ci v) = (b.price 0 v).c := nrfl rfl
@[go_sem] theorem d4t (b : Book) (v : Int) : (b.c.set 3 (ci v)).set 4 (ci v) = (b.price 1 v).c := nrfl rfl
@[go_sem] theorem d4u (b : Book) (v : Int) : (b.c.set 5 (ci v)).set 6 (ci v) = (b.price 2 v).c := nrfl rfl
def Book.reads (b : Book) (i d : Nat) (v : Int) : Bool := !(b.add ⟨i, d, v, 0⟩).now.isEmpty
section
variable {Γ : Env} [P04 Γ] [G04 Γ]
end
end Go.Pm.St
namespace Go.Pm.St
open Ac
theorem d8A {s : Span} (n : Int) (h : s.lo <= s.hi) : s.has (drawn s n) := by
 have := c1x n (s.hi - s.lo + 1) (by omega)
 simp only [drawn, Span.has]; omega
def Book.d8f (b : Book) (l : List Int) : Cost := ⟨drawn b.c0 (d8d l 0), drawn b.c1 (d8d l 1), drawn b.c2 (d8d l 2)⟩
def Book.tstr (b : Book) (l : List Int) (i : Nat) : Int := match b.singers[i]? with | some s => drawn s (d8d l ((i : Int) + 1)) | none => 0
def strL (b : Book) (l : List Int) (m : Nat) : List Int := (List.range m).map fun i => b.tstr l i
theorem d9A (b : Book) (l : List Int) (m : Nat) : strL b l (m + 1) = strL b l m ++ [b.tstr l m] := by simp [strL, List.range_succ]
theorem d9I (b : Book) (l : List Int) (m : Nat) : (strL b l m).length = m := by simp [strL]
theorem d9H (b : Book) (l : List Int) {m i : Nat} (h : i < m) : (strL b l m)[i]? = some (b.tstr l i) := by simp [strL, h]
theorem d8I {b : Book} (hs : Sane b) (l : List Int) : b.c0.has (b.d8f l).p /\ b.c1.has (b.d8f l).f /\ b.c2.has (b.d8f l).n :=
 ⟨d8A _ hs.k0.2.1, d8A _ hs.k1.2.1, d8A _ hs.k2.2.1⟩
theorem d8P {b : Book} (hs : Sane b) (l : List Int) (i : Nat) (s : Span) (h : b.singers[i]? = some s) : s.has (b.tstr l i) := by
 simp only [Book.tstr, h]
 exact d8A _ (hs.sp s (List.mem_of_getElem? h)).2.1
def d8e (b : Book) (l : List Int) : List C := [ci (b.d8f l).p, ci (b.d8f l).f, ci (b.d8f l).n, .sl (kS (li (strL b l b.singers.length))) 1 (li (strL b l b.singers.length))]
section
variable {Γ : Env} [P04 Γ] [G04 Γ]
theorem d9C (n below : Int) (hb : below <= 9223372036854775807) : K Γ (.fn 27) [vi n, vi below] [] = some (vi (turn n below), []) := by
 rw [K_fn P04.f27 _ _ rfl]
 by_cases h : below < 1
 . have hd := decide_eq_true h
   (simp only [go_sem, simprocAttr, a2U, hd, turn, h]; repeat' (first | ((first | refine brY ?_ | refine brN ?_ | refine brA ?_ | refine brD ?_ | refine brF ?_ | ((first | apply a0k | apply a0j); (. intro h; simp only [go_sem, simprocAttr, a0p h, a2U, hd, turn, h]; exact rfl))); (try simp only [go_sem, simprocAttr, a2U, hd, turn, h])) | ((first | apply a0e | apply d7E | apply a0a) <;> intro h <;> (try simp only [go_sem, simprocAttr, h, a2U, hd, turn, h]))))
 . have hd := decide_eq_false h
   have hz : decide (below = 0) = false := decide_eq_false (by omega)
   have h1 := Int.tmod_lt_of_pos n (show 0 < below by omega)
   have h2 : -below < n.tmod below := by
     have := Int.tmod_lt_of_pos (-n) (show 0 < below by omega)
     rw [Int.neg_tmod] at this; omega
   by_cases hneg : n.tmod below < 0
   . have hd2 := decide_eq_true hneg
     have hw : IntKind.i64.wrap (n.tmod below + below) = n.tmod below + below := wrap_i64 (by omega) (by omega)
     (simp only [go_sem, simprocAttr, a2U, hd, hz, hd2, hw, turn, h, hneg]; repeat' (first | ((first | refine brY ?_ | refine brN ?_ | refine brA ?_ | refine brD ?_ | refine brF ?_ | ((first | apply a0k | apply a0j); (. intro h; simp only [go_sem, simprocAttr, a0p h, a2U, hd, hz, hd2, hw, turn, h, hneg]; exact rfl))); (try simp only [go_sem, simprocAttr, a2U, hd, hz, hd2, hw, turn, h, hneg])) | ((first | apply a0e | apply d7E | apply a0a) <;> intro h <;> (try simp only [go_sem, simprocAttr, h, a2U, hd, hz, hd2, hw, turn, h, hneg]))))
   . have hd2 := decide_eq_false hneg
     (simp only [go_sem, simprocAttr, a2U, hd, hz, hd2, turn, h, hneg]; repeat' (first | ((first | refine brY ?_ | refine brN ?_ | refine brA ?_ | refine brD ?_ | refine brF ?_ | ((first | apply a0k | apply a0j); (. intro h; simp only [go_sem, simprocAttr, a0p h, a2U, hd, hz, hd2, turn, h, hneg]; exact rfl))); (try simp only [go_sem, simprocAttr, a2U, hd, hz, hd2, turn, h, hneg])) | ((first | apply a0e | apply d7E | apply a0a) <;> intro h <;> (try simp only [go_sem, simprocAttr, h, a2U, hd, hz, hd2, turn, h, hneg]))))
theorem d9e (k : SK) (l : List Int) (n : Int) (hl : l.length <= 9223372036854775807) : K Γ (.fn 63) [.sc (.sl k 1 (l.map fun x => [ci x])), vi n] [] = some (vi (d8d l n), []) := by
 have hT := d9C (Γ := Γ) n l.length (by omega)
 rw [K_fn P04.f63 _ _ rfl]
 by_cases h : l = []
 . subst h
   (simp only [go_sem, simprocAttr, d7V, d8d, List.map_nil, List.length_nil]; repeat' (first | ((first | refine brY ?_ | refine brN ?_ | refine brA ?_ | refine brD ?_ | refine brF ?_ | ((first | apply a0k | apply a0j); (. intro h; simp only [go_sem, simprocAttr, a0p h, d7V, d8d, List.map_nil, List.length_nil]; exact rfl))); (try simp only [go_sem, simprocAttr, d7V, d8d, List.map_nil, List.length_nil])) | ((first | apply a0e | apply d7E | apply a0a) <;> intro h <;> (try simp only [go_sem, simprocAttr, h, d7V, d8d, List.map_nil, List.length_nil]))))
 . have hp : l.length ≠ 0 := fun e => h (List.length_eq_zero_iff.1 e)
   have hz : decide ((l.length : Int) = 0) = false := decide_eq_false (by omega)
   have ht := c1x n l.length (by omega)
   have hg : l[(turn n l.length).toNat]? = some (l.getD (turn n l.length).toNat 0) := by
     simp only [List.getD, List.getElem?_eq_getElem (show (turn n l.length).toNat < l.length by omega), Option.getD_some]
   (simp only [go_sem, simprocAttr, d7V, hz, hT, hg, d8d, h]; repeat' (first | ((first | refine brY ?_ | refine brN ?_ | refine brA ?_ | refine brD ?_ | refine brF ?_ | ((first | apply a0k | apply a0j); (. intro h; simp only [go_sem, simprocAttr, a0p h, d7V, hz, hT, hg, d8d, h]; exact rfl))); (try simp only [go_sem, simprocAttr, d7V, hz, hT, hg, d8d, h])) | ((first | apply a0e | apply d7E | apply a0a) <;> intro h <;> (try simp only [go_sem, simprocAttr, h, d7V, hz, hT, hg, d8d, h]))))
theorem d9J (b : Book) [hb : b.Fits] (hs : Sane b) (k : SK) (l : List Int) (hl : l.length <= 9223372036854775807) (z : Obj) (hz : z.under 3 = true) (p f n : Int) {β : Type} (Q : Ex -> St -> Option β) :
   E Γ d8F ⟨[(1, .sc (.sl k 1 (l.map fun x => [ci x]))), (2, .sc (.ptr 0 0)), (4, .sc (.ptr 1 0)), (5, .sc (.ptr 2 0)), (7, vi 0)], [.var b.c, z, .var [ci p, ci f, ci n, .sl .nil 1 []]]⟩ Q =
   Q (.exit 2) ⟨[(1, .sc (.sl k 1 (l.map fun x => [ci x]))), (2, .sc (.ptr 0 0)), (4, .sc (.ptr 1 0)), (5, .sc (.ptr 2 0)), (7, vi b.singers.length), (28, vb false)], [.var b.c, z, .var [ci p, ci f, ci n, ownC 1 (li (strL b l b.singers.length))]]⟩ := by
 have hs3 := hs.s3
 refine a4q b.singers.length (fun i (_ : Unit) => ⟨[(1, .sc (.sl k 1 (l.map fun x => [ci x]))), (2, .sc (.ptr 0 0)), (4, .sc (.ptr 1 0)), (5, .sc (.ptr 2 0)), (7, vi i)], [.var b.c, z, .var [ci p, ci f, ci n, ownC 1 (li (strL b l i))]]⟩) (fun _ _ => True)
   (fun _ => (.exit 2, ⟨[(1, .sc (.sl k 1 (l.map fun x => [ci x]))), (2, .sc (.ptr 0 0)), (4, .sc (.ptr 1 0)), (5, .sc (.ptr 2 0)), (7, vi b.singers.length), (28, vb false)], [.var b.c, z, .var [ci p, ci f, ci n, ownC 1 (li (strL b l b.singers.length))]]⟩)) () rfl trivial ?_ ?_ (fun _ _ => rfl)
 . intro i _ hi _
   refine ⟨(), trivial, ?_⟩
   obtain ⟨s, hx⟩ : ∃ s, b.singers[i]? = some s := ⟨_, List.getElem?_eq_getElem hi⟩
   have hsp := hs.sp s (List.mem_of_getElem? hx)
   have hlt := decide_eq_true (show (i : Int) < b.singers.length by omega)
   have hiw : IntKind.i64.wrap ((i : Int) + 1) = i + 1 := wrap_i64 (by omega) (by omega)
   have hN := d9e (Γ := Γ) k l ((i : Int) + 1) hl
   have hD := d8R (Γ := Γ) s (d8d l ((i : Int) + 1)) (by omega) (by omega)
   have ht : drawn s (d8d l ((i : Int) + 1)) = b.tstr l i := by simp only [Book.tstr, hx]
   rw [ht] at hD
   change K Γ (.fn 64) [.agg s.c, vi (d8d l ((i : Int) + 1))] [] = _ at hD
   have hA := a2K 1 (li (strL b l i)) .full [ci (b.tstr l i)] (by rw [b7L, d9I]; simp only [room]; omega)
   have hbv : ∀ n, V.under n (.sc (.sl k 1 (l.map fun x => [ci x]))) = true := fun n => rfl
   rw [d9A, b3j]
   (simp only [go_sem, simprocAttr, d8c, hx, hlt, hiw, hN, hD, hA, hz, hbv]; repeat' (first | ((first | refine brY ?_ | refine brN ?_ | refine brA ?_ | refine brD ?_ | refine brF ?_ | ((first | apply a0k | apply a0j); (. intro h; simp only [go_sem, simprocAttr, a0p h, d8c, hx, hlt, hiw, hN, hD, hA, hz, hbv]; exact rfl))); (try simp only [go_sem, simprocAttr, d8c, hx, hlt, hiw, hN, hD, hA, hz, hbv])) | ((first | apply a0e | apply d7E | apply a0a) <;> intro h <;> (try simp only [go_sem, simprocAttr, h, d8c, hx, hlt, hiw, hN, hD, hA, hz, hbv]))))
   rfl
 . intro _ _
   have hlt := decide_eq_false (show ¬ (b.singers.length : Int) < b.singers.length by omega)
   (simp only [go_sem, simprocAttr, d8c, hlt]; repeat' (first | ((first | refine brY ?_ | refine brN ?_ | refine brA ?_ | refine brD ?_ | refine brF ?_ | ((first | apply a0k | apply a0j); (. intro h; simp only [go_sem, simprocAttr, a0p h, d8c, hlt]; exact rfl))); (try simp only [go_sem, simprocAttr, d8c, hlt])) | ((first | apply a0e | apply d7E | apply a0a) <;> intro h <;> (try simp only [go_sem, simprocAttr, h, d8c, hlt]))))
theorem d9X (b : Book) [hb : b.Fits] (hs : Sane b) (k : SK) (l : List Int) (hl : l.length <= 9223372036854775807) : K Γ (.fn 214) [.agg b.c, .sc (.sl k 1 (l.map fun x => [ci x]))] [] = some (.agg (d8e b l), []) := by
 have k0 := hs.k0; have k1 := hs.k1; have k2 := hs.k2
 have hN (n : Int) := d9e (Γ := Γ) k l n hl
 have d0 := d8R (Γ := Γ) b.c0 (d8d l 0) (by omega) (by omega)
 have d1 := d8R (Γ := Γ) b.c1 (d8d l 1) (by omega) (by omega)
 have d2 := d8R (Γ := Γ) b.c2 (d8d l 2) (by omega) (by omega)
 have e0 : drawn b.c0 (d8d l 0) = (b.d8f l).p := rfl
 have e1 : drawn b.c1 (d8d l 1) = (b.d8f l).f := rfl
 have e2 : drawn b.c2 (d8d l 2) = (b.d8f l).n := rfl
 rw [e0] at d0; rw [e1] at d1; rw [e2] at d2
 have hL1 {β : Type} (z : Obj) (hz : z.under 3 = true) (p f n : Int) (Q : Ex -> St -> Option β) := d9J (Γ := Γ) b hs k l hl z hz p f n Q
 have hu := a9I 1 (li (strL b l b.singers.length))
 rw [K_fn P04.f214 _ _ rfl]
 (simp only [go_sem, simprocAttr, d8j, d8q, d8p, a1J, hN, d0, d1, d2, hL1, hu, d8e]; repeat' (first | ((first | refine brY ?_ | refine brN ?_ | refine brA ?_ | refine brD ?_ | refine brF ?_ | ((first | apply a0k | apply a0j); (. intro h; simp only [go_sem, simprocAttr, a0p h, d8j, d8q, d8p, a1J, hN, d0, d1, d2, hL1, hu, d8e]; exact rfl))); (try simp only [go_sem, simprocAttr, d8j, d8q, d8p, a1J, hN, d0, d1, d2, hL1, hu, d8e])) | ((first | apply a0e | apply d7E | apply a0a) <;> intro h <;> (try simp only [go_sem, simprocAttr, h, d8j, d8q, d8p, a1J, hN, d0, d1, d2, hL1, hu, d8e]))))
end
end Go.Pm.St
namespace Go.Pm.St
open Ac
def lfL (b : Book) (c : Cost) (s : Int) (r : Nat -> Bool) (m : Nat) : List Int := (List.range m).map fun d => a2B b.days c s r d
theorem d9E (b : Book) (c : Cost) (s : Int) (r : Nat -> Bool) (m : Nat) : lfL b c s r (m + 1) = lfL b c s r m ++ [a2B b.days c s r m] := by simp [lfL, List.range_succ]
theorem d8N (b : Book) (c : Cost) (s : Int) (r : Nat -> Bool) (m : Nat) : (lfL b c s r m).length = m := by simp [lfL]
theorem d8W (b : Book) (c : Cost) (s : Int) (r : Nat -> Bool) {m d : Nat} (h : d < m) : (lfL b c s r m)[d]? = some (a2B b.days c s r d) := by simp [lfL, h]
section
variable {Γ : Env} [P04 Γ] [G04 Γ]
theorem d9f (b : Book) [hb : b.Fits] (hs : Sane b) (l : List Int) (k : SK) (plan : List Rest) (hp : plan.length <= 1000000) (i : Nat) (hi : i < b.singers.length) :
   K Γ (.fn 216) [.agg b.c, .agg (d8e b l), .sc (.sl k 2 (plan.map Rest.c)), vi i] [] =
     some (.sc (.sl (kF (li (lfL b (b.d8f l) (b.tstr l i) (fun e : Nat => b.a5g plan i e) b.days.length))) 1 (li (lfL b (b.d8f l) (b.tstr l i) (fun e : Nat => b.a5g plan i e) b.days.length))), []) := by
 have hd5 := hs.d5
 have k0 := hs.k0; have k1 := hs.k1; have k2 := hs.k2
 obtain ⟨h0, h1, h2⟩ := d8I hs l
 have b0 := h0; have b1 := h1; have b2 := h2
 simp only [Span.has] at b0 b1 b2
 have hst := d8P hs l i _ (List.getElem?_eq_getElem hi)
 have hsp := hs.sp _ (List.getElem_mem hi)
 simp only [Span.has] at hst
 have hget := d9H b l hi
 obtain ⟨s, hsE⟩ : ∃ s, b.tstr l i = s := ⟨_, rfl⟩
 obtain ⟨r, hr⟩ : ∃ r : Nat -> Bool, (fun e : Nat => b.a5g plan i e) = r := ⟨_, rfl⟩
 have hre : ∀ e : Nat, b.a5g plan i e = r e := fun e => by rw [← hr]
 rw [hsE] at hget hst
 rw [hr, hsE]
 obtain ⟨c, hc⟩ : ∃ c, b.d8f l = c := ⟨_, rfl⟩
 have hkn : d8e b l = [ci c.p, ci c.f, ci c.n, .sl (kS (li (strL b l b.singers.length))) 1 (li (strL b l b.singers.length))] := by rw [d8e, hc]
 rw [hkn, hc]
 rw [hc] at h0 h1 h2 b0 b1 b2
 have hL {β : Type} (Q : Ex -> St -> Option β) : E Γ d8E ⟨[(2, .sc (.sl k 2 (plan.map Rest.c))), (3, vi i), (4, .sc (.ptr 0 0)), (5, .sc (.ptr 1 0)), (9, .sc (.sl .full 1 [])), (10, vi s), (11, vi s), (12, vi 0)], [.var b.c, .var [ci c.p, ci c.f, ci c.n, .sl (kS (li (strL b l b.singers.length))) 1 (li (strL b l b.singers.length))]]⟩ Q =
     Q (.exit 0) ⟨[(2, .sc (.sl k 2 (plan.map Rest.c))), (3, vi i), (4, .sc (.ptr 0 0)), (5, .sc (.ptr 1 0)), (9, .sc (ownF 1 (li (lfL b c s r b.days.length)))), (10, vi s), (11, vi (nowAt b.days c s r b.days.length)), (12, vi b.days.length), (24, vb false)], [.var b.c, .var [ci c.p, ci c.f, ci c.n, .sl (kS (li (strL b l b.singers.length))) 1 (li (strL b l b.singers.length))]]⟩ := by
   refine a4q b.days.length (fun d (_ : Unit) => ⟨[(2, .sc (.sl k 2 (plan.map Rest.c))), (3, vi i), (4, .sc (.ptr 0 0)), (5, .sc (.ptr 1 0)), (9, .sc (ownF 1 (li (lfL b c s r d)))), (10, vi s), (11, vi (nowAt b.days c s r d)), (12, vi d)], [.var b.c, .var [ci c.p, ci c.f, ci c.n, .sl (kS (li (strL b l b.singers.length))) 1 (li (strL b l b.singers.length))]]⟩) (fun _ _ => True)
     (fun _ => (.exit 0, ⟨[(2, .sc (.sl k 2 (plan.map Rest.c))), (3, vi i), (4, .sc (.ptr 0 0)), (5, .sc (.ptr 1 0)), (9, .sc (ownF 1 (li (lfL b c s r b.days.length)))), (10, vi s), (11, vi (nowAt b.days c s r b.days.length)), (12, vi b.days.length), (24, vb false)], [.var b.c, .var [ci c.p, ci c.f, ci c.n, .sl (kS (li (strL b l b.singers.length))) 1 (li (strL b l b.singers.length))]]⟩)) () rfl trivial ?_ ?_ (fun _ _ => rfl)
   . intro d _ hd _
     refine ⟨(), trivial, ?_⟩
     obtain ⟨x, hx⟩ : ∃ x, b.days[d]? = some x := ⟨_, List.getElem?_eq_getElem hd⟩
     have hlt := decide_eq_true (show (d : Int) < b.days.length by omega)
     have hiw : IntKind.i64.wrap ((d : Int) + 1) = ((d + 1 : Nat) : Int) := by rw [wrap_i64 (by omega) (by omega)]; omega
     have hxd := hs.dy x (List.mem_of_getElem? hx)
     have hpk := b9r (Γ := Γ) b k plan hp (i : Nat) (d : Nat)
     rw [hre] at hpk
     have n1 := b1e hs h0 h1 h2 (s := s) (by omega) (r := r) d
     have n2 := b1f (l := b.days) (c := c) (s := s) (r := r) d
     have m1 : x.plain * c.p <= 2 * 6 := Int.mul_le_mul (by omega) (by omega) (by omega) (by omega)
     have m2 : x.full * c.f <= 2 * 6 := Int.mul_le_mul (by omega) (by omega) (by omega) (by omega)
     have p1 := Int.mul_nonneg hxd.1.1 (show 0 <= c.p by omega)
     have p2 := Int.mul_nonneg hxd.2.1.1 (show 0 <= c.f by omega)
     have hla : a2B b.days c s r d = x.after c (r d) (nowAt b.days c s r d) := by simp only [a2B, hx]
     have hna := b6H (l := b.days) (c := c) (s := s) (r := r) hd
     rw [hna, d9E, b3j, d3p, hla]
     have hA (v : Int) := d1w 1 .full (li (lfL b c s r d)) [ci v] (by rw [b7L, d8N]; simp only [room]; omega)
     generalize nowAt b.days c s r d = now at *
     have w1 : IntKind.i64.wrap (x.plain * c.p) = x.plain * c.p := wrap_i64 (by omega) (by omega)
     have w2 : IntKind.i64.wrap (x.full * c.f) = x.full * c.f := wrap_i64 (by omega) (by omega)
     have w3 : IntKind.i64.wrap (x.plain * c.p + x.full * c.f) = x.plain * c.p + x.full * c.f := wrap_i64 (by omega) (by omega)
     have w4 : IntKind.i64.wrap (now - (x.plain * c.p + x.full * c.f)) = now - x.plain * c.p - x.full * c.f := by rw [wrap_i64 (by omega) (by omega)]; omega
     have w5 : IntKind.i64.wrap (now - x.plain * c.p - x.full * c.f + c.n) = now - x.plain * c.p - x.full * c.f + c.n := wrap_i64 (by omega) (by omega)
     have w6 : IntKind.i64.wrap (now + c.n) = now + c.n := wrap_i64 (by omega) (by omega)
     cases hrr : r d with
     | true => rw [hrr] at hpk; (simp only [go_sem, simprocAttr, d7W, hx, hlt, hiw, hpk, hA, w6, Day.after]; repeat' (first | ((first | refine brY ?_ | refine brN ?_ | refine brA ?_ | refine brD ?_ | refine brF ?_ | ((first | apply a0k | apply a0j); (. intro h; simp only [go_sem, simprocAttr, a0p h, d7W, hx, hlt, hiw, hpk, hA, w6, Day.after]; exact rfl))); (try simp only [go_sem, simprocAttr, d7W, hx, hlt, hiw, hpk, hA, w6, Day.after])) | ((first | apply a0e | apply d7E | apply a0a) <;> intro h <;> (try simp only [go_sem, simprocAttr, h, d7W, hx, hlt, hiw, hpk, hA, w6, Day.after]))))
     | false => rw [hrr] at hpk; (simp only [go_sem, simprocAttr, d7W, hx, hlt, hiw, hpk, hA, w1, w2, w3, w4, w5, Day.after, Bool.false_eq_true]; repeat' (first | ((first | refine brY ?_ | refine brN ?_ | refine brA ?_ | refine brD ?_ | refine brF ?_ | ((first | apply a0k | apply a0j); (. intro h; simp only [go_sem, simprocAttr, a0p h, d7W, hx, hlt, hiw, hpk, hA, w1, w2, w3, w4, w5, Day.after, Bool.false_eq_true]; exact rfl))); (try simp only [go_sem, simprocAttr, d7W, hx, hlt, hiw, hpk, hA, w1, w2, w3, w4, w5, Day.after, Bool.false_eq_true])) | ((first | apply a0e | apply d7E | apply a0a) <;> intro h <;> (try simp only [go_sem, simprocAttr, h, d7W, hx, hlt, hiw, hpk, hA, w1, w2, w3, w4, w5, Day.after, Bool.false_eq_true]))))
   . intro _ _
     have hlt := decide_eq_false (show ¬ (b.days.length : Int) < b.days.length by omega)
     (simp only [go_sem, simprocAttr, d7W, hlt]; repeat' (first | ((first | refine brY ?_ | refine brN ?_ | refine brA ?_ | refine brD ?_ | refine brF ?_ | ((first | apply a0k | apply a0j); (. intro h; simp only [go_sem, simprocAttr, a0p h, d7W, hlt]; exact rfl))); (try simp only [go_sem, simprocAttr, d7W, hlt])) | ((first | apply a0e | apply d7E | apply a0a) <;> intro h <;> (try simp only [go_sem, simprocAttr, h, d7W, hlt]))))
 have hu := d3j 1 (li (lfL b c s r b.days.length))
 rw [K_fn P04.f216 _ _ rfl]
 (simp only [go_sem, simprocAttr, d8i, hget, Option.map_some, hL, hu]; repeat' (first | ((first | refine brY ?_ | refine brN ?_ | refine brA ?_ | refine brD ?_ | refine brF ?_ | ((first | apply a0k | apply a0j); (. intro h; simp only [go_sem, simprocAttr, a0p h, d8i, hget, Option.map_some, hL, hu]; exact rfl))); (try simp only [go_sem, simprocAttr, d8i, hget, Option.map_some, hL, hu])) | ((first | apply a0e | apply d7E | apply a0a) <;> intro h <;> (try simp only [go_sem, simprocAttr, h, d8i, hget, Option.map_some, hL, hu]))))
end
end Go.Pm.St
namespace Go.Pm.St
open Ac
def Incr (f n : Int) : List Int -> Prop
 | [] => True
 | x :: xs => f <= x /\ x < n /\ Incr (x + 1) n xs
theorem Incr.mem {n : Int} : ∀ {f : Int} {l : List Int}, Incr f n l -> ∀ x, x ∈ l -> f <= x /\ x < n
 | f, [], _, x, h => by simp at h
 | f, y :: l, hi, x, h => by
   obtain ⟨h1, h2, h3⟩ := hi
   rcases List.mem_cons.1 h with rfl | h
   . exact ⟨h1, h2⟩
   . have := h3.mem x h; omega
theorem d3e {n : Int} : ∀ {f : Int} {l : List Int}, (∀ x, x ∈ l -> f <= x /\ x < n) -> l.Pairwise (. < ·) -> Incr f n l
 | f, [], _, _ => trivial
 | f, x :: l, h, hp => by
   rw [List.pairwise_cons] at hp
   have hx := h x (by simp)
   exact ⟨hx.1, hx.2, d3e (fun y hy => ⟨by have := hp.1 y hy; omega, (h y (by simp [hy])).2⟩) hp.2⟩
def before : List Int -> List Int -> Bool
 | [], [] => false
 | [], _ :: _ => true
 | _ :: _, [] => false
 | x :: xs, y :: ys => if x = y then before xs ys else decide (x < y)
theorem d2Q {α : Type} (p : α -> Bool) : ∀ (l : List α) (n m : Nat), (a0z (fun _ x => p x) n l).map Prod.snd = (a0z (fun _ x => p x) m l).map Prod.snd
 | [], _, _ => rfl
 | x :: l, n, m => by
   by_cases h : p x = true
   . simp only [a0z, h, if_true, Option.map_some]
   . simp only [a0z, h, if_false]; exact d2Q p l (n + 1) (m + 1)
theorem d3a (l m : List Int) (n : Nat) : earlier l m = match (a0z (fun _ (p : Int × Int) => decide (p.1 ≠ p.2)) n (l.zip m)).map Prod.snd with | some p => decide (p.1 < p.2) | none => decide ((l.length : Int) < m.length) := by
 rw [d2Q (fun p : Int × Int => decide (p.1 ≠ p.2)) (l.zip m) n 0]
 unfold earlier
 cases a0z (fun _ (p : Int × Int) => decide (p.1 ≠ p.2)) 0 (l.zip m) with
 | none => rfl
 | some q => rfl
theorem d2P : ∀ (l m : List Int), earlier l m = before l m
 | [], [] => rfl
 | [], y :: ys => by simp [earlier, a0z, before]; try omega
 | x :: xs, [] => by simp [earlier, a0z, before]; try omega
 | x :: xs, y :: ys => by
   have ih := d2P xs ys
   rw [d3a xs ys 1] at ih
   rw [d3a (x :: xs) (y :: ys) 0]
   simp only [List.zip_cons_cons, a0z, before]
   by_cases h : x = y
   . have d : decide (x ≠ y) = false := decide_eq_false (fun e => e h)
     simp only [d, Bool.false_eq_true, if_false, if_pos h, Nat.zero_add]
     rw [← ih]
     cases (a0z (fun _ (p : Int × Int) => decide (p.1 ≠ p.2)) 1 (xs.zip ys)).map Prod.snd with
     | none => simp only [List.length_cons, decide_eq_decide]; omega
     | some p => rfl
   . have d : decide (x ≠ y) = true := decide_eq_true h
     simp only [d, if_true, Option.map_some, if_neg h]
theorem d2O (l : List Int) (x : Int) : a2r (l ++ [x]) = x + 1 := by
 have : l ++ [x] ≠ [] := by simp
 simp [a2r]
def Book.but (b : Book) (l : List Int) : List Truth := b.a3d fun n => l.contains n
theorem choose_spec (b : Book) : ∀ (r : Nat) (l : List Int),
   ((b.choose r l).2 = true -> ∃ e, (b.choose r l).1 = l ++ e /\ e.length = r /\ Incr (a2r l) b.signs.length e /\ b.but (l ++ e) ≠ [] /\ ∀ e', e'.length = r -> Incr (a2r l) b.signs.length e' -> b.but (l ++ e') ≠ [] -> before e' e = false) ∧
   ((b.choose r l).2 = false -> ∀ e', e'.length = r -> Incr (a2r l) b.signs.length e' -> b.but (l ++ e') = [])
 | 0, l => by
   refine ⟨fun h => ?_, fun h => ?_⟩
   . have h' : (!(b.but l).isEmpty) = true := h
     have hn : b.but l ≠ [] := fun e => by rw [e] at h'; cases h'
     exact ⟨[], by simp [Book.choose], rfl, trivial, by simpa using hn, fun e' he' _ _ => by cases e' with | nil => rfl | cons => simp at he'⟩
   . intro e' he' _
     have h' : (!(b.but l).isEmpty) = false := h
     cases e' with
     | nil => cases hq : b.but l with
       | nil => simpa using hq
       | cons x xs => rw [hq] at h'; cases h'
     | cons => simp at he'
 | r + 1, l => by
   have hr : ∀ i : Nat, i < (b.signs.length - a2r l).toNat -> (List.range (b.signs.length - a2r l).toNat)[i]? = some i := fun i hi => List.getElem?_range hi
   cases hf : a0z (fun i _ => (b.choose r (l ++ [a2r l + (i : Nat)])).2) 0 (List.range (b.signs.length - a2r l).toNat) with
   | none =>
     have hc : b.choose (r + 1) l = ([], false) := by simp only [Book.choose, hf]
     rw [hc]
     refine ⟨fun h => (by cases h), fun _ e' he' hi => ?_⟩
     cases e' with
     | nil => simp at he'
     | cons x xs =>
       obtain ⟨h1, h2, h3⟩ := hi
       have hx : x = a2r l + ((x - a2r l).toNat : Int) := by omega
       have := a2L.1 hf (x - a2r l).toNat _ (hr _ (by omega))
       rw [Nat.zero_add, ← hx] at this
       have hq := (choose_spec b r (l ++ [x])).2 this xs (by simpa using he') (by rw [d2O]; exact h3)
       simpa using hq
   | some q =>
     obtain ⟨i, j⟩ := q
     obtain ⟨-, g2, g3, g4⟩ := a3F hf
     have hil : i < (b.signs.length - a2r l).toNat := by have := (List.getElem?_eq_some_iff.1 g2).1; simp at this; omega
     have hc : b.choose (r + 1) l = ((b.choose r (l ++ [a2r l + (i : Nat)])).1, true) := by simp only [Book.choose, hf]
     rw [hc]
     refine ⟨fun _ => ?_, fun h => (by cases h)⟩
     obtain ⟨e, h1, h2, h3, h4, h5⟩ := (choose_spec b r (l ++ [a2r l + (i : Nat)])).1 g3
     rw [d2O] at h3 h5
     refine ⟨(a2r l + (i : Nat)) :: e, by rw [h1]; simp, by simp [h2], ⟨by omega, by omega, h3⟩, by simpa using h4, ?_⟩
     intro e' he' hi' ht'
     cases e' with
     | nil => simp at he'
     | cons x xs =>
       obtain ⟨k1, k2, k3⟩ := hi'
       simp only [before]
       by_cases hxe : x = a2r l + (i : Nat)
       . rw [if_pos hxe]
         subst hxe
         exact h5 xs (by simpa using he') k3 (by simpa using ht')
       . rw [if_neg hxe]
         by_cases hlt : x < a2r l + (i : Nat)
         . have hx : x = a2r l + ((x - a2r l).toNat : Int) := by omega
           have := g4 (x - a2r l).toNat _ (by omega) (hr _ (by omega))
           rw [Nat.zero_add, ← hx] at this
           have hq := (choose_spec b r (l ++ [x])).2 this xs (by simpa using he') (by rw [d2O]; exact k3)
           exact absurd (by simpa using hq) ht'
         . exact decide_eq_false hlt
theorem d3r {b : Book} (hs : Sane b) : b.but ((List.range b.signs.length).map fun (j : Nat) => (j : Int)) ≠ [] := by
 rw [Book.but, d1M hs]
 obtain ⟨c, st, w⟩ := (d1Q (d1t hs)).1 (d1D (d1t hs) rfl)
 refine ⟨c, st, w.c0, w.c1, w.c2, w.str, fun i x hx hb => ?_⟩
 have : ((List.range b.signs.length).map fun (j : Nat) => (j : Int)).contains (i : Int) = true := by
   rw [List.contains_iff_mem, List.mem_map]
   exact ⟨i, List.mem_range.2 (List.getElem?_eq_some_iff.1 hx).1, rfl⟩
 rw [this] at hb; cases hb
theorem d3l {b : Book} (hv : b.valid = true) : b.wrong.2 = 0 /\ Incr 0 b.signs.length b.wrong.1 /\ b.but b.wrong.1 ≠ [] /\ b.wrong.1.length <= b.signs.length ∧
   ∀ l, Incr 0 b.signs.length l -> b.but l ≠ [] -> shorter l b.wrong.1 = false := by
 have hall : (b.choose b.signs.length []).2 = true := by
   cases h : (b.choose b.signs.length []).2 with
   | true => rfl
   | false =>
     have := (choose_spec b b.signs.length []).2 h ((List.range b.signs.length).map fun (j : Nat) => (j : Int)) (by simp) (d3e (fun x hx => by
       simp only [List.mem_map, List.mem_range] at hx
       obtain ⟨j, hj, rfl⟩ := hx
       simp [a2r]; omega) (by rw [List.pairwise_map]; exact List.pairwise_lt_range.imp (fun h => by omega)))
     exact absurd (by simpa using this) (d3r (a2n.1 hv))
 cases hf : a0z (fun m _ => (b.choose m []).2) 0 (List.range (b.signs.length + 1)) with
 | none =>
   have := a2L.1 hf b.signs.length b.signs.length (List.getElem?_range (by omega))
   rw [Nat.zero_add, hall] at this; cases this
 | some q =>
   obtain ⟨m, j⟩ := q
   obtain ⟨-, g2, g3, g4⟩ := a3F hf
   have hm : m < b.signs.length + 1 := by have := (List.getElem?_eq_some_iff.1 g2).1; simp at this; omega
   have hw : b.wrong = ((b.choose m []).1, 0) := by simp only [Book.wrong, hv, if_true, hf]
   rw [hw]
   obtain ⟨e, h1, h2, h3, h4, h5⟩ := (choose_spec b m []).1 g3
   have hf0 : a2r [] = 0 := rfl
   rw [hf0] at h3 h5
   simp only [List.nil_append] at h1 h4 h5
   refine ⟨rfl, by rw [h1]; exact h3, by rw [h1]; exact h4, by rw [h1, h2]; omega, fun l hl ht => ?_⟩
   simp only [h1, shorter, Bool.or_eq_false_iff, Bool.and_eq_false_iff, decide_eq_false_iff_not]
   constructor
   . intro hlt
     have hq := g4 l.length l.length (by omega) (List.getElem?_range (by omega))
     rw [Nat.zero_add] at hq
     have := (choose_spec b l.length []).2 hq l rfl hl
     exact ht (by simpa using this)
   . by_cases hle : (l.length : Int) = e.length
     . right
       rw [d2P]
       exact h5 l (by omega) hl ht
     . exact .inl hle
def Book.d2x (b : Book) (l : List Int) (i : Nat) : List Sign := (List.range i).foldl (fun acc (j : Nat) => match b.signs[j]? with | some x => if l.contains (j : Int) then acc else acc ++ [x] | none => acc) []
def Book.d2Z (b : Book) (L : List Sign) : Book := { b with kg := if L = [] then .nil else .shared, signs := L }
def Book.without (b : Book) (l : List Int) : Book := b.d2Z (b.d2x l b.signs.length)
def B9 (b : Book) (c : C) : List C := [.sl b.ks 2 (b.singers.map Span.c), ci b.c0.lo, ci b.c0.hi, ci b.c1.lo, ci b.c1.hi, ci b.c2.lo, ci b.c2.hi, .sl b.kd 3 (b.days.map Day.c), .sl b.kr 2 (b.rests.map Rest.c), c]
section
variable (b : Book) (c c' : C)
@[go_sem] theorem d3C : (B9 b c)[9]? = some c := nrfl rfl
@[go_sem] theorem d3E : (B9 b c).set 9 c' = B9 b c' := nrfl rfl
@[go_sem] theorem d3z (n : Nat) : C.a0G n (B9 b c) = C.a0G n [c] := by simp [B9, C.a0G, C.under]
@[go_sem] theorem d3D : (B9 b c).length = 10 := nrfl rfl
@[go_sem] theorem d3B : a0R (B9 b c) 0 10 = some (B9 b c) := nrfl rfl
end
theorem d3v (b : Book) (L : List Sign) : (B9 b (ownC 4 (L.map Sign.c))).map a0r = (b.d2Z L).c := by
 cases L with
 | nil => rfl
 | cons x L => simp [B9, Book.d2Z, Book.c, ownC, a0r]
section
variable {Γ : Env} [P04 Γ] [G04 Γ]
end
end Go.Pm.St
namespace Go.Pm.St
open Ac
def Book.d8J (b : Book) (l : List Int) (i : Nat) (y : Sign) : Sign :=
 { y with left := min 30 (a2B b.days (b.d8f l) (b.tstr l y.singer.toNat) (b.rest y.singer.toNat) y.day.toNat + drawn ⟨-y.err, y.err⟩ (d8d l i)) }
def tsN (b : Book) (l : List Int) (m : Nat) : List Sign := (List.range m).filterMap fun i => (b.signs[i]?).map (b.d8J l i)
theorem d9K (b : Book) (l : List Int) {m : Nat} {y : Sign} (h : b.signs[m]? = some y) : tsN b l (m + 1) = tsN b l m ++ [b.d8J l m y] := by
 simp only [tsN, List.range_succ, List.filterMap_append, List.filterMap_cons, h, Option.map_some, List.filterMap_nil]
theorem d8X (b : Book) (l : List Int) (m : Nat) : (tsN b l m).length <= m := Nat.le_trans (List.length_filterMap_le _ _) (by simp)
theorem d9p {b : Book} {l : List Int} {m : Nat} {x : Sign} (h : x ∈ tsN b l m) : ∃ i y, b.signs[i]? = some y /\ x = b.d8J l i y := by
 simp only [tsN, List.mem_filterMap, List.mem_range] at h
 obtain ⟨i, -, h⟩ := h
 cases hy : b.signs[i]? with
 | none => rw [hy] at h; cases h
 | some y => rw [hy] at h; exact ⟨i, y, hy, (Option.some.inj h).symm⟩
def Book.d7S (b : Book) (l : List Int) : Book := b.d2Z (tsN b l b.signs.length)
theorem d9d (b : Book) (i : Nat) : (fun e : Nat => b.a5g [] i e) = b.rest i := funext fun e => b6O b i e
section
variable {Γ : Env} [P04 Γ] [G04 Γ]
theorem d9y (b : Book) [hb : b.Fits] (hs : Sane b) (k : SK) (l : List Int) (hl : l.length <= 9223372036854775807) :
   K Γ (.fn 215) [.agg b.c, .agg (d8e b l), .sc (.sl k 1 (l.map fun x => [ci x]))] [] = some (.agg (b.d7S l).c, []) := by
 have hg := hs.g4
 have hd5 := hs.d5
 obtain ⟨h0, h1, h2⟩ := d8I hs l
 have hkl : (d8e b l).length = 4 := rfl
 have hka : a0R (d8e b l) 0 4 = some (d8e b l) := rfl
 have hku (n : Nat) : C.a0G n (d8e b l) = true := a0C n _ rfl
 have hkp : C.a0v (d8e b l) = true := rfl
 have hkn : (d8e b l).map a0r = d8e b l := rfl
 obtain ⟨kn, hk⟩ : ∃ kn, d8e b l = kn := ⟨_, rfl⟩
 have hlf (i : Nat) (hi : i < b.singers.length) := d9f (Γ := Γ) b hs l .nil [] (by simp) i hi
 rw [hk] at hkl hka hku hkp hkn hlf ⊢
 have hL {β : Type} (z : Obj) (hz : z.under 4 = true) (Q : Ex -> St -> Option β) : E Γ d8C ⟨[(2, .sc (.sl k 1 (l.map fun x => [ci x]))), (3, .sc (.ptr 0 0)), (4, .sc (.ptr 1 0)), (6, .sc (.ptr 2 0)), (7, .sc (.ptr 3 0)), (8, vi 0)], [.var b.c, .var kn, z, .var b.bare.c]⟩ Q =
     Q (.exit 0) ⟨[(2, .sc (.sl k 1 (l.map fun x => [ci x]))), (3, .sc (.ptr 0 0)), (4, .sc (.ptr 1 0)), (6, .sc (.ptr 2 0)), (7, .sc (.ptr 3 0)), (8, vi b.signs.length), (16, vb false)], [.var b.c, .var kn, z, .var (B9 b (ownC 4 ((tsN b l b.signs.length).map Sign.c)))]⟩ := by
   refine a4q b.signs.length (fun i (_ : Unit) => ⟨[(2, .sc (.sl k 1 (l.map fun x => [ci x]))), (3, .sc (.ptr 0 0)), (4, .sc (.ptr 1 0)), (6, .sc (.ptr 2 0)), (7, .sc (.ptr 3 0)), (8, vi i)], [.var b.c, .var kn, z, .var (B9 b (ownC 4 ((tsN b l i).map Sign.c)))]⟩) (fun _ _ => True)
     (fun _ => (.exit 0, ⟨[(2, .sc (.sl k 1 (l.map fun x => [ci x]))), (3, .sc (.ptr 0 0)), (4, .sc (.ptr 1 0)), (6, .sc (.ptr 2 0)), (7, .sc (.ptr 3 0)), (8, vi b.signs.length), (16, vb false)], [.var b.c, .var kn, z, .var (B9 b (ownC 4 ((tsN b l b.signs.length).map Sign.c)))]⟩)) () rfl trivial ?_ ?_ (fun _ _ => rfl)
   . intro i _ hi _
     refine ⟨(), trivial, ?_⟩
     obtain ⟨y, hy⟩ : ∃ y, b.signs[i]? = some y := ⟨_, List.getElem?_eq_getElem hi⟩
     have hys := hs.sg y (List.mem_of_getElem? hy)
     have hlt := decide_eq_true (show (i : Int) < b.signs.length by omega)
     have hiw : IntKind.i64.wrap ((i : Int) + 1) = i + 1 := wrap_i64 (by omega) (by omega)
     obtain ⟨n, hn⟩ : ∃ n : Nat, y.singer = n := ⟨y.singer.toNat, by omega⟩
     obtain ⟨e, he⟩ : ∃ e : Nat, y.day = e := ⟨y.day.toNat, by omega⟩
     have hnl : n < b.singers.length := by omega
     have hel : e < b.days.length := by omega
     have hq := hlf n hnl
     rw [d9d] at hq
     simp only [List.map_nil] at hq
     have hget := d8W b (b.d8f l) (b.tstr l n) (b.rest n) hel
     have hN := d9e (Γ := Γ) k l (i : Nat) hl
     have hD := d8R (Γ := Γ) ⟨-y.err, y.err⟩ (d8d l i) (by simp only; omega) (by simp only; omega)
     have hst := d8P hs l n _ (List.getElem?_eq_getElem hnl)
     have hsp := hs.sp _ (List.getElem_mem hnl)
     simp only [Span.has] at hst
     have g1 := b3h hs h0 h1 h2 (s := b.tstr l n) (by omega) (r := b.rest n) e
     have hm : Mild b.days (b.d8f l) := by
       have k0 := hs.k0; have k1 := hs.k1
       simp only [Span.has] at h0 h1
       exact ⟨by omega, by omega, fun x hx => ⟨(hs.dy x hx).1.1, (hs.dy x hx).2.1.1⟩⟩
     have g2 := b3i hm (s := b.tstr l n) (r := b.rest n) e
     have hdr := d8A (s := ⟨-y.err, y.err⟩) (d8d l i) (by simp only; omega)
     simp only [Span.has] at hdr
     have w1 : IntKind.i64.wrap (0 - y.err) = -y.err := by rw [wrap_i64 (by omega) (by omega)]; omega
     have w2 : IntKind.i64.wrap (a2B b.days (b.d8f l) (b.tstr l n) (b.rest n) e + drawn ⟨-y.err, y.err⟩ (d8d l i)) = a2B b.days (b.d8f l) (b.tstr l n) (b.rest n) e + drawn ⟨-y.err, y.err⟩ (d8d l i) := wrap_i64 (by omega) (by omega)
     have hts : (b.d8J l i y).c = [ci y.singer, ci y.day, ci (min 30 (a2B b.days (b.d8f l) (b.tstr l n) (b.rest n) e + drawn ⟨-y.err, y.err⟩ (d8d l i))), ci y.err] := by
       simp only [Book.d8J, Sign.c, hn, he, Int.toNat_natCast]
     have hset (v : Int) : y.c.set 2 (ci v) = [ci y.singer, ci y.day, ci v, ci y.err] := rfl
     have hA (v : List C) := a2K 4 ((tsN b l i).map Sign.c) .full v (by have := d8X b l i; simp only [List.length_map, room]; omega)
     have hbv : ∀ n, V.under n (.sc (.sl k 1 (l.map fun x => [ci x]))) = true := fun n => rfl
     rw [d9K b l hy, List.map_append, List.map_cons, List.map_nil, hts]
     (simp only [go_sem, simprocAttr, d8a, hy, hlt, hiw, hn, he, hq, hget, hN, hD, w1, w2, hset, hA, hkl, hka, hku, hkp, hkn, hz, hbv, Option.map_some]; repeat' (first | ((first | refine brY ?_ | refine brN ?_ | refine brA ?_ | refine brD ?_ | refine brF ?_ | ((first | apply a0k | apply a0j); (. intro h; simp only [go_sem, simprocAttr, a0p h, d8a, hy, hlt, hiw, hn, he, hq, hget, hN, hD, w1, w2, hset, hA, hkl, hka, hku, hkp, hkn, hz, hbv, Option.map_some]; exact rfl))); (try simp only [go_sem, simprocAttr, d8a, hy, hlt, hiw, hn, he, hq, hget, hN, hD, w1, w2, hset, hA, hkl, hka, hku, hkp, hkn, hz, hbv, Option.map_some])) | ((first | apply a0e | apply d7E | apply a0a) <;> intro h <;> (try simp only [go_sem, simprocAttr, h, d8a, hy, hlt, hiw, hn, he, hq, hget, hN, hD, w1, w2, hset, hA, hkl, hka, hku, hkp, hkn, hz, hbv, Option.map_some]))))
     rfl
   . intro _ _
     have hlt := decide_eq_false (show ¬ (b.signs.length : Int) < b.signs.length by omega)
     (simp only [go_sem, simprocAttr, d8a, hlt]; repeat' (first | ((first | refine brY ?_ | refine brN ?_ | refine brA ?_ | refine brD ?_ | refine brF ?_ | ((first | apply a0k | apply a0j); (. intro h; simp only [go_sem, simprocAttr, a0p h, d8a, hlt]; exact rfl))); (try simp only [go_sem, simprocAttr, d8a, hlt])) | ((first | apply a0e | apply d7E | apply a0a) <;> intro h <;> (try simp only [go_sem, simprocAttr, h, d8a, hlt]))))
 have hU : (B9 b (ownC 4 ((tsN b l b.signs.length).map Sign.c))).map a0r = (b.d7S l).c := d3v b _
 rw [K_fn P04.f215 _ _ rfl]
 (simp only [go_sem, simprocAttr, d8h, hL, hU, hkl, hka, hku, hkp, hkn]; repeat' (first | ((first | refine brY ?_ | refine brN ?_ | refine brA ?_ | refine brD ?_ | refine brF ?_ | ((first | apply a0k | apply a0j); (. intro h; simp only [go_sem, simprocAttr, a0p h, d8h, hL, hU, hkl, hka, hku, hkp, hkn]; exact rfl))); (try simp only [go_sem, simprocAttr, d8h, hL, hU, hkl, hka, hku, hkp, hkn])) | ((first | apply a0e | apply d7E | apply a0a) <;> intro h <;> (try simp only [go_sem, simprocAttr, h, d8h, hL, hU, hkl, hka, hku, hkp, hkn]))))
end
end Go.Pm.St
namespace Go.Pm.St
open Ac
theorem d9k {l m : List Rest} (h : l.Perm m) (i : Int) (d : Nat) : a2Y l i d = a2Y m i d := by
 rw [Bool.eq_iff_iff]
 exact ⟨fun hr => d8T (fun x hx => h.mem_iff.1 hx) hr, fun hr => d8T (fun x hx => h.mem_iff.2 hx) hr⟩
theorem d9a (b : Book) (l : List Rest) (i : Nat) : onF (a1M b.F l) i = fun e : Nat => b.rest i e || a2Y l i e := by
 funext e; simp only [onF, b5f, F_at, Book.rest]
theorem d9b {b : Book} {l m : List Rest} {i : Nat} (h : ∀ e : Nat, a2Y l i e = a2Y m i e) : b.well (a1M b.F l) i = b.well (a1M b.F m) i := by
 have : onF (a1M b.F l) i = onF (a1M b.F m) i := by rw [d9a, d9a]; funext e; rw [h]
 simp only [Book.well, this]
theorem d8Q {l : List Rest} {i : Int} (h : ∀ x ∈ l, x.singer ≠ i) (e : Nat) : a2Y l i e = false := by
 rw [Bool.eq_false_iff]
 intro hr
 simp only [a2Y, List.any_eq_true, Bool.and_eq_true, decide_eq_true_eq] at hr
 obtain ⟨x, hx, -, hs⟩ := hr
 exact h x hx hs
theorem d9c {b : Book} : ∀ (n : Nat) (p : KL), p ∈ b.a0V n -> ∀ i, i < n -> b.well (a1M b.F p.2) i = true
 | n + 1, p, h, i, hi => by
   simp only [Book.a0V, List.mem_flatMap, List.mem_map] at h
   obtain ⟨q, hq, own, ho, rfl⟩ := h
   rw [b7F]
   by_cases e : i = n
   . subst e
     have hw : b.well (a1M b.F own) i = true := by
       simp only [Book.alone, a5c, List.mem_filter] at ho; exact ho.2
     rw [← hw]
     refine d9b fun e => ?_
     rw [d1k, d8Q (fun x hx => ?_), Bool.false_or]
     have := (d8K b i q hq).2 x hx; omega
   . rw [← d9c n q hq i (by omega)]
     refine d9b fun t => ?_
     rw [d1k, d8Q (l := own) (fun x hx => ?_), Bool.or_false]
     have := (d8Y ho).2 x hx; omega
theorem d9w {b : Book} {a : Option (List Rest)} {l s : List Rest} (h : b.look a l = some s) : a = some s \/ (s = a1w l /\ b.enough (a1M b.F (a1w l)) = true) := by
 unfold Book.look at h
 split at h
 . split at h
   . rename_i he
     simp only [Option.some.injEq] at h
     exact .inr ⟨h.symm, by simpa using he⟩
   . cases h
 . split at h
   . exact .inl h
   . split at h
     . rename_i he
       simp only [Option.some.injEq] at h
       simp only [Bool.and_eq_true] at he
       exact .inr ⟨h.symm, he.2⟩
     . exact .inl h
theorem d8M {b : Book} : ∀ (ps : List KL) (a : Option (List Rest)) (s : List Rest), ps.foldl (fun a p => b.look a p.2) a = some s -> a = some s \/ ∃ p ∈ ps, s = a1w p.2 /\ b.enough (a1M b.F s) = true
 | [], a, s, h => .inl h
 | p :: ps, a, s, h => by
   rcases d8M ps _ s h with h1 | ⟨q, hq, h2⟩
   . rcases d9w h1 with h3 | ⟨h3, h4⟩
     . exact .inl h3
     . exact .inr ⟨p, by simp, h3, by rw [h3]; exact h4⟩
   . exact .inr ⟨q, by simp [hq], h2⟩
theorem d9g {b : Book} {s : List Rest} (h : b.best = some s) : b.b5J (a1M b.F s) = true /\ b.enough (a1M b.F s) = true /\ ∃ p ∈ b.a0V b.singers.length, s = a1w p.2 := by
 rcases d8M _ _ _ h with h1 | ⟨p, hp, h2, h3⟩
 . cases h1
 . refine ⟨?_, h3, p, hp, h2⟩
   simp only [Book.b5J, Option.isNone_iff_eq_none, a3y]
   intro i hi
   rw [h2, d9b (fun e => d9k (b6V p.2) i e), d9c _ p hp i hi]; rfl
end Go.Pm.St
namespace Go.Pm.St
open Ac
theorem d8Z {b : Book} (hs : Sane b) (l : List Int) {n e : Nat} (hn : n < b.singers.length) (he : e < b.days.length) (r : Nat -> Bool) : -120 <= a2B b.days (b.d8f l) (b.tstr l n) r e /\ a2B b.days (b.d8f l) (b.tstr l n) r e <= 30 := by
 obtain ⟨h0, h1, h2⟩ := d8I hs l
 have hd5 := hs.d5
 have hst := d8P hs l n _ (List.getElem?_eq_getElem hn)
 have hsp := hs.sp _ (List.getElem_mem hn)
 simp only [Span.has] at hst
 have g1 := b3h hs h0 h1 h2 (s := b.tstr l n) (by omega) (r := r) e
 have hm : Mild b.days (b.d8f l) := by
   have k0 := hs.k0; have k1 := hs.k1
   simp only [Span.has] at h0 h1
   exact ⟨by omega, by omega, fun x hx => ⟨(hs.dy x hx).1.1, (hs.dy x hx).2.1.1⟩⟩
 have g2 := b3i hm (s := b.tstr l n) (r := r) e
 omega
theorem d8v {b : Book} (hs : Sane b) (l : List Int) : Sane (b.d7S l) := by
 have hk := d8X b l b.signs.length
 have hg := hs.g4
 refine ⟨hs.s1, hs.s3, hs.d1, hs.d5, hs.r6, by simp only [Book.d7S, Book.d2Z]; omega, hs.sp, hs.k0, hs.k1, hs.k2, hs.dy, hs.rs, fun x hx => ?_⟩
 obtain ⟨i, y, hy, rfl⟩ := d9p hx
 have hys := hs.sg y (List.mem_of_getElem? hy)
 have hb := d8Z hs l (n := y.singer.toNat) (e := y.day.toNat) (by omega) (by omega) (b.rest y.singer.toNat)
 have hdr := d8A (s := ⟨-y.err, y.err⟩) (d8d l i) (by simp only; omega)
 simp only [Span.has] at hdr
 simp only [Book.d8J, Book.d7S, Book.d2Z]
 exact ⟨hys.1, hys.2.1, by omega, hys.2.2.2⟩
theorem d9i {b : Book} (hv : b.valid = true) (l : List Int) : (b.d7S l).valid = true := by
 have hk := d8X b l b.signs.length
 have hg := a2n.2 hv
 exact a8w.2 ⟨d8v (a2n.1 hv) l, by simp only [Book.d7S, Book.d2Z]; omega⟩
theorem d9l {b : Book} [hb : b.Fits] (hv : b.valid = true) (l : List Int) : (b.d7S l).Fits := by
 have hk := d8X b l b.signs.length
 have hg := a2n.2 hv
 exact ⟨hb.s, hb.d, hb.r, by simp only [Book.d7S, Book.d2Z]; omega⟩
theorem d8D {b : Book} (hs : Sane b) (l : List Int) : Can (b.d7S l) (b.d8f l) (b.tstr l) := by
 obtain ⟨h0, h1, h2⟩ := d8I hs l
 refine ⟨h0, h1, h2, fun i s h => d8P hs l i s h, fun j x hx _ => ?_⟩
 obtain ⟨i, y, hy, rfl⟩ := d9p (List.mem_of_getElem? hx)
 have hys := hs.sg y (List.mem_of_getElem? hy)
 have hb := d8Z hs l (n := y.singer.toNat) (e := y.day.toNat) (by omega) (by omega) (b.rest y.singer.toNat)
 have hdr := d8A (s := ⟨-y.err, y.err⟩) (d8d l i) (by simp only; omega)
 simp only [Span.has] at hdr
 have e1 : a2Y b.rests y.singer = b.rest y.singer.toNat := by
   simp only [Book.rest]; congr 1; omega
 change b.fair (b.d8f l) y.singer (b.tstr l y.singer.toNat) (b.d8J l i y) = true
 simp only [Book.fair, Book.d8J, within_iff, e1]
 omega
theorem d8G {b : Book} (hs : Sane b) (l : List Int) : (b.d7S l).now ≠ [] := (d1Q (d8v hs l)).2 ⟨_, _, d8D hs l⟩
theorem d9u {b : Book} (hv : b.valid = true) (hne : b.now ≠ []) : b.wrong = ([], 0) := by
 obtain ⟨w1, w2, w3, w4, w5⟩ := d3l hv
 have := w5 [] trivial hne
 simp only [shorter, Bool.or_eq_false_iff, decide_eq_false_iff_not, List.length_nil] at this
 have h0 : b.wrong.1 = [] := List.length_eq_zero_iff.1 (by omega)
 exact Prod.ext h0 w1
theorem d8V {b : Book} (hs : Sane b) (l : List Int) {i : Nat} (hi : i < b.singers.length) (d : Nat) (r : Nat -> Bool) :
   (b.d7S l).low i d r <= a2B b.days (b.d8f l) (b.tstr l i) r d /\ a2B b.days (b.d8f l) (b.tstr l i) r d <= (b.d7S l).high i d r :=
 ⟨(d1A (d8v hs l) (d8G hs l) (i := i) hi d r).2 _ _ (d8D hs l), (d1q (d8v hs l) (d8G hs l) (i := i) hi d r).2 _ _ (d8D hs l)⟩
theorem d8U {b : Book} (hs : Sane b) (l : List Int) (k : Int) : within ((b.d8f l).at k) (b2a ((b.d7S l).prs k)) (a9Z ((b.d7S l).prs k)) = true :=
 within_iff.2 ⟨(d3K (d8v hs l) (d8G hs l) k).2 _ _ (d8D hs l), (d3J (d8v hs l) (d8G hs l) k).2 _ _ (d8D hs l)⟩
theorem d9B {b : Book} (hs : Sane b) (l : List Int) {s : List Rest} (hb : (b.d7S l).best = some s) {i d : Nat} (hi : i < b.singers.length) (ho : (b.d7S l).o <= d) (hd : d < b.days.length) :
   0 <= a2B b.days (b.d8f l) (b.tstr l i) (fun e : Nat => b.a5g s i e) d := by
 have h1 := (d9g hb).1
 simp only [Book.b5J, Option.isNone_iff_eq_none, a3y] at h1
 have h2 := h1 i hi
 simp only [Bool.not_eq_false', Book.well, Option.isNone_iff_eq_none, a3y] at h2
 have hdl : d - (b.d7S l).o < (b.d7S l).days.length - (b.d7S l).o := by
   have : (b.d7S l).days.length = b.days.length := rfl
   omega
 have h3 := h2 (d - (b.d7S l).o) hdl
 rw [show (b.d7S l).o + (d - (b.d7S l).o) = d by omega, d9a] at h3
 simp only [Book.harm, Bool.or_eq_false_iff, decide_eq_false_iff_not] at h3
 have e : (fun e : Nat => (b.d7S l).rest i e || a2Y s i e) = fun e : Nat => b.a5g s i e := by
   funext e; rw [b5x]; rfl
 rw [e] at h3
 have := (d8V hs l hi d (fun e : Nat => b.a5g s i e)).1
 omega
end Go.Pm.St
