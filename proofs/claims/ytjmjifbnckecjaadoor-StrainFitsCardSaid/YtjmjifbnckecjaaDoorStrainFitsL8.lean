/- The statement StrainFits, part 8. -/
import Derived.Test.YtjmjifbnckecjaaDoorStrainFitsL7
set_option linter.all false
set_option maxRecDepth 100000
namespace Go.Pm.St
open Ac
@[go_sem] theorem Cost.d6K (c : Cost) : c.c[0]? = some (ci c.p) := nrfl rfl
@[go_sem] theorem Cost.d6L (c : Cost) : c.c[1]? = some (ci c.f) := nrfl rfl
@[go_sem] theorem Cost.d6M (c : Cost) : c.c[2]? = some (ci c.n) := nrfl rfl
section
variable {Γ : Env} [P04 Γ] [G04 Γ]
theorem d5Q (k : SK) (l : List Rest) (hl : l.length <= 1000000) (i d : Int) : K Γ (.fn 159) [.sc (.sl k 2 (l.map Rest.c)), vi i, vi d] [] = some (vb (l.any fun x => decide (x = ⟨d, i⟩)), []) := by
 have hL {β : Type} (Q : Ex -> St -> Option β) : E Γ d5m ⟨[(0, .sc (.sl k 2 (l.map Rest.c))), (1, vi i), (2, vi d), (7, vi 0)], []⟩ Q =
     match a0z (fun _ x => decide (x = (⟨d, i⟩ : Rest))) 0 l with
     | some _ => Q .ret ⟨[(6, vb true)], []⟩
     | none => Q (.exit 0) ⟨[(0, .sc (.sl k 2 (l.map Rest.c))), (1, vi i), (2, vi d), (7, vi l.length), (11, vb false)], []⟩ := by
   refine (a4L (fun j => ⟨[(0, .sc (.sl k 2 (l.map Rest.c))), (1, vi i), (2, vi d), (7, vi j)], []⟩) l (fun _ x => decide (x = (⟨d, i⟩ : Rest)))
     (fun _ _ => (.ret, ⟨[(6, vb true)], []⟩)) (.exit 0, ⟨[(0, .sc (.sl k 2 (l.map Rest.c))), (1, vi i), (2, vi d), (7, vi l.length), (11, vb false)], []⟩) Q ?_ ?_ ?_).trans ?_
   . intro j x hx hf
     have hlt' := (List.getElem?_eq_some_iff.1 hx).1
     have hlt : decide ((j : Int) < l.length) = true := decide_eq_true (by omega)
     have hiw : IntKind.i64.wrap ((j : Int) + 1) = j + 1 := wrap_i64 (by omega) (by omega)
     have hk : a0c [1, 1] x.c [ci d, ci i] = some false := by have := a7k x ⟨d, i⟩; rw [hf] at this; exact this
     (simp only [go_sem, simprocAttr, d4O, hx, hiw, hlt, hk, List.length_map]; repeat' (first | ((first | refine brY ?_ | refine brN ?_ | refine brA ?_ | refine brD ?_ | refine brF ?_ | ((first | apply a0k | apply a0j); (. intro h; simp only [go_sem, simprocAttr, a0p h, d4O, hx, hiw, hlt, hk, List.length_map]; exact rfl))); (try simp only [go_sem, simprocAttr, d4O, hx, hiw, hlt, hk, List.length_map])) | ((first | apply a0e | apply d7E | apply a0a) <;> intro h <;> (try simp only [go_sem, simprocAttr, h, d4O, hx, hiw, hlt, hk, List.length_map]))))
     rfl
   . intro j x hx hf
     have hlt' := (List.getElem?_eq_some_iff.1 hx).1
     have hlt : decide ((j : Int) < l.length) = true := decide_eq_true (by omega)
     have hk : a0c [1, 1] x.c [ci d, ci i] = some true := by have := a7k x ⟨d, i⟩; rw [hf] at this; exact this
     (simp only [go_sem, simprocAttr, d4O, hx, hlt, hk, List.length_map]; repeat' (first | ((first | refine brY ?_ | refine brN ?_ | refine brA ?_ | refine brD ?_ | refine brF ?_ | ((first | apply a0k | apply a0j); (. intro h; simp only [go_sem, simprocAttr, a0p h, d4O, hx, hlt, hk, List.length_map]; exact rfl))); (try simp only [go_sem, simprocAttr, d4O, hx, hlt, hk, List.length_map])) | ((first | apply a0e | apply d7E | apply a0a) <;> intro h <;> (try simp only [go_sem, simprocAttr, h, d4O, hx, hlt, hk, List.length_map]))))
   . have hlt : decide ((l.length : Int) < l.length) = false := decide_eq_false (by omega)
     simp only [go_sem, simprocAttr, d4O, hlt, List.length_map]
   . cases a0z (fun _ x => decide (x = (⟨d, i⟩ : Rest))) 0 l <;> rfl
 simp only [← b4m]
 cases h1 : a0z (fun _ x => decide (x = (⟨d, i⟩ : Rest))) 0 l with
 | some q => simp only [h1] at hL; rw [K_fn P04.f159 _ _ rfl]; simp only [go_sem, simprocAttr, d5h, hL, Option.isSome_some]
 | none => simp only [h1] at hL; rw [K_fn P04.f159 _ _ rfl]; simp only [go_sem, simprocAttr, d5h, hL, Option.isSome_none]
theorem d5P (k : SK) (l : List Rest) (hl : l.length <= 1000000) (i : Int) (d : Nat) : K Γ (.fn 159) [.sc (.sl k 2 (l.map Rest.c)), vi i, vi d] [] = some (vb (a2Y l i d), []) := by
 rw [d5Q k l hl, b5r]
theorem d5O (b : Book) [hb : b.Fits] (hs : Sane b) (c : Cost) (h0 : b.c0.has c.p) (h1 : b.c1.has c.f) (h2 : b.c2.has c.n) (i : Int) (s : Int) (hp : 0 <= s) (h30 : s <= 30) (d : Nat) (hd : d < b.days.length) (k : SK) (l : List Rest) (hl : l.length <= 1000000) :
   K Γ (.fn 174) [.agg b.c, .agg c.c, vi i, vi s, vi d, .sc (.sl k 2 (l.map Rest.c))] [] = some (vi (a2B b.days c s (a2Y l i) d), []) := by
 have hd5 := hs.d5
 have k0 := hs.k0; have k1 := hs.k1; have k2 := hs.k2
 have b0 := h0; have b1 := h1; have b2 := h2
 simp only [Span.has] at b0 b1 b2
 have hL {β : Type} (Q : Ex -> St -> Option β) : E Γ d5s ⟨[(2, vi i), (3, vi s), (4, vi d), (5, .sc (.sl k 2 (l.map Rest.c))), (6, .sc (.ptr 0 0)), (7, .sc (.ptr 1 0)), (13, vi s), (14, vi 0), (15, vi 0)], [.var b.c, .var c.c]⟩ Q =
     Q (.exit 0) ⟨[(2, vi i), (3, vi s), (4, vi d), (5, .sc (.sl k 2 (l.map Rest.c))), (6, .sc (.ptr 0 0)), (7, .sc (.ptr 1 0)), (13, vi (nowAt b.days c s (a2Y l i) (d + 1))), (14, vi (a2B b.days c s (a2Y l i) d)), (15, vi ((d + 1 : Nat) : Int)), (19, vb false)], [.var b.c, .var c.c]⟩ := by
   refine a4q (d + 1) (fun j (_ : Unit) => ⟨[(2, vi i), (3, vi s), (4, vi d), (5, .sc (.sl k 2 (l.map Rest.c))), (6, .sc (.ptr 0 0)), (7, .sc (.ptr 1 0)), (13, vi (nowAt b.days c s (a2Y l i) j)), (14, vi (if j = 0 then 0 else a2B b.days c s (a2Y l i) (j - 1))), (15, vi j)], [.var b.c, .var c.c]⟩) (fun _ _ => True)
     (fun _ => (.exit 0, ⟨[(2, vi i), (3, vi s), (4, vi d), (5, .sc (.sl k 2 (l.map Rest.c))), (6, .sc (.ptr 0 0)), (7, .sc (.ptr 1 0)), (13, vi (nowAt b.days c s (a2Y l i) (d + 1))), (14, vi (a2B b.days c s (a2Y l i) d)), (15, vi ((d + 1 : Nat) : Int)), (19, vb false)], [.var b.c, .var c.c]⟩)) () rfl trivial ?_ ?_ (fun _ _ => rfl)
   . intro j _ hj _
     refine ⟨(), trivial, ?_⟩
     have hle : decide ((j : Int) <= d) = true := decide_eq_true (by omega)
     have hiw : IntKind.i64.wrap ((j : Int) + 1) = ((j + 1 : Nat) : Int) := by rw [wrap_i64 (by omega) (by omega)]; omega
     have hjl : j < b.days.length := by omega
     obtain ⟨x, hx⟩ : ∃ x, b.days[j]? = some x := ⟨_, List.getElem?_eq_getElem hjl⟩
     have hxd := hs.dy x (List.mem_of_getElem? hx)
     have hr := d5P (Γ := Γ) k l hl i j
     have n1 := b1e hs h0 h1 h2 hp (r := a2Y l i) j
     have n2 := b1f (l := b.days) (c := c) (s := s) (r := a2Y l i) j
     have m1 : x.plain * c.p <= 2 * 6 := Int.mul_le_mul (by omega) (by omega) (by omega) (by omega)
     have m2 : x.full * c.f <= 2 * 6 := Int.mul_le_mul (by omega) (by omega) (by omega) (by omega)
     have p1 := Int.mul_nonneg hxd.1.1 (show 0 <= c.p by omega)
     have p2 := Int.mul_nonneg hxd.2.1.1 (show 0 <= c.f by omega)
     have hla : a2B b.days c s (a2Y l i) j = x.after c (a2Y l i j) (nowAt b.days c s (a2Y l i) j) := by simp only [a2B, hx]
     have hna := b6H (l := b.days) (c := c) (s := s) (r := a2Y l i) hjl
     simp only [if_neg (show ¬ j + 1 = 0 by omega), Nat.add_sub_cancel]
     rw [hna, hla]
     generalize nowAt b.days c s (a2Y l i) j = now at *
     have w1 : IntKind.i64.wrap (x.plain * c.p) = x.plain * c.p := wrap_i64 (by omega) (by omega)
     have w2 : IntKind.i64.wrap (x.full * c.f) = x.full * c.f := wrap_i64 (by omega) (by omega)
     have w3 : IntKind.i64.wrap (now - x.plain * c.p) = now - x.plain * c.p := wrap_i64 (by omega) (by omega)
     have w4 : IntKind.i64.wrap (now - x.plain * c.p - x.full * c.f) = now - x.plain * c.p - x.full * c.f := wrap_i64 (by omega) (by omega)
     have w5 : IntKind.i64.wrap (now - x.plain * c.p - x.full * c.f + c.n) = now - x.plain * c.p - x.full * c.f + c.n := wrap_i64 (by omega) (by omega)
     have w6 : IntKind.i64.wrap (now + c.n) = now + c.n := wrap_i64 (by omega) (by omega)
     cases hrr : a2Y l i j with
     | true => rw [hrr] at hr; (simp only [go_sem, simprocAttr, d4M, hx, hle, hiw, hr, w6, Day.after]; repeat' (first | ((first | refine brY ?_ | refine brN ?_ | refine brA ?_ | refine brD ?_ | refine brF ?_ | ((first | apply a0k | apply a0j); (. intro h; simp only [go_sem, simprocAttr, a0p h, d4M, hx, hle, hiw, hr, w6, Day.after]; exact rfl))); (try simp only [go_sem, simprocAttr, d4M, hx, hle, hiw, hr, w6, Day.after])) | ((first | apply a0e | apply d7E | apply a0a) <;> intro h <;> (try simp only [go_sem, simprocAttr, h, d4M, hx, hle, hiw, hr, w6, Day.after]))))
     | false => rw [hrr] at hr; (simp only [go_sem, simprocAttr, d4M, hx, hle, hiw, hr, w1, w2, w3, w4, w5, Day.after]; repeat' (first | ((first | refine brY ?_ | refine brN ?_ | refine brA ?_ | refine brD ?_ | refine brF ?_ | ((first | apply a0k | apply a0j); (. intro h; simp only [go_sem, simprocAttr, a0p h, d4M, hx, hle, hiw, hr, w1, w2, w3, w4, w5, Day.after]; exact rfl))); (try simp only [go_sem, simprocAttr, d4M, hx, hle, hiw, hr, w1, w2, w3, w4, w5, Day.after])) | ((first | apply a0e | apply d7E | apply a0a) <;> intro h <;> (try simp only [go_sem, simprocAttr, h, d4M, hx, hle, hiw, hr, w1, w2, w3, w4, w5, Day.after]))))
   . intro _ _
     have hle : decide (((d + 1 : Nat) : Int) <= d) = false := decide_eq_false (by omega)
     simp only [if_neg (show ¬ d + 1 = 0 by omega), Nat.add_sub_cancel]
     (simp only [go_sem, simprocAttr, d4M, hle]; repeat' (first | ((first | refine brY ?_ | refine brN ?_ | refine brA ?_ | refine brD ?_ | refine brF ?_ | ((first | apply a0k | apply a0j); (. intro h; simp only [go_sem, simprocAttr, a0p h, d4M, hle]; exact rfl))); (try simp only [go_sem, simprocAttr, d4M, hle])) | ((first | apply a0e | apply d7E | apply a0a) <;> intro h <;> (try simp only [go_sem, simprocAttr, h, d4M, hle]))))
 rw [K_fn P04.f174 _ _ rfl]
 (simp only [go_sem, simprocAttr, d5f, hL]; repeat' (first | ((first | refine brY ?_ | refine brN ?_ | refine brA ?_ | refine brD ?_ | refine brF ?_ | ((first | apply a0k | apply a0j); (. intro h; simp only [go_sem, simprocAttr, a0p h, d5f, hL]; exact rfl))); (try simp only [go_sem, simprocAttr, d5f, hL])) | ((first | apply a0e | apply d7E | apply a0a) <;> intro h <;> (try simp only [go_sem, simprocAttr, h, d5f, hL]))))
def Book.d5v (b : Book) (c : Cost) (i : Nat) (s : Int) (but : Int -> Bool) (j : Nat) : Bool := (List.range j).all fun q => match b.signs[q]? with | some x => but q || decide (x.singer ≠ i) || b.fair c i s x | none => true
theorem d5M {b : Book} {c : Cost} {i : Nat} {s : Int} {but : Int -> Bool} {j : Nat} {x : Sign} (hx : b.signs[j]? = some x) : b.d5v c i s but (j + 1) = (b.d5v c i s but j && (but j || decide (x.singer ≠ i) || b.fair c i s x)) := by
 simp only [Book.d5v, List.range_succ, List.all_append, List.all_cons, List.all_nil, hx, Bool.and_true]
theorem d5R (b : Book) (c : Cost) (i : Nat) (s : Int) (but : Int -> Bool) : b.d5v c i s but b.signs.length = b.right c i s but := by
 rw [Bool.eq_iff_iff, b8e]
 simp only [Book.d5v, List.all_eq_true, List.mem_range]
 constructor
 . intro h j x hx hi hb
   have := h j (List.getElem?_eq_some_iff.1 hx).1
   simp only [hx, hb, Bool.false_or, Bool.or_eq_true, decide_eq_true_eq] at this
   rcases this with h | h
   . exact absurd hi h
   . exact h
 . intro h j hj
   simp only [List.getElem?_eq_getElem hj, Bool.or_eq_true, decide_eq_true_eq]
   by_cases h1 : but j = true
   . exact .inl (.inl h1)
   . by_cases h2 : (b.signs[j]).singer = i
     . exact .inr (h j _ (List.getElem?_eq_getElem hj) h2 (by simpa using h1))
     . exact .inl (.inr h2)
def strP (b : Book) (c : Cost) (i : Nat) (but : Int -> Bool) (lo : Int) (j : Nat) : List Int := ((List.range j).map fun (k : Nat) => lo + (k : Int)).filter fun n => b.right c i n but
theorem d5V (b : Book) (c : Cost) (i : Nat) (but : Int -> Bool) (lo : Int) (j : Nat) : strP b c i but lo (j + 1) = if b.right c i (lo + j) but = true then strP b c i but lo j ++ [lo + (j : Int)] else strP b c i but lo j := by
 simp only [strP, List.range_succ, List.map_append, List.filter_append, List.map_cons, List.map_nil, List.filter_cons, List.filter_nil]
 split <;> simp_all
theorem d6e (b : Book) (c : Cost) (i : Nat) (but : Int -> Bool) {s : Span} (hs : b.singers[i]? = some s) : strP b c i but s.lo (s.hi - s.lo + 1).toNat = b.a1B c i but := by
 simp only [strP, Book.a1B, hs, upto]
theorem d6f (b : Book) (c : Cost) (i : Nat) (but : Int -> Bool) (lo : Int) (j : Nat) : (strP b c i but lo j).length <= j := Nat.le_trans (List.length_filter_le _ _) (by simp)
end
end Go.Pm.St
namespace Go.Pm.St
open Ac
@[go_sem] theorem Cost.d6G (c : Cost) : a0R c.c 0 3 = some c.c := nrfl rfl
@[go_sem] theorem Cost.d6H (c : Cost) : c.c.length = 3 := nrfl rfl
@[go_sem] theorem Cost.d6J (c : Cost) : c.c.map a0r = c.c := nrfl rfl
@[go_sem] theorem Cost.b3a (c : Cost) (n : Nat) : C.a0G n c.c = true := a0C n _ rfl
@[go_sem] theorem Cost.d6F (c : Cost) : C.a0v c.c = true := nrfl rfl
abbrev d4P (set : Int) : Int -> Bool := fun n => d2J set n
section
variable {Γ : Env} [P04 Γ] [G04 Γ]
theorem d6n (b : Book) [hb : b.Fits] (hs : Sane b) (c : Cost) (h0 : b.c0.has c.p) (h1 : b.c1.has c.f) (h2 : b.c2.has c.n) (i : Nat) (hi : i < b.singers.length) (set : Int) (L : List Int) (n : Int) (hp : 0 <= n) (h30 : n <= 30) {β : Type} (Q : Ex -> St -> Option β) :
   E Γ d5l ⟨[(2, vi i), (3, vi set), (4, .sc (.ptr 0 0)), (5, .sc (.ptr 1 0)), (9, .sc (ownF 1 (li L))), (10, vi n), (11, vb true), (12, vi 0)], [.var b.c, .var c.c]⟩ Q =
   Q (.exit 2) ⟨[(2, vi i), (3, vi set), (4, .sc (.ptr 0 0)), (5, .sc (.ptr 1 0)), (9, .sc (ownF 1 (li L))), (10, vi n), (11, vb (b.right c i n (d4P set))), (12, vi b.signs.length), (35, vb false)], [.var b.c, .var c.c]⟩ := by
 have hg := hs.g4
 have hr6 := hs.r6
 have hd5 := hs.d5
 rw [← d5R]
 refine a4q b.signs.length (fun j (_ : Unit) => ⟨[(2, vi i), (3, vi set), (4, .sc (.ptr 0 0)), (5, .sc (.ptr 1 0)), (9, .sc (ownF 1 (li L))), (10, vi n), (11, vb (b.d5v c i n (d4P set) j)), (12, vi j)], [.var b.c, .var c.c]⟩) (fun _ _ => True)
   (fun _ => (.exit 2, ⟨[(2, vi i), (3, vi set), (4, .sc (.ptr 0 0)), (5, .sc (.ptr 1 0)), (9, .sc (ownF 1 (li L))), (10, vi n), (11, vb (b.d5v c i n (d4P set) b.signs.length)), (12, vi b.signs.length), (35, vb false)], [.var b.c, .var c.c]⟩)) () rfl trivial ?_ ?_ (fun _ _ => rfl)
 . intro j _ hj _
   refine ⟨(), trivial, ?_⟩
   obtain ⟨x, hx⟩ : ∃ x, b.signs[j]? = some x := ⟨_, List.getElem?_eq_getElem hj⟩
   have hlt : decide ((j : Int) < b.signs.length) = true := decide_eq_true (by omega)
   have hiw : IntKind.i64.wrap ((j : Int) + 1) = j + 1 := wrap_i64 (by omega) (by omega)
   have hxs := hs.sg x (List.mem_of_getElem? hx)
   obtain ⟨e, he⟩ : ∃ e : Nat, x.day = e := ⟨x.day.toNat, by omega⟩
   have hed : e < b.days.length := by omega
   have hl := d5O (Γ := Γ) b hs c h0 h1 h2 (i : Nat) n hp h30 e hed b.kr b.rests (by omega)
   have g1 := b3h hs h0 h1 h2 hp (r := a2Y b.rests (i : Nat)) e
   have hm : Mild b.days c := by
     have k0 := hs.k0; have k1 := hs.k1
     simp only [Span.has] at h0 h1
     exact ⟨by omega, by omega, fun x hx => ⟨(hs.dy x hx).1.1, (hs.dy x hx).2.1.1⟩⟩
   have g2 := b3i hm (s := n) (r := a2Y b.rests (i : Nat)) e
   have w1 : IntKind.i64.wrap (x.left - a2B b.days c n (a2Y b.rests (i : Nat)) e) = x.left - a2B b.days c n (a2Y b.rests (i : Nat)) e := wrap_i64 (by omega) (by omega)
   have w2 : IntKind.i64.wrap (0 - x.err) = -x.err := by rw [wrap_i64 (by omega) (by omega)]; omega
   rw [d5M hx]
   have hf : b.fair c (i : Nat) n x = within (x.left - a2B b.days c n (a2Y b.rests (i : Nat)) e) (-x.err) x.err := by simp only [Book.fair, he, Int.toNat_natCast]
   cases hrn : b.d5v c i n (d4P set) j with
   | false =>
     (simp only [go_sem, simprocAttr, d4A, hx, hlt, hiw, Bool.false_and]; repeat' (first | ((first | refine brY ?_ | refine brN ?_ | refine brA ?_ | refine brD ?_ | refine brF ?_ | ((first | apply a0k | apply a0j); (. intro h; simp only [go_sem, simprocAttr, a0p h, d4A, hx, hlt, hiw, Bool.false_and]; exact rfl))); (try simp only [go_sem, simprocAttr, d4A, hx, hlt, hiw, Bool.false_and])) | ((first | apply a0e | apply d7E | apply a0a) <;> intro h <;> (try simp only [go_sem, simprocAttr, h, d4A, hx, hlt, hiw, Bool.false_and]))))
     rfl
   | true =>
     cases hbt : d2J set j with
     | true =>
       (simp only [go_sem, simprocAttr, d4A, hx, hlt, hiw, hbt, Bool.true_and, Bool.true_or]; repeat' (first | ((first | refine brY ?_ | refine brN ?_ | refine brA ?_ | refine brD ?_ | refine brF ?_ | ((first | apply a0k | apply a0j); (. intro h; simp only [go_sem, simprocAttr, a0p h, d4A, hx, hlt, hiw, hbt, Bool.true_and, Bool.true_or]; exact rfl))); (try simp only [go_sem, simprocAttr, d4A, hx, hlt, hiw, hbt, Bool.true_and, Bool.true_or])) | ((first | apply a0e | apply d7E | apply a0a) <;> intro h <;> (try simp only [go_sem, simprocAttr, h, d4A, hx, hlt, hiw, hbt, Bool.true_and, Bool.true_or]))))
       rfl
     | false =>
       by_cases hsi : x.singer = i
       . have d1 := decide_eq_true hsi
         have d2 : decide (x.singer ≠ (i : Int)) = false := decide_eq_false (fun h => h hsi)
         rw [hf]
         (simp only [go_sem, simprocAttr, d4A, hx, hlt, hiw, hbt, d1, d2, he, hl, w1, w2, Bool.true_and, Bool.false_or]; repeat' (first | ((first | refine brY ?_ | refine brN ?_ | refine brA ?_ | refine brD ?_ | refine brF ?_ | ((first | apply a0k | apply a0j); (. intro h; simp only [go_sem, simprocAttr, a0p h, d4A, hx, hlt, hiw, hbt, d1, d2, he, hl, w1, w2, Bool.true_and, Bool.false_or]; exact rfl))); (try simp only [go_sem, simprocAttr, d4A, hx, hlt, hiw, hbt, d1, d2, he, hl, w1, w2, Bool.true_and, Bool.false_or])) | ((first | apply a0e | apply d7E | apply a0a) <;> intro h <;> (try simp only [go_sem, simprocAttr, h, d4A, hx, hlt, hiw, hbt, d1, d2, he, hl, w1, w2, Bool.true_and, Bool.false_or]))))
         rfl
       . have d1 := decide_eq_false hsi
         have d2 : decide (x.singer ≠ (i : Int)) = true := decide_eq_true hsi
         (simp only [go_sem, simprocAttr, d4A, hx, hlt, hiw, hbt, d1, d2, Bool.true_and, Bool.false_or, Bool.true_or]; repeat' (first | ((first | refine brY ?_ | refine brN ?_ | refine brA ?_ | refine brD ?_ | refine brF ?_ | ((first | apply a0k | apply a0j); (. intro h; simp only [go_sem, simprocAttr, a0p h, d4A, hx, hlt, hiw, hbt, d1, d2, Bool.true_and, Bool.false_or, Bool.true_or]; exact rfl))); (try simp only [go_sem, simprocAttr, d4A, hx, hlt, hiw, hbt, d1, d2, Bool.true_and, Bool.false_or, Bool.true_or])) | ((first | apply a0e | apply d7E | apply a0a) <;> intro h <;> (try simp only [go_sem, simprocAttr, h, d4A, hx, hlt, hiw, hbt, d1, d2, Bool.true_and, Bool.false_or, Bool.true_or]))))
         rfl
 . intro _ _
   have hlt : decide ((b.signs.length : Int) < b.signs.length) = false := decide_eq_false (by omega)
   (simp only [go_sem, simprocAttr, d4A, hlt]; repeat' (first | ((first | refine brY ?_ | refine brN ?_ | refine brA ?_ | refine brD ?_ | refine brF ?_ | ((first | apply a0k | apply a0j); (. intro h; simp only [go_sem, simprocAttr, a0p h, d4A, hlt]; exact rfl))); (try simp only [go_sem, simprocAttr, d4A, hlt])) | ((first | apply a0e | apply d7E | apply a0a) <;> intro h <;> (try simp only [go_sem, simprocAttr, h, d4A, hlt]))))
theorem d5U (b : Book) [hb : b.Fits] (hs : Sane b) (c : Cost) (h0 : b.c0.has c.p) (h1 : b.c1.has c.f) (h2 : b.c2.has c.n) (i : Nat) (hi : i < b.singers.length) (set : Int) :
   K Γ (.fn 173) [.agg b.c, .agg c.c, vi i, vi set] [] = some (.sc (.sl (kF (li (b.a1B c i (d4P set)))) 1 (li (b.a1B c i (d4P set)))), []) := by
 obtain ⟨s, hsi⟩ : ∃ s, b.singers[i]? = some s := ⟨_, List.getElem?_eq_getElem hi⟩
 have hsp := hs.sp s (List.mem_of_getElem? hsi)
 have hL {β : Type} (Q : Ex -> St -> Option β) : E Γ d5k ⟨[(2, vi i), (3, vi set), (4, .sc (.ptr 0 0)), (5, .sc (.ptr 1 0)), (9, .sc (.sl .full 1 [])), (10, vi s.lo)], [.var b.c, .var c.c]⟩ Q =
     Q (.exit 0) ⟨[(2, vi i), (3, vi set), (4, .sc (.ptr 0 0)), (5, .sc (.ptr 1 0)), (9, .sc (ownF 1 (li (b.a1B c i (d4P set))))), (10, vi (s.hi + 1)), (28, vb false)], [.var b.c, .var c.c]⟩ := by
   refine a4q (s.hi - s.lo + 1).toNat (fun j (_ : Unit) => ⟨[(2, vi i), (3, vi set), (4, .sc (.ptr 0 0)), (5, .sc (.ptr 1 0)), (9, .sc (ownF 1 (li (strP b c i (d4P set) s.lo j)))), (10, vi (s.lo + j))], [.var b.c, .var c.c]⟩) (fun _ _ => True)
     (fun _ => (.exit 0, ⟨[(2, vi i), (3, vi set), (4, .sc (.ptr 0 0)), (5, .sc (.ptr 1 0)), (9, .sc (ownF 1 (li (b.a1B c i (d4P set))))), (10, vi (s.hi + 1)), (28, vb false)], [.var b.c, .var c.c]⟩)) () ?_ trivial ?_ ?_ (fun _ _ => rfl)
   . simp [strP, li, ownF]
   . intro j _ hj _
     refine ⟨(), trivial, ?_⟩
     have hle : decide (s.lo + (j : Int) <= s.hi) = true := decide_eq_true (by omega)
     have hjw : IntKind.i64.wrap (s.lo + (j : Int) + 1) = s.lo + ((j + 1 : Nat) : Int) := by rw [wrap_i64 (by omega) (by omega)]; omega
     have hL1 {β : Type} (Q : Ex -> St -> Option β) := d6n (Γ := Γ) b hs c h0 h1 h2 i hi set (strP b c i (d4P set) s.lo j) (s.lo + j) (by omega) (by omega) Q
     have happ := d1w 1 .full (li (strP b c i (d4P set) s.lo j)) [ci (s.lo + j)] (by rw [b7L]; have := d6f b c i (d4P set) s.lo j; simp only [room]; omega)
     rw [d5V]
     cases hr : b.right c i (s.lo + j) (d4P set) with
     | true =>
       simp only [hr] at hL1
       rw [if_pos rfl, b3j, d3p]
       (simp only [go_sem, simprocAttr, d4J, hsi, hle, hjw, hL1, happ]; repeat' (first | ((first | refine brY ?_ | refine brN ?_ | refine brA ?_ | refine brD ?_ | refine brF ?_ | ((first | apply a0k | apply a0j); (. intro h; simp only [go_sem, simprocAttr, a0p h, d4J, hsi, hle, hjw, hL1, happ]; exact rfl))); (try simp only [go_sem, simprocAttr, d4J, hsi, hle, hjw, hL1, happ])) | ((first | apply a0e | apply d7E | apply a0a) <;> intro h <;> (try simp only [go_sem, simprocAttr, h, d4J, hsi, hle, hjw, hL1, happ]))))
     | false =>
       simp only [hr] at hL1
       rw [if_neg (by decide)]
       (simp only [go_sem, simprocAttr, d4J, hsi, hle, hjw, hL1]; repeat' (first | ((first | refine brY ?_ | refine brN ?_ | refine brA ?_ | refine brD ?_ | refine brF ?_ | ((first | apply a0k | apply a0j); (. intro h; simp only [go_sem, simprocAttr, a0p h, d4J, hsi, hle, hjw, hL1]; exact rfl))); (try simp only [go_sem, simprocAttr, d4J, hsi, hle, hjw, hL1])) | ((first | apply a0e | apply d7E | apply a0a) <;> intro h <;> (try simp only [go_sem, simprocAttr, h, d4J, hsi, hle, hjw, hL1]))))
   . intro _ _
     have hm : s.lo + ((s.hi - s.lo + 1).toNat : Int) = s.hi + 1 := by omega
     have hle : decide (s.hi + 1 <= s.hi) = false := decide_eq_false (by omega)
     rw [hm, d6e b c i (d4P set) hsi]
     (simp only [go_sem, simprocAttr, d4J, hsi, hle]; repeat' (first | ((first | refine brY ?_ | refine brN ?_ | refine brA ?_ | refine brD ?_ | refine brF ?_ | ((first | apply a0k | apply a0j); (. intro h; simp only [go_sem, simprocAttr, a0p h, d4J, hsi, hle]; exact rfl))); (try simp only [go_sem, simprocAttr, d4J, hsi, hle])) | ((first | apply a0e | apply d7E | apply a0a) <;> intro h <;> (try simp only [go_sem, simprocAttr, h, d4J, hsi, hle]))))
 have hu := d3j 1 (li (b.a1B c i (d4P set)))
 rw [K_fn P04.f173 _ _ rfl]
 (simp only [go_sem, simprocAttr, d5b, hsi, hL, hu]; repeat' (first | ((first | refine brY ?_ | refine brN ?_ | refine brA ?_ | refine brD ?_ | refine brF ?_ | ((first | apply a0k | apply a0j); (. intro h; simp only [go_sem, simprocAttr, a0p h, d5b, hsi, hL, hu]; exact rfl))); (try simp only [go_sem, simprocAttr, d5b, hsi, hL, hu])) | ((first | apply a0e | apply d7E | apply a0a) <;> intro h <;> (try simp only [go_sem, simprocAttr, h, d5b, hsi, hL, hu]))))
end
end Go.Pm.St
namespace Go.Pm.St
open Ac
def Book.P2 (b : Book) (p f : Int) : List Cost := (upto b.c2.lo b.c2.hi).map fun n => ⟨p, f, n⟩
def Book.P1 (b : Book) (p : Int) : List Cost := (upto b.c1.lo b.c1.hi).flatMap fun f => b.P2 p f
def Book.d4N (b : Book) (set : Int) : List Cost := b.a8a.filter fun c => b.can c (d4P set)
theorem d5D (lo : Int) (j : Nat) : ((List.range (j + 1)).map fun (k : Nat) => lo + (k : Int)) = ((List.range j).map fun (k : Nat) => lo + (k : Int)) ++ [lo + (j : Int)] := by simp [List.range_succ]
theorem d5S {b : Book} (hs : Sane b) (p f : Int) : (b.P2 p f).length <= 2 := by
 have := hs.k2
 simp only [Book.P2, List.length_map, a9s]; omega
theorem a2G {α β : Type} (g : α -> List β) (m : Nat) (h : ∀ x, (g x).length <= m) : ∀ l : List α, (l.flatMap g).length <= m * l.length
 | [] => by simp
 | x :: l => by
   have := h x; have := a2G g m h l
   simp only [List.flatMap_cons, List.length_append, List.length_cons, Nat.mul_add]; omega
theorem d6o {b : Book} (hs : Sane b) (p : Int) : (b.P1 p).length <= 4 := by
 have h := a2G (fun f => b.P2 p f) 2 (fun f => d5S hs p f) (upto b.c1.lo b.c1.hi)
 have := hs.k1
 rw [a9s] at h
 simp only [Book.P1]; omega
section
variable {Γ : Env} [P04 Γ] [G04 Γ]
theorem d6c (b : Book) [hb : b.Fits] (hs : Sane b) (set : Int) (acc : List Cost) (p f n : Int) (h0 : b.c0.has p) (h1 : b.c1.has f) (h2 : b.c2.has n) {β : Type} {Q : Ex -> St -> Option β} {r : Option β}
   (hQ : ∀ i : Nat, Q (.exit 6) ⟨[(1, vi set), (2, .sc (.ptr 0 0)), (5, .sc (ownC 3 (acc.map Cost.c))), (6, vi p), (7, vi f), (8, vi n), (9, .sc (.ptr 1 0)), (10, vb (b.can ⟨p, f, n⟩ (d4P set))), (11, vi i), (59, vb false)], [.var b.c, .var [ci p, ci f, ci n]]⟩ = r) :
   E Γ d5r ⟨[(1, vi set), (2, .sc (.ptr 0 0)), (5, .sc (ownC 3 (acc.map Cost.c))), (6, vi p), (7, vi f), (8, vi n), (9, .sc (.ptr 1 0)), (10, vb true), (11, vi 0)], [.var b.c, .var [ci p, ci f, ci n]]⟩ Q = r := by
 have hs3 := hs.s3
 have hcan : b.can ⟨p, f, n⟩ (d4P set) = (List.range b.singers.length).all fun i => !(b.a1B ⟨p, f, n⟩ i (d4P set)).isEmpty := by
   simp only [Book.can, Book.strong, List.all_map]; rfl
 rw [hcan] at hQ
 refine b8u (fun i a => ⟨[(1, vi set), (2, .sc (.ptr 0 0)), (5, .sc (ownC 3 (acc.map Cost.c))), (6, vi p), (7, vi f), (8, vi n), (9, .sc (.ptr 1 0)), (10, vb a), (11, vi i)], [.var b.c, .var [ci p, ci f, ci n]]⟩) (List.range b.singers.length) (fun i => !(b.a1B ⟨p, f, n⟩ i (d4P set)).isEmpty)
   (fun i a => (.exit 6, ⟨[(1, vi set), (2, .sc (.ptr 0 0)), (5, .sc (ownC 3 (acc.map Cost.c))), (6, vi p), (7, vi f), (8, vi n), (9, .sc (.ptr 1 0)), (10, vb a), (11, vi i), (59, vb false)], [.var b.c, .var [ci p, ci f, ci n]]⟩)) rfl ?_ ?_ ?_ hQ
 . intro i x hx
   have hi : i < b.singers.length := by have := (List.getElem?_eq_some_iff.1 hx).1; simpa using this
   rw [List.getElem?_range hi] at hx
   obtain rfl := Option.some.inj hx
   have hlt : decide ((i : Int) < b.singers.length) = true := decide_eq_true (by omega)
   have hiw : IntKind.i64.wrap ((i : Int) + 1) = i + 1 := wrap_i64 (by omega) (by omega)
   have hk := d5U (Γ := Γ) b hs ⟨p, f, n⟩ h0 h1 h2 i hi set
   simp only [Cost.c] at hk
   have hem : decide (0 < ((b.a1B ⟨p, f, n⟩ i (d4P set)).length : Int)) = !(b.a1B ⟨p, f, n⟩ i (d4P set)).isEmpty := by
     cases b.a1B ⟨p, f, n⟩ i (d4P set) <;> simp
   (simp only [go_sem, simprocAttr, d4L, hlt, hiw, hk, b7L, hem]; repeat' (first | ((first | refine brY ?_ | refine brN ?_ | refine brA ?_ | refine brD ?_ | refine brF ?_ | ((first | apply a0k | apply a0j); (. intro h; simp only [go_sem, simprocAttr, a0p h, d4L, hlt, hiw, hk, b7L, hem]; exact rfl))); (try simp only [go_sem, simprocAttr, d4L, hlt, hiw, hk, b7L, hem])) | ((first | apply a0e | apply d7E | apply a0a) <;> intro h <;> (try simp only [go_sem, simprocAttr, h, d4L, hlt, hiw, hk, b7L, hem]))))
   rfl
 . intro i _
   (simp only [go_sem, simprocAttr, d4L]; repeat' (first | ((first | refine brY ?_ | refine brN ?_ | refine brA ?_ | refine brD ?_ | refine brF ?_ | ((first | apply a0k | apply a0j); (. intro h; simp only [go_sem, simprocAttr, a0p h, d4L]; exact rfl))); (try simp only [go_sem, simprocAttr, d4L])) | ((first | apply a0e | apply d7E | apply a0a) <;> intro h <;> (try simp only [go_sem, simprocAttr, h, d4L]))))
 . have hlt : decide ((b.singers.length : Int) < b.singers.length) = false := decide_eq_false (by omega)
   rw [List.length_range]
   (simp only [go_sem, simprocAttr, d4L, hlt]; repeat' (first | ((first | refine brY ?_ | refine brN ?_ | refine brA ?_ | refine brD ?_ | refine brF ?_ | ((first | apply a0k | apply a0j); (. intro h; simp only [go_sem, simprocAttr, a0p h, d4L, hlt]; exact rfl))); (try simp only [go_sem, simprocAttr, d4L, hlt])) | ((first | apply a0e | apply d7E | apply a0a) <;> intro h <;> (try simp only [go_sem, simprocAttr, h, d4L, hlt]))))
theorem d6b (b : Book) [hb : b.Fits] (hs : Sane b) (set : Int) (acc : List Cost) (ha : acc.length <= 100) (p f : Int) (h0 : b.c0.has p) (h1 : b.c1.has f) {β : Type} (Q : Ex -> St -> Option β) :
   E Γ d5q ⟨[(1, vi set), (2, .sc (.ptr 0 0)), (5, .sc (ownC 3 (acc.map Cost.c))), (6, vi p), (7, vi f), (8, vi b.c2.lo)], [.var b.c]⟩ Q =
   Q (.exit 4) ⟨[(1, vi set), (2, .sc (.ptr 0 0)), (5, .sc (ownC 3 ((acc ++ (b.P2 p f).filter fun c => b.can c (d4P set)).map Cost.c))), (6, vi p), (7, vi f), (8, vi (b.c2.hi + 1)), (45, vb false)], [.var b.c]⟩ := by
 have k2 := hs.k2
 let g : Nat -> List Cost := fun j => acc ++ ((((List.range j).map fun (k : Nat) => b.c2.lo + (k : Int)).map fun n => (⟨p, f, n⟩ : Cost)).filter fun c => b.can c (d4P set))
 have hgl : ∀ j, (g j).length <= acc.length + j := fun j => by
   simp only [g, List.length_append]
   have := List.length_filter_le (fun c => b.can c (d4P set)) (((List.range j).map fun (k : Nat) => b.c2.lo + (k : Int)).map fun n => (⟨p, f, n⟩ : Cost))
   simp only [List.length_map, List.length_range] at this; omega
 have hgs : ∀ j, g (j + 1) = if b.can ⟨p, f, b.c2.lo + j⟩ (d4P set) then g j ++ [⟨p, f, b.c2.lo + j⟩] else g j := fun j => by
   simp only [g, d5D, List.map_append, List.map_cons, List.map_nil, List.filter_append, List.filter_cons, List.filter_nil]
   split <;> simp
 refine a4q (b.c2.hi - b.c2.lo + 1).toNat (fun j (_ : Unit) => ⟨[(1, vi set), (2, .sc (.ptr 0 0)), (5, .sc (ownC 3 ((g j).map Cost.c))), (6, vi p), (7, vi f), (8, vi (b.c2.lo + j))], [.var b.c]⟩) (fun _ _ => True)
   (fun _ => (.exit 4, ⟨[(1, vi set), (2, .sc (.ptr 0 0)), (5, .sc (ownC 3 ((acc ++ (b.P2 p f).filter fun c => b.can c (d4P set)).map Cost.c))), (6, vi p), (7, vi f), (8, vi (b.c2.hi + 1)), (45, vb false)], [.var b.c]⟩)) () ?_ trivial ?_ ?_ (fun _ _ => rfl)
 . simp [g]
 . intro j _ hj _
   refine ⟨(), trivial, ?_⟩
   have hle : decide (b.c2.lo + (j : Int) <= b.c2.hi) = true := decide_eq_true (by omega)
   have hjw : IntKind.i64.wrap (b.c2.lo + (j : Int) + 1) = b.c2.lo + ((j + 1 : Nat) : Int) := by rw [wrap_i64 (by omega) (by omega)]; omega
   have hh2 : b.c2.has (b.c2.lo + j) := ⟨by omega, by omega⟩
   have happ := a2K 3 ((g j).map Cost.c) .full [ci p, ci f, ci (b.c2.lo + j)] (by have := hgl j; simp only [List.length_map, room]; omega)
   rw [hgs]
   (simp only [go_sem, simprocAttr, d4W, hle]; repeat' (first | ((first | refine brY ?_ | refine brN ?_ | refine brA ?_ | refine brD ?_ | refine brF ?_ | ((first | apply a0k | apply a0j); (. intro h; simp only [go_sem, simprocAttr, a0p h, d4W, hle]; exact rfl))); (try simp only [go_sem, simprocAttr, d4W, hle])) | ((first | apply a0e | apply d7E | apply a0a) <;> intro h <;> (try simp only [go_sem, simprocAttr, h, d4W, hle]))))
   refine d6c b hs set (g j) p f (b.c2.lo + j) h0 h1 hh2 fun i => ?_
   cases hc : b.can ⟨p, f, b.c2.lo + j⟩ (d4P set) with
   | true =>
     simp only [if_true, List.map_append, List.map_cons, List.map_nil, Cost.c]
     (simp only [go_sem, simprocAttr, hjw, happ]; repeat' (first | ((first | refine brY ?_ | refine brN ?_ | refine brA ?_ | refine brD ?_ | refine brF ?_ | ((first | apply a0k | apply a0j); (. intro h; simp only [go_sem, simprocAttr, a0p h, hjw, happ]; exact rfl))); (try simp only [go_sem, simprocAttr, hjw, happ])) | ((first | apply a0e | apply d7E | apply a0a) <;> intro h <;> (try simp only [go_sem, simprocAttr, h, hjw, happ]))))
   | false =>
     simp only [Bool.false_eq_true, if_false]
     (simp only [go_sem, simprocAttr, hjw]; repeat' (first | ((first | refine brY ?_ | refine brN ?_ | refine brA ?_ | refine brD ?_ | refine brF ?_ | ((first | apply a0k | apply a0j); (. intro h; simp only [go_sem, simprocAttr, a0p h, hjw]; exact rfl))); (try simp only [go_sem, simprocAttr, hjw])) | ((first | apply a0e | apply d7E | apply a0a) <;> intro h <;> (try simp only [go_sem, simprocAttr, h, hjw]))))
 . intro _ _
   have hm : b.c2.lo + ((b.c2.hi - b.c2.lo + 1).toNat : Int) = b.c2.hi + 1 := by omega
   have hle : decide (b.c2.hi + 1 <= b.c2.hi) = false := decide_eq_false (by omega)
   rw [hm]
   (simp only [go_sem, simprocAttr, d4W, hle]; repeat' (first | ((first | refine brY ?_ | refine brN ?_ | refine brA ?_ | refine brD ?_ | refine brF ?_ | ((first | apply a0k | apply a0j); (. intro h; simp only [go_sem, simprocAttr, a0p h, d4W, hle]; exact rfl))); (try simp only [go_sem, simprocAttr, d4W, hle])) | ((first | apply a0e | apply d7E | apply a0a) <;> intro h <;> (try simp only [go_sem, simprocAttr, h, d4W, hle]))))
   rfl
theorem d6a (b : Book) [hb : b.Fits] (hs : Sane b) (set : Int) (acc : List Cost) (ha : acc.length <= 50) (p : Int) (h0 : b.c0.has p) {β : Type} (Q : Ex -> St -> Option β) :
   E Γ d5p ⟨[(1, vi set), (2, .sc (.ptr 0 0)), (5, .sc (ownC 3 (acc.map Cost.c))), (6, vi p), (7, vi b.c1.lo)], [.var b.c]⟩ Q =
   Q (.exit 2) ⟨[(1, vi set), (2, .sc (.ptr 0 0)), (5, .sc (ownC 3 ((acc ++ (b.P1 p).filter fun c => b.can c (d4P set)).map Cost.c))), (6, vi p), (7, vi (b.c1.hi + 1)), (33, vb false)], [.var b.c]⟩ := by
 have k1 := hs.k1
 let g : Nat -> List Cost := fun j => acc ++ ((((List.range j).map fun (k : Nat) => b.c1.lo + (k : Int)).flatMap fun f => b.P2 p f).filter fun c => b.can c (d4P set))
 have hgl : ∀ j, (g j).length <= acc.length + 2 * j := fun j => by
   simp only [g, List.length_append]
   have h1 := List.length_filter_le (fun c => b.can c (d4P set)) (((List.range j).map fun (k : Nat) => b.c1.lo + (k : Int)).flatMap fun f => b.P2 p f)
   have h2 := a2G (fun f => b.P2 p f) 2 (fun f => d5S hs p f) ((List.range j).map fun (k : Nat) => b.c1.lo + (k : Int))
   simp only [List.length_map, List.length_range] at h2; omega
 have hgs : ∀ j, g (j + 1) = g j ++ (b.P2 p (b.c1.lo + j)).filter fun c => b.can c (d4P set) := fun j => by
   simp only [g, d5D, List.flatMap_append, List.flatMap_cons, List.flatMap_nil, List.append_nil, List.filter_append, List.append_assoc]
 refine a4q (b.c1.hi - b.c1.lo + 1).toNat (fun j (_ : Unit) => ⟨[(1, vi set), (2, .sc (.ptr 0 0)), (5, .sc (ownC 3 ((g j).map Cost.c))), (6, vi p), (7, vi (b.c1.lo + j))], [.var b.c]⟩) (fun _ _ => True)
   (fun _ => (.exit 2, ⟨[(1, vi set), (2, .sc (.ptr 0 0)), (5, .sc (ownC 3 ((acc ++ (b.P1 p).filter fun c => b.can c (d4P set)).map Cost.c))), (6, vi p), (7, vi (b.c1.hi + 1)), (33, vb false)], [.var b.c]⟩)) () ?_ trivial ?_ ?_ (fun _ _ => rfl)
 . simp [g]
 . intro j _ hj _
   refine ⟨(), trivial, ?_⟩
   have hle : decide (b.c1.lo + (j : Int) <= b.c1.hi) = true := decide_eq_true (by omega)
   have hjw : IntKind.i64.wrap (b.c1.lo + (j : Int) + 1) = b.c1.lo + ((j + 1 : Nat) : Int) := by rw [wrap_i64 (by omega) (by omega)]; omega
   have hL {β : Type} (Q : Ex -> St -> Option β) := d6b (Γ := Γ) b hs set (g j) (by have := hgl j; omega) p (b.c1.lo + j) h0 ⟨by omega, by omega⟩ Q
   rw [hgs]
   (simp only [go_sem, simprocAttr, d4V, hle, hL, hjw]; repeat' (first | ((first | refine brY ?_ | refine brN ?_ | refine brA ?_ | refine brD ?_ | refine brF ?_ | ((first | apply a0k | apply a0j); (. intro h; simp only [go_sem, simprocAttr, a0p h, d4V, hle, hL, hjw]; exact rfl))); (try simp only [go_sem, simprocAttr, d4V, hle, hL, hjw])) | ((first | apply a0e | apply d7E | apply a0a) <;> intro h <;> (try simp only [go_sem, simprocAttr, h, d4V, hle, hL, hjw]))))
 . intro _ _
   have hm : b.c1.lo + ((b.c1.hi - b.c1.lo + 1).toNat : Int) = b.c1.hi + 1 := by omega
   have hle : decide (b.c1.hi + 1 <= b.c1.hi) = false := decide_eq_false (by omega)
   rw [hm]
   (simp only [go_sem, simprocAttr, d4V, hle]; repeat' (first | ((first | refine brY ?_ | refine brN ?_ | refine brA ?_ | refine brD ?_ | refine brF ?_ | ((first | apply a0k | apply a0j); (. intro h; simp only [go_sem, simprocAttr, a0p h, d4V, hle]; exact rfl))); (try simp only [go_sem, simprocAttr, d4V, hle])) | ((first | apply a0e | apply d7E | apply a0a) <;> intro h <;> (try simp only [go_sem, simprocAttr, h, d4V, hle]))))
   rfl
theorem d5L (b : Book) [hb : b.Fits] (hs : Sane b) (set : Int) : K Γ (.fn 147) [.agg b.c, vi set] [] = some (.sc (.sl (kS (b.d4N set)) 3 ((b.d4N set).map Cost.c)), []) := by
 have k0 := hs.k0
 have hL {β : Type} (Q : Ex -> St -> Option β) : E Γ d5o ⟨[(1, vi set), (2, .sc (.ptr 0 0)), (5, .sc (.sl .nil 3 [])), (6, vi b.c0.lo)], [.var b.c]⟩ Q =
     Q (.exit 0) ⟨[(1, vi set), (2, .sc (.ptr 0 0)), (5, .sc (ownC 3 ((b.d4N set).map Cost.c))), (6, vi (b.c0.hi + 1)), (21, vb false)], [.var b.c]⟩ := by
   let g : Nat -> List Cost := fun j => (((List.range j).map fun (k : Nat) => b.c0.lo + (k : Int)).flatMap fun p => b.P1 p).filter fun c => b.can c (d4P set)
   have hgl : ∀ j, (g j).length <= 4 * j := fun j => by
     have h1 := List.length_filter_le (fun c => b.can c (d4P set)) (((List.range j).map fun (k : Nat) => b.c0.lo + (k : Int)).flatMap fun p => b.P1 p)
     have h2 := a2G (fun p => b.P1 p) 4 (fun p => d6o hs p) ((List.range j).map fun (k : Nat) => b.c0.lo + (k : Int))
     simp only [List.length_map, List.length_range] at h2
     simp only [g]; omega
   have hgs : ∀ j, g (j + 1) = g j ++ (b.P1 (b.c0.lo + j)).filter fun c => b.can c (d4P set) := fun j => by
     simp only [g, d5D, List.flatMap_append, List.flatMap_cons, List.flatMap_nil, List.append_nil, List.filter_append]
   refine a4q (b.c0.hi - b.c0.lo + 1).toNat (fun j (_ : Unit) => ⟨[(1, vi set), (2, .sc (.ptr 0 0)), (5, .sc (ownC 3 ((g j).map Cost.c))), (6, vi (b.c0.lo + j))], [.var b.c]⟩) (fun _ _ => True)
     (fun _ => (.exit 0, ⟨[(1, vi set), (2, .sc (.ptr 0 0)), (5, .sc (ownC 3 ((b.d4N set).map Cost.c))), (6, vi (b.c0.hi + 1)), (21, vb false)], [.var b.c]⟩)) () ?_ trivial ?_ ?_ (fun _ _ => rfl)
   . simp [g, ownC]
   . intro j _ hj _
     refine ⟨(), trivial, ?_⟩
     have hle : decide (b.c0.lo + (j : Int) <= b.c0.hi) = true := decide_eq_true (by omega)
     have hjw : IntKind.i64.wrap (b.c0.lo + (j : Int) + 1) = b.c0.lo + ((j + 1 : Nat) : Int) := by rw [wrap_i64 (by omega) (by omega)]; omega
     have hL {β : Type} (Q : Ex -> St -> Option β) := d6a (Γ := Γ) b hs set (g j) (by have := hgl j; omega) (b.c0.lo + j) ⟨by omega, by omega⟩ Q
     rw [hgs]
     (simp only [go_sem, simprocAttr, d4U, hle, hL, hjw]; repeat' (first | ((first | refine brY ?_ | refine brN ?_ | refine brA ?_ | refine brD ?_ | refine brF ?_ | ((first | apply a0k | apply a0j); (. intro h; simp only [go_sem, simprocAttr, a0p h, d4U, hle, hL, hjw]; exact rfl))); (try simp only [go_sem, simprocAttr, d4U, hle, hL, hjw])) | ((first | apply a0e | apply d7E | apply a0a) <;> intro h <;> (try simp only [go_sem, simprocAttr, h, d4U, hle, hL, hjw]))))
   . intro _ _
     have hm : b.c0.lo + ((b.c0.hi - b.c0.lo + 1).toNat : Int) = b.c0.hi + 1 := by omega
     have hle : decide (b.c0.hi + 1 <= b.c0.hi) = false := decide_eq_false (by omega)
     rw [hm]
     (simp only [go_sem, simprocAttr, d4U, hle]; repeat' (first | ((first | refine brY ?_ | refine brN ?_ | refine brA ?_ | refine brD ?_ | refine brF ?_ | ((first | apply a0k | apply a0j); (. intro h; simp only [go_sem, simprocAttr, a0p h, d4U, hle]; exact rfl))); (try simp only [go_sem, simprocAttr, d4U, hle])) | ((first | apply a0e | apply d7E | apply a0a) <;> intro h <;> (try simp only [go_sem, simprocAttr, h, d4U, hle]))))
     rfl
 have hu := a9I 3 ((b.d4N set).map Cost.c)
 rw [d6p] at hu
 rw [K_fn P04.f147 _ _ rfl]
 (simp only [go_sem, simprocAttr, d5d, hL, hu]; repeat' (first | ((first | refine brY ?_ | refine brN ?_ | refine brA ?_ | refine brD ?_ | refine brF ?_ | ((first | apply a0k | apply a0j); (. intro h; simp only [go_sem, simprocAttr, a0p h, d5d, hL, hu]; exact rfl))); (try simp only [go_sem, simprocAttr, d5d, hL, hu])) | ((first | apply a0e | apply d7E | apply a0a) <;> intro h <;> (try simp only [go_sem, simprocAttr, h, d5d, hL, hu]))))
end
end Go.Pm.St
namespace Go.Pm.St
open Ac
theorem a5Z {b : Book} (hv : b.valid = true) (is : Bool) : b.err is = if is then if b.now.isEmpty then 42 else 0 else 41 := by simp only [Book.err, hv, if_true]
section
variable {Γ : Env} [P04 Γ] [G04 Γ]
end
end Go.Pm.St
namespace Go.Pm.St
open Ac
theorem d5W (n : Int) : d2J 0 n = false := by
 simp only [d2J, Int.zero_fdiv]
 have : decide (a5l .i64 (BitVec.ofInt 64 0 &&& BitVec.ofInt 64 1) = 1) = false := by decide
 rw [this, Bool.and_false]
theorem d5N : d4P 0 = fun _ => false := funext fun n => d5W n
theorem d5w (b : Book) : b.d4N 0 = b.now.map Prod.fst := by
 simp only [Book.d4N, d5N, Book.now, Book.a3d, List.map_map]
 exact (List.map_id _).symm
theorem d7c (b : Book) (set : Int) : (b.d4N set).isEmpty = (b.a3d (d4P set)).isEmpty := by
 simp only [Book.d4N, Book.a3d, List.isEmpty_map]
theorem d5A {b : Book} (hs : Sane b) (set : Int) : (b.d4N set).length <= 8 := Nat.le_trans (List.length_filter_le _ _) (b6P hs)
section
variable {Γ : Env} [P04 Γ] [G04 Γ]
def Book.askK (b : Book) (is : Bool) : SK := if b.err is = 0 then kS (b.d4N 0) else .nil
def Book.askL (b : Book) (is : Bool) : List Cost := if b.err is = 0 then b.d4N 0 else []
theorem d5C (b : Book) [hb : b.Fits] (is : Bool) : K Γ (.fn 114) [.agg b.c, vb is] [] = some (.tup [.sc (.sl (b.askK is) 3 ((b.askL is).map Cost.c)), vi (b.err is)], []) := by
 have hc := d5B (Γ := Γ) b
 cases hv : b.valid with
 | false =>
   rw [hv] at hc
   have he : b.err is = 40 := b0G hv
   have h0 : ¬ b.err is = 0 := by rw [he]; decide
   simp only [Book.askK, Book.askL, if_neg h0, he]
   rw [K_fn P04.f114 _ _ rfl]
   (simp only [go_sem, simprocAttr, d4I, hc, Bool.false_eq_true]; repeat' (first | ((first | refine brY ?_ | refine brN ?_ | refine brA ?_ | refine brD ?_ | refine brF ?_ | ((first | apply a0k | apply a0j); (. intro h; simp only [go_sem, simprocAttr, a0p h, d4I, hc, Bool.false_eq_true]; exact rfl))); (try simp only [go_sem, simprocAttr, d4I, hc, Bool.false_eq_true])) | ((first | apply a0e | apply d7E | apply a0a) <;> intro h <;> (try simp only [go_sem, simprocAttr, h, d4I, hc, Bool.false_eq_true]))))
 | true =>
   rw [hv] at hc
   cases is with
   | false =>
     have he : b.err false = 41 := by rw [a5Z hv]; rfl
     have h0 : ¬ b.err false = 0 := by rw [he]; decide
     simp only [Book.askK, Book.askL, if_neg h0, he]
     rw [K_fn P04.f114 _ _ rfl]
     (simp only [go_sem, simprocAttr, d4I, hc]; repeat' (first | ((first | refine brY ?_ | refine brN ?_ | refine brA ?_ | refine brD ?_ | refine brF ?_ | ((first | apply a0k | apply a0j); (. intro h; simp only [go_sem, simprocAttr, a0p h, d4I, hc]; exact rfl))); (try simp only [go_sem, simprocAttr, d4I, hc])) | ((first | apply a0e | apply d7E | apply a0a) <;> intro h <;> (try simp only [go_sem, simprocAttr, h, d4I, hc]))))
   | true =>
     have hs := a2n.1 hv
     have hk := d5L (Γ := Γ) b hs 0
     by_cases hne : b.now = []
     . have he : b.err true = 42 := by rw [a5Z hv, hne]; rfl
       have h0 : ¬ b.err true = 0 := by rw [he]; decide
       have hL : b.d4N 0 = [] := by rw [d5w, hne]; rfl
       rw [hL] at hk
       simp only [Book.askK, Book.askL, if_neg h0, he]
       rw [K_fn P04.f114 _ _ rfl]
       (simp only [go_sem, simprocAttr, d4I, hc, hk, List.map_nil]; repeat' (first | ((first | refine brY ?_ | refine brN ?_ | refine brA ?_ | refine brD ?_ | refine brF ?_ | ((first | apply a0k | apply a0j); (. intro h; simp only [go_sem, simprocAttr, a0p h, d4I, hc, hk, List.map_nil]; exact rfl))); (try simp only [go_sem, simprocAttr, d4I, hc, hk, List.map_nil])) | ((first | apply a0e | apply d7E | apply a0a) <;> intro h <;> (try simp only [go_sem, simprocAttr, h, d4I, hc, hk, List.map_nil]))))
     . have he : b.err true = 0 := by rw [a5Z hv]; cases h : b.now <;> simp_all
       have hd : decide (((b.d4N 0).length : Int) = 0) = false := by rw [d5w, List.length_map]; cases h : b.now <;> simp_all; omega
       simp only [Book.askK, Book.askL, if_pos he, he]
       rw [K_fn P04.f114 _ _ rfl]
       (simp only [go_sem, simprocAttr, d4I, hc, hk, hd, List.length_map]; repeat' (first | ((first | refine brY ?_ | refine brN ?_ | refine brA ?_ | refine brD ?_ | refine brF ?_ | ((first | apply a0k | apply a0j); (. intro h; simp only [go_sem, simprocAttr, a0p h, d4I, hc, hk, hd, List.length_map]; exact rfl))); (try simp only [go_sem, simprocAttr, d4I, hc, hk, hd, List.length_map])) | ((first | apply a0e | apply d7E | apply a0a) <;> intro h <;> (try simp only [go_sem, simprocAttr, h, d4I, hc, hk, hd, List.length_map]))))
end
end Go.Pm.St
namespace Go.Pm.St
open Ac
section
variable {Γ : Env} [P04 Γ] [G04 Γ]
theorem d7f (b : Book) [hb : b.Fits] (x : Sign) : K Γ (.fn 202) [.agg b.c, .agg x.c] [] = some (.tup [vb (b.fits x).1, vi (b.fits x).2], []) := by
 have h1 := d6h (Γ := Γ) b x
 have ha := d5C (Γ := Γ) b (b.a3z x)
 by_cases he : b.err (b.a3z x) = 0
 . obtain ⟨hv, hx, hne⟩ := a5T he
   have hs := b9z hv hx
   haveI := b8S hv x
   have hg := a2n.2 hv
   have hk := d5L (Γ := Γ) (b.add x) hs 0
   have hl8 := d5A hs 0
   have hS := d1p 4 b.kg (b.signs.map Sign.c) (by simp only [List.length_map, room]; omega)
   have hP := d1w 4 .full (b.signs.map Sign.c) x.c (by simp only [List.length_map, room]; omega)
   have hem : decide (0 < (((b.add x).d4N 0).length : Int)) = !(b.add x).now.isEmpty := by
     rw [d5w, List.length_map]; cases (b.add x).now <;> simp
   rw [he] at ha
   simp only [Book.fits, if_pos he]
   rw [K_fn P04.f202 _ _ rfl]
   (simp only [go_sem, simprocAttr, d6P, h1, ha, hS, hP, hk, hem, List.length_map]; repeat' (first | ((first | refine brY ?_ | refine brN ?_ | refine brA ?_ | refine brD ?_ | refine brF ?_ | ((first | apply a0k | apply a0j); (. intro h; simp only [go_sem, simprocAttr, a0p h, d6P, h1, ha, hS, hP, hk, hem, List.length_map]; exact rfl))); (try simp only [go_sem, simprocAttr, d6P, h1, ha, hS, hP, hk, hem, List.length_map])) | ((first | apply a0e | apply d7E | apply a0a) <;> intro h <;> (try simp only [go_sem, simprocAttr, h, d6P, h1, ha, hS, hP, hk, hem, List.length_map]))))
 . have hd : decide (b.err (b.a3z x) = 0) = false := decide_eq_false he
   simp only [Book.fits, if_neg he]
   rw [K_fn P04.f202 _ _ rfl]
   (simp only [go_sem, simprocAttr, d6P, h1, ha, hd]; repeat' (first | ((first | refine brY ?_ | refine brN ?_ | refine brA ?_ | refine brD ?_ | refine brF ?_ | ((first | apply a0k | apply a0j); (. intro h; simp only [go_sem, simprocAttr, a0p h, d6P, h1, ha, hd]; exact rfl))); (try simp only [go_sem, simprocAttr, d6P, h1, ha, hd])) | ((first | apply a0e | apply d7E | apply a0a) <;> intro h <;> (try simp only [go_sem, simprocAttr, h, d6P, h1, ha, hd]))))
end
end Go.Pm.St
namespace Go.Pm.St
open Ac
abbrev Can (b : Book) (c : Cost) (st : Nat -> Int) : Prop := Way b (fun _ => false) c st
theorem d1Q {b : Book} (hs : Sane b) : b.now ≠ [] <-> ∃ c st, Can b c st := d1M hs
end Go.Pm.St
namespace Go.Pm.St
open Ac
def Book.bare (b : Book) : Book := { b with kg := .nil, signs := [] }
def Book.lie (b : Book) (m : Rest) : Book := { b with kr := .shared, rests := b.rests ++ [m] }
def ownR (b : Book) (m : Rest) : List C := [.sl b.ks 2 (b.singers.map Span.c), ci b.c0.lo, ci b.c0.hi, ci b.c1.lo, ci b.c1.hi, ci b.c2.lo, ci b.c2.hi, .sl b.kd 3 (b.days.map Day.c), .own 2 (b.rests.map Rest.c ++ [m.c]), .sl b.kg 4 (b.signs.map Sign.c)]
@[go_sem] theorem d1T (b : Book) : b.c.set 9 (.sl .nil 4 []) = b.bare.c := nrfl rfl
@[go_sem] theorem d1O (b : Book) (m : Rest) : b.bare.c.set 8 (.own 2 (b.rests.map Rest.c ++ [m.c])) = ownR b.bare m := nrfl rfl
@[go_sem] theorem d1U (b : Book) (m : Rest) : a0R (ownR b m) 0 10 = some (ownR b m) := nrfl rfl
@[go_sem] theorem d1V (b : Book) (m : Rest) : (ownR b m).map a0r = (b.lie m).c := by
 simp [ownR, Book.lie, Book.c, a0r]
@[go_sem] theorem d1S (b : Book) (m : Rest) (n : Nat) : C.a0G n (ownR b m) = true := by simp [ownR, go_sem]
theorem d1t {b : Book} (hs : Sane b) : Sane b.bare :=
 ⟨hs.s1, hs.s3, hs.d1, hs.d5, hs.r6, by simp [Book.bare], hs.sp, hs.k0, hs.k1, hs.k2, hs.dy, hs.rs, fun y hy => by cases hy⟩
theorem d1n {b : Book} (h : b.signs = []) {c : Cost} {st : Nat -> Int} : Can b c st <-> b.c0.has c.p /\ b.c1.has c.f /\ b.c2.has c.n /\ ∀ (i : Nat) s, b.singers[i]? = some s -> s.has (st i) :=
 ⟨fun w => ⟨w.c0, w.c1, w.c2, w.str⟩, fun ⟨h0, h1, h2, h3⟩ => ⟨h0, h1, h2, h3, fun j x hx => by rw [h] at hx; cases hx⟩⟩
theorem d1D {b : Book} (hs : Sane b) (h : b.signs = []) : b.now ≠ [] := by
 rw [d1Q hs]
 refine ⟨⟨b.c0.lo, b.c1.lo, b.c2.lo⟩, fun i => ((b.singers[i]?).map Span.lo).getD 0, (d1n h).2 ⟨⟨Int.le_refl _, hs.k0.2.1⟩, ⟨Int.le_refl _, hs.k1.2.1⟩, ⟨Int.le_refl _, hs.k2.2.1⟩, fun i s hi => ?_⟩⟩
 rw [hi]
 exact ⟨Int.le_refl _, (hs.sp s (List.mem_of_getElem? hi)).2.1⟩
section
variable {Γ : Env} [P04 Γ] [G04 Γ]
end
end Go.Pm.St
namespace Go.Pm.St
open Ac
def Incr (f n : Int) : List Int -> Prop
 | [] => True
 | x :: xs => f <= x /\ x < n /\ Incr (x + 1) n xs
theorem Incr.mem {n : Int} : ∀ {f : Int} {l : List Int}, Incr f n l -> ∀ x, x ∈ l -> f <= x /\ x < n
 | f, [], _, x, h => by simp at h
 | f, y :: l, hi, x, h => by
   obtain ⟨h1, h2, h3⟩ := hi
   rcases List.mem_cons.1 h with rfl | h
   . exact ⟨h1, h2⟩
   . have := h3.mem x h; omega
theorem d3e {n : Int} : ∀ {f : Int} {l : List Int}, (∀ x, x ∈ l -> f <= x /\ x < n) -> l.Pairwise (. < ·) -> Incr f n l
 | f, [], _, _ => trivial
 | f, x :: l, h, hp => by
   rw [List.pairwise_cons] at hp
   have hx := h x (by simp)
   exact ⟨hx.1, hx.2, d3e (fun y hy => ⟨by have := hp.1 y hy; omega, (h y (by simp [hy])).2⟩) hp.2⟩
theorem d3i (set : Int) (m : Nat) : Incr 0 m (d2D set m) := by
 refine d3e (fun x hx => ?_) ?_
 . simp only [d2D, List.mem_map, List.mem_filter, List.mem_range] at hx
   obtain ⟨j, ⟨hj, -⟩, rfl⟩ := hx
   omega
 . simp only [d2D]
   rw [List.pairwise_map]
   exact (List.Pairwise.filter _ (List.pairwise_lt_range (n := m))).imp (fun h => by omega)
def before : List Int -> List Int -> Bool
 | [], [] => false
 | [], _ :: _ => true
 | _ :: _, [] => false
 | x :: xs, y :: ys => if x = y then before xs ys else decide (x < y)
theorem d2Q {α : Type} (p : α -> Bool) : ∀ (l : List α) (n m : Nat), (a0z (fun _ x => p x) n l).map Prod.snd = (a0z (fun _ x => p x) m l).map Prod.snd
 | [], _, _ => rfl
 | x :: l, n, m => by
   by_cases h : p x = true
   . simp only [a0z, h, if_true, Option.map_some]
   . simp only [a0z, h, if_false]; exact d2Q p l (n + 1) (m + 1)
theorem d3a (l m : List Int) (n : Nat) : earlier l m = match (a0z (fun _ (p : Int × Int) => decide (p.1 ≠ p.2)) n (l.zip m)).map Prod.snd with | some p => decide (p.1 < p.2) | none => decide ((l.length : Int) < m.length) := by
 rw [d2Q (fun p : Int × Int => decide (p.1 ≠ p.2)) (l.zip m) n 0]
 unfold earlier
 cases a0z (fun _ (p : Int × Int) => decide (p.1 ≠ p.2)) 0 (l.zip m) with
 | none => rfl
 | some q => rfl
theorem d2P : ∀ (l m : List Int), earlier l m = before l m
 | [], [] => rfl
 | [], y :: ys => by simp [earlier, a0z, before]; try omega
 | x :: xs, [] => by simp [earlier, a0z, before]; try omega
 | x :: xs, y :: ys => by
   have ih := d2P xs ys
   rw [d3a xs ys 1] at ih
   rw [d3a (x :: xs) (y :: ys) 0]
   simp only [List.zip_cons_cons, a0z, before]
   by_cases h : x = y
   . have d : decide (x ≠ y) = false := decide_eq_false (fun e => e h)
     simp only [d, Bool.false_eq_true, if_false, if_pos h, Nat.zero_add]
     rw [← ih]
     cases (a0z (fun _ (p : Int × Int) => decide (p.1 ≠ p.2)) 1 (xs.zip ys)).map Prod.snd with
     | none => simp only [List.length_cons, decide_eq_decide]; omega
     | some p => rfl
   . have d : decide (x ≠ y) = true := decide_eq_true h
     simp only [d, if_true, Option.map_some, if_neg h]
theorem d2O (l : List Int) (x : Int) : a2r (l ++ [x]) = x + 1 := by
 have : l ++ [x] ≠ [] := by simp
 simp [a2r]
def Book.but (b : Book) (l : List Int) : List Truth := b.a3d fun n => l.contains n
theorem choose_spec (b : Book) : ∀ (r : Nat) (l : List Int),
   ((b.choose r l).2 = true -> ∃ e, (b.choose r l).1 = l ++ e /\ e.length = r /\ Incr (a2r l) b.signs.length e /\ b.but (l ++ e) ≠ [] /\ ∀ e', e'.length = r -> Incr (a2r l) b.signs.length e' -> b.but (l ++ e') ≠ [] -> before e' e = false) ∧
   ((b.choose r l).2 = false -> ∀ e', e'.length = r -> Incr (a2r l) b.signs.length e' -> b.but (l ++ e') = [])
 | 0, l => by
   refine ⟨fun h => ?_, fun h => ?_⟩
   . have h' : (!(b.but l).isEmpty) = true := h
     have hn : b.but l ≠ [] := fun e => by rw [e] at h'; cases h'
     exact ⟨[], by simp [Book.choose], rfl, trivial, by simpa using hn, fun e' he' _ _ => by cases e' with | nil => rfl | cons => simp at he'⟩
   . intro e' he' _
     have h' : (!(b.but l).isEmpty) = false := h
     cases e' with
     | nil => cases hq : b.but l with
       | nil => simpa using hq
       | cons x xs => rw [hq] at h'; cases h'
     | cons => simp at he'
 | r + 1, l => by
   have hr : ∀ i : Nat, i < (b.signs.length - a2r l).toNat -> (List.range (b.signs.length - a2r l).toNat)[i]? = some i := fun i hi => List.getElem?_range hi
   cases hf : a0z (fun i _ => (b.choose r (l ++ [a2r l + (i : Nat)])).2) 0 (List.range (b.signs.length - a2r l).toNat) with
   | none =>
     have hc : b.choose (r + 1) l = ([], false) := by simp only [Book.choose, hf]
     rw [hc]
     refine ⟨fun h => (by cases h), fun _ e' he' hi => ?_⟩
     cases e' with
     | nil => simp at he'
     | cons x xs =>
       obtain ⟨h1, h2, h3⟩ := hi
       have hx : x = a2r l + ((x - a2r l).toNat : Int) := by omega
       have := a2L.1 hf (x - a2r l).toNat _ (hr _ (by omega))
       rw [Nat.zero_add, ← hx] at this
       have hq := (choose_spec b r (l ++ [x])).2 this xs (by simpa using he') (by rw [d2O]; exact h3)
       simpa using hq
   | some q =>
     obtain ⟨i, j⟩ := q
     obtain ⟨-, g2, g3, g4⟩ := a3F hf
     have hil : i < (b.signs.length - a2r l).toNat := by have := (List.getElem?_eq_some_iff.1 g2).1; simp at this; omega
     have hc : b.choose (r + 1) l = ((b.choose r (l ++ [a2r l + (i : Nat)])).1, true) := by simp only [Book.choose, hf]
     rw [hc]
     refine ⟨fun _ => ?_, fun h => (by cases h)⟩
     obtain ⟨e, h1, h2, h3, h4, h5⟩ := (choose_spec b r (l ++ [a2r l + (i : Nat)])).1 g3
     rw [d2O] at h3 h5
     refine ⟨(a2r l + (i : Nat)) :: e, by rw [h1]; simp, by simp [h2], ⟨by omega, by omega, h3⟩, by simpa using h4, ?_⟩
     intro e' he' hi' ht'
     cases e' with
     | nil => simp at he'
     | cons x xs =>
       obtain ⟨k1, k2, k3⟩ := hi'
       simp only [before]
       by_cases hxe : x = a2r l + (i : Nat)
       . rw [if_pos hxe]
         subst hxe
         exact h5 xs (by simpa using he') k3 (by simpa using ht')
       . rw [if_neg hxe]
         by_cases hlt : x < a2r l + (i : Nat)
         . have hx : x = a2r l + ((x - a2r l).toNat : Int) := by omega
           have := g4 (x - a2r l).toNat _ (by omega) (hr _ (by omega))
           rw [Nat.zero_add, ← hx] at this
           have hq := (choose_spec b r (l ++ [x])).2 this xs (by simpa using he') (by rw [d2O]; exact k3)
           exact absurd (by simpa using hq) ht'
         . exact decide_eq_false hlt
theorem d3r {b : Book} (hs : Sane b) : b.but ((List.range b.signs.length).map fun (j : Nat) => (j : Int)) ≠ [] := by
 rw [Book.but, d1M hs]
 obtain ⟨c, st, w⟩ := (d1Q (d1t hs)).1 (d1D (d1t hs) rfl)
 refine ⟨c, st, w.c0, w.c1, w.c2, w.str, fun i x hx hb => ?_⟩
 have : ((List.range b.signs.length).map fun (j : Nat) => (j : Int)).contains (i : Int) = true := by
   rw [List.contains_iff_mem, List.mem_map]
   exact ⟨i, List.mem_range.2 (List.getElem?_eq_some_iff.1 hx).1, rfl⟩
 rw [this] at hb; cases hb
theorem d3l {b : Book} (hv : b.valid = true) : b.wrong.2 = 0 /\ Incr 0 b.signs.length b.wrong.1 /\ b.but b.wrong.1 ≠ [] /\ b.wrong.1.length <= b.signs.length ∧
   ∀ l, Incr 0 b.signs.length l -> b.but l ≠ [] -> shorter l b.wrong.1 = false := by
 have hall : (b.choose b.signs.length []).2 = true := by
   cases h : (b.choose b.signs.length []).2 with
   | true => rfl
   | false =>
     have := (choose_spec b b.signs.length []).2 h ((List.range b.signs.length).map fun (j : Nat) => (j : Int)) (by simp) (d3e (fun x hx => by
       simp only [List.mem_map, List.mem_range] at hx
       obtain ⟨j, hj, rfl⟩ := hx
       simp [a2r]; omega) (by rw [List.pairwise_map]; exact List.pairwise_lt_range.imp (fun h => by omega)))
     exact absurd (by simpa using this) (d3r (a2n.1 hv))
 cases hf : a0z (fun m _ => (b.choose m []).2) 0 (List.range (b.signs.length + 1)) with
 | none =>
   have := a2L.1 hf b.signs.length b.signs.length (List.getElem?_range (by omega))
   rw [Nat.zero_add, hall] at this; cases this
 | some q =>
   obtain ⟨m, j⟩ := q
   obtain ⟨-, g2, g3, g4⟩ := a3F hf
   have hm : m < b.signs.length + 1 := by have := (List.getElem?_eq_some_iff.1 g2).1; simp at this; omega
   have hw : b.wrong = ((b.choose m []).1, 0) := by simp only [Book.wrong, hv, if_true, hf]
   rw [hw]
   obtain ⟨e, h1, h2, h3, h4, h5⟩ := (choose_spec b m []).1 g3
   have hf0 : a2r [] = 0 := rfl
   rw [hf0] at h3 h5
   simp only [List.nil_append] at h1 h4 h5
   refine ⟨rfl, by rw [h1]; exact h3, by rw [h1]; exact h4, by rw [h1, h2]; omega, fun l hl ht => ?_⟩
   simp only [h1, shorter, Bool.or_eq_false_iff, Bool.and_eq_false_iff, decide_eq_false_iff_not]
   constructor
   . intro hlt
     have hq := g4 l.length l.length (by omega) (List.getElem?_range (by omega))
     rw [Nat.zero_add] at hq
     have := (choose_spec b l.length []).2 hq l rfl hl
     exact ht (by simpa using this)
   . by_cases hle : (l.length : Int) = e.length
     . right
       rw [d2P]
       exact h5 l (by omega) hl ht
     . exact .inl hle
def Book.d2x (b : Book) (l : List Int) (i : Nat) : List Sign := (List.range i).foldl (fun acc (j : Nat) => match b.signs[j]? with | some x => if l.contains (j : Int) then acc else acc ++ [x] | none => acc) []
def Book.d2Z (b : Book) (L : List Sign) : Book := { b with kg := if L = [] then .nil else .shared, signs := L }
def Book.without (b : Book) (l : List Int) : Book := b.d2Z (b.d2x l b.signs.length)
def B9 (b : Book) (c : C) : List C := [.sl b.ks 2 (b.singers.map Span.c), ci b.c0.lo, ci b.c0.hi, ci b.c1.lo, ci b.c1.hi, ci b.c2.lo, ci b.c2.hi, .sl b.kd 3 (b.days.map Day.c), .sl b.kr 2 (b.rests.map Rest.c), c]
section
variable (b : Book) (c c' : C)
@[go_sem] theorem d3C : (B9 b c)[9]? = some c := nrfl rfl
@[go_sem] theorem d3E : (B9 b c).set 9 c' = B9 b c' := nrfl rfl
@[go_sem] theorem d3z (n : Nat) : C.a0G n (B9 b c) = C.a0G n [c] := by simp [B9, C.a0G, C.under]
@[go_sem] theorem d3D : (B9 b c).length = 10 := nrfl rfl
@[go_sem] theorem d3B : a0R (B9 b c) 0 10 = some (B9 b c) := nrfl rfl
end
section
variable {Γ : Env} [P04 Γ] [G04 Γ]
end
end Go.Pm.St
namespace Go.Pm.St
open Ac
theorem before_total : ∀ (l m : List Int), l.length = m.length -> before l m = false -> before m l = false -> l = m
 | [], [], _, _, _ => rfl
 | [], _ :: _, h, _, _ => by simp at h
 | _ :: _, [], h, _, _ => by simp at h
 | x :: xs, y :: ys, h, h1, h2 => by
   simp only [before] at h1 h2
   by_cases e : x = y
   . subst e
     simp only [if_true] at h1 h2
     rw [before_total xs ys (by simpa using h) h1 h2]
   . rw [if_neg e] at h1
     rw [if_neg (fun h => e h.symm)] at h2
     simp only [decide_eq_false_iff_not] at h1 h2
     omega
theorem before_trans : ∀ (l m k : List Int), before l m = true -> before m k = true -> before l k = true
 | [], [], _, h, _ => by simp [before] at h
 | [], _ :: _, [], _, h => by simp [before] at h
 | [], _ :: _, _ :: _, _, _ => by simp [before]
 | _ :: _, [], _, h, _ => by simp [before] at h
 | _ :: _, _ :: _, [], _, h => by simp [before] at h
 | x :: xs, y :: ys, z :: zs, h1, h2 => by
   simp only [before] at h1 h2 ⊢
   by_cases e1 : x = y
   . subst e1
     simp only [if_true] at h1
     by_cases e2 : x = z
     . subst e2
       simp only [if_true] at h2 ⊢
       exact before_trans xs ys zs h1 h2
     . rw [if_neg e2] at h2 ⊢; exact h2
   . rw [if_neg e1] at h1
     simp only [decide_eq_true_eq] at h1
     by_cases e2 : y = z
     . subst e2
       rw [if_neg e1]; exact decide_eq_true h1
     . rw [if_neg e2] at h2
       simp only [decide_eq_true_eq] at h2
       rw [if_neg (by omega)]; exact decide_eq_true (by omega)
theorem d6S (l m : List Int) : shorter l m = true <-> l.length < m.length \/ (l.length = m.length /\ before l m = true) := by
 simp only [shorter, d2P, Bool.or_eq_true, Bool.and_eq_true, decide_eq_true_eq]
 constructor
 . rintro (h | ⟨h, e⟩)
   . exact .inl (by omega)
   . exact .inr ⟨by omega, e⟩
 . rintro (h | ⟨h, e⟩)
   . exact .inl (by omega)
   . exact .inr ⟨by omega, e⟩
theorem d6V {l m : List Int} (h1 : shorter l m = false) (h2 : shorter m l = false) : l = m := by
 have a := _root_.mt (d6S l m).2 (by rw [h1]; decide)
 have c := _root_.mt (d6S m l).2 (by rw [h2]; decide)
 have hl : l.length = m.length := by omega
 refine before_total l m hl ?_ ?_
 . rw [Bool.eq_false_iff]; intro h; exact a (.inr ⟨hl, h⟩)
 . rw [Bool.eq_false_iff]; intro h; exact c (.inr ⟨hl.symm, h⟩)
theorem d6W {l m k : List Int} (h1 : shorter l m = true) (h2 : shorter m k = true) : shorter l k = true := by
 rw [d6S] at *
 rcases h1 with h1 | ⟨h1, e1⟩ <;> rcases h2 with h2 | ⟨h2, e2⟩
 . left; omega
 . left; omega
 . left; omega
 . exact .inr ⟨by omega, before_trans l m k e1 e2⟩
theorem d6Y {n : Int} : ∀ {f : Int} {l m : List Int}, Incr f n l -> Incr f n m -> (∀ x, x ∈ l <-> x ∈ m) -> l = m
 | f, [], [], _, _, _ => rfl
 | f, [], y :: ys, _, _, h => by have := (h y).2 (by simp); simp at this
 | f, x :: xs, [], _, _, h => by have := (h x).1 (by simp); simp at this
 | f, x :: xs, y :: ys, h1, h2, h => by
   have hxy : x = y := by
     have a := (h x).1 (by simp)
     have c := (h y).2 (by simp)
     rcases List.mem_cons.1 a with e | a
     . exact e
     . rcases List.mem_cons.1 c with e | c
       . exact e.symm
       . have := (h2.2.2.mem x a).1
         have := (h1.2.2.mem y c).1
         omega
   subst hxy
   rw [d6Y h1.2.2 h2.2.2 (fun z => ?_)]
   have hz := h z
   simp only [List.mem_cons] at hz
   constructor
   . intro hm
     rcases hz.1 (.inr hm) with e | e
     . subst e; have := (h1.2.2.mem z hm).1; omega
     . exact e
   . intro hm
     rcases hz.2 (.inr hm) with e | e
     . subst e; have := (h2.2.2.mem z hm).1; omega
     . exact e
theorem d7b (p : Nat -> Bool) : ∀ m : Nat, m <= 5 -> ∃ s : Nat, s < 2 ^ m /\ ∀ j : Nat, j < m -> d2J (s : Int) (j : Int) = p j := by
 intro m hm
 have key : ∀ p0 p1 p2 p3 p4 : Bool, ∀ m : Fin 6, ∃ s : Fin 32, s.val < 2 ^ m.val /\ ∀ j : Fin 5, j.val < m.val -> d2J (s.val : Int) (j.val : Int) = [p0, p1, p2, p3, p4].getD j.val false := by decide +kernel
 obtain ⟨s, h1, h2⟩ := key (p 0) (p 1) (p 2) (p 3) (p 4) ⟨m, by omega⟩
 refine ⟨s.val, h1, fun j hj => ?_⟩
 have := h2 ⟨j, by omega⟩ hj
 rw [this]
 have hc : j = 0 \/ j = 1 \/ j = 2 \/ j = 3 \/ j = 4 := by omega
 rcases hc with rfl | rfl | rfl | rfl | rfl <;> rfl
theorem d6U (set : Int) (m : Nat) (x : Int) : x ∈ d2D set m <-> ∃ j : Nat, j < m /\ d2J set j = true /\ x = j := by
 simp only [d2D, List.mem_map, List.mem_filter, List.mem_range]
 constructor
 . rintro ⟨j, ⟨h1, h2⟩, rfl⟩; exact ⟨j, h1, h2, rfl⟩
 . rintro ⟨j, h1, h2, rfl⟩; exact ⟨j, ⟨h1, h2⟩, rfl⟩
theorem d6T {m : Nat} (hm : m <= 5) {l : List Int} (hl : Incr 0 m l) : ∃ s : Nat, s < 2 ^ m /\ d2D (s : Int) m = l := by
 obtain ⟨s, h1, h2⟩ := d7b (fun j => l.contains (j : Int)) m hm
 refine ⟨s, h1, d6Y (d3i s m) hl fun x => ?_⟩
 rw [d6U]
 constructor
 . rintro ⟨j, hj, hb, rfl⟩
   rw [h2 j hj] at hb
   exact List.contains_iff_mem.1 hb
 . intro hx
   have := hl.mem x hx
   refine ⟨x.toNat, by omega, ?_, by omega⟩
   rw [h2 _ (by omega)]
   have e : ((x.toNat : Nat) : Int) = x := by omega
   rw [e]; exact List.contains_iff_mem.2 hx
theorem d7d : ∀ m : Nat, m <= 5 -> d2D (2 ^ m - 1) m = (List.range m).map fun (j : Nat) => (j : Int) := by
 intro m hm
 have hc : m = 0 \/ m = 1 \/ m = 2 \/ m = 3 \/ m = 4 \/ m = 5 := by omega
 rcases hc with rfl | rfl | rfl | rfl | rfl | rfl <;> decide +kernel
theorem d6Z (m : Nat) : Incr 0 m ((List.range m).map fun (j : Nat) => (j : Int)) := d3e (fun x hx => by
 simp only [List.mem_map, List.mem_range] at hx
 obtain ⟨j, hj, rfl⟩ := hx
 omega) (by rw [List.pairwise_map]; exact List.pairwise_lt_range.imp (fun h => by omega))
theorem d7a {b : Book} (hs : Sane b) {p q : Int -> Bool} (h : ∀ j : Nat, j < b.signs.length -> p j = q j) : b.a3d p ≠ [] <-> b.a3d q ≠ [] := by
 rw [d1M hs, d1M hs]
 constructor
 . rintro ⟨c, st, w⟩; exact ⟨c, st, w.c0, w.c1, w.c2, w.str, fun j x hx hb => w.sg j x hx (by rw [h j (List.getElem?_eq_some_iff.1 hx).1]; exact hb)⟩
 . rintro ⟨c, st, w⟩; exact ⟨c, st, w.c0, w.c1, w.c2, w.str, fun j x hx hb => w.sg j x hx (by rw [← h j (List.getElem?_eq_some_iff.1 hx).1]; exact hb)⟩
structure BestI (b : Book) (i : Nat) (a : List Int) : Prop where
 incr : Incr 0 b.signs.length a
 ne : b.but a ≠ []
 least : ∀ s : Nat, s < i -> b.but (d2D s b.signs.length) ≠ [] -> shorter (d2D s b.signs.length) a = false
section
variable {Γ : Env} [P04 Γ] [G04 Γ]
theorem d7e (b : Book) [hb : b.Fits] : ∃ k, K Γ (.fn 203) [.agg b.c] [] = some (.tup [.sc (.sl k 1 (b.wrong.1.map fun x => [ci x])), vi b.wrong.2], []) := by
 have hc := d5B (Γ := Γ) b
 rcases Bool.eq_false_or_eq_true b.valid with hv | hv
 rotate_left
 . rw [hv] at hc
   have hw : b.wrong = ([], 40) := by simp [Book.wrong, hv]
   rw [hw]
   refine ⟨.nil, ?_⟩
   rw [K_fn P04.f203 _ _ rfl]
   (simp only [go_sem, simprocAttr, d6O, hc, Bool.false_eq_true, List.map_nil]; repeat' (first | ((first | refine brY ?_ | refine brN ?_ | refine brA ?_ | refine brD ?_ | refine brF ?_ | ((first | apply a0k | apply a0j); (. intro h; simp only [go_sem, simprocAttr, a0p h, d6O, hc, Bool.false_eq_true, List.map_nil]; exact rfl))); (try simp only [go_sem, simprocAttr, d6O, hc, Bool.false_eq_true, List.map_nil])) | ((first | apply a0e | apply d7E | apply a0a) <;> intro h <;> (try simp only [go_sem, simprocAttr, h, d6O, hc, Bool.false_eq_true, List.map_nil]))))
 have hs := a2n.1 hv
 have h5 := a2n.2 hv
 rw [hv] at hc
 obtain ⟨w1, w2, w3, w4, w5⟩ := d3l hv
 rw [w1]
 obtain ⟨m, hm⟩ : ∃ m, b.signs.length = m := ⟨_, rfl⟩
 rw [hm] at h5
 replace h5 : m <= 5 := by omega
 have hmc : m = 0 \/ m = 1 \/ m = 2 \/ m = 3 \/ m = 4 \/ m = 5 := by omega
 have hpow : (2 : Int) ^ m = ((2 ^ m : Nat) : Int) /\ 1 <= (2 : Int) ^ m /\ (2 : Int) ^ m <= 32 := by
   rcases hmc with rfl | rfl | rfl | rfl | rfl | rfl <;> decide
 have hsh : IntKind.i64.wrap (1 * 2 ^ Nat.min m 64) = 2 ^ m := by
   have hmm : Nat.min m 64 = m := Nat.min_eq_left (by omega)
   rw [hmm, Int.one_mul]
   exact wrap_i64 (by omega) (by omega)
 have hsh2 : IntKind.i64.wrap (1 * 2 ^ Nat.min m IntKind.i64.bits) = 2 ^ m := hsh
 have hm0 : decide ((m : Int) < 0) = false := decide_eq_false (by omega)
 have hsw : IntKind.i64.wrap ((2 : Int) ^ m - 1) = 2 ^ m - 1 := wrap_i64 (by omega) (by omega)
 have hB (s : Int) := d3s (Γ := Γ) s m (by omega)
 simp only [Int.toNat_natCast] at hB
 have hall := d3r hs
 rw [hm] at hall
 refine ⟨kF b.wrong.1, ?_⟩
 have hL {β : Type} {Q : Ex -> St -> Option β} {r : Option β} (hQ : Q (.exit 0) ⟨[(1, .sc (.ptr 0 0)), (5, vi m), (6, .sc (.sl (kF b.wrong.1) 1 (b.wrong.1.map fun x => [ci x]))), (7, vi (2 ^ m : Int)), (25, vb false)], [.var b.c]⟩ = r) :
     E Γ d6R ⟨[(1, .sc (.ptr 0 0)), (5, vi m), (6, .sc (.sl (kF (d2D (2 ^ m - 1) m)) 1 ((d2D (2 ^ m - 1) m).map fun x => [ci x]))), (7, vi 0)], [.var b.c]⟩ Q = r := by
   refine a4q (2 ^ m) (fun i (a : List Int) => ⟨[(1, .sc (.ptr 0 0)), (5, vi m), (6, .sc (.sl (kF a) 1 (a.map fun x => [ci x]))), (7, vi i)], [.var b.c]⟩) (BestI b)
     (fun a => (.exit 0, ⟨[(1, .sc (.ptr 0 0)), (5, vi m), (6, .sc (.sl (kF a) 1 (a.map fun x => [ci x]))), (7, vi (2 ^ m : Int)), (25, vb false)], [.var b.c]⟩)) (d2D (2 ^ m - 1) m) rfl ?_ ?_ ?_ ?_
   . rw [d7d m h5]
     exact ⟨by rw [hm]; exact d6Z m, hall, fun s hs => by omega⟩
   . intro i a hi hI
     have hi32 : i < 32 := by
       have : ((2 ^ m : Nat) : Int) <= 32 := by rw [← hpow.1]; exact hpow.2.2
       omega
     have hlt : decide ((i : Int) < 2 ^ m) = true := decide_eq_true (by rw [hpow.1]; omega)
     have hiw : IntKind.i64.wrap ((i : Int) + 1) = i + 1 := wrap_i64 (by omega) (by omega)
     have hBi := hB i
     have hT := d5L (Γ := Γ) b hs i
     have hd : decide ((0 : Int) < ((b.d4N i).length : Int)) = decide (b.but (d2D i m) ≠ []) := by
       have e := d7c b i
       have e2 : b.a3d (d4P i) ≠ [] <-> b.but (d2D i m) ≠ [] := by
         rw [Book.but]
         refine d7a hs fun j hj => ?_
         rw [Bool.eq_iff_iff, List.contains_iff_mem, d6U]
         constructor
         . intro h; exact ⟨j, by omega, h, rfl⟩
         . rintro ⟨q, -, h, e⟩
           have : q = j := by omega
           rw [← this]; exact h
       rw [decide_eq_decide, ← e2]
       constructor
       . intro h e3; rw [e3] at e; cases hq : b.d4N i with
         | nil => rw [hq] at h; simp at h
         | cons x l => rw [hq] at e; cases e
       . intro h
         cases hq : b.d4N i with
         | nil => rw [hq] at e; exact absurd (List.isEmpty_iff.1 e.symm) h
         | cons x l => simp
     have hbl : (d2D (i : Int) m).length <= 1000000 := by
       simp only [d2D, List.length_map]
       exact Nat.le_trans (List.length_filter_le _ _) (by simp; omega)
     have hal : a.length <= 1000000 := by
       have hp := hI.incr
       have : a.length <= b.signs.length := by
         obtain ⟨s, -, e⟩ := d6T (m := b.signs.length) (by omega) hp
         rw [← e]; simp only [d2D, List.length_map]
         exact Nat.le_trans (List.length_filter_le _ _) (by simp)
       omega
     have hS := d3o (Γ := Γ) (kF (d2D (i : Int) m)) (kF a) (d2D i m) a hbl hal
     have hnext (a' : List Int) (h1 : Incr 0 b.signs.length a') (h2 : b.but a' ≠ []) (h3 : ∀ s : Nat, s < i -> b.but (d2D s b.signs.length) ≠ [] -> shorter (d2D s b.signs.length) a' = false)
         (h4 : b.but (d2D i b.signs.length) ≠ [] -> shorter (d2D i b.signs.length) a' = false) : BestI b (i + 1) a' :=
       ⟨h1, h2, fun s hs' => by
         by_cases e : s = i
         . subst e; exact h4
         . exact h3 s (by omega)⟩
     obtain ⟨l, hl⟩ : ∃ l, d2D (i : Int) m = l := ⟨_, rfl⟩
     rw [hl] at hBi hd hS hbl
     have hll : d2D (i : Int) b.signs.length = l := by rw [hm]; exact hl
     rw [hll] at hnext
     have hli : Incr 0 b.signs.length l := by rw [← hll]; exact d3i _ _
     cases hsl : shorter l a with
     | false =>
       rw [hsl] at hS
       refine ⟨a, hnext a hI.incr hI.ne hI.least (fun _ => hsl), ?_⟩
       (simp only [go_sem, simprocAttr, d6N, hm0, hsh, hsh2, hlt, hiw, hBi, hS]; repeat' (first | ((first | refine brY ?_ | refine brN ?_ | refine brA ?_ | refine brD ?_ | refine brF ?_ | ((first | apply a0k | apply a0j); (. intro h; simp only [go_sem, simprocAttr, a0p h, d6N, hm0, hsh, hsh2, hlt, hiw, hBi, hS]; exact rfl))); (try simp only [go_sem, simprocAttr, d6N, hm0, hsh, hsh2, hlt, hiw, hBi, hS])) | ((first | apply a0e | apply d7E | apply a0a) <;> intro h <;> (try simp only [go_sem, simprocAttr, h, d6N, hm0, hsh, hsh2, hlt, hiw, hBi, hS]))))
       rfl
     | true =>
       rw [hsl] at hS
       by_cases ht : b.but l = []
       . replace hd := hd.trans (decide_eq_false (p := b.but l ≠ []) fun h => h ht)
         refine ⟨a, hnext a hI.incr hI.ne hI.least (fun h => absurd ht h), ?_⟩
         (simp only [go_sem, simprocAttr, d6N, hm0, hsh, hsh2, hlt, hiw, hBi, hS, hT, hd]; repeat' (first | ((first | refine brY ?_ | refine brN ?_ | refine brA ?_ | refine brD ?_ | refine brF ?_ | ((first | apply a0k | apply a0j); (. intro h; simp only [go_sem, simprocAttr, a0p h, d6N, hm0, hsh, hsh2, hlt, hiw, hBi, hS, hT, hd]; exact rfl))); (try simp only [go_sem, simprocAttr, d6N, hm0, hsh, hsh2, hlt, hiw, hBi, hS, hT, hd])) | ((first | apply a0e | apply d7E | apply a0a) <;> intro h <;> (try simp only [go_sem, simprocAttr, h, d6N, hm0, hsh, hsh2, hlt, hiw, hBi, hS, hT, hd]))))
         rfl
       . replace hd := hd.trans (decide_eq_true (p := b.but l ≠ []) ht)
         refine ⟨l, hnext l hli ht (fun s hs' hts => ?_) (fun _ => ?_), ?_⟩
         . rw [Bool.eq_false_iff]
           intro h
           have := hI.least s hs' hts
           rw [d6W h hsl] at this; cases this
         . rw [Bool.eq_false_iff]
           intro h
           rw [d6S] at h
           rcases h with h | ⟨-, h⟩
           . omega
           . have irr : ∀ l : List Int, before l l = false := fun l => by
               induction l with
               | nil => rfl
               | cons x l ih => simp only [before, if_true]; exact ih
             rw [irr] at h; cases h
         . (simp only [go_sem, simprocAttr, d6N, hm0, hsh, hsh2, hlt, hiw, hBi, hS, hT, hd]; repeat' (first | ((first | refine brY ?_ | refine brN ?_ | refine brA ?_ | refine brD ?_ | refine brF ?_ | ((first | apply a0k | apply a0j); (. intro h; simp only [go_sem, simprocAttr, a0p h, d6N, hm0, hsh, hsh2, hlt, hiw, hBi, hS, hT, hd]; exact rfl))); (try simp only [go_sem, simprocAttr, d6N, hm0, hsh, hsh2, hlt, hiw, hBi, hS, hT, hd])) | ((first | apply a0e | apply d7E | apply a0a) <;> intro h <;> (try simp only [go_sem, simprocAttr, h, d6N, hm0, hsh, hsh2, hlt, hiw, hBi, hS, hT, hd]))))
           rfl
   . intro a _
     have hlt : decide (((2 ^ m : Nat) : Int) < 2 ^ m) = false := decide_eq_false (by rw [hpow.1]; omega)
     have e : ((2 ^ m : Nat) : Int) = 2 ^ m := hpow.1.symm
     rw [e] at hlt
     simp only [e]
     (simp only [go_sem, simprocAttr, d6N, hm0, hsh, hsh2, hlt]; repeat' (first | ((first | refine brY ?_ | refine brN ?_ | refine brA ?_ | refine brD ?_ | refine brF ?_ | ((first | apply a0k | apply a0j); (. intro h; simp only [go_sem, simprocAttr, a0p h, d6N, hm0, hsh, hsh2, hlt]; exact rfl))); (try simp only [go_sem, simprocAttr, d6N, hm0, hsh, hsh2, hlt])) | ((first | apply a0e | apply d7E | apply a0a) <;> intro h <;> (try simp only [go_sem, simprocAttr, h, d6N, hm0, hsh, hsh2, hlt]))))
   . intro a hI
     have ha : a = b.wrong.1 := by
       refine d6V (w5 a hI.incr hI.ne) ?_
       obtain ⟨s, h1, h2⟩ := d6T (m := b.signs.length) (by omega) w2
       have := hI.least s (by rw [hm] at h1; exact h1) (by rw [h2]; exact w3)
       rwa [h2] at this
     rw [ha]
     exact hQ
 rw [K_fn P04.f203 _ _ rfl]
 (simp only [go_sem, simprocAttr, d6O, hc, hm, hm0, hsh, hsh2, hsw, hB]; repeat' (first | ((first | refine brY ?_ | refine brN ?_ | refine brA ?_ | refine brD ?_ | refine brF ?_ | ((first | apply a0k | apply a0j); (. intro h; simp only [go_sem, simprocAttr, a0p h, d6O, hc, hm, hm0, hsh, hsh2, hsw, hB]; exact rfl))); (try simp only [go_sem, simprocAttr, d6O, hc, hm, hm0, hsh, hsh2, hsw, hB])) | ((first | apply a0e | apply d7E | apply a0a) <;> intro h <;> (try simp only [go_sem, simprocAttr, h, d6O, hc, hm, hm0, hsh, hsh2, hsw, hB]))))
 refine hL ?_
 (simp only [go_sem, simprocAttr]; repeat' (first | ((first | refine brY ?_ | refine brN ?_ | refine brA ?_ | refine brD ?_ | refine brF ?_ | ((first | apply a0k | apply a0j); (. intro h; simp only [go_sem, simprocAttr, a0p h]; exact rfl))); (try simp only [go_sem, simprocAttr])) | ((first | apply a0e | apply d7E | apply a0a) <;> intro h <;> (try simp only [go_sem, simprocAttr, h]))))
theorem d6X (b : Book) [hb : b.Fits] (y : Sign) : K Γ (.fn 220) [.agg b.c, .agg y.c] [] = some (vb true, []) := by
 obtain ⟨k, hR⟩ := d7e (Γ := Γ) b
 have hW := c0E (Γ := Γ) b
 have hF := d7f (Γ := Γ) b y
 have hl : b.wrong.1.length <= 1000000 := by
   rcases Bool.eq_false_or_eq_true b.valid with hv | hv
   . have h5 := a2n.2 hv
     have := (d3l hv).2.2.2.1
     omega
   . simp [Book.wrong, hv]
 have hE := c0w (Γ := Γ) (b2A b) k b.wrong.1 b.wrong.1 hl hl
 simp only [decide_true] at hE
 rw [K_fn P04.f220 _ _ rfl]
 (simp only [go_sem, simprocAttr, d6Q, eq_self, decide_true, beq_self_eq_true, iC, hF, hW, hR, hE]; repeat' (first | ((first | refine brY ?_ | refine brN ?_ | refine brA ?_ | refine brD ?_ | refine brF ?_ | ((first | apply a0k | apply a0j); (. intro h; simp only [go_sem, simprocAttr, a0p h, d6Q, eq_self, decide_true, beq_self_eq_true, iC, hF, hW, hR, hE]; exact rfl))); (try simp only [go_sem, simprocAttr, d6Q, eq_self, decide_true, beq_self_eq_true, iC, hF, hW, hR, hE])) | ((first | apply a0e | apply d7E | apply a0a) <;> intro h <;> (try simp only [go_sem, simprocAttr, h, d6Q, eq_self, decide_true, beq_self_eq_true, iC, hF, hW, hR, hE]))))
end
end Go.Pm.St
