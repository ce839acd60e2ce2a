/- The statement StrainLefts, part 8. -/
import Derived.Test.YtjmjifbnckecjaaDoorStrainLeftsL7
set_option linter.all false
set_option maxRecDepth 100000
namespace Go.Pm.St
open Ac
@[go_sem] theorem Cost.d6G (c : Cost) : a0R c.c 0 3 = some c.c := nrfl rfl
@[go_sem] theorem Cost.d6H (c : Cost) : c.c.length = 3 := nrfl rfl
@[go_sem] theorem Cost.d6J (c : Cost) : c.c.map a0r = c.c := nrfl rfl
@[go_sem] theorem Cost.b3a (c : Cost) (n : Nat) : C.a0G n c.c = true := a0C n _ rfl
@[go_sem] theorem Cost.d6F (c : Cost) : C.a0v c.c = true := nrfl rfl
abbrev d4P (set : Int) : Int -> Bool := fun n => d2J set n
section
variable {Γ : Env} [P04 Γ] [G04 Γ]
theorem d6n (b : Book) [hb : b.Fits] (hs : Sane b) (c : Cost) (h0 : b.c0.has c.p) (h1 : b.c1.has c.f) (h2 : b.c2.has c.n) (i : Nat) (hi : i < b.singers.length) (set : Int) (L : List Int) (n : Int) (hp : 0 <= n) (h30 : n <= 30) {β : Type} (Q : Ex -> St -> Option β) :
   E Γ d5l ⟨[(2, vi i), (3, vi set), (4, .sc (.ptr 0 0)), (5, .sc (.ptr 1 0)), (9, .sc (ownF 1 (li L))), (10, vi n), (11, vb true), (12, vi 0)], [.var b.c, .var c.c]⟩ Q =
   Q (.exit 2) ⟨[(2, vi i), (3, vi set), (4, .sc (.ptr 0 0)), (5, .sc (.ptr 1 0)), (9, .sc (ownF 1 (li L))), (10, vi n), (11, vb (b.right c i n (d4P set))), (12, vi b.signs.length), (35, vb false)], [.var b.c, .var c.c]⟩ := by
 have hg := hs.g4
 have hr6 := hs.r6
 have hd5 := hs.d5
 rw [← d5R]
 refine a4q b.signs.length (fun j (_ : Unit) => ⟨[(2, vi i), (3, vi set), (4, .sc (.ptr 0 0)), (5, .sc (.ptr 1 0)), (9, .sc (ownF 1 (li L))), (10, vi n), (11, vb (b.d5v c i n (d4P set) j)), (12, vi j)], [.var b.c, .var c.c]⟩) (fun _ _ => True)
   (fun _ => (.exit 2, ⟨[(2, vi i), (3, vi set), (4, .sc (.ptr 0 0)), (5, .sc (.ptr 1 0)), (9, .sc (ownF 1 (li L))), (10, vi n), (11, vb (b.d5v c i n (d4P set) b.signs.length)), (12, vi b.signs.length), (35, vb false)], [.var b.c, .var c.c]⟩)) () rfl trivial ?_ ?_ (fun _ _ => rfl)
 . intro j _ hj _
   refine ⟨(), trivial, ?_⟩
   obtain ⟨x, hx⟩ : ∃ x, b.signs[j]? = some x := ⟨_, List.getElem?_eq_getElem hj⟩
   have hlt : decide ((j : Int) < b.signs.length) = true := decide_eq_true (by omega)
   have hiw : IntKind.i64.wrap ((j : Int) + 1) = j + 1 := wrap_i64 (by omega) (by omega)
   have hxs := hs.sg x (List.mem_of_getElem? hx)
   obtain ⟨e, he⟩ : ∃ e : Nat, x.day = e := ⟨x.day.toNat, by omega⟩
   have hed : e < b.days.length := by omega
   have hl := d5O (Γ := Γ) b hs c h0 h1 h2 (i : Nat) n hp h30 e hed b.kr b.rests (by omega)
   have g1 := b3h hs h0 h1 h2 hp (r := a2Y b.rests (i : Nat)) e
   have hm : Mild b.days c := by
     have k0 := hs.k0; have k1 := hs.k1
     simp only [Span.has] at h0 h1
     exact ⟨by omega, by omega, fun x hx => ⟨(hs.dy x hx).1.1, (hs.dy x hx).2.1.1⟩⟩
   have g2 := b3i hm (s := n) (r := a2Y b.rests (i : Nat)) e
   have w1 : IntKind.i64.wrap (x.left - a2B b.days c n (a2Y b.rests (i : Nat)) e) = x.left - a2B b.days c n (a2Y b.rests (i : Nat)) e := wrap_i64 (by omega) (by omega)
   have w2 : IntKind.i64.wrap (0 - x.err) = -x.err := by rw [wrap_i64 (by omega) (by omega)]; omega
   rw [d5M hx]
   have hf : b.fair c (i : Nat) n x = within (x.left - a2B b.days c n (a2Y b.rests (i : Nat)) e) (-x.err) x.err := by simp only [Book.fair, he, Int.toNat_natCast]
   cases hrn : b.d5v c i n (d4P set) j with
   | false =>
     (simp only [go_sem, simprocAttr, d4A, hx, hlt, hiw, Bool.false_and]; repeat' (first | ((first | refine brY ?_ | refine brN ?_ | refine brA ?_ | refine brD ?_ | refine brF ?_ | ((first | apply a0k | apply a0j); (. intro h; simp only [go_sem, simprocAttr, a0p h, d4A, hx, hlt, hiw, Bool.false_and]; exact rfl))); (try simp only [go_sem, simprocAttr, d4A, hx, hlt, hiw, Bool.false_and])) | ((first | apply a0e | apply d7E | apply a0a) <;> intro h <;> (try simp only [go_sem, simprocAttr, h, d4A, hx, hlt, hiw, Bool.false_and]))))
     rfl
   | true =>
     cases hbt : d2J set j with
     | true =>
       (simp only [go_sem, simprocAttr, d4A, hx, hlt, hiw, hbt, Bool.true_and, Bool.true_or]; repeat' (first | ((first | refine brY ?_ | refine brN ?_ | refine brA ?_ | refine brD ?_ | refine brF ?_ | ((first | apply a0k | apply a0j); (. intro h; simp only [go_sem, simprocAttr, a0p h, d4A, hx, hlt, hiw, hbt, Bool.true_and, Bool.true_or]; exact rfl))); (try simp only [go_sem, simprocAttr, d4A, hx, hlt, hiw, hbt, Bool.true_and, Bool.true_or])) | ((first | apply a0e | apply d7E | apply a0a) <;> intro h <;> (try simp only [go_sem, simprocAttr, h, d4A, hx, hlt, hiw, hbt, Bool.true_and, Bool.true_or]))))
       rfl
     | false =>
       by_cases hsi : x.singer = i
       . have d1 := decide_eq_true hsi
         have d2 : decide (x.singer ≠ (i : Int)) = false := decide_eq_false (fun h => h hsi)
         rw [hf]
         (simp only [go_sem, simprocAttr, d4A, hx, hlt, hiw, hbt, d1, d2, he, hl, w1, w2, Bool.true_and, Bool.false_or]; repeat' (first | ((first | refine brY ?_ | refine brN ?_ | refine brA ?_ | refine brD ?_ | refine brF ?_ | ((first | apply a0k | apply a0j); (. intro h; simp only [go_sem, simprocAttr, a0p h, d4A, hx, hlt, hiw, hbt, d1, d2, he, hl, w1, w2, Bool.true_and, Bool.false_or]; exact rfl))); (try simp only [go_sem, simprocAttr, d4A, hx, hlt, hiw, hbt, d1, d2, he, hl, w1, w2, Bool.true_and, Bool.false_or])) | ((first | apply a0e | apply d7E | apply a0a) <;> intro h <;> (try simp only [go_sem, simprocAttr, h, d4A, hx, hlt, hiw, hbt, d1, d2, he, hl, w1, w2, Bool.true_and, Bool.false_or]))))
         rfl
       . have d1 := decide_eq_false hsi
         have d2 : decide (x.singer ≠ (i : Int)) = true := decide_eq_true hsi
         (simp only [go_sem, simprocAttr, d4A, hx, hlt, hiw, hbt, d1, d2, Bool.true_and, Bool.false_or, Bool.true_or]; repeat' (first | ((first | refine brY ?_ | refine brN ?_ | refine brA ?_ | refine brD ?_ | refine brF ?_ | ((first | apply a0k | apply a0j); (. intro h; simp only [go_sem, simprocAttr, a0p h, d4A, hx, hlt, hiw, hbt, d1, d2, Bool.true_and, Bool.false_or, Bool.true_or]; exact rfl))); (try simp only [go_sem, simprocAttr, d4A, hx, hlt, hiw, hbt, d1, d2, Bool.true_and, Bool.false_or, Bool.true_or])) | ((first | apply a0e | apply d7E | apply a0a) <;> intro h <;> (try simp only [go_sem, simprocAttr, h, d4A, hx, hlt, hiw, hbt, d1, d2, Bool.true_and, Bool.false_or, Bool.true_or]))))
         rfl
 . intro _ _
   have hlt : decide ((b.signs.length : Int) < b.signs.length) = false := decide_eq_false (by omega)
   (simp only [go_sem, simprocAttr, d4A, hlt]; repeat' (first | ((first | refine brY ?_ | refine brN ?_ | refine brA ?_ | refine brD ?_ | refine brF ?_ | ((first | apply a0k | apply a0j); (. intro h; simp only [go_sem, simprocAttr, a0p h, d4A, hlt]; exact rfl))); (try simp only [go_sem, simprocAttr, d4A, hlt])) | ((first | apply a0e | apply d7E | apply a0a) <;> intro h <;> (try simp only [go_sem, simprocAttr, h, d4A, hlt]))))
theorem d5U (b : Book) [hb : b.Fits] (hs : Sane b) (c : Cost) (h0 : b.c0.has c.p) (h1 : b.c1.has c.f) (h2 : b.c2.has c.n) (i : Nat) (hi : i < b.singers.length) (set : Int) :
   K Γ (.fn 173) [.agg b.c, .agg c.c, vi i, vi set] [] = some (.sc (.sl (kF (li (b.a1B c i (d4P set)))) 1 (li (b.a1B c i (d4P set)))), []) := by
 obtain ⟨s, hsi⟩ : ∃ s, b.singers[i]? = some s := ⟨_, List.getElem?_eq_getElem hi⟩
 have hsp := hs.sp s (List.mem_of_getElem? hsi)
 have hL {β : Type} (Q : Ex -> St -> Option β) : E Γ d5k ⟨[(2, vi i), (3, vi set), (4, .sc (.ptr 0 0)), (5, .sc (.ptr 1 0)), (9, .sc (.sl .full 1 [])), (10, vi s.lo)], [.var b.c, .var c.c]⟩ Q =
     Q (.exit 0) ⟨[(2, vi i), (3, vi set), (4, .sc (.ptr 0 0)), (5, .sc (.ptr 1 0)), (9, .sc (ownF 1 (li (b.a1B c i (d4P set))))), (10, vi (s.hi + 1)), (28, vb false)], [.var b.c, .var c.c]⟩ := by
   refine a4q (s.hi - s.lo + 1).toNat (fun j (_ : Unit) => ⟨[(2, vi i), (3, vi set), (4, .sc (.ptr 0 0)), (5, .sc (.ptr 1 0)), (9, .sc (ownF 1 (li (strP b c i (d4P set) s.lo j)))), (10, vi (s.lo + j))], [.var b.c, .var c.c]⟩) (fun _ _ => True)
     (fun _ => (.exit 0, ⟨[(2, vi i), (3, vi set), (4, .sc (.ptr 0 0)), (5, .sc (.ptr 1 0)), (9, .sc (ownF 1 (li (b.a1B c i (d4P set))))), (10, vi (s.hi + 1)), (28, vb false)], [.var b.c, .var c.c]⟩)) () ?_ trivial ?_ ?_ (fun _ _ => rfl)
   . simp [strP, li, ownF]
   . intro j _ hj _
     refine ⟨(), trivial, ?_⟩
     have hle : decide (s.lo + (j : Int) <= s.hi) = true := decide_eq_true (by omega)
     have hjw : IntKind.i64.wrap (s.lo + (j : Int) + 1) = s.lo + ((j + 1 : Nat) : Int) := by rw [wrap_i64 (by omega) (by omega)]; omega
     have hL1 {β : Type} (Q : Ex -> St -> Option β) := d6n (Γ := Γ) b hs c h0 h1 h2 i hi set (strP b c i (d4P set) s.lo j) (s.lo + j) (by omega) (by omega) Q
     have happ := d1w 1 .full (li (strP b c i (d4P set) s.lo j)) [ci (s.lo + j)] (by rw [b7L]; have := d6f b c i (d4P set) s.lo j; simp only [room]; omega)
     rw [d5V]
     cases hr : b.right c i (s.lo + j) (d4P set) with
     | true =>
       simp only [hr] at hL1
       rw [if_pos rfl, b3j, d3p]
       (simp only [go_sem, simprocAttr, d4J, hsi, hle, hjw, hL1, happ]; repeat' (first | ((first | refine brY ?_ | refine brN ?_ | refine brA ?_ | refine brD ?_ | refine brF ?_ | ((first | apply a0k | apply a0j); (. intro h; simp only [go_sem, simprocAttr, a0p h, d4J, hsi, hle, hjw, hL1, happ]; exact rfl))); (try simp only [go_sem, simprocAttr, d4J, hsi, hle, hjw, hL1, happ])) | ((first | apply a0e | apply d7E | apply a0a) <;> intro h <;> (try simp only [go_sem, simprocAttr, h, d4J, hsi, hle, hjw, hL1, happ]))))
     | false =>
       simp only [hr] at hL1
       rw [if_neg (by decide)]
       (simp only [go_sem, simprocAttr, d4J, hsi, hle, hjw, hL1]; repeat' (first | ((first | refine brY ?_ | refine brN ?_ | refine brA ?_ | refine brD ?_ | refine brF ?_ | ((first | apply a0k | apply a0j); (. intro h; simp only [go_sem, simprocAttr, a0p h, d4J, hsi, hle, hjw, hL1]; exact rfl))); (try simp only [go_sem, simprocAttr, d4J, hsi, hle, hjw, hL1])) | ((first | apply a0e | apply d7E | apply a0a) <;> intro h <;> (try simp only [go_sem, simprocAttr, h, d4J, hsi, hle, hjw, hL1]))))
   . intro _ _
     have hm : s.lo + ((s.hi - s.lo + 1).toNat : Int) = s.hi + 1 := by omega
     have hle : decide (s.hi + 1 <= s.hi) = false := decide_eq_false (by omega)
     rw [hm, d6e b c i (d4P set) hsi]
     (simp only [go_sem, simprocAttr, d4J, hsi, hle]; repeat' (first | ((first | refine brY ?_ | refine brN ?_ | refine brA ?_ | refine brD ?_ | refine brF ?_ | ((first | apply a0k | apply a0j); (. intro h; simp only [go_sem, simprocAttr, a0p h, d4J, hsi, hle]; exact rfl))); (try simp only [go_sem, simprocAttr, d4J, hsi, hle])) | ((first | apply a0e | apply d7E | apply a0a) <;> intro h <;> (try simp only [go_sem, simprocAttr, h, d4J, hsi, hle]))))
 have hu := d3j 1 (li (b.a1B c i (d4P set)))
 rw [K_fn P04.f173 _ _ rfl]
 (simp only [go_sem, simprocAttr, d5b, hsi, hL, hu]; repeat' (first | ((first | refine brY ?_ | refine brN ?_ | refine brA ?_ | refine brD ?_ | refine brF ?_ | ((first | apply a0k | apply a0j); (. intro h; simp only [go_sem, simprocAttr, a0p h, d5b, hsi, hL, hu]; exact rfl))); (try simp only [go_sem, simprocAttr, d5b, hsi, hL, hu])) | ((first | apply a0e | apply d7E | apply a0a) <;> intro h <;> (try simp only [go_sem, simprocAttr, h, d5b, hsi, hL, hu]))))
end
end Go.Pm.St
namespace Go.Pm.St
open Ac
def Book.P2 (b : Book) (p f : Int) : List Cost := (upto b.c2.lo b.c2.hi).map fun n => ⟨p, f, n⟩
def Book.P1 (b : Book) (p : Int) : List Cost := (upto b.c1.lo b.c1.hi).flatMap fun f => b.P2 p f
def Book.d4N (b : Book) (set : Int) : List Cost := b.a8a.filter fun c => b.can c (d4P set)
theorem d5D (lo : Int) (j : Nat) : ((List.range (j + 1)).map fun (k : Nat) => lo + (k : Int)) = ((List.range j).map fun (k : Nat) => lo + (k : Int)) ++ [lo + (j : Int)] := by simp [List.range_succ]
theorem d5S {b : Book} (hs : Sane b) (p f : Int) : (b.P2 p f).length <= 2 := by
 have := hs.k2
 simp only [Book.P2, List.length_map, a9s]; omega
theorem a2G {α β : Type} (g : α -> List β) (m : Nat) (h : ∀ x, (g x).length <= m) : ∀ l : List α, (l.flatMap g).length <= m * l.length
 | [] => by simp
 | x :: l => by
   have := h x; have := a2G g m h l
   simp only [List.flatMap_cons, List.length_append, List.length_cons, Nat.mul_add]; omega
theorem d6o {b : Book} (hs : Sane b) (p : Int) : (b.P1 p).length <= 4 := by
 have h := a2G (fun f => b.P2 p f) 2 (fun f => d5S hs p f) (upto b.c1.lo b.c1.hi)
 have := hs.k1
 rw [a9s] at h
 simp only [Book.P1]; omega
section
variable {Γ : Env} [P04 Γ] [G04 Γ]
theorem d6c (b : Book) [hb : b.Fits] (hs : Sane b) (set : Int) (acc : List Cost) (p f n : Int) (h0 : b.c0.has p) (h1 : b.c1.has f) (h2 : b.c2.has n) {β : Type} {Q : Ex -> St -> Option β} {r : Option β}
   (hQ : ∀ i : Nat, Q (.exit 6) ⟨[(1, vi set), (2, .sc (.ptr 0 0)), (5, .sc (ownC 3 (acc.map Cost.c))), (6, vi p), (7, vi f), (8, vi n), (9, .sc (.ptr 1 0)), (10, vb (b.can ⟨p, f, n⟩ (d4P set))), (11, vi i), (59, vb false)], [.var b.c, .var [ci p, ci f, ci n]]⟩ = r) :
   E Γ d5r ⟨[(1, vi set), (2, .sc (.ptr 0 0)), (5, .sc (ownC 3 (acc.map Cost.c))), (6, vi p), (7, vi f), (8, vi n), (9, .sc (.ptr 1 0)), (10, vb true), (11, vi 0)], [.var b.c, .var [ci p, ci f, ci n]]⟩ Q = r := by
 have hs3 := hs.s3
 have hcan : b.can ⟨p, f, n⟩ (d4P set) = (List.range b.singers.length).all fun i => !(b.a1B ⟨p, f, n⟩ i (d4P set)).isEmpty := by
   simp only [Book.can, Book.strong, List.all_map]; rfl
 rw [hcan] at hQ
 refine b8u (fun i a => ⟨[(1, vi set), (2, .sc (.ptr 0 0)), (5, .sc (ownC 3 (acc.map Cost.c))), (6, vi p), (7, vi f), (8, vi n), (9, .sc (.ptr 1 0)), (10, vb a), (11, vi i)], [.var b.c, .var [ci p, ci f, ci n]]⟩) (List.range b.singers.length) (fun i => !(b.a1B ⟨p, f, n⟩ i (d4P set)).isEmpty)
   (fun i a => (.exit 6, ⟨[(1, vi set), (2, .sc (.ptr 0 0)), (5, .sc (ownC 3 (acc.map Cost.c))), (6, vi p), (7, vi f), (8, vi n), (9, .sc (.ptr 1 0)), (10, vb a), (11, vi i), (59, vb false)], [.var b.c, .var [ci p, ci f, ci n]]⟩)) rfl ?_ ?_ ?_ hQ
 . intro i x hx
   have hi : i < b.singers.length := by have := (List.getElem?_eq_some_iff.1 hx).1; simpa using this
   rw [List.getElem?_range hi] at hx
   obtain rfl := Option.some.inj hx
   have hlt : decide ((i : Int) < b.singers.length) = true := decide_eq_true (by omega)
   have hiw : IntKind.i64.wrap ((i : Int) + 1) = i + 1 := wrap_i64 (by omega) (by omega)
   have hk := d5U (Γ := Γ) b hs ⟨p, f, n⟩ h0 h1 h2 i hi set
   simp only [Cost.c] at hk
   have hem : decide (0 < ((b.a1B ⟨p, f, n⟩ i (d4P set)).length : Int)) = !(b.a1B ⟨p, f, n⟩ i (d4P set)).isEmpty := by
     cases b.a1B ⟨p, f, n⟩ i (d4P set) <;> simp
   (simp only [go_sem, simprocAttr, d4L, hlt, hiw, hk, b7L, hem]; repeat' (first | ((first | refine brY ?_ | refine brN ?_ | refine brA ?_ | refine brD ?_ | refine brF ?_ | ((first | apply a0k | apply a0j); (. intro h; simp only [go_sem, simprocAttr, a0p h, d4L, hlt, hiw, hk, b7L, hem]; exact rfl))); (try simp only [go_sem, simprocAttr, d4L, hlt, hiw, hk, b7L, hem])) | ((first | apply a0e | apply d7E | apply a0a) <;> intro h <;> (try simp only [go_sem, simprocAttr, h, d4L, hlt, hiw, hk, b7L, hem]))))
   rfl
 . intro i _
   (simp only [go_sem, simprocAttr, d4L]; repeat' (first | ((first | refine brY ?_ | refine brN ?_ | refine brA ?_ | refine brD ?_ | refine brF ?_ | ((first | apply a0k | apply a0j); (. intro h; simp only [go_sem, simprocAttr, a0p h, d4L]; exact rfl))); (try simp only [go_sem, simprocAttr, d4L])) | ((first | apply a0e | apply d7E | apply a0a) <;> intro h <;> (try simp only [go_sem, simprocAttr, h, d4L]))))
 . have hlt : decide ((b.singers.length : Int) < b.singers.length) = false := decide_eq_false (by omega)
   rw [List.length_range]
   (simp only [go_sem, simprocAttr, d4L, hlt]; repeat' (first | ((first | refine brY ?_ | refine brN ?_ | refine brA ?_ | refine brD ?_ | refine brF ?_ | ((first | apply a0k | apply a0j); (. intro h; simp only [go_sem, simprocAttr, a0p h, d4L, hlt]; exact rfl))); (try simp only [go_sem, simprocAttr, d4L, hlt])) | ((first | apply a0e | apply d7E | apply a0a) <;> intro h <;> (try simp only [go_sem, simprocAttr, h, d4L, hlt]))))
theorem d6b (b : Book) [hb : b.Fits] (hs : Sane b) (set : Int) (acc : List Cost) (ha : acc.length <= 100) (p f : Int) (h0 : b.c0.has p) (h1 : b.c1.has f) {β : Type} (Q : Ex -> St -> Option β) :
   E Γ d5q ⟨[(1, vi set), (2, .sc (.ptr 0 0)), (5, .sc (ownC 3 (acc.map Cost.c))), (6, vi p), (7, vi f), (8, vi b.c2.lo)], [.var b.c]⟩ Q =
   Q (.exit 4) ⟨[(1, vi set), (2, .sc (.ptr 0 0)), (5, .sc (ownC 3 ((acc ++ (b.P2 p f).filter fun c => b.can c (d4P set)).map Cost.c))), (6, vi p), (7, vi f), (8, vi (b.c2.hi + 1)), (45, vb false)], [.var b.c]⟩ := by
 have k2 := hs.k2
 let g : Nat -> List Cost := fun j => acc ++ ((((List.range j).map fun (k : Nat) => b.c2.lo + (k : Int)).map fun n => (⟨p, f, n⟩ : Cost)).filter fun c => b.can c (d4P set))
 have hgl : ∀ j, (g j).length <= acc.length + j := fun j => by
   simp only [g, List.length_append]
   have := List.length_filter_le (fun c => b.can c (d4P set)) (((List.range j).map fun (k : Nat) => b.c2.lo + (k : Int)).map fun n => (⟨p, f, n⟩ : Cost))
   simp only [List.length_map, List.length_range] at this; omega
 have hgs : ∀ j, g (j + 1) = if b.can ⟨p, f, b.c2.lo + j⟩ (d4P set) then g j ++ [⟨p, f, b.c2.lo + j⟩] else g j := fun j => by
   simp only [g, d5D, List.map_append, List.map_cons, List.map_nil, List.filter_append, List.filter_cons, List.filter_nil]
   split <;> simp
 refine a4q (b.c2.hi - b.c2.lo + 1).toNat (fun j (_ : Unit) => ⟨[(1, vi set), (2, .sc (.ptr 0 0)), (5, .sc (ownC 3 ((g j).map Cost.c))), (6, vi p), (7, vi f), (8, vi (b.c2.lo + j))], [.var b.c]⟩) (fun _ _ => True)
   (fun _ => (.exit 4, ⟨[(1, vi set), (2, .sc (.ptr 0 0)), (5, .sc (ownC 3 ((acc ++ (b.P2 p f).filter fun c => b.can c (d4P set)).map Cost.c))), (6, vi p), (7, vi f), (8, vi (b.c2.hi + 1)), (45, vb false)], [.var b.c]⟩)) () ?_ trivial ?_ ?_ (fun _ _ => rfl)
 . simp [g]
 . intro j _ hj _
   refine ⟨(), trivial, ?_⟩
   have hle : decide (b.c2.lo + (j : Int) <= b.c2.hi) = true := decide_eq_true (by omega)
   have hjw : IntKind.i64.wrap (b.c2.lo + (j : Int) + 1) = b.c2.lo + ((j + 1 : Nat) : Int) := by rw [wrap_i64 (by omega) (by omega)]; omega
   have hh2 : b.c2.has (b.c2.lo + j) := ⟨by omega, by omega⟩
   have happ := a2K 3 ((g j).map Cost.c) .full [ci p, ci f, ci (b.c2.lo + j)] (by have := hgl j; simp only [List.length_map, room]; omega)
   rw [hgs]
   (simp only [go_sem, simprocAttr, d4W, hle]; repeat' (first | ((first | refine brY ?_ | refine brN ?_ | refine brA ?_ | refine brD ?_ | refine brF ?_ | ((first | apply a0k | apply a0j); (. intro h; simp only [go_sem, simprocAttr, a0p h, d4W, hle]; exact rfl))); (try simp only [go_sem, simprocAttr, d4W, hle])) | ((first | apply a0e | apply d7E | apply a0a) <;> intro h <;> (try simp only [go_sem, simprocAttr, h, d4W, hle]))))
   refine d6c b hs set (g j) p f (b.c2.lo + j) h0 h1 hh2 fun i => ?_
   cases hc : b.can ⟨p, f, b.c2.lo + j⟩ (d4P set) with
   | true =>
     simp only [if_true, List.map_append, List.map_cons, List.map_nil, Cost.c]
     (simp only [go_sem, simprocAttr, hjw, happ]; repeat' (first | ((first | refine brY ?_ | refine brN ?_ | refine brA ?_ | refine brD ?_ | refine brF ?_ | ((first | apply a0k | apply a0j); (. intro h; simp only [go_sem, simprocAttr, a0p h, hjw, happ]; exact rfl))); (try simp only [go_sem, simprocAttr, hjw, happ])) | ((first | apply a0e | apply d7E | apply a0a) <;> intro h <;> (try simp only [go_sem, simprocAttr, h, hjw, happ]))))
   | false =>
     simp only [Bool.false_eq_true, if_false]
     (simp only [go_sem, simprocAttr, hjw]; repeat' (first | ((first | refine brY ?_ | refine brN ?_ | refine brA ?_ | refine brD ?_ | refine brF ?_ | ((first | apply a0k | apply a0j); (. intro h; simp only [go_sem, simprocAttr, a0p h, hjw]; exact rfl))); (try simp only [go_sem, simprocAttr, hjw])) | ((first | apply a0e | apply d7E | apply a0a) <;> intro h <;> (try simp only [go_sem, simprocAttr, h, hjw]))))
 . intro _ _
   have hm : b.c2.lo + ((b.c2.hi - b.c2.lo + 1).toNat : Int) = b.c2.hi + 1 := by omega
   have hle : decide (b.c2.hi + 1 <= b.c2.hi) = false := decide_eq_false (by omega)
   rw [hm]
   (simp only [go_sem, simprocAttr, d4W, hle]; repeat' (first | ((first | refine brY ?_ | refine brN ?_ | refine brA ?_ | refine brD ?_ | refine brF ?_ | ((first | apply a0k | apply a0j); (. intro h; simp only [go_sem, simprocAttr, a0p h, d4W, hle]; exact rfl))); (try simp only [go_sem, simprocAttr, d4W, hle])) | ((first | apply a0e | apply d7E | apply a0a) <;> intro h <;> (try simp only [go_sem, simprocAttr, h, d4W, hle]))))
   rfl
theorem d6a (b : Book) [hb : b.Fits] (hs : Sane b) (set : Int) (acc : List Cost) (ha : acc.length <= 50) (p : Int) (h0 : b.c0.has p) {β : Type} (Q : Ex -> St -> Option β) :
   E Γ d5p ⟨[(1, vi set), (2, .sc (.ptr 0 0)), (5, .sc (ownC 3 (acc.map Cost.c))), (6, vi p), (7, vi b.c1.lo)], [.var b.c]⟩ Q =
   Q (.exit 2) ⟨[(1, vi set), (2, .sc (.ptr 0 0)), (5, .sc (ownC 3 ((acc ++ (b.P1 p).filter fun c => b.can c (d4P set)).map Cost.c))), (6, vi p), (7, vi (b.c1.hi + 1)), (33, vb false)], [.var b.c]⟩ := by
 have k1 := hs.k1
 let g : Nat -> List Cost := fun j => acc ++ ((((List.range j).map fun (k : Nat) => b.c1.lo + (k : Int)).flatMap fun f => b.P2 p f).filter fun c => b.can c (d4P set))
 have hgl : ∀ j, (g j).length <= acc.length + 2 * j := fun j => by
   simp only [g, List.length_append]
   have h1 := List.length_filter_le (fun c => b.can c (d4P set)) (((List.range j).map fun (k : Nat) => b.c1.lo + (k : Int)).flatMap fun f => b.P2 p f)
   have h2 := a2G (fun f => b.P2 p f) 2 (fun f => d5S hs p f) ((List.range j).map fun (k : Nat) => b.c1.lo + (k : Int))
   simp only [List.length_map, List.length_range] at h2; omega
 have hgs : ∀ j, g (j + 1) = g j ++ (b.P2 p (b.c1.lo + j)).filter fun c => b.can c (d4P set) := fun j => by
   simp only [g, d5D, List.flatMap_append, List.flatMap_cons, List.flatMap_nil, List.append_nil, List.filter_append, List.append_assoc]
 refine a4q (b.c1.hi - b.c1.lo + 1).toNat (fun j (_ : Unit) => ⟨[(1, vi set), (2, .sc (.ptr 0 0)), (5, .sc (ownC 3 ((g j).map Cost.c))), (6, vi p), (7, vi (b.c1.lo + j))], [.var b.c]⟩) (fun _ _ => True)
   (fun _ => (.exit 2, ⟨[(1, vi set), (2, .sc (.ptr 0 0)), (5, .sc (ownC 3 ((acc ++ (b.P1 p).filter fun c => b.can c (d4P set)).map Cost.c))), (6, vi p), (7, vi (b.c1.hi + 1)), (33, vb false)], [.var b.c]⟩)) () ?_ trivial ?_ ?_ (fun _ _ => rfl)
 . simp [g]
 . intro j _ hj _
   refine ⟨(), trivial, ?_⟩
   have hle : decide (b.c1.lo + (j : Int) <= b.c1.hi) = true := decide_eq_true (by omega)
   have hjw : IntKind.i64.wrap (b.c1.lo + (j : Int) + 1) = b.c1.lo + ((j + 1 : Nat) : Int) := by rw [wrap_i64 (by omega) (by omega)]; omega
   have hL {β : Type} (Q : Ex -> St -> Option β) := d6b (Γ := Γ) b hs set (g j) (by have := hgl j; omega) p (b.c1.lo + j) h0 ⟨by omega, by omega⟩ Q
   rw [hgs]
   (simp only [go_sem, simprocAttr, d4V, hle, hL, hjw]; repeat' (first | ((first | refine brY ?_ | refine brN ?_ | refine brA ?_ | refine brD ?_ | refine brF ?_ | ((first | apply a0k | apply a0j); (. intro h; simp only [go_sem, simprocAttr, a0p h, d4V, hle, hL, hjw]; exact rfl))); (try simp only [go_sem, simprocAttr, d4V, hle, hL, hjw])) | ((first | apply a0e | apply d7E | apply a0a) <;> intro h <;> (try simp only [go_sem, simprocAttr, h, d4V, hle, hL, hjw]))))
 . intro _ _
   have hm : b.c1.lo + ((b.c1.hi - b.c1.lo + 1).toNat : Int) = b.c1.hi + 1 := by omega
   have hle : decide (b.c1.hi + 1 <= b.c1.hi) = false := decide_eq_false (by omega)
   rw [hm]
   (simp only [go_sem, simprocAttr, d4V, hle]; repeat' (first | ((first | refine brY ?_ | refine brN ?_ | refine brA ?_ | refine brD ?_ | refine brF ?_ | ((first | apply a0k | apply a0j); (. intro h; simp only [go_sem, simprocAttr, a0p h, d4V, hle]; exact rfl))); (try simp only [go_sem, simprocAttr, d4V, hle])) | ((first | apply a0e | apply d7E | apply a0a) <;> intro h <;> (try simp only [go_sem, simprocAttr, h, d4V, hle]))))
   rfl
theorem d5L (b : Book) [hb : b.Fits] (hs : Sane b) (set : Int) : K Γ (.fn 147) [.agg b.c, vi set] [] = some (.sc (.sl (kS (b.d4N set)) 3 ((b.d4N set).map Cost.c)), []) := by
 have k0 := hs.k0
 have hL {β : Type} (Q : Ex -> St -> Option β) : E Γ d5o ⟨[(1, vi set), (2, .sc (.ptr 0 0)), (5, .sc (.sl .nil 3 [])), (6, vi b.c0.lo)], [.var b.c]⟩ Q =
     Q (.exit 0) ⟨[(1, vi set), (2, .sc (.ptr 0 0)), (5, .sc (ownC 3 ((b.d4N set).map Cost.c))), (6, vi (b.c0.hi + 1)), (21, vb false)], [.var b.c]⟩ := by
   let g : Nat -> List Cost := fun j => (((List.range j).map fun (k : Nat) => b.c0.lo + (k : Int)).flatMap fun p => b.P1 p).filter fun c => b.can c (d4P set)
   have hgl : ∀ j, (g j).length <= 4 * j := fun j => by
     have h1 := List.length_filter_le (fun c => b.can c (d4P set)) (((List.range j).map fun (k : Nat) => b.c0.lo + (k : Int)).flatMap fun p => b.P1 p)
     have h2 := a2G (fun p => b.P1 p) 4 (fun p => d6o hs p) ((List.range j).map fun (k : Nat) => b.c0.lo + (k : Int))
     simp only [List.length_map, List.length_range] at h2
     simp only [g]; omega
   have hgs : ∀ j, g (j + 1) = g j ++ (b.P1 (b.c0.lo + j)).filter fun c => b.can c (d4P set) := fun j => by
     simp only [g, d5D, List.flatMap_append, List.flatMap_cons, List.flatMap_nil, List.append_nil, List.filter_append]
   refine a4q (b.c0.hi - b.c0.lo + 1).toNat (fun j (_ : Unit) => ⟨[(1, vi set), (2, .sc (.ptr 0 0)), (5, .sc (ownC 3 ((g j).map Cost.c))), (6, vi (b.c0.lo + j))], [.var b.c]⟩) (fun _ _ => True)
     (fun _ => (.exit 0, ⟨[(1, vi set), (2, .sc (.ptr 0 0)), (5, .sc (ownC 3 ((b.d4N set).map Cost.c))), (6, vi (b.c0.hi + 1)), (21, vb false)], [.var b.c]⟩)) () ?_ trivial ?_ ?_ (fun _ _ => rfl)
   . simp [g, ownC]
   . intro j _ hj _
     refine ⟨(), trivial, ?_⟩
     have hle : decide (b.c0.lo + (j : Int) <= b.c0.hi) = true := decide_eq_true (by omega)
     have hjw : IntKind.i64.wrap (b.c0.lo + (j : Int) + 1) = b.c0.lo + ((j + 1 : Nat) : Int) := by rw [wrap_i64 (by omega) (by omega)]; omega
     have hL {β : Type} (Q : Ex -> St -> Option β) := d6a (Γ := Γ) b hs set (g j) (by have := hgl j; omega) (b.c0.lo + j) ⟨by omega, by omega⟩ Q
     rw [hgs]
     (simp only [go_sem, simprocAttr, d4U, hle, hL, hjw]; repeat' (first | ((first | refine brY ?_ | refine brN ?_ | refine brA ?_ | refine brD ?_ | refine brF ?_ | ((first | apply a0k | apply a0j); (. intro h; simp only [go_sem, simprocAttr, a0p h, d4U, hle, hL, hjw]; exact rfl))); (try simp only [go_sem, simprocAttr, d4U, hle, hL, hjw])) | ((first | apply a0e | apply d7E | apply a0a) <;> intro h <;> (try simp only [go_sem, simprocAttr, h, d4U, hle, hL, hjw]))))
   . intro _ _
     have hm : b.c0.lo + ((b.c0.hi - b.c0.lo + 1).toNat : Int) = b.c0.hi + 1 := by omega
     have hle : decide (b.c0.hi + 1 <= b.c0.hi) = false := decide_eq_false (by omega)
     rw [hm]
     (simp only [go_sem, simprocAttr, d4U, hle]; repeat' (first | ((first | refine brY ?_ | refine brN ?_ | refine brA ?_ | refine brD ?_ | refine brF ?_ | ((first | apply a0k | apply a0j); (. intro h; simp only [go_sem, simprocAttr, a0p h, d4U, hle]; exact rfl))); (try simp only [go_sem, simprocAttr, d4U, hle])) | ((first | apply a0e | apply d7E | apply a0a) <;> intro h <;> (try simp only [go_sem, simprocAttr, h, d4U, hle]))))
     rfl
 have hu := a9I 3 ((b.d4N set).map Cost.c)
 rw [d6p] at hu
 rw [K_fn P04.f147 _ _ rfl]
 (simp only [go_sem, simprocAttr, d5d, hL, hu]; repeat' (first | ((first | refine brY ?_ | refine brN ?_ | refine brA ?_ | refine brD ?_ | refine brF ?_ | ((first | apply a0k | apply a0j); (. intro h; simp only [go_sem, simprocAttr, a0p h, d5d, hL, hu]; exact rfl))); (try simp only [go_sem, simprocAttr, d5d, hL, hu])) | ((first | apply a0e | apply d7E | apply a0a) <;> intro h <;> (try simp only [go_sem, simprocAttr, h, d5d, hL, hu]))))
end
end Go.Pm.St
namespace Go.Pm.St
open Ac
theorem a5Z {b : Book} (hv : b.valid = true) (is : Bool) : b.err is = if is then if b.now.isEmpty then 42 else 0 else 41 := by simp only [Book.err, hv, if_true]
section
variable {Γ : Env} [P04 Γ] [G04 Γ]
end
end Go.Pm.St
namespace Go.Pm.St
open Ac
theorem d5W (n : Int) : d2J 0 n = false := by
 simp only [d2J, Int.zero_fdiv]
 have : decide (a5l .i64 (BitVec.ofInt 64 0 &&& BitVec.ofInt 64 1) = 1) = false := by decide
 rw [this, Bool.and_false]
theorem d5N : d4P 0 = fun _ => false := funext fun n => d5W n
theorem d5w (b : Book) : b.d4N 0 = b.now.map Prod.fst := by
 simp only [Book.d4N, d5N, Book.now, Book.a3d, List.map_map]
 exact (List.map_id _).symm
theorem d5H {b : Book} {set : Int} {c : Cost} (h : c ∈ b.d4N set) : b.c0.has c.p /\ b.c1.has c.f /\ b.c2.has c.n := by
 simp only [Book.d4N, List.mem_filter] at h
 exact b2c.1 h.1
theorem d5A {b : Book} (hs : Sane b) (set : Int) : (b.d4N set).length <= 8 := Nat.le_trans (List.length_filter_le _ _) (b6P hs)
theorem d5E (b : Book) (i d : Nat) (hi : i < b.singers.length) (r : Nat -> Bool) : alls b b.now i d r = (b.d4N 0).flatMap fun c => (b.a1B c i (d4P 0)).map fun n => a2B b.days c n r d := by
 rw [d5w, d5N, List.flatMap_map]
 simp only [alls]
 have : ∀ t ∈ b.now, allOf b i d r t = (b.a1B t.1 i fun _ => false).map fun n => a2B b.days t.1 n r d := fun t ht => by
   simp only [Book.now, Book.a3d, List.mem_map] at ht
   obtain ⟨c, -, rfl⟩ := ht
   simp [allOf, Book.strong, hi]
 generalize b.now = l at this ⊢
 induction l with
 | nil => rfl
 | cons t l ih => simp only [List.flatMap_cons, this t (by simp), ih fun t ht => this t (by simp [ht])]
def d5i (a : Int × Int) (v : Int) : Int × Int := (min a.1 v, max a.2 v)
theorem d5z : ∀ (l : List Int) (a : Int × Int), l.foldl d5i a = (l.foldl min a.1, l.foldl max a.2)
 | [], a => rfl
 | x :: l, a => by simp only [List.foldl_cons, d5z l]; rfl
theorem d5X {l : List Int} (h : l ≠ []) (hl : ∀ v ∈ l, -1000 <= v /\ v <= 1000) : l.foldl d5i (1000, -1000) = (b2a l, a9Z l) := by
 rw [d5z]
 cases l with
 | nil => exact absurd rfl h
 | cons x l =>
   have := hl x (by simp)
   have e1 : min 1000 x = x := by omega
   have e2 : max (-1000) x = x := by omega
   simp only [List.foldl_cons, e1, e2, b2a, a9Z]
section
variable {Γ : Env} [P04 Γ] [G04 Γ]
theorem d5Z (b : Book) [hb : b.Fits] : K Γ (.fn 210) [.agg b.c] [] = some (.tup [vb (b.valid && !b.now.isEmpty), vi (if b.valid then 0 else 40)], []) := by
 have hc := d5B (Γ := Γ) b
 cases hv : b.valid with
 | false =>
   rw [hv] at hc
   rw [K_fn P04.f210 _ _ rfl]
   (simp only [go_sem, simprocAttr, d4S, hc, Bool.false_eq_true, Bool.false_and]; repeat' (first | ((first | refine brY ?_ | refine brN ?_ | refine brA ?_ | refine brD ?_ | refine brF ?_ | ((first | apply a0k | apply a0j); (. intro h; simp only [go_sem, simprocAttr, a0p h, d4S, hc, Bool.false_eq_true, Bool.false_and]; exact rfl))); (try simp only [go_sem, simprocAttr, d4S, hc, Bool.false_eq_true, Bool.false_and])) | ((first | apply a0e | apply d7E | apply a0a) <;> intro h <;> (try simp only [go_sem, simprocAttr, h, d4S, hc, Bool.false_eq_true, Bool.false_and]))))
 | true =>
   rw [hv] at hc
   have hs := a2n.1 hv
   have hk := d5L (Γ := Γ) b hs 0
   have hl := d5A hs 0
   have hem : decide (0 < ((b.d4N 0).length : Int)) = !b.now.isEmpty := by
     rw [d5w, List.length_map]; cases b.now <;> simp
   rw [K_fn P04.f210 _ _ rfl]
   (simp only [go_sem, simprocAttr, d4S, hc, hk, hem, List.length_map]; repeat' (first | ((first | refine brY ?_ | refine brN ?_ | refine brA ?_ | refine brD ?_ | refine brF ?_ | ((first | apply a0k | apply a0j); (. intro h; simp only [go_sem, simprocAttr, a0p h, d4S, hc, hk, hem, List.length_map]; exact rfl))); (try simp only [go_sem, simprocAttr, d4S, hc, hk, hem, List.length_map])) | ((first | apply a0e | apply d7E | apply a0a) <;> intro h <;> (try simp only [go_sem, simprocAttr, h, d4S, hc, hk, hem, List.length_map]))))
def Book.askK (b : Book) (is : Bool) : SK := if b.err is = 0 then kS (b.d4N 0) else .nil
def Book.askL (b : Book) (is : Bool) : List Cost := if b.err is = 0 then b.d4N 0 else []
theorem d5C (b : Book) [hb : b.Fits] (is : Bool) : K Γ (.fn 114) [.agg b.c, vb is] [] = some (.tup [.sc (.sl (b.askK is) 3 ((b.askL is).map Cost.c)), vi (b.err is)], []) := by
 have hc := d5B (Γ := Γ) b
 cases hv : b.valid with
 | false =>
   rw [hv] at hc
   have he : b.err is = 40 := b0G hv
   have h0 : ¬ b.err is = 0 := by rw [he]; decide
   simp only [Book.askK, Book.askL, if_neg h0, he]
   rw [K_fn P04.f114 _ _ rfl]
   (simp only [go_sem, simprocAttr, d4I, hc, Bool.false_eq_true]; repeat' (first | ((first | refine brY ?_ | refine brN ?_ | refine brA ?_ | refine brD ?_ | refine brF ?_ | ((first | apply a0k | apply a0j); (. intro h; simp only [go_sem, simprocAttr, a0p h, d4I, hc, Bool.false_eq_true]; exact rfl))); (try simp only [go_sem, simprocAttr, d4I, hc, Bool.false_eq_true])) | ((first | apply a0e | apply d7E | apply a0a) <;> intro h <;> (try simp only [go_sem, simprocAttr, h, d4I, hc, Bool.false_eq_true]))))
 | true =>
   rw [hv] at hc
   cases is with
   | false =>
     have he : b.err false = 41 := by rw [a5Z hv]; rfl
     have h0 : ¬ b.err false = 0 := by rw [he]; decide
     simp only [Book.askK, Book.askL, if_neg h0, he]
     rw [K_fn P04.f114 _ _ rfl]
     (simp only [go_sem, simprocAttr, d4I, hc]; repeat' (first | ((first | refine brY ?_ | refine brN ?_ | refine brA ?_ | refine brD ?_ | refine brF ?_ | ((first | apply a0k | apply a0j); (. intro h; simp only [go_sem, simprocAttr, a0p h, d4I, hc]; exact rfl))); (try simp only [go_sem, simprocAttr, d4I, hc])) | ((first | apply a0e | apply d7E | apply a0a) <;> intro h <;> (try simp only [go_sem, simprocAttr, h, d4I, hc]))))
   | true =>
     have hs := a2n.1 hv
     have hk := d5L (Γ := Γ) b hs 0
     by_cases hne : b.now = []
     . have he : b.err true = 42 := by rw [a5Z hv, hne]; rfl
       have h0 : ¬ b.err true = 0 := by rw [he]; decide
       have hL : b.d4N 0 = [] := by rw [d5w, hne]; rfl
       rw [hL] at hk
       simp only [Book.askK, Book.askL, if_neg h0, he]
       rw [K_fn P04.f114 _ _ rfl]
       (simp only [go_sem, simprocAttr, d4I, hc, hk, List.map_nil]; repeat' (first | ((first | refine brY ?_ | refine brN ?_ | refine brA ?_ | refine brD ?_ | refine brF ?_ | ((first | apply a0k | apply a0j); (. intro h; simp only [go_sem, simprocAttr, a0p h, d4I, hc, hk, List.map_nil]; exact rfl))); (try simp only [go_sem, simprocAttr, d4I, hc, hk, List.map_nil])) | ((first | apply a0e | apply d7E | apply a0a) <;> intro h <;> (try simp only [go_sem, simprocAttr, h, d4I, hc, hk, List.map_nil]))))
     . have he : b.err true = 0 := by rw [a5Z hv]; cases h : b.now <;> simp_all
       have hd : decide (((b.d4N 0).length : Int) = 0) = false := by rw [d5w, List.length_map]; cases h : b.now <;> simp_all; omega
       simp only [Book.askK, Book.askL, if_pos he, he]
       rw [K_fn P04.f114 _ _ rfl]
       (simp only [go_sem, simprocAttr, d4I, hc, hk, hd, List.length_map]; repeat' (first | ((first | refine brY ?_ | refine brN ?_ | refine brA ?_ | refine brD ?_ | refine brF ?_ | ((first | apply a0k | apply a0j); (. intro h; simp only [go_sem, simprocAttr, a0p h, d4I, hc, hk, hd, List.length_map]; exact rfl))); (try simp only [go_sem, simprocAttr, d4I, hc, hk, hd, List.length_map])) | ((first | apply a0e | apply d7E | apply a0a) <;> intro h <;> (try simp only [go_sem, simprocAttr, h, d4I, hc, hk, hd, List.length_map]))))
theorem d6d (b : Book) [hb : b.Fits] (hs : Sane b) (k1 : SK) (l : List Cost) (m : Nat) (c : Cost) (hm : l[m]? = some c) (h0 : b.c0.has c.p) (h1 : b.c1.has c.f) (h2 : b.c2.has c.n) (i d : Nat) (hd : d < b.days.length) (k2 : SK) (rs : List Rest) (hrs : rs.length <= 1000000) (k3 : SK) (own : List Int) (ho : own.length <= 3) (h30 : ∀ n ∈ own, 0 <= n /\ n <= 30) (a0 : Int × Int) {β : Type} (Q : Ex -> St -> Option β) :
   E Γ d5u ⟨[(1, .sc (.sl k1 3 (l.map Cost.c))), (2, vi i), (3, vi d), (4, .sc (.sl k2 2 (rs.map Rest.c))), (5, .sc (.ptr 0 0)), (10, .sc (.ptr 1 0)), (11, .sc (.ptr 2 0)), (12, vi m), (13, .sc (.sl k3 1 (li own))), (14, vi 0)], [.var b.c, .var [ci 0, ci 0], .var [ci a0.1, ci a0.2]]⟩ Q =
   Q (.exit 2) ⟨[(1, .sc (.sl k1 3 (l.map Cost.c))), (2, vi i), (3, vi d), (4, .sc (.sl k2 2 (rs.map Rest.c))), (5, .sc (.ptr 0 0)), (10, .sc (.ptr 1 0)), (11, .sc (.ptr 2 0)), (12, vi m), (13, .sc (.sl k3 1 (li own))), (14, vi own.length), (32, vb false)], [.var b.c, .var [ci 0, ci 0], .var [ci (own.foldl (fun a n => d5i a (a2B b.days c n (a2Y rs i) d)) a0).1, ci (own.foldl (fun a n => d5i a (a2B b.days c n (a2Y rs i) d)) a0).2]]⟩ := by
 refine (a6g (fun j (a : Int × Int) => ⟨[(1, .sc (.sl k1 3 (l.map Cost.c))), (2, vi i), (3, vi d), (4, .sc (.sl k2 2 (rs.map Rest.c))), (5, .sc (.ptr 0 0)), (10, .sc (.ptr 1 0)), (11, .sc (.ptr 2 0)), (12, vi m), (13, .sc (.sl k3 1 (li own))), (14, vi j)], [.var b.c, .var [ci 0, ci 0], .var [ci a.1, ci a.2]]⟩) own (fun a n => d5i a (a2B b.days c n (a2Y rs i) d))
   (fun a => (.exit 2, ⟨[(1, .sc (.sl k1 3 (l.map Cost.c))), (2, vi i), (3, vi d), (4, .sc (.sl k2 2 (rs.map Rest.c))), (5, .sc (.ptr 0 0)), (10, .sc (.ptr 1 0)), (11, .sc (.ptr 2 0)), (12, vi m), (13, .sc (.sl k3 1 (li own))), (14, vi own.length), (32, vb false)], [.var b.c, .var [ci 0, ci 0], .var [ci a.1, ci a.2]]⟩)) Q (fun j a n hx => ?_) (fun a => ?_) a0).trans rfl
 . have hlt' := (List.getElem?_eq_some_iff.1 hx).1
   have hlt : decide ((j : Int) < own.length) = true := decide_eq_true (by omega)
   have hiw : IntKind.i64.wrap ((j : Int) + 1) = j + 1 := wrap_i64 (by omega) (by omega)
   have hn := h30 n (List.mem_of_getElem? hx)
   have hk := d5O (Γ := Γ) b hs c h0 h1 h2 (i : Nat) n hn.1 hn.2 d hd k2 rs hrs
   (simp only [go_sem, simprocAttr, d4Z, hx, hm, hlt, hiw, hk, b7L, d5i]; repeat' (first | ((first | refine brY ?_ | refine brN ?_ | refine brA ?_ | refine brD ?_ | refine brF ?_ | ((first | apply a0k | apply a0j); (. intro h; simp only [go_sem, simprocAttr, a0p h, d4Z, hx, hm, hlt, hiw, hk, b7L, d5i]; exact rfl))); (try simp only [go_sem, simprocAttr, d4Z, hx, hm, hlt, hiw, hk, b7L, d5i])) | ((first | apply a0e | apply d7E | apply a0a) <;> intro h <;> (try simp only [go_sem, simprocAttr, h, d4Z, hx, hm, hlt, hiw, hk, b7L, d5i]))))
   rfl
 . have hlt : decide ((own.length : Int) < own.length) = false := decide_eq_false (by omega)
   (simp only [go_sem, simprocAttr, d4Z, hlt, b7L]; repeat' (first | ((first | refine brY ?_ | refine brN ?_ | refine brA ?_ | refine brD ?_ | refine brF ?_ | ((first | apply a0k | apply a0j); (. intro h; simp only [go_sem, simprocAttr, a0p h, d4Z, hlt, b7L]; exact rfl))); (try simp only [go_sem, simprocAttr, d4Z, hlt, b7L])) | ((first | apply a0e | apply d7E | apply a0a) <;> intro h <;> (try simp only [go_sem, simprocAttr, h, d4Z, hlt, b7L]))))
theorem d5G (b : Book) [hb : b.Fits] (hs : Sane b) (hne : b.now ≠ []) (k1 : SK) (i d : Nat) (hi : i < b.singers.length) (hd : d < b.days.length) (k2 : SK) (rs : List Rest) (hrs : rs.length <= 1000000) :
   K Γ (.fn 149) [.agg b.c, .sc (.sl k1 3 ((b.d4N 0).map Cost.c)), vi i, vi d, .sc (.sl k2 2 (rs.map Rest.c))] [] = some (.agg [ci (b.low i d (a2Y rs i)), ci (b.high i d (a2Y rs i))], []) := by
 have hl8 := d5A hs 0
 have hL {β : Type} (Q : Ex -> St -> Option β) : E Γ d5t ⟨[(1, .sc (.sl k1 3 ((b.d4N 0).map Cost.c))), (2, vi i), (3, vi d), (4, .sc (.sl k2 2 (rs.map Rest.c))), (5, .sc (.ptr 0 0)), (10, .sc (.ptr 1 0)), (11, .sc (.ptr 2 0)), (12, vi 0)], [.var b.c, .var [ci 0, ci 0], .var [ci 1000, ci (-1000)]]⟩ Q =
     Q (.exit 0) ⟨[(1, .sc (.sl k1 3 ((b.d4N 0).map Cost.c))), (2, vi i), (3, vi d), (4, .sc (.sl k2 2 (rs.map Rest.c))), (5, .sc (.ptr 0 0)), (10, .sc (.ptr 1 0)), (11, .sc (.ptr 2 0)), (12, vi (b.d4N 0).length), (19, vb false)], [.var b.c, .var [ci 0, ci 0], .var [ci (b.low i d (a2Y rs i)), ci (b.high i d (a2Y rs i))]]⟩ := by
   refine (a6g (fun j (a : Int × Int) => ⟨[(1, .sc (.sl k1 3 ((b.d4N 0).map Cost.c))), (2, vi i), (3, vi d), (4, .sc (.sl k2 2 (rs.map Rest.c))), (5, .sc (.ptr 0 0)), (10, .sc (.ptr 1 0)), (11, .sc (.ptr 2 0)), (12, vi j)], [.var b.c, .var [ci 0, ci 0], .var [ci a.1, ci a.2]]⟩) (b.d4N 0) (fun a c => (b.a1B c i (d4P 0)).foldl (fun a n => d5i a (a2B b.days c n (a2Y rs i) d)) a)
     (fun a => (.exit 0, ⟨[(1, .sc (.sl k1 3 ((b.d4N 0).map Cost.c))), (2, vi i), (3, vi d), (4, .sc (.sl k2 2 (rs.map Rest.c))), (5, .sc (.ptr 0 0)), (10, .sc (.ptr 1 0)), (11, .sc (.ptr 2 0)), (12, vi (b.d4N 0).length), (19, vb false)], [.var b.c, .var [ci 0, ci 0], .var [ci a.1, ci a.2]]⟩)) Q (fun j a c hx => ?_) (fun a => ?_) (1000, -1000)).trans ?_
   . have hlt' := (List.getElem?_eq_some_iff.1 hx).1
     have hlt : decide ((j : Int) < (b.d4N 0).length) = true := decide_eq_true (by omega)
     have hiw : IntKind.i64.wrap ((j : Int) + 1) = j + 1 := wrap_i64 (by omega) (by omega)
     obtain ⟨h0, h1, h2⟩ := d5H (List.mem_of_getElem? hx)
     have hk := d5U (Γ := Γ) b hs c h0 h1 h2 i hi 0
     obtain ⟨o1, o2⟩ := b4X hs (c := c) (i := i) (but := d4P 0) rfl
     have hL1 (k3 : SK) {β : Type} (Q : Ex -> St -> Option β) := d6d (Γ := Γ) b hs k1 (b.d4N 0) j c hx h0 h1 h2 i d hd k2 rs hrs k3 (b.a1B c i (d4P 0)) o1 o2 a Q
     (simp only [go_sem, simprocAttr, d4Y, hx, hlt, hiw, hk, hL1, List.length_map]; repeat' (first | ((first | refine brY ?_ | refine brN ?_ | refine brA ?_ | refine brD ?_ | refine brF ?_ | ((first | apply a0k | apply a0j); (. intro h; simp only [go_sem, simprocAttr, a0p h, d4Y, hx, hlt, hiw, hk, hL1, List.length_map]; exact rfl))); (try simp only [go_sem, simprocAttr, d4Y, hx, hlt, hiw, hk, hL1, List.length_map])) | ((first | apply a0e | apply d7E | apply a0a) <;> intro h <;> (try simp only [go_sem, simprocAttr, h, d4Y, hx, hlt, hiw, hk, hL1, List.length_map]))))
     rfl
   . have hlt : decide (((b.d4N 0).length : Int) < (b.d4N 0).length) = false := decide_eq_false (by omega)
     (simp only [go_sem, simprocAttr, d4Y, hlt, List.length_map]; repeat' (first | ((first | refine brY ?_ | refine brN ?_ | refine brA ?_ | refine brD ?_ | refine brF ?_ | ((first | apply a0k | apply a0j); (. intro h; simp only [go_sem, simprocAttr, a0p h, d4Y, hlt, List.length_map]; exact rfl))); (try simp only [go_sem, simprocAttr, d4Y, hlt, List.length_map])) | ((first | apply a0e | apply d7E | apply a0a) <;> intro h <;> (try simp only [go_sem, simprocAttr, h, d4Y, hlt, List.length_map]))))
   . have e : (b.d4N 0).foldl (fun a c => (b.a1B c i (d4P 0)).foldl (fun a n => d5i a (a2B b.days c n (a2Y rs i) d)) a) (1000, -1000) = (b.low i d (a2Y rs i), b.high i d (a2Y rs i)) := by
       rw [Book.low, Book.high, ← d5X (by obtain ⟨x, l, h⟩ := c0F (b7Z hs) hne (d := d) (r := a2Y rs i) hi; rw [h]; simp) (fun v hv => ?_), d5E b i d hi, foldl_flatMap]
       . simp only [List.foldl_map]
       . rw [d5E b i d hi, List.mem_flatMap] at hv
         obtain ⟨c, hc, hv⟩ := hv
         rw [List.mem_map] at hv
         obtain ⟨n, hn, rfl⟩ := hv
         obtain ⟨h0, h1, h2⟩ := d5H hc
         have hn30 := (b4X hs (c := c) (i := i) (but := d4P 0) rfl).2 n hn
         have g1 := b3h hs h0 h1 h2 hn30.1 (r := a2Y rs i) d
         have hm : Mild b.days c := by
           have k0 := hs.k0; have k1 := hs.k1
           simp only [Span.has] at h0 h1
           exact ⟨by omega, by omega, fun x hx => ⟨(hs.dy x hx).1.1, (hs.dy x hx).2.1.1⟩⟩
         have g2 := b3i hm (s := n) (r := a2Y rs i) d
         have hd5 := hs.d5
         omega
     rw [e]
 rw [K_fn P04.f149 _ _ rfl]
 (simp only [go_sem, simprocAttr, d5g, hL]; repeat' (first | ((first | refine brY ?_ | refine brN ?_ | refine brA ?_ | refine brD ?_ | refine brF ?_ | ((first | apply a0k | apply a0j); (. intro h; simp only [go_sem, simprocAttr, a0p h, d5g, hL]; exact rfl))); (try simp only [go_sem, simprocAttr, d5g, hL])) | ((first | apply a0e | apply d7E | apply a0a) <;> intro h <;> (try simp only [go_sem, simprocAttr, h, d5g, hL]))))
end
end Go.Pm.St
namespace Go.Pm.St
open Ac
theorem d5J {b : Book} {is : Bool} (he : b.err is = 0) : b.askL is = b.d4N 0 := by simp only [Book.askL, if_pos he]
section
variable {Γ : Env} [P04 Γ] [G04 Γ]
theorem d6g (b : Book) [hb : b.Fits] (n d : Int) : K Γ (.fn 211) [.agg b.c, vi n, vi d] [] = some (.tup [.agg [ci (b.left n d).1.1, ci (b.left n d).1.2], vi (b.left n d).2], []) := by
 have h1 := d5x (Γ := Γ) b n
 have h2 := d5K (Γ := Γ) b d
 have ha := d5C (Γ := Γ) b (b.a1f n && b.a2O d)
 by_cases he : b.err (b.a1f n && b.a2O d) = 0
 . obtain ⟨hv, his, hne⟩ := a5T he
   have hs := a2n.1 hv
   rw [Bool.and_eq_true] at his
   obtain ⟨i, rfl, hi⟩ := b0c his.1
   obtain ⟨d, rfl, hd⟩ := b7D his.2
   have hr6 := hs.r6
   have hsp := d5G (Γ := Γ) b hs hne (b.askK true) i d hi hd b.kr b.rests (by omega)
   rw [d5J he, he] at ha
   simp only [Book.left, if_pos he, Int.toNat_natCast, Book.rest]
   rw [his.1] at h1
   rw [his.2] at h2
   rw [his.1, his.2, Bool.and_self] at ha
   rw [K_fn P04.f211 _ _ rfl]
   (simp only [go_sem, simprocAttr, d4X, h1, h2, ha, hsp]; repeat' (first | ((first | refine brY ?_ | refine brN ?_ | refine brA ?_ | refine brD ?_ | refine brF ?_ | ((first | apply a0k | apply a0j); (. intro h; simp only [go_sem, simprocAttr, a0p h, d4X, h1, h2, ha, hsp]; exact rfl))); (try simp only [go_sem, simprocAttr, d4X, h1, h2, ha, hsp])) | ((first | apply a0e | apply d7E | apply a0a) <;> intro h <;> (try simp only [go_sem, simprocAttr, h, d4X, h1, h2, ha, hsp]))))
 . have hd : decide (b.err (b.a1f n && b.a2O d) = 0) = false := decide_eq_false he
   simp only [Book.left, if_neg he]
   cases k1 : b.a1f n <;> cases k2 : b.a2O d <;> rw [k1, k2] at ha hd <;> rw [k1] at h1 <;> rw [k2] at h2 <;> simp only [Bool.and_false, Bool.and_true, Bool.false_and, Bool.true_and] at ha hd <;>
     (rw [K_fn P04.f211 _ _ rfl]; (simp only [go_sem, simprocAttr, d4X, h1, h2, ha, hd]; repeat' (first | ((first | refine brY ?_ | refine brN ?_ | refine brA ?_ | refine brD ?_ | refine brF ?_ | ((first | apply a0k | apply a0j); (. intro h; simp only [go_sem, simprocAttr, a0p h, d4X, h1, h2, ha, hd]; exact rfl))); (try simp only [go_sem, simprocAttr, d4X, h1, h2, ha, hd])) | ((first | apply a0e | apply d7E | apply a0a) <;> intro h <;> (try simp only [go_sem, simprocAttr, h, d4X, h1, h2, ha, hd])))))
theorem d5Y (b : Book) [hb : b.Fits] (k : Int) : K Γ (.fn 212) [.agg b.c, vi k] [] = some (.tup [.agg [ci (b.costs k).1.1, ci (b.costs k).1.2], vi (b.costs k).2], []) := by
 have ha := d5C (Γ := Γ) b (within k 0 2)
 by_cases he : b.err (within k 0 2) = 0
 . obtain ⟨hv, his, hne⟩ := a5T he
   have hs := a2n.1 hv
   have hl8 := d5A hs 0
   rw [d5J he, he] at ha
   simp only [Book.costs, if_pos he]
   have hprs : b.prs k = (b.d4N 0).map fun c => c.at k := by rw [d5w, List.map_map]; rfl
   obtain ⟨c0, cr, hc⟩ : ∃ c0 cr, b.d4N 0 = c0 :: cr := by
     rw [d5w]; cases h : b.now with | nil => exact absurd h hne | cons t tr => exact ⟨t.1, tr.map Prod.fst, rfl⟩
   have h0 : (b.d4N 0)[0]? = some c0 := by rw [hc]; rfl
   have hk : k = 0 \/ k = 1 \/ k = 2 := by rw [within_iff] at his; omega
   have hL {β : Type} (Q : Ex -> St -> Option β) : E Γ d5n ⟨[(1, vi k), (4, .sc (.ptr 1 0)), (6, .sc (.sl (b.askK (within k 0 2)) 3 ((b.d4N 0).map Cost.c))), (8, .sc (.ptr 2 0)), (9, vi 0)], [.var b.c, .var [ci 0, ci 0], .var [ci (c0.at k), ci (c0.at k)]]⟩ Q =
       Q (.exit 0) ⟨[(1, vi k), (4, .sc (.ptr 1 0)), (6, .sc (.sl (b.askK (within k 0 2)) 3 ((b.d4N 0).map Cost.c))), (8, .sc (.ptr 2 0)), (9, vi (b.d4N 0).length), (30, vb false)], [.var b.c, .var [ci 0, ci 0], .var [ci (b2a (b.prs k)), ci (a9Z (b.prs k))]]⟩ := by
     refine (a6g (fun j (a : Int × Int) => ⟨[(1, vi k), (4, .sc (.ptr 1 0)), (6, .sc (.sl (b.askK (within k 0 2)) 3 ((b.d4N 0).map Cost.c))), (8, .sc (.ptr 2 0)), (9, vi j)], [.var b.c, .var [ci 0, ci 0], .var [ci a.1, ci a.2]]⟩) (b.d4N 0) (fun a c => d5i a (c.at k))
       (fun a => (.exit 0, ⟨[(1, vi k), (4, .sc (.ptr 1 0)), (6, .sc (.sl (b.askK (within k 0 2)) 3 ((b.d4N 0).map Cost.c))), (8, .sc (.ptr 2 0)), (9, vi (b.d4N 0).length), (30, vb false)], [.var b.c, .var [ci 0, ci 0], .var [ci a.1, ci a.2]]⟩)) Q (fun j a c hx => ?_) (fun a => ?_) (c0.at k, c0.at k)).trans ?_
     . have hlt' := (List.getElem?_eq_some_iff.1 hx).1
       have hlt : decide ((j : Int) < (b.d4N 0).length) = true := decide_eq_true (by omega)
       have hiw : IntKind.i64.wrap ((j : Int) + 1) = j + 1 := wrap_i64 (by omega) (by omega)
       rcases hk with rfl | rfl | rfl <;>
       . (simp only [go_sem, simprocAttr, d4T, hx, hlt, hiw, Cost.at_0, Cost.at_1, Cost.at_2, d5i, List.length_map]; repeat' (first | ((first | refine brY ?_ | refine brN ?_ | refine brA ?_ | refine brD ?_ | refine brF ?_ | ((first | apply a0k | apply a0j); (. intro h; simp only [go_sem, simprocAttr, a0p h, d4T, hx, hlt, hiw, Cost.at_0, Cost.at_1, Cost.at_2, d5i, List.length_map]; exact rfl))); (try simp only [go_sem, simprocAttr, d4T, hx, hlt, hiw, Cost.at_0, Cost.at_1, Cost.at_2, d5i, List.length_map])) | ((first | apply a0e | apply d7E | apply a0a) <;> intro h <;> (try simp only [go_sem, simprocAttr, h, d4T, hx, hlt, hiw, Cost.at_0, Cost.at_1, Cost.at_2, d5i, List.length_map]))))
         rfl
     . have hlt : decide (((b.d4N 0).length : Int) < (b.d4N 0).length) = false := decide_eq_false (by omega)
       (simp only [go_sem, simprocAttr, d4T, hlt, List.length_map]; repeat' (first | ((first | refine brY ?_ | refine brN ?_ | refine brA ?_ | refine brD ?_ | refine brF ?_ | ((first | apply a0k | apply a0j); (. intro h; simp only [go_sem, simprocAttr, a0p h, d4T, hlt, List.length_map]; exact rfl))); (try simp only [go_sem, simprocAttr, d4T, hlt, List.length_map])) | ((first | apply a0e | apply d7E | apply a0a) <;> intro h <;> (try simp only [go_sem, simprocAttr, h, d4T, hlt, List.length_map]))))
     . have e : (b.d4N 0).foldl (fun a c => d5i a (c.at k)) (c0.at k, c0.at k) = (b2a (b.prs k), a9Z (b.prs k)) := by
         have e1 : (b.d4N 0).foldl (fun a c => d5i a (c.at k)) (c0.at k, c0.at k) = (b.prs k).foldl d5i (c0.at k, c0.at k) := by rw [hprs, List.foldl_map]
         rw [e1, d5z, hprs, hc, List.map_cons]
         simp only [a8I, b2I]; rfl
       rw [e]
   rw [his] at ha hL
   rcases hk with rfl | rfl | rfl <;>
   . simp only [Cost.at_0, Cost.at_1, Cost.at_2] at hL
     rw [K_fn P04.f212 _ _ rfl]
     (simp only [go_sem, simprocAttr, d4R, ha, h0, hL, List.length_map, his]; repeat' (first | ((first | refine brY ?_ | refine brN ?_ | refine brA ?_ | refine brD ?_ | refine brF ?_ | ((first | apply a0k | apply a0j); (. intro h; simp only [go_sem, simprocAttr, a0p h, d4R, ha, h0, hL, List.length_map, his]; exact rfl))); (try simp only [go_sem, simprocAttr, d4R, ha, h0, hL, List.length_map, his])) | ((first | apply a0e | apply d7E | apply a0a) <;> intro h <;> (try simp only [go_sem, simprocAttr, h, d4R, ha, h0, hL, List.length_map, his]))))
 . have hd : decide (b.err (within k 0 2) = 0) = false := decide_eq_false he
   simp only [Book.costs, if_neg he]
   rw [K_fn P04.f212 _ _ rfl]
   (simp only [go_sem, simprocAttr, d4R, ha, hd]; repeat' (first | ((first | refine brY ?_ | refine brN ?_ | refine brA ?_ | refine brD ?_ | refine brF ?_ | ((first | apply a0k | apply a0j); (. intro h; simp only [go_sem, simprocAttr, a0p h, d4R, ha, hd]; exact rfl))); (try simp only [go_sem, simprocAttr, d4R, ha, hd])) | ((first | apply a0e | apply d7E | apply a0a) <;> intro h <;> (try simp only [go_sem, simprocAttr, h, d4R, ha, hd]))))
theorem d5T (b : Book) [hb : b.Fits] (n : Int) : K Γ (.fn 213) [.agg b.c, vi n] [] = some (.tup [vi (b.beyond n).1, vi (b.beyond n).2], []) := by
 have h1 := d5x (Γ := Γ) b n
 have ha := d5C (Γ := Γ) b (b.a1f n)
 by_cases he : b.err (b.a1f n) = 0
 . obtain ⟨hv, his, hne⟩ := a5T he
   have hs := a2n.1 hv
   obtain ⟨i, rfl, hi⟩ := b0c his
   have hd5 := hs.d5
   have hr6 := hs.r6
   rw [d5J he, he] at ha
   simp only [Book.beyond, if_pos he, Int.toNat_natCast]
   rw [Book.over, b4n]
   rw [K_fn P04.f213 _ _ rfl]
   (simp only [go_sem, simprocAttr, d4Q, h1, ha]; repeat' (first | ((first | refine brY ?_ | refine brN ?_ | refine brA ?_ | refine brD ?_ | refine brF ?_ | ((first | apply a0k | apply a0j); (. intro h; simp only [go_sem, simprocAttr, a0p h, d4Q, h1, ha]; exact rfl))); (try simp only [go_sem, simprocAttr, d4Q, h1, ha])) | ((first | apply a0e | apply d7E | apply a0a) <;> intro h <;> (try simp only [go_sem, simprocAttr, h, d4Q, h1, ha]))))
   refine (a4L (fun d => ⟨[(1, vi i), (2, .sc (.ptr 0 0)), (6, .sc (.sl (b.askK (b.a1f i)) 3 ((b.d4N 0).map Cost.c))), (8, vi d)], [.var b.c]⟩) b.days (fun d _ => decide (b.low i d (b.rest i) < 0))
     (fun d _ => (.ret, ⟨[(4, vi d), (5, vi 0)], [.var b.c]⟩)) (.exit 0, ⟨[(1, vi i), (2, .sc (.ptr 0 0)), (6, .sc (.sl (b.askK (b.a1f i)) 3 ((b.d4N 0).map Cost.c))), (8, vi b.days.length), (24, vb false)], [.var b.c]⟩) _ ?_ ?_ ?_).trans ?_
   . intro d x hx hf
     have hlt : d < b.days.length := (List.getElem?_eq_some_iff.1 hx).1
     have hdl : decide ((d : Int) < b.days.length) = true := decide_eq_true (by omega)
     have hdw : IntKind.i64.wrap ((d : Int) + 1) = d + 1 := wrap_i64 (by omega) (by omega)
     have hsp := d5G (Γ := Γ) b hs hne (b.askK (b.a1f i)) i d hi hlt b.kr b.rests (by omega)
     have hf : decide (b.low i d (a2Y b.rests (i : Nat)) < 0) = false := hf
     (simp only [go_sem, simprocAttr, d4K, hdl, hdw, hsp, hf]; repeat' (first | ((first | refine brY ?_ | refine brN ?_ | refine brA ?_ | refine brD ?_ | refine brF ?_ | ((first | apply a0k | apply a0j); (. intro h; simp only [go_sem, simprocAttr, a0p h, d4K, hdl, hdw, hsp, hf]; exact rfl))); (try simp only [go_sem, simprocAttr, d4K, hdl, hdw, hsp, hf])) | ((first | apply a0e | apply d7E | apply a0a) <;> intro h <;> (try simp only [go_sem, simprocAttr, h, d4K, hdl, hdw, hsp, hf]))))
     rfl
   . intro d x hx hf
     have hlt : d < b.days.length := (List.getElem?_eq_some_iff.1 hx).1
     have hdl : decide ((d : Int) < b.days.length) = true := decide_eq_true (by omega)
     have hsp := d5G (Γ := Γ) b hs hne (b.askK (b.a1f i)) i d hi hlt b.kr b.rests (by omega)
     have hf : decide (b.low i d (a2Y b.rests (i : Nat)) < 0) = true := hf
     (simp only [go_sem, simprocAttr, d4K, hdl, hsp, hf]; repeat' (first | ((first | refine brY ?_ | refine brN ?_ | refine brA ?_ | refine brD ?_ | refine brF ?_ | ((first | apply a0k | apply a0j); (. intro h; simp only [go_sem, simprocAttr, a0p h, d4K, hdl, hsp, hf]; exact rfl))); (try simp only [go_sem, simprocAttr, d4K, hdl, hsp, hf])) | ((first | apply a0e | apply d7E | apply a0a) <;> intro h <;> (try simp only [go_sem, simprocAttr, h, d4K, hdl, hsp, hf]))))
   . have hdl : decide ((b.days.length : Int) < b.days.length) = false := decide_eq_false (by omega)
     (simp only [go_sem, simprocAttr, d4K, hdl]; repeat' (first | ((first | refine brY ?_ | refine brN ?_ | refine brA ?_ | refine brD ?_ | refine brF ?_ | ((first | apply a0k | apply a0j); (. intro h; simp only [go_sem, simprocAttr, a0p h, d4K, hdl]; exact rfl))); (try simp only [go_sem, simprocAttr, d4K, hdl])) | ((first | apply a0e | apply d7E | apply a0a) <;> intro h <;> (try simp only [go_sem, simprocAttr, h, d4K, hdl]))))
   . cases hf : a0z (fun d (_ : Day) => decide (b.low i d (b.rest i) < 0)) 0 b.days with
     | none => simp only [go_sem, simprocAttr, Option.map_none]
     | some q => obtain ⟨d, x⟩ := q; (simp only [go_sem, simprocAttr, Option.map_some]; repeat' (first | ((first | refine brY ?_ | refine brN ?_ | refine brA ?_ | refine brD ?_ | refine brF ?_ | ((first | apply a0k | apply a0j); (. intro h; simp only [go_sem, simprocAttr, a0p h, Option.map_some]; exact rfl))); (try simp only [go_sem, simprocAttr, Option.map_some])) | ((first | apply a0e | apply d7E | apply a0a) <;> intro h <;> (try simp only [go_sem, simprocAttr, h, Option.map_some]))))
 . have hd : decide (b.err (b.a1f n) = 0) = false := decide_eq_false he
   simp only [Book.beyond, if_neg he]
   rw [K_fn P04.f213 _ _ rfl]
   (simp only [go_sem, simprocAttr, d4Q, h1, ha, hd]; repeat' (first | ((first | refine brY ?_ | refine brN ?_ | refine brA ?_ | refine brD ?_ | refine brF ?_ | ((first | apply a0k | apply a0j); (. intro h; simp only [go_sem, simprocAttr, a0p h, d4Q, h1, ha, hd]; exact rfl))); (try simp only [go_sem, simprocAttr, d4Q, h1, ha, hd])) | ((first | apply a0e | apply d7E | apply a0a) <;> intro h <;> (try simp only [go_sem, simprocAttr, h, d4Q, h1, ha, hd]))))
end
end Go.Pm.St
namespace Go.Pm.St
open Ac
theorem d5F (a c : Int) : a0c [1, 1] [ci a, ci c] [ci a, ci c] = some true := by
 have := a7k ⟨a, c⟩ ⟨a, c⟩
 simpa [Rest.c] using this
section
variable {Γ : Env} [P04 Γ] [G04 Γ]
theorem d5I (b : Book) [hb : b.Fits] (n0 n1 n2 : Int) : K Γ (.fn 224) [.agg b.c, .agg [ci n0, ci n1, ci n2]] [] = some (vb true, []) := by
 have h1 := d5Z (Γ := Γ) b
 have h2 := d6g (Γ := Γ) b n0 n1
 have h3 := d5Y (Γ := Γ) b n2
 have h4 := d5T (Γ := Γ) b n0
 have h5 := d5B (Γ := Γ) b
 have k1 := d5F (b.left n0 n1).1.1 (b.left n0 n1).1.2
 have k2 := d5F (b.costs n2).1.1 (b.costs n2).1.2
 rw [K_fn P04.f224 _ _ rfl]
 (simp only [go_sem, simprocAttr, d5a, h1, h2, h3, h4, h5, k1, k2, beq_self_eq_true]; repeat' (first | ((first | refine brY ?_ | refine brN ?_ | refine brA ?_ | refine brD ?_ | refine brF ?_ | ((first | apply a0k | apply a0j); (. intro h; simp only [go_sem, simprocAttr, a0p h, d5a, h1, h2, h3, h4, h5, k1, k2, beq_self_eq_true]; exact rfl))); (try simp only [go_sem, simprocAttr, d5a, h1, h2, h3, h4, h5, k1, k2, beq_self_eq_true])) | ((first | apply a0e | apply d7E | apply a0a) <;> intro h <;> (try simp only [go_sem, simprocAttr, h, d5a, h1, h2, h3, h4, h5, k1, k2, beq_self_eq_true]))))
end
end Go.Pm.St
