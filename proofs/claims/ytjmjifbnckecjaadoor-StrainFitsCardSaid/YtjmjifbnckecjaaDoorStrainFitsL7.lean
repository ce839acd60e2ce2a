/- The statement StrainFits, part 7. -/
import Derived.Test.YtjmjifbnckecjaaDoorStrainFitsL6
set_option linter.all false
set_option maxRecDepth 100000
namespace Go.Pm.St
open Ac
/-! ### Who rests when, as a set -/
theorem b5f : ∀ (l : List Rest) (f : List Int -> Bool) (e : Nat) (i : Int), a1M f l [(e : Int), i] = (f [(e : Int), i] || a2Y l i e)
 | [], f, e, i => by simp [a1M, a2Y]
 | x :: l, f, e, i => by
   have ih := b5f l (addR f x) e i
   simp only [a1M, List.foldl_cons] at ih ⊢
   rw [ih]
   simp only [addR, a2Y, List.any_cons]
   split
   . rename_i h
     have : decide (x.day = (e : Int)) = false := decide_eq_false (by omega)
     simp [this]
   . have : decide ([(e : Int), i] = [x.day, x.singer]) = (decide (x.day = (e : Int)) && decide (x.singer = i)) := by
       by_cases h1 : x.day = (e : Int) <;> by_cases h2 : x.singer = i <;> simp [h1, h2]
       . intro h; exact absurd h.symm h2
       . intro h; exact absurd h.symm h1
       . intro h; exact absurd h.symm h1
     show (f [(e : Int), i] || decide ([(e : Int), i] = [x.day, x.singer]) || _) = _
     rw [this, Bool.or_assoc]
def Book.F (b : Book) : List Int -> Bool := a1M (fun _ => false) b.rests
theorem F_at (b : Book) (e : Nat) (i : Int) : b.F [(e : Int), i] = a2Y b.rests i e := by rw [Book.F, b5f]; rfl
@[go_sem] theorem c7D (b : Book) : a1H [.sl .nil 2 [], ci 0, ci 0, ci 0, ci 0, ci 0, ci 0, .sl .nil 3 [], .sl .nil 2 [], .sl .nil 4 [], .imap true false [], .sl .nil 4 []] 0 b.c = B12 b (.imap true false []) (.sl .nil 4 []) := nrfl rfl
@[go_sem] theorem c7F (b : Book) (m t : C) (z0 z1 z2 z3 z4 z5 z6 z7 z8 z9 z10 z11 : C) : a1H [z0, z1, z2, z3, z4, z5, z6, z7, z8, z9, z10, z11] 0 (B12 b m t) = B12 b m t := nrfl rfl
@[go_sem] theorem d0R (b : Book) (m m' t : C) : (B12 b m t).set 10 m' = B12 b m' t := nrfl rfl
@[go_sem] theorem c7E (b : Book) (m t : C) : List.take 12 (B12 b m t) = B12 b m t := nrfl rfl
@[go_sem] theorem c7C (b : Book) (m t : C) : List.drop 12 (B12 b m t) = [] := nrfl rfl
/-! ### Truths in places -/
abbrev li (l : List Int) : List (List C) := l.map fun x => [ci x]
theorem b7L (l : List Int) : (li l).length = l.length := by simp [li]
def strC (l : List Int) : C := .sl .shared 1 (li l)
def a1g (t : Truth) : List C := [ci t.1.p, ci t.1.f, ci t.1.n, .sl .shared 1 (t.2.map fun l => [strC l])]
def a4V (ts : List Truth) : C := ownC 4 (ts.map a1g)
def a3b (b : Book) : C := .fn (.fn 171) [some 12] (B12 b (.iset 2 b.F) (.sl .nil 4 [])) []
abbrev a7Z (b : Book) (ts : List Truth) : List C := B12 b (.iset 2 b.F) (a4V ts)
theorem b3q (es : Nat) (x : List C) (l : List (List C)) : ownC es (x :: l) = .own es (x :: l) := rfl
theorem b9p (es : Nat) : ownC es [] = .sl .nil es [] := rfl
def strN (b : Book) (c : Cost) (i : Int) (but : List Int) (lo : Int) (j : Nat) : List Int := ((List.range j).map fun (k : Nat) => lo + (k : Int)).filter fun n => b.right c i n fun n => but.contains n
theorem b8l (b : Book) (c : Cost) (i : Int) (but : List Int) (lo : Int) (j : Nat) : strN b c i but lo (j + 1) = if b.right c i (lo + j) (fun n => but.contains n) = true then strN b c i but lo j ++ [lo + (j : Int)] else strN b c i but lo j := by
 simp only [strN, List.range_succ, List.map_append, List.map_cons, List.map_nil, List.filter_append, List.filter_cons, List.filter_nil]
 split <;> simp
theorem b9P (b : Book) (c : Cost) (i : Nat) (but : List Int) {s : Span} (hs : b.singers[i]? = some s) : strN b c i but s.lo (s.hi - s.lo + 1).toNat = b.a1B c i fun n => but.contains n := by
 simp only [strN, Book.a1B, hs, upto]
theorem b9Q (b : Book) (c : Cost) (i : Int) (but : List Int) (lo : Int) (j : Nat) : (strN b c i but lo j).length <= j := by
 refine Nat.le_trans (List.length_filter_le _ _) (by simp)
theorem b3j (l : List Int) (n : Int) : li (l ++ [n]) = li l ++ [[ci n]] := by simp [li]
section
variable {Γ : Env} [P04 Γ] [G04 Γ]
abbrev kp (M : Nat) (b : Book) (r : List (Nat × V)) : List (Nat × V) := (3, .sc (.ptr 1 0)) :: (5, .sc (.ptr 4 0)) :: (6, .sc (.ptr 5 0)) :: (7, .sc (.ptr M 0)) :: (8, .sc (.ptr (M + 1) 0)) :: r
theorem b3p (b : Book) (hs : Sane b) (k : SK) (but : List Int) (hbut : but.length <= 1000000) (c : Cost) (h0 : b.c0.has c.p) (h1 : b.c1.has c.f) (h2 : b.c2.has c.n) (i : Nat) (s : Span) (hi : b.singers[i]? = some s)
   (H : List Obj) (M : Nat) (hn : H.length = M) (h6 : 6 <= M) (hb1 : H[1]? = some (.var [.sl k 1 (li but)])) (hb5 : H[5]? = some (.var [a3b b])) (hu : H.all (Obj.under M) = true) (st : C) (hst : ∀ n, C.under n st = true) {β : Type} (Q : Ex -> St -> Option β) :
   E Γ a8c ⟨kp M b [(9, vi i), (10, .sc (.ptr (M + 2) 0)), (11, .sc (.sl .nil 1 [])), (12, vi s.lo), (27, .sc (.sl b.ks 2 (b.singers.map Span.c))), (28, vi b.singers.length), (29, vi i)], H ++ [.var [ci c.p, ci c.f, ci c.n], .var [ci c.p, ci c.f, ci c.n, st], .var s.c]⟩ Q =
   Q (.exit 4) ⟨kp M b [(9, vi i), (10, .sc (.ptr (M + 2) 0)), (11, .sc (ownC 1 (li (b.a1B c i fun n => but.contains n)))), (12, vi (s.hi + 1)), (27, .sc (.sl b.ks 2 (b.singers.map Span.c))), (28, vi b.singers.length), (29, vi i), (39, vb false)], H ++ [.var [ci c.p, ci c.f, ci c.n], .var [ci c.p, ci c.f, ci c.n, st], .var s.c]⟩ := by
 have hsp := hs.sp s (List.mem_of_getElem? hi)
 have hl1 : 1 < H.length := by omega
 have hl5 : 5 < H.length := by omega
 have hm1 : 1 < M := by omega
 have hm4 : 4 < M := by omega
 have hm5 : 5 < M := by omega
 refine a4q (s.hi - s.lo + 1).toNat (fun j (_ : Unit) => ⟨kp M b [(9, vi i), (10, .sc (.ptr (M + 2) 0)), (11, .sc (ownC 1 (li (strN b c i but s.lo j)))), (12, vi (s.lo + j)), (27, .sc (.sl b.ks 2 (b.singers.map Span.c))), (28, vi b.singers.length), (29, vi i)], H ++ [.var [ci c.p, ci c.f, ci c.n], .var [ci c.p, ci c.f, ci c.n, st], .var s.c]⟩) (fun _ _ => True)
   (fun _ => (.exit 4, ⟨kp M b [(9, vi i), (10, .sc (.ptr (M + 2) 0)), (11, .sc (ownC 1 (li (b.a1B c i fun n => but.contains n)))), (12, vi (s.hi + 1)), (27, .sc (.sl b.ks 2 (b.singers.map Span.c))), (28, vi b.singers.length), (29, vi i), (39, vb false)], H ++ [.var [ci c.p, ci c.f, ci c.n], .var [ci c.p, ci c.f, ci c.n, st], .var s.c]⟩)) () ?_ trivial ?_ ?_ (fun _ _ => rfl)
 . simp [strN, li, ownC]
 . intro j _ hj _
   refine ⟨(), trivial, ?_⟩
   have hle : decide (s.lo + (j : Int) <= s.hi) = true := decide_eq_true (by omega)
   have hjw : IntKind.i64.wrap (s.lo + (j : Int) + 1) = s.lo + ((j + 1 : Nat) : Int) := by rw [wrap_i64 (by omega) (by omega)]; omega
   have hR := c1k (Γ := Γ) b hs b.F (F_at b) (.sl .nil 4 []) rfl c h0 h1 h2 i (s.lo + j) (by omega) k but hbut
   have hBu (n : Nat) : C.a0G n (B12 b (.iset 2 b.F) (.sl .nil 4 [])) = true := a0C n _ (a2S b _ _ rfl)
   have hBp : C.a0v (B12 b (.iset 2 b.F) (.sl .nil 4 [])) = true := a2S b _ _ rfl
   have hBl : (B12 b (.iset 2 b.F) (.sl .nil 4 [])).length = 12 := rfl
   have happ := a2K 1 (li (strN b c i but s.lo j)) .full [ci (s.lo + j)] (by rw [b7L]; have := b9Q b c i but s.lo j; simp only [room]; omega)
   rw [b8l]
   have hlb : (fun x : Int => [C.int .i64 x]) = fun x => [ci x] := rfl
   cases hr : b.right c i (s.lo + j) (fun n => but.contains n) with
   | true =>
     simp only [hr] at hR
     simp only [if_true, b3j]
     (simp only [go_sem, simprocAttr, a1Q, hn, a0E, hl1, hl5, hm1, hm4, hm5, hb1, hb5, hle, hjw, a3b, hR, hBu, hBp, hBl, happ, hst, hu, a0Q, List.map_nil, List.append_nil]; repeat' (first | ((first | refine brY ?_ | refine brN ?_ | refine brA ?_ | refine brD ?_ | refine brF ?_ | ((first | apply a0k | apply a0j); (. intro h; simp only [go_sem, simprocAttr, a0p h, a1Q, hn, a0E, hl1, hl5, hm1, hm4, hm5, hb1, hb5, hle, hjw, a3b, hR, hBu, hBp, hBl, happ, hst, hu, a0Q, List.map_nil, List.append_nil]; exact rfl))); (try simp only [go_sem, simprocAttr, a1Q, hn, a0E, hl1, hl5, hm1, hm4, hm5, hb1, hb5, hle, hjw, a3b, hR, hBu, hBp, hBl, happ, hst, hu, a0Q, List.map_nil, List.append_nil])) | ((first | apply a0e | apply d7E | apply a0a) <;> intro h <;> (try simp only [go_sem, simprocAttr, h, a1Q, hn, a0E, hl1, hl5, hm1, hm4, hm5, hb1, hb5, hle, hjw, a3b, hR, hBu, hBp, hBl, happ, hst, hu, a0Q, List.map_nil, List.append_nil]))))
   | false =>
     simp only [hr] at hR
     simp only [Bool.false_eq_true, if_false]
     (simp only [go_sem, simprocAttr, a1Q, hn, a0E, hl1, hl5, hm1, hm4, hm5, hb1, hb5, hle, hjw, a3b, hR, hBu, hBp, hBl, hst, hu, a0Q, List.map_nil, List.append_nil]; repeat' (first | ((first | refine brY ?_ | refine brN ?_ | refine brA ?_ | refine brD ?_ | refine brF ?_ | ((first | apply a0k | apply a0j); (. intro h; simp only [go_sem, simprocAttr, a0p h, a1Q, hn, a0E, hl1, hl5, hm1, hm4, hm5, hb1, hb5, hle, hjw, a3b, hR, hBu, hBp, hBl, hst, hu, a0Q, List.map_nil, List.append_nil]; exact rfl))); (try simp only [go_sem, simprocAttr, a1Q, hn, a0E, hl1, hl5, hm1, hm4, hm5, hb1, hb5, hle, hjw, a3b, hR, hBu, hBp, hBl, hst, hu, a0Q, List.map_nil, List.append_nil])) | ((first | apply a0e | apply d7E | apply a0a) <;> intro h <;> (try simp only [go_sem, simprocAttr, h, a1Q, hn, a0E, hl1, hl5, hm1, hm4, hm5, hb1, hb5, hle, hjw, a3b, hR, hBu, hBp, hBl, hst, hu, a0Q, List.map_nil, List.append_nil]))))
 . intro _ _
   have hm : s.lo + ((s.hi - s.lo + 1).toNat : Int) = s.hi + 1 := by omega
   have hle : decide (s.hi + 1 <= s.hi) = false := decide_eq_false (by omega)
   rw [hm, b9P b c i but hi]
   simp only [go_sem, simprocAttr, a1Q, hn, a0E, hle]
def a3h (b : Book) (c : Cost) (but : List Int) (i : Nat) : List (List Int) := (List.range i).map fun i => b.a1B c i fun n => but.contains n
theorem b4Y (b : Book) (c : Cost) (but : List Int) (i : Nat) : a3h b c but (i + 1) = a3h b c but i ++ [b.a1B c i fun n => but.contains n] := by simp [a3h, List.range_succ]
def lc (l : List (List Int)) : List (List C) := l.map fun l => [strC l]
theorem b7I (l : List (List Int)) (x : List Int) : lc (l ++ [x]) = lc l ++ [[strC x]] := by simp [lc]
theorem b8b (b : Book) [hb : b.Fits] (hs : Sane b) (k : SK) (but : List Int) (hbut : but.length <= 1000000) (c : Cost) (h0 : b.c0.has c.p) (h1 : b.c1.has c.f) (h2 : b.c2.has c.n)
   (H : List Obj) (M : Nat) (hn : H.length = M) (h6 : 6 <= M) (hb1 : H[1]? = some (.var [.sl k 1 (li but)])) (hb5 : H[5]? = some (.var [a3b b])) (hu : H.all (Obj.under M) = true) {β : Type} (Q : Ex -> St -> Option β) :
   E Γ a5V ⟨kp M b [(27, .sc (.sl b.ks 2 (b.singers.map Span.c))), (28, vi b.singers.length), (29, vi 0)], H ++ [.var [ci c.p, ci c.f, ci c.n], .var [ci c.p, ci c.f, ci c.n, .sl .nil 1 []]]⟩ Q =
   match a0z (fun i _ => (b.a1B c i fun n => but.contains n).isEmpty) 0 b.singers with
   | some (i, s) => Q (.exit 1) ⟨kp M b [(11, .sc (.sl .nil 1 [])), (27, .sc (.sl b.ks 2 (b.singers.map Span.c))), (28, vi b.singers.length), (29, vi i), (54, vb true)], H ++ [.var [ci c.p, ci c.f, ci c.n], .var [ci c.p, ci c.f, ci c.n, ownC 1 (lc (a3h b c but i))], .var s.c]⟩
   | none => Q (.exit 2) ⟨kp M b [(27, .sc (.sl b.ks 2 (b.singers.map Span.c))), (28, vi b.singers.length), (29, vi b.singers.length), (30, vb false)], H ++ [.var [ci c.p, ci c.f, ci c.n], .var [ci c.p, ci c.f, ci c.n, ownC 1 (lc (a3h b c but b.singers.length))]]⟩ := by
 have hl1 : 1 < H.length := by omega
 have hl5 : 5 < H.length := by omega
 have hm1 : 1 < M := by omega
 have hm4 : 4 < M := by omega
 have hm5 : 5 < M := by omega
 have hs3 := hs.s3
 refine (a4L (fun i => ⟨kp M b [(27, .sc (.sl b.ks 2 (b.singers.map Span.c))), (28, vi b.singers.length), (29, vi i)], H ++ [.var [ci c.p, ci c.f, ci c.n], .var [ci c.p, ci c.f, ci c.n, ownC 1 (lc (a3h b c but i))]]⟩) b.singers (fun i _ => (b.a1B c i fun n => but.contains n).isEmpty)
   (fun i s => (.exit 1, ⟨kp M b [(11, .sc (.sl .nil 1 [])), (27, .sc (.sl b.ks 2 (b.singers.map Span.c))), (28, vi b.singers.length), (29, vi i), (54, vb true)], H ++ [.var [ci c.p, ci c.f, ci c.n], .var [ci c.p, ci c.f, ci c.n, ownC 1 (lc (a3h b c but i))], .var s.c]⟩))
   (.exit 2, ⟨kp M b [(27, .sc (.sl b.ks 2 (b.singers.map Span.c))), (28, vi b.singers.length), (29, vi b.singers.length), (30, vb false)], H ++ [.var [ci c.p, ci c.f, ci c.n], .var [ci c.p, ci c.f, ci c.n, ownC 1 (lc (a3h b c but b.singers.length))]]⟩) _ ?_ ?_ ?_).trans ?_
 . intro i s hi hf
   have hlt : i < b.singers.length := (List.getElem?_eq_some_iff.1 hi).1
   have hiw : IntKind.i64.wrap ((i : Int) + 1) = i + 1 := wrap_i64 (by omega) (by omega)
   have hL {β : Type} (Q : Ex -> St -> Option β) := b3p (Γ := Γ) b hs k but hbut c h0 h1 h2 i s hi H M hn h6 hb1 hb5 hu (ownC 1 (lc (a3h b c but i))) (fun n => a7C _ _ _) Q
   have hle : (a3h b c but i).length <= 3 := by simp [a3h]; omega
   rw [b4Y, b7I]
   obtain ⟨str, hstr⟩ : ∃ str, (b.a1B c i fun n => but.contains n) = str := ⟨_, rfl⟩
   rw [hstr] at hL hf ⊢
   cases str with
   | nil => simp at hf
   | cons y ys =>
     have hne : decide (((ys.length + 1 : Nat) : Int) = 0) = false := decide_eq_false (by omega)
     have happ := a2K 1 (lc (a3h b c but i)) .full [strC (y :: ys)] (by simp [lc, room]; omega)
     have hp : C.pure (strC (y :: ys)) = true := rfl
     have hC : ∀ l : List (List C), a0r (.own 1 ([ci y] :: l)) = .sl .shared 1 ([ci y] :: l) := fun _ => rfl
     simp only [b3q, List.map_cons] at hL
     simp only [strC, List.map_cons] at happ hp ⊢
     (simp only [go_sem, simprocAttr, a1P, hn, a0E, hi, hiw, hL, hl1, hl5, hm1, hm4, hm5, hne, happ, hp, hu, a0Q, List.length_cons, List.length_map]; repeat' (first | ((first | refine brY ?_ | refine brN ?_ | refine brA ?_ | refine brD ?_ | refine brF ?_ | ((first | apply a0k | apply a0j); (. intro h; simp only [go_sem, simprocAttr, a0p h, a1P, hn, a0E, hi, hiw, hL, hl1, hl5, hm1, hm4, hm5, hne, happ, hp, hu, a0Q, List.length_cons, List.length_map]; exact rfl))); (try simp only [go_sem, simprocAttr, a1P, hn, a0E, hi, hiw, hL, hl1, hl5, hm1, hm4, hm5, hne, happ, hp, hu, a0Q, List.length_cons, List.length_map])) | ((first | apply a0e | apply d7E | apply a0a) <;> intro h <;> (try simp only [go_sem, simprocAttr, h, a1P, hn, a0E, hi, hiw, hL, hl1, hl5, hm1, hm4, hm5, hne, happ, hp, hu, a0Q, List.length_cons, List.length_map]))))
     rfl
 . intro i s hi hf
   have hlt : i < b.singers.length := (List.getElem?_eq_some_iff.1 hi).1
   have hL {β : Type} (Q : Ex -> St -> Option β) := b3p (Γ := Γ) b hs k but hbut c h0 h1 h2 i s hi H M hn h6 hb1 hb5 hu (ownC 1 (lc (a3h b c but i))) (fun n => a7C _ _ _) Q
   rw [List.isEmpty_iff] at hf
   rw [hf] at hL
   simp only [b9p, List.map_nil] at hL
   (simp only [go_sem, simprocAttr, a1P, hn, a0E, hi, hL, hl1, hl5, hm1, hm4, hm5, hu, a0Q]; repeat' (first | ((first | refine brY ?_ | refine brN ?_ | refine brA ?_ | refine brD ?_ | refine brF ?_ | ((first | apply a0k | apply a0j); (. intro h; simp only [go_sem, simprocAttr, a0p h, a1P, hn, a0E, hi, hL, hl1, hl5, hm1, hm4, hm5, hu, a0Q]; exact rfl))); (try simp only [go_sem, simprocAttr, a1P, hn, a0E, hi, hL, hl1, hl5, hm1, hm4, hm5, hu, a0Q])) | ((first | apply a0e | apply d7E | apply a0a) <;> intro h <;> (try simp only [go_sem, simprocAttr, h, a1P, hn, a0E, hi, hL, hl1, hl5, hm1, hm4, hm5, hu, a0Q]))))
 . simp only [go_sem, simprocAttr, a1P, hn, a0E]
 . cases a0z (fun i _ => (b.a1B c i fun n => but.contains n).isEmpty) 0 b.singers with
   | none => rfl
   | some q => obtain ⟨i, x⟩ := q; rfl
def Book.addT (b : Book) (but : List Int) (ts : List Truth) (c : Cost) : List Truth := if b.can c (fun n => but.contains n) then ts ++ [(c, b.strong c fun n => but.contains n)] else ts
theorem b8D (b : Book) (c : Cost) (but : List Int) : (a0z (fun i _ => (b.a1B c i fun n => but.contains n).isEmpty) 0 b.singers).isNone = b.can c fun n => but.contains n := by
 rw [Bool.eq_iff_iff, Option.isNone_iff_eq_none, a2L]
 simp only [Book.can, Book.strong, List.all_eq_true, List.mem_map, List.mem_range, Nat.zero_add, Bool.not_eq_true']
 constructor
 . rintro h l ⟨i, hi, rfl⟩
   exact h i _ (List.getElem?_eq_getElem hi)
 . intro h i x hx
   exact h _ ⟨i, (List.getElem?_eq_some_iff.1 hx).1, rfl⟩
theorem E_A0 {β : Type} (s : St) (Q : Ex -> St -> Option β) : E Γ a2x s Q = E Γ ((.region 1 [
   ⟨0, some 7, .alloc 0 [.int .i64 0, .int .i64 0, .int .i64 0], none, []⟩,
   ⟨1, none, .store 3 (.t 7) (.t 23), none, []⟩] false [2, 3, 5, 6, 7])) s Q := rfl
theorem E_B0 {β : Type} (s : St) (Q : Ex -> St -> Option β) : E Γ a2y s Q = E Γ ((.block 1 (.seq (.region 1 [
   ⟨0, some 24, .load (some 3) (.t 7), none, []⟩,
   ⟨1, some 25, .build [.int .i64 0, .int .i64 0, .int .i64 0, .sl .nil 1 []] [(0, 3, .t 24)], none, []⟩,
   ⟨2, some 8, .alloc 0 [.int .i64 0, .int .i64 0, .int .i64 0, .sl .nil 1 []], none, []⟩,
   ⟨3, none, .store 4 (.t 8) (.t 25), none, []⟩] false [2, 3, 5, 6, 7, 8])
 (.seq (.seq (.region 0 [
   ⟨0, some 26, .faddr 0 (.t 2), none, []⟩,
   ⟨1, some 27, .load none (.t 26), none, []⟩,
   ⟨2, some 28, .len 1 (.t 27), none, []⟩,
   ⟨3, some 29, .mv (.k (.sc (.int .i64 0))), none, []⟩] false [3, 5, 6, 7, 8, 27, 28, 29])
 (.block 2 (a5V)))
 (.region 0 [
   ⟨0, some 62, .faddr 11 (.t 5), none, []⟩,
   ⟨1, some 63, .loadT (.t 62), none, []⟩,
   ⟨2, some 64, .load (some 4) (.t 8), none, []⟩,
   ⟨3, some 65, .bslice 4 1 [.int .i64 0, .int .i64 0, .int .i64 0, .sl .nil 1 []] [(0, .t 64)], none, []⟩,
   ⟨4, some 66, .append 4 (.tk 63) (.t 65), none, []⟩,
   ⟨5, some 67, .faddr 11 (.t 5), none, []⟩,
   ⟨6, none, .store 1 (.t 67) (.tk 66), none, []⟩] false []))))) s Q := rfl
theorem c1p (b : Book) (m t t' : C) : (B12 b m t).set 11 t' = B12 b m t' := rfl
attribute [go_sem] c1p
theorem b4Z (c : Cost) (st : List (List Int)) : a1g (c, st) = [ci c.p, ci c.f, ci c.n, .sl .shared 1 (lc st)] := rfl
theorem c1A (b : Book) [hb : b.Fits] (hs : Sane b) (k : SK) (but : List Int) (hbut : but.length <= 1000000) (H : List Obj) (M : Nat) (ts : List Truth) (T : List (Nat × V)) (v22 : V) (hT : T = [(2, .sc (.ptr 0 0)), (3, .sc (.ptr 1 0)), (4, .sc (.ptr 2 0)), (5, .sc (.ptr 4 0)), (6, .sc (.ptr 5 0)), (22, v22)]) (h22 : ∀ n, v22.under n = true)
   (hn : H.length = M) (h7 : 7 <= M) (hb0 : H[0]? = some (.var b.c)) (hb1 : H[1]? = some (.var [.sl k 1 (li but)])) (hb4 : H[4]? = some (.var (a7Z b ts))) (hb5 : H[5]? = some (.var [a3b b]))
   (hb6 : H[6]? = some (.loop .ready none T [23] a2x a2y)) (hu : H.all (Obj.under M) = true) (hr : ts.length + 1 <= room)
   (c : Cost) (h0 : b.c0.has c.p) (h1 : b.c1.has c.f) (h2 : b.c2.has c.n) :
   K Γ (.yield 6) [.agg [ci c.p, ci c.f, ci c.n]] H = some (vb true, H.set 4 (.var (a7Z b (b.addT but ts c)))) := by
 subst hT
 have hl0 : 0 < H.length := by omega
 have hl1 : 1 < H.length := by omega
 have hl4 : 4 < H.length := by omega
 have hl5 : 5 < H.length := by omega
 have hl6 : 6 < H.length := by omega
 rw [c0y]
 have hm0 : 0 < M := by omega
 have hm1 : 1 < M := by omega
 have hm4 : 4 < M := by omega
 have hm5 : 5 < M := by omega
 have hm6 : 6 < M := by omega
 obtain ⟨bz, hbz⟩ : ∃ x, Obj.loop .busy none [(2, .sc (.ptr 0 0)), (3, .sc (.ptr 1 0)), (4, .sc (.ptr 2 0)), (5, .sc (.ptr 4 0)), (6, .sc (.ptr 5 0)), (22, v22)] [23] a2x a2y = x := ⟨_, rfl⟩
 have hbu (n : Nat) : Obj.under (n + 7) bz = true := by subst hbz; simp [Obj.under, go_sem, h22]
 have hob {β : Type} (f : List (Nat × V) -> List Nat -> AC -> AC -> Option β) : b2i (some bz) f = f [(2, .sc (.ptr 0 0)), (3, .sc (.ptr 1 0)), (4, .sc (.ptr 2 0)), (5, .sc (.ptr 4 0)), (6, .sc (.ptr 5 0)), (22, v22)] [23] a2x a2y := by subst hbz; rfl
 have hB0 : (H.set 6 bz)[0]? = some (.var b.c) := by rw [a5B _ _ _ _ (by decide), hb0]
 have hB1 : (H.set 6 bz)[1]? = some (.var [.sl k 1 (li but)]) := by rw [a5B _ _ _ _ (by decide), hb1]
 have hB4 : (H.set 6 bz)[4]? = some (.var (a7Z b ts)) := by rw [a5B _ _ _ _ (by decide), hb4]
 have hB5 : (H.set 6 bz)[5]? = some (.var [a3b b]) := by rw [a5B _ _ _ _ (by decide), hb5]
 have hBn : (H.set 6 bz).length = M := by simp [hn]
 have hBu : (H.set 6 bz).all (Obj.under M) = true := a6R _ _ _ _ hu (by rw [show M = (M - 7) + 7 by omega]; exact hbu _)
 have hb7 : (H.set 6 bz)[6]? = some bz := b1c _ _ _ hl6
 have hb7' (v : Obj) : ((H.set 6 bz).set 4 v)[6]? = some bz := by rw [a5B _ _ _ _ (by decide), hb7]
 have hsb (v : Obj) := b9A H 6 4 bz v _ (by decide) hb6
 have hsb0 : (H.set 6 bz).set 6 (.loop .ready none [(2, .sc (.ptr 0 0)), (3, .sc (.ptr 1 0)), (4, .sc (.ptr 2 0)), (5, .sc (.ptr 4 0)), (6, .sc (.ptr 5 0)), (22, v22)] [23] a2x a2y) = H := by
   rw [List.set_set]; exact b1j _ _ _ hb6
 have hua (L : List (List C)) : (H.set 4 (.var (B12 b (.iset 2 b.F) (ownC 4 L)))).all (Obj.under M) = true := a6R _ _ _ _ hu (by simp [go_sem, B12])
 have hL {β : Type} (Q : Ex -> St -> Option β) := b8b (Γ := Γ) b hs k but hbut c h0 h1 h2 (H.set 6 bz) M hBn (by omega) hB1 hB5 hBu Q
 have hcan := b8D b c but
 cases hf : a0z (fun i _ => (b.a1B c i fun n => but.contains n).isEmpty) 0 b.singers with
 | some q =>
   obtain ⟨i, s⟩ := q
   rw [hf] at hcan
   simp only [hf] at hL
   have hadd : b.addT but ts c = ts := by
     simp only [Book.addT, ← hcan]; rfl
   have hsame : H.set 4 (.var (a7Z b ts)) = H := b1j _ _ _ hb4
   rw [hadd, hsame]
   simp only [go_sem, simprocAttr, hb6, E_A0, E_B0, hbz, hob, hn, a0E, hl0, hl1, hl4, hl5, hl6, hm0, hm1, hm4, hm5, hm6, hB0, hL, hb7, hsb0, hu]
 | none =>
   rw [hf] at hcan
   simp only [hf] at hL
   have hadd : b.addT but ts c = ts ++ [(c, b.strong c fun n => but.contains n)] := by
     simp only [Book.addT, ← hcan]; rfl
   obtain ⟨m, hm⟩ : ∃ m, b.singers.length = m + 1 := ⟨b.singers.length - 1, by have := hs.s1; omega⟩
   have hne : lc (a3h b c but b.singers.length) = lc (b.strong c fun n => but.contains n) := rfl
   have hun : a0r (ownC 1 (lc (b.strong c fun n => but.contains n))) = .sl .shared 1 (lc (b.strong c fun n => but.contains n)) := by
     have : (lc (b.strong c fun n => but.contains n)).length = m + 1 := by simp [lc, Book.strong, hm]
     cases he : lc (b.strong c fun n => but.contains n) with
     | nil => rw [he] at this; simp at this
     | cons x l => rfl
   have happ := a2K 4 (ts.map a1g) .full (a1g (c, b.strong c fun n => but.contains n)) (by simpa using hr)
   rw [hadd]
   simp only [b4Z, a4V] at happ
   rw [hne] at hL
   simp only [go_sem, simprocAttr, hb6, E_A0, E_B0, hbz, hob, hn, a0E, hl0, hl1, hl4, hl5, hl6, hm0, hm1, hm4, hm5, hm6, hB0, hB4, hL, hb7, hb7', hsb, hua, hun, happ, a4V]
   simp only [a7Z, a4V, List.map_append, List.map_cons, List.map_nil, b4Z]
def b1T (b : Book) : List (Nat × V) := [(2, .sc (.ptr 0 0)), (3, .sc (.ptr 1 0)), (4, .sc (.ptr 2 0)), (5, .sc (.ptr 4 0)), (6, .sc (.ptr 5 0)), (22, .sc (.fn (.fn 190) [] [] [.eptr (B12 b (.iset 2 b.F) (.sl .nil 4 [])) 0]))]
def Z12 : List C := [.sl .nil 2 [], ci 0, ci 0, ci 0, ci 0, ci 0, ci 0, .sl .nil 3 [], .sl .nil 2 [], .sl .nil 4 [], .imap true false [], .sl .nil 4 []]
def heapT (b : Book) (k : SK) (but : List Int) (ts : List Truth) : List Obj :=
 [.var b.c, .var [.sl k 1 (li but)], .var Z12, .dead, .var (a7Z b ts), .var [a3b b], .loop .ready none (b1T b) [23] a2x a2y]
theorem b8v (b : Book) (but : List Int) (ts : List Truth) (c : Cost) : (b.addT but ts c).length <= ts.length + 1 := by
 simp only [Book.addT]; split <;> simp
theorem b3V (b : Book) (but : List Int) : ∀ (l : List Cost) (ts : List Truth), l.foldl (b.addT but) ts = ts ++ (l.filter fun c => b.can c fun n => but.contains n).map fun c => (c, b.strong c fun n => but.contains n)
 | [], ts => by simp
 | c :: l, ts => by
   rw [List.foldl_cons, b3V b but l]
   simp only [Book.addT, List.filter_cons]
   split <;> simp
theorem b5E (b : Book) (but : List Int) : b.a8a.foldl (b.addT but) [] = b.a3d fun n => but.contains n := by
 rw [b3V]; rfl
theorem b9x (b : Book) [hb : b.Fits] (hs : Sane b) (k : SK) (but : List Int) (hl : but.length <= 1000000) :
   K Γ (.fn 190) [.sc (.fn (.yield 6) [] [] []), .sc (.eptr (B12 b (.iset 2 b.F) (.sl .nil 4 [])) 0)] (heapT b k but []) = some (.tup [], heapT b k but (b.a3d fun n => but.contains n)) := by
 rw [← b5E, ← b7h]
 refine (b8c b hs (.iset 2 b.F) (.sl .nil 4 []) rfl (fun r ts => ts.length + r <= room) (b.addT but) (heapT b k but) 7 6 (by omega) (fun _ => rfl) (fun ts => ?_) (fun r ts h => by omega) (fun r ts fr c hI hfr hc => ⟨?_, ?_⟩) 0 [] (by decide)).2
 . simp [heapT, b1T, Z12, B12, a4V, a3b, go_sem]
 . have := b8v b but ts c; omega
 . exact c1A b hs k but hl (heapT b k but ts ++ fr) (7 + fr.length) ts (b1T b) _ rfl (fun n => by simp [go_sem]) (by simp [heapT]; omega) (by omega) rfl rfl rfl rfl rfl
     (by rw [List.all_append, a0Q _ 7 _ (by simp [heapT, b1T, Z12, B12, a4V, a3b, go_sem]), hfr]; rfl) (by omega) c hc.1 hc.2.1 hc.2.2
theorem c0s (b' : Nat) (h : List Obj) (f : List Int -> Bool) (es : Nat) (L : List (List C)) (b : Book) : frzL b' h 128 (B12 b (.iset 2 f) (a0r (ownC es L))) = some (B12 b (.iset 2 f) (a0r (ownC es L))) := by
 simp only [B12, go_sem]
theorem b7g (b : Book) (f : List Int -> Bool) (es : Nat) (L : List (List C)) : (B12 b (.iset 2 f) (ownC es L)).map a0r = B12 b (.iset 2 f) (a0r (ownC es L)) := by
 cases L <;> rfl
theorem b9o (b : Book) [hb : b.Fits] (hs : Sane b) (k : SK) (but : List Int) (hl : but.length <= 1000000) :
   K Γ (.fn 144) [.agg b.c, .sc (.sl k 1 (li but))] [] = some (.agg (B12 b (.iset 2 b.F) (a0r (a4V (b.a3d fun n => but.contains n)))), []) := by
 have hR := b9x (Γ := Γ) b hs k but hl
 have hr6 := hs.r6
 have hw := b2z (Γ := Γ) b.kr b.rests (by omega) (fun _ => false)
 have hP := b9u (Γ := Γ) b (.iset 2 b.F) (.sl .nil 4 []) rfl
 have hBp : C.a0v (B12 b (.iset 2 b.F) (.sl .nil 4 [])) = true := a2S b _ _ rfl
 have hBu (n : Nat) : C.a0G n (B12 b (.iset 2 b.F) (.sl .nil 4 [])) = true := a0C n _ hBp
 have hBn : (B12 b (.iset 2 b.F) (.sl .nil 4 [])).map a0r = B12 b (.iset 2 b.F) (.sl .nil 4 []) := b1q b _ _ rfl rfl
 have hF : a1M (fun _ => false) b.rests = b.F := rfl
 simp only [heapT, b1T, Z12, a7Z, a3b] at hR
 rw [show a4V [] = C.sl .nil 4 [] from rfl] at hR
 have hTu (n : Nat) (L : List (List C)) : C.a0G n (B12 b (.iset 2 b.F) (ownC 4 L)) = true := by simp [B12, go_sem]
 have hTn (L : List (List C)) : (B12 b (.iset 2 b.F) (a0r (ownC 4 L))).map a0r = B12 b (.iset 2 b.F) (a0r (ownC 4 L)) := by cases L <;> rfl
 rw [K_fn P04.f144 _ _ rfl]
 simp only [go_sem, simprocAttr, a5P]
 refine a0n (by simp [go_sem, Pm.acc, Acc.free, refsOf, a0h, a0c, a0g, a0b, a0d]) ?_
 simp only [go_sem, simprocAttr]
 refine a0n (by simp [go_sem, Pm.acc, Acc.free, refsOf, a0h, a0c, a0g, a0b, a0d]) ?_
 simp only [go_sem, simprocAttr, hw, hF, hP, hBp, hBu, hBn, and_self]
 refine a0n (by simp [go_sem, Pm.acc, Acc.free, refsOf, a0h, a0c, a0g, a0b, a0d]) ?_
 simp only [go_sem, simprocAttr, hw, hF, hP, hBp, hBu, hBn]
 simp only [go_sem, simprocAttr, hw, hF, hP, hR, hBp, hBu, hBn, c0s, b7g, a3b, a4V, hTu, hTn]
end
end Go.Pm.St
namespace Go.Pm.St
open Ac
/-! ### The a3d of a book -/
def kT (ts : List Truth) : SK := if ts.isEmpty then .nil else .shared
theorem b3G (ts : List Truth) : a0r (a4V ts) = .sl (kT ts) 4 (ts.map a1g) := by cases ts <;> rfl
abbrev O (b : Book) (ts : List Truth) : List C := B12 b (.iset 2 b.F) (.sl (kT ts) 4 (ts.map a1g))
def Book.now (b : Book) : List Truth := b.a3d fun _ => false
theorem a3w (b : Book) (ts : List Truth) : C.a0v (O b ts) = true := a2S b _ _ rfl
theorem a1R (b : Book) (ts : List Truth) (n : Nat) : C.a0G n (O b ts) = true := a0C n _ (a3w b ts)
theorem O_un (b : Book) (ts : List Truth) : (O b ts).map a0r = O b ts := b1q b _ _ rfl rfl
theorem c0e (b : Book) (ts : List Truth) (b' : Nat) (h : List Obj) : frzL b' h 128 (O b ts) = some (O b ts) := by simp only [B12, go_sem]
structure TOk (b : Book) (ts : List Truth) : Prop where
 len : ts.length <= 8
 cost : ∀ t ∈ ts, b.c0.has t.1.p /\ b.c1.has t.1.f /\ b.c2.has t.1.n
 str : ∀ t ∈ ts, t.2.length = b.singers.length
 own : ∀ t ∈ ts, ∀ l ∈ t.2, l ≠ [] /\ l.length <= 3 /\ ∀ n ∈ l, 0 <= n /\ n <= 30
theorem a9s (lo hi : Int) : (upto lo hi).length = (hi - lo + 1).toNat := by simp [upto]
theorem b6P {b : Book} (hs : Sane b) : b.a8a.length <= 8 := by
 have k0 := hs.k0; have k1 := hs.k1; have k2 := hs.k2
 have h1 := a2H (fun p => (upto b.c1.lo b.c1.hi).flatMap fun f => (upto b.c2.lo b.c2.hi).map fun n => (⟨p, f, n⟩ : Cost)) 4 (upto b.c0.lo b.c0.hi) (fun p _ => by
   have h2 := a2H (fun f => (upto b.c2.lo b.c2.hi).map fun n => (⟨p, f, n⟩ : Cost)) 2 (upto b.c1.lo b.c1.hi) (fun f _ => by simp only [List.length_map, a9s]; omega)
   rw [a9s] at h2; omega)
 rw [a9s] at h1
 show List.length (List.flatMap _ _) <= 8
 omega
theorem b4X {b : Book} (hs : Sane b) {c : Cost} {i : Nat} {but : Int -> Bool} {l : List Int} (h : b.a1B c i but = l) : l.length <= 3 /\ ∀ n ∈ l, 0 <= n /\ n <= 30 := by
 subst h
 cases hi : b.singers[i]? with
 | none => simp [Book.a1B, hi]
 | some s =>
   have hsp := hs.sp s (List.mem_of_getElem? hi)
   refine ⟨?_, fun n hn => ?_⟩
   . simp only [Book.a1B, hi]
     refine Nat.le_trans (List.length_filter_le _ _) ?_
     rw [a9s]; omega
   . have := ((a9C hi).1 hn).1
     simp only [Span.has] at this; omega
theorem b3B {b : Book} (hs : Sane b) (but : Int -> Bool) : TOk b (b.a3d but) := by
 refine ⟨?_, fun t ht => ?_, fun t ht => ?_, fun t ht l hl => ?_⟩
 . simp only [Book.a3d, List.length_map]
   exact Nat.le_trans (List.length_filter_le _ _) (b6P hs)
 all_goals
   simp only [Book.a3d, List.mem_map, List.mem_filter] at ht
   obtain ⟨c, ⟨hc, hcan⟩, rfl⟩ := ht
 . exact b2c.1 hc
 . simp [Book.strong]
 . have hl' := hl
   simp only [Book.strong, List.mem_map, List.mem_range] at hl
   obtain ⟨i, hi, rfl⟩ := hl
   have h := b4X hs (rfl : b.a1B c i but = _)
   simp only [Book.can, List.all_eq_true] at hcan
   have := hcan _ hl'
   exact ⟨by intro e; rw [e] at this; simp at this, h⟩
/-! ### What is left in all a3d -/
def allOf (b : Book) (i d : Nat) (r : Nat -> Bool) (t : Truth) : List Int := ((t.2[i]?).getD []).map fun n => a2B b.days t.1 n r d
def alls (b : Book) (ts : List Truth) (i d : Nat) (r : Nat -> Bool) : List Int := ts.flatMap (allOf b i d r)
def b2a : List Int -> Int
 | [] => 0
 | x :: l => l.foldl min x
def a9Z : List Int -> Int
 | [] => 0
 | x :: l => l.foldl max x
theorem TOk.get {b : Book} {ts : List Truth} (h : TOk b ts) {t : Truth} (ht : t ∈ ts) {i : Nat} (hi : i < b.singers.length) : ∃ l, t.2[i]? = some l /\ l ≠ [] /\ l.length <= 3 /\ ∀ n ∈ l, 0 <= n /\ n <= 30 := by
 have := h.str t ht
 refine ⟨t.2[i], List.getElem?_eq_getElem (by omega), h.own t ht _ (List.getElem_mem _)⟩
theorem b3W {b : Book} {ts : List Truth} (h : TOk b ts) {i d : Nat} {r : Nat -> Bool} (hi : i < b.singers.length) (k : Nat) : ((ts.take k).flatMap (allOf b i d r)).length <= 24 := by
 have h1 := a2H (allOf b i d r) 3 (ts.take k) (fun t ht => by
   obtain ⟨l, hl, _, h3, _⟩ := h.get (List.mem_of_mem_take ht) hi
   simp [allOf, hl]; omega)
 have := h.len
 have : (ts.take k).length <= 8 := by rw [List.length_take]; omega
 omega
theorem c0F {b : Book} {ts : List Truth} (h : TOk b ts) (hne : ts ≠ []) {i d : Nat} {r : Nat -> Bool} (hi : i < b.singers.length) : ∃ x l, alls b ts i d r = x :: l := by
 cases ts with
 | nil => exact absurd rfl hne
 | cons t ts =>
   obtain ⟨l, hl, hn, _⟩ := h.get (by simp : t ∈ t :: ts) hi
   cases l with
   | nil => exact absurd rfl hn
   | cons n l => exact ⟨_, _, by simp only [alls, List.flatMap_cons, allOf, hl, Option.getD_some, List.map_cons, List.cons_append]; rfl⟩
section
variable {Γ : Env} [P04 Γ] [G04 Γ]
@[go_sem] theorem b2l (b : Book) [hb : b.Fits] (hs : Sane b) (k : SK) (but : List Int) (hl : but.length <= 1000000) :
   K Γ (.fn 144) [.agg b.c, .sc (.sl k 1 (li but))] [] = some (.agg (O b (b.a3d fun n => but.contains n)), []) := by
 rw [b9o b hs k but hl, b3G]
theorem b2m (b : Book) [hb : b.Fits] (hs : Sane b) (k : SK) : K Γ (.fn 144) [.agg b.c, .sc (.sl k 1 [])] [] = some (.agg (O b b.now), []) := by
 have := b2l (Γ := Γ) b hs k [] (by simp)
 exact this
def Book.err (b : Book) (is : Bool) : Int := if b.valid then if is then if b.now.isEmpty then 42 else 0 else 41 else 40
theorem a6O (b : Book) [hb : b.Fits] (is : Bool) : ∃ cs : List C, K Γ (.fn 111) [.agg b.c, vb is] [] = some (.tup [.agg cs, vi (b.err is)], []) /\ cs.length = 12 /\ C.a0v cs = true /\ cs.map a0r = cs /\ (b.err is = 0 -> cs = O b b.now) := by
 cases hv : b.valid with
 | false =>
   refine ⟨[.sl .nil 2 [], ci 0, ci 0, ci 0, ci 0, ci 0, ci 0, .sl .nil 3 [], .sl .nil 2 [], .sl .nil 4 [], .imap true false [], .sl .nil 4 []], ?_, rfl, rfl, rfl, fun h => by simp [Book.err, hv] at h⟩
   rw [K_fn P04.f111 _ _ rfl]
   simp only [go_sem, simprocAttr, a3C, hv, Bool.false_eq_true, Book.err, if_false, if_true]
 | true =>
   have hs := a2n.1 hv
   cases is with
   | false =>
     refine ⟨[.sl .nil 2 [], ci 0, ci 0, ci 0, ci 0, ci 0, ci 0, .sl .nil 3 [], .sl .nil 2 [], .sl .nil 4 [], .imap true false [], .sl .nil 4 []], ?_, rfl, rfl, rfl, fun h => by simp [Book.err, hv] at h⟩
     rw [K_fn P04.f111 _ _ rfl]
     simp only [go_sem, simprocAttr, a3C, hv, Bool.false_eq_true, Book.err, if_false, if_true]
   | true =>
     have ho := b2m (Γ := Γ) b hs .nil
     have hu := a1R b b.now
     have hun := O_un b b.now
     have hf := c0e b b.now
     have hT := b3B hs fun _ => false
     refine ⟨O b b.now, ?_, rfl, a3w b b.now, hun, fun _ => rfl⟩
     have hd : decide ((b.now.length : Int) = 0) = b.now.isEmpty := by cases b.now <;> simp; omega
     cases hn : b.now.isEmpty with
     | true =>
       rw [hn] at hd
       rw [K_fn P04.f111 _ _ rfl]
       simp only [go_sem, simprocAttr, a3C, hv, Bool.false_eq_true, Book.err, if_false, if_true, ho, hu, hun, hf, hn, hd, List.length_map]
     | false =>
       rw [hn] at hd
       rw [K_fn P04.f111 _ _ rfl]
       simp only [go_sem, simprocAttr, a3C, hv, Bool.false_eq_true, Book.err, if_false, if_true, ho, hu, hun, hf, hn, hd, List.length_map]
theorem b8n (t : Truth) : (a1g t)[3]? = some (.sl .shared 1 (t.2.map fun l => [strC l])) := rfl
theorem b7a (t : Truth) : (a1g t).length = 4 := rfl
theorem b6Z (t : Truth) : a0R (a1g t) 0 4 = some (a1g t) := rfl
theorem b9V (t : Truth) : a0R (a1g t) 0 3 = some [ci t.1.p, ci t.1.f, ci t.1.n] := rfl
theorem b8o (t : Truth) : (a1g t).map a0r = a1g t := rfl
theorem b5a (t : Truth) (n : Nat) : C.a0G n (a1g t) = true := a0C n _ rfl
theorem b7b (t : Truth) (a b c d : C) : a1H [a, b, c, d] 0 (a1g t) = a1g t := rfl
attribute [go_sem] b8n b7a b6Z b9V b8o b5a b7b
theorem c1s (b : Book) (hs : Sane b) (ts : List Truth) (t : Truth) (hc : b.c0.has t.1.p /\ b.c1.has t.1.f /\ b.c2.has t.1.n) (i d : Nat) (hd : d < b.days.length) (F : List Int -> Bool) (l : List Int) (hl : l.length <= 3) (h30 : ∀ n ∈ l, 0 <= n /\ n <= 30) (a : List Int) (ha : a.length <= 100) (j : Nat) {β : Type} (Q : Ex -> St -> Option β) :
   E Γ a6L ⟨[(1, vi i), (2, vi d), (3, .sc (.iset 2 F)), (4, .sc (.ptr 0 0)), (8, .sc (.ptr 1 0)), (9, .sc (ownC 1 (li a))), (11, .sc (.ptr 2 0)), (15, .sc (.sl (kT ts) 4 (ts.map a1g))), (16, vi ts.length), (17, vi j), (25, .sc (strC l)), (26, vi l.length), (27, vi 0)], [.var (O b ts), .var [ci 0, ci 0], .var (a1g t)]⟩ Q =
   Q (.exit 2) ⟨[(1, vi i), (2, vi d), (3, .sc (.iset 2 F)), (4, .sc (.ptr 0 0)), (8, .sc (.ptr 1 0)), (9, .sc (ownC 1 (li (a ++ l.map fun n => a2B b.days t.1 n (fun e : Nat => F [(e : Int), (i : Int)]) d)))), (11, .sc (.ptr 2 0)), (15, .sc (.sl (kT ts) 4 (ts.map a1g))), (16, vi ts.length), (17, vi j), (25, .sc (strC l)), (26, vi l.length), (27, vi l.length), (28, vb false)], [.var (O b ts), .var [ci 0, ci 0], .var (a1g t)]⟩ := by
 refine a4Q (fun k => ⟨[(1, vi i), (2, vi d), (3, .sc (.iset 2 F)), (4, .sc (.ptr 0 0)), (8, .sc (.ptr 1 0)), (9, .sc (ownC 1 (li (a ++ (l.take k).map fun n => a2B b.days t.1 n (fun e : Nat => F [(e : Int), (i : Int)]) d)))), (11, .sc (.ptr 2 0)), (15, .sc (.sl (kT ts) 4 (ts.map a1g))), (16, vi ts.length), (17, vi j), (25, .sc (strC l)), (26, vi l.length), (27, vi k)], [.var (O b ts), .var [ci 0, ci 0], .var (a1g t)]⟩) l
   (.exit 2, ⟨[(1, vi i), (2, vi d), (3, .sc (.iset 2 F)), (4, .sc (.ptr 0 0)), (8, .sc (.ptr 1 0)), (9, .sc (ownC 1 (li (a ++ l.map fun n => a2B b.days t.1 n (fun e : Nat => F [(e : Int), (i : Int)]) d)))), (11, .sc (.ptr 2 0)), (15, .sc (.sl (kT ts) 4 (ts.map a1g))), (16, vi ts.length), (17, vi j), (25, .sc (strC l)), (26, vi l.length), (27, vi l.length), (28, vb false)], [.var (O b ts), .var [ci 0, ci 0], .var (a1g t)]⟩) Q ?_ ?_ ?_
 . simp
 . intro k x hx
   have hlt : k < l.length := (List.getElem?_eq_some_iff.1 hx).1
   have hki : IntKind.i64.wrap ((k : Int) + 1) = k + 1 := wrap_i64 (by omega) (by omega)
   have hlc := b7J (Γ := Γ) b hs (.iset 2 b.F) (.sl (kT ts) 4 (ts.map a1g)) rfl t.1 hc.1 hc.2.1 hc.2.2 i x (h30 x (List.mem_of_getElem? hx)) d hd F
   have happ := a2K 1 (li (a ++ (l.take k).map fun n => a2B b.days t.1 n (fun e : Nat => F [(e : Int), (i : Int)]) d)) .full [ci (a2B b.days t.1 x (fun e : Nat => F [(e : Int), (i : Int)]) d)] (by simp only [b7L, List.length_append, List.length_map, List.length_take, room]; omega)
   have hu := a1R b ts
   have hun := O_un b ts
   have hp := a3w b ts
   rw [take_snoc hx, List.map_append, ← List.append_assoc, List.map_cons, List.map_nil, b3j]
   (simp only [go_sem, simprocAttr, a1E, strC, hx, hki, hlc, happ, hu, hun, hp]; repeat' (first | ((first | refine brY ?_ | refine brN ?_ | refine brA ?_ | refine brD ?_ | refine brF ?_ | ((first | apply a0k | apply a0j); (. intro h; simp only [go_sem, simprocAttr, a0p h, a1E, strC, hx, hki, hlc, happ, hu, hun, hp]; exact rfl))); (try simp only [go_sem, simprocAttr, a1E, strC, hx, hki, hlc, happ, hu, hun, hp])) | ((first | apply a0e | apply d7E | apply a0a) <;> intro h <;> (try simp only [go_sem, simprocAttr, h, a1E, strC, hx, hki, hlc, happ, hu, hun, hp]))))
   rfl
 . simp only [List.take_length]
   (simp only [go_sem, simprocAttr, a1E, strC]; repeat' (first | ((first | refine brY ?_ | refine brN ?_ | refine brA ?_ | refine brD ?_ | refine brF ?_ | ((first | apply a0k | apply a0j); (. intro h; simp only [go_sem, simprocAttr, a0p h, a1E, strC]; exact rfl))); (try simp only [go_sem, simprocAttr, a1E, strC])) | ((first | apply a0e | apply d7E | apply a0a) <;> intro h <;> (try simp only [go_sem, simprocAttr, h, a1E, strC]))))
end
end Go.Pm.St
namespace Go.Pm.St
open Ac
theorem a8I (x : Int) (l : List Int) : (x :: l).foldl min x = l.foldl min x := by simp [Int.min_self]
section
variable {Γ : Env} [P04 Γ] [G04 Γ]
theorem c1r (b : Book) (hs : Sane b) (ts : List Truth) (hT : TOk b ts) (i d : Nat) (hi : i < b.singers.length) (hd : d < b.days.length) (F : List Int -> Bool) {β : Type} (Q : Ex -> St -> Option β) :
   E Γ a6K ⟨[(1, vi i), (2, vi d), (3, .sc (.iset 2 F)), (4, .sc (.ptr 0 0)), (8, .sc (.ptr 1 0)), (9, .sc (.sl .nil 1 [])), (15, .sc (.sl (kT ts) 4 (ts.map a1g))), (16, vi ts.length), (17, vi 0)], [.var (O b ts), .var [ci 0, ci 0]]⟩ Q =
   Q (.exit 0) ⟨[(1, vi i), (2, vi d), (3, .sc (.iset 2 F)), (4, .sc (.ptr 0 0)), (8, .sc (.ptr 1 0)), (9, .sc (ownC 1 (li (alls b ts i d fun e : Nat => F [(e : Int), (i : Int)])))), (15, .sc (.sl (kT ts) 4 (ts.map a1g))), (16, vi ts.length), (17, vi ts.length), (18, vb false)], [.var (O b ts), .var [ci 0, ci 0]]⟩ := by
 have ht8 := hT.len
 refine a4Q (fun k => ⟨[(1, vi i), (2, vi d), (3, .sc (.iset 2 F)), (4, .sc (.ptr 0 0)), (8, .sc (.ptr 1 0)), (9, .sc (ownC 1 (li ((ts.take k).flatMap (allOf b i d fun e : Nat => F [(e : Int), (i : Int)]))))), (15, .sc (.sl (kT ts) 4 (ts.map a1g))), (16, vi ts.length), (17, vi k)], [.var (O b ts), .var [ci 0, ci 0]]⟩) ts
   (.exit 0, ⟨[(1, vi i), (2, vi d), (3, .sc (.iset 2 F)), (4, .sc (.ptr 0 0)), (8, .sc (.ptr 1 0)), (9, .sc (ownC 1 (li (alls b ts i d fun e : Nat => F [(e : Int), (i : Int)])))), (15, .sc (.sl (kT ts) 4 (ts.map a1g))), (16, vi ts.length), (17, vi ts.length), (18, vb false)], [.var (O b ts), .var [ci 0, ci 0]]⟩) Q ?_ ?_ ?_
 . simp [ownC]
 . intro k t hx
   have hlt : k < ts.length := (List.getElem?_eq_some_iff.1 hx).1
   have hki : IntKind.i64.wrap ((k : Int) + 1) = k + 1 := wrap_i64 (by omega) (by omega)
   have hmem := List.mem_of_getElem? hx
   obtain ⟨l, hl, hne, hl3, h30⟩ := hT.get hmem hi
   have hL {β : Type} (Q : Ex -> St -> Option β) := c1s (Γ := Γ) b hs ts t (hT.cost t hmem) i d hd F l hl3 h30 ((ts.take k).flatMap (allOf b i d fun e : Nat => F [(e : Int), (i : Int)])) (by have := b3W hT hi (d := d) (r := fun e : Nat => F [(e : Int), (i : Int)]) k; omega) k Q
   have hg : (t.2.map fun l => [strC l])[i]? = some [strC l] := by rw [List.getElem?_map, hl]; rfl
   have hall : allOf b i d (fun e : Nat => F [(e : Int), (i : Int)]) t = l.map fun n => a2B b.days t.1 n (fun e : Nat => F [(e : Int), (i : Int)]) d := by simp only [allOf, hl, Option.getD_some]
   have hu := a1R b ts
   simp only [strC] at hL hg
   rw [take_snoc hx, List.flatMap_append, List.flatMap_cons, List.flatMap_nil, List.append_nil, hall]
   (simp only [go_sem, simprocAttr, a1D, hx, hki, hl, strC, hL, hu, List.length_map, Option.map_some]; repeat' (first | ((first | refine brY ?_ | refine brN ?_ | refine brA ?_ | refine brD ?_ | refine brF ?_ | ((first | apply a0k | apply a0j); (. intro h; simp only [go_sem, simprocAttr, a0p h, a1D, hx, hki, hl, strC, hL, hu, List.length_map, Option.map_some]; exact rfl))); (try simp only [go_sem, simprocAttr, a1D, hx, hki, hl, strC, hL, hu, List.length_map, Option.map_some])) | ((first | apply a0e | apply d7E | apply a0a) <;> intro h <;> (try simp only [go_sem, simprocAttr, h, a1D, hx, hki, hl, strC, hL, hu, List.length_map, Option.map_some]))))
   rfl
 . simp only [List.take_length]
   (simp only [go_sem, simprocAttr, a1D]; repeat' (first | ((first | refine brY ?_ | refine brN ?_ | refine brA ?_ | refine brD ?_ | refine brF ?_ | ((first | apply a0k | apply a0j); (. intro h; simp only [go_sem, simprocAttr, a0p h, a1D]; exact rfl))); (try simp only [go_sem, simprocAttr, a1D])) | ((first | apply a0e | apply d7E | apply a0a) <;> intro h <;> (try simp only [go_sem, simprocAttr, h, a1D]))))
   rfl
theorem c2w (b : Book) (hs : Sane b) (ts : List Truth) (hT : TOk b ts) (hne : ts ≠ []) (i d : Nat) (hi : i < b.singers.length) (hd : d < b.days.length) (F : List Int -> Bool) :
   K Γ (.fn 167) [.agg (O b ts), vi i, vi d, .sc (.iset 2 F)] [] = some (.agg [ci (b2a (alls b ts i d fun e : Nat => F [(e : Int), (i : Int)])), ci (a9Z (alls b ts i d fun e : Nat => F [(e : Int), (i : Int)]))], []) := by
 have hL {β : Type} (Q : Ex -> St -> Option β) := c1r (Γ := Γ) b hs ts hT i d hi hd F Q
 obtain ⟨x, l, hxl⟩ := c0F hT hne (d := d) (r := fun e : Nat => F [(e : Int), (i : Int)]) hi
 have hlen := b3W hT hi (d := d) (r := fun e : Nat => F [(e : Int), (i : Int)]) ts.length
 rw [List.take_length] at hlen
 change (alls b ts i d _).length <= 24 at hlen
 rw [hxl] at hL hlen ⊢
 simp only [List.map_cons, b3q] at hL
 simp only [List.length_cons] at hlen
 have hm := c3Q (Γ := Γ) .shared x l (by omega)
 have hl := b5X (Γ := Γ) x .shared (x :: l) (by simp; omega)
 rw [a8I] at hl
 simp only [List.map_cons] at hl
 have hu := a1R b ts
 have hun := O_un b ts
 have hf := c0e b ts
 simp only [b2a, a9Z]
 rw [K_fn P04.f167 _ _ rfl]
 simp only [go_sem, simprocAttr, a4H, hL, hm, hl, hu, hun, hf, List.getElem?_cons_zero, List.length_map]
def Book.low (b : Book) (i d : Nat) (r : Nat -> Bool) : Int := b2a (alls b b.now i d r)
def Book.high (b : Book) (i d : Nat) (r : Nat -> Bool) : Int := a9Z (alls b b.now i d r)
def Book.rest (b : Book) (i : Nat) : Nat -> Bool := a2Y b.rests (i : Int)
theorem a9L (b : Book) (i : Nat) : (fun e : Nat => b.F [(e : Int), (i : Int)]) = b.rest i := funext fun e => F_at b e i
theorem b7Z {b : Book} (hs : Sane b) : TOk b b.now := b3B hs _
theorem b4V (b : Book) (hs : Sane b) (hne : b.now ≠ []) (i d : Nat) (hi : i < b.singers.length) (hd : d < b.days.length) (F : List Int -> Bool) (r : Nat -> Bool) (hF : (fun e : Nat => F [(e : Int), (i : Int)]) = r) :
   K Γ (.fn 167) [.agg (O b b.now), vi i, vi d, .sc (.iset 2 F)] [] = some (.agg [ci (b.low i d r), ci (b.high i d r)], []) := by
 rw [c2w b hs b.now (b7Z hs) hne i d hi hd F, hF]; rfl
theorem b0X (b : Book) (hs : Sane b) (hne : b.now ≠ []) (i d : Nat) (hi : i < b.singers.length) (hd : d < b.days.length) (F : List Int -> Bool) (r : Nat -> Bool) (hF : (fun e : Nat => F [(e : Int), (i : Int)]) = r) :
   K Γ (.fn 146) [.agg (O b b.now), vi i, vi d, .sc (.iset 2 F)] [] = some (vb (decide (b.low i d r < 0)), []) := by
 have h := b4V (Γ := Γ) b hs hne i d hi hd F r hF
 have hu := a1R b b.now
 have hun := O_un b b.now
 have hp := a3w b b.now
 rw [K_fn P04.f146 _ _ rfl]
 simp only [go_sem, simprocAttr, a3U, h, hu, hun, hp]
def Book.harm (b : Book) (i d : Nat) (r : Nat -> Bool) : Bool := third b.days r d || decide (b.low i d r < 0)
theorem a9j (b : Book) (hs : Sane b) (hne : b.now ≠ []) (i d : Nat) (hi : i < b.singers.length) (hd : d < b.days.length) (F : List Int -> Bool) (r : Nat -> Bool) (hF : (fun e : Nat => F [(e : Int), (i : Int)]) = r) :
   K Γ (.fn 113) [.agg (O b b.now), vi i, vi d, .sc (.iset 2 F)] [] = some (vb (b.harm i d r), []) := by
 have h := b0X (Γ := Γ) b hs hne i d hi hd F r hF
 have h3 := c1w (Γ := Γ) b hs (.iset 2 b.F) (.sl (kT b.now) 4 (b.now.map a1g)) rfl i d hd F
 rw [hF] at h3
 have hu := a1R b b.now
 have hun := O_un b b.now
 have hp := a3w b b.now
 simp only [Book.harm]
 cases h3v : third b.days r d <;> (rw [h3v] at h3; rw [K_fn P04.f113 _ _ rfl]; simp only [go_sem, simprocAttr, a3V, h, h3, hu, hun, hp]; simp)
/-! ### Right and Left -/
theorem b7Y (b : Book) : decide (0 < (b.now.length : Int)) = !b.now.isEmpty := by cases b.now <;> simp
theorem a5T {b : Book} {is : Bool} (h : b.err is = 0) : b.valid = true /\ is = true /\ b.now ≠ [] := by
 unfold Book.err at h
 cases hv : b.valid <;> cases is <;> cases hn : b.now.isEmpty <;> simp_all
theorem b0c {b : Book} {n : Int} (h : b.a1f n = true) : ∃ i : Nat, n = i /\ i < b.singers.length := by
 rw [Book.a1f, within_iff] at h; exact ⟨n.toNat, by omega, by omega⟩
theorem b7D {b : Book} {n : Int} (h : b.a2O n = true) : ∃ i : Nat, n = i /\ i < b.days.length := by
 rw [Book.a2O, within_iff] at h; exact ⟨n.toNat, by omega, by omega⟩
def Book.left (b : Book) (n d : Int) : (Int × Int) × Int :=
 if b.err (b.a1f n && b.a2O d) = 0 then ((b.low n.toNat d.toNat (b.rest n.toNat), b.high n.toNat d.toNat (b.rest n.toNat)), 0) else ((0, 0), b.err (b.a1f n && b.a2O d))
@[go_sem] theorem b7j (b : Book) [hb : b.Fits] (n d : Int) : K Γ (.fn 135) [.agg b.c, vi n, vi d] [] = some (.tup [.agg [ci (b.left n d).1.1, ci (b.left n d).1.2], vi (b.left n d).2], []) := by
 obtain ⟨cs, ha, hlen, hp, hun, hO⟩ := a6O (Γ := Γ) b (b.a1f n && b.a2O d)
 have hu (m : Nat) : C.a0G m cs = true := a0C m _ hp
 by_cases he : b.err (b.a1f n && b.a2O d) = 0
 . obtain ⟨hv, his, hne⟩ := a5T he
   have hs := a2n.1 hv
   rw [Bool.and_eq_true] at his
   obtain ⟨i, rfl, hi⟩ := b0c his.1
   obtain ⟨d, rfl, hd⟩ := b7D his.2
   have hsp := b4V (Γ := Γ) b hs hne i d hi hd b.F (b.rest i) (a9L b i)
   obtain rfl := hO he
   have hOu := a1R b b.now
   have hOp := a3w b b.now
   rw [he] at ha
   simp only [Book.left, if_pos he, Int.toNat_natCast]
   cases h1 : b.a1f i <;> cases h2 : b.a2O d <;> simp_all only [Bool.and_false, Bool.and_true, Bool.false_and, Bool.true_and, Bool.false_eq_true, and_true, and_false, and_self]
   rw [K_fn P04.f135 _ _ rfl]
   (simp only [go_sem, simprocAttr, a2u, h1, h2, ha, hu, hun, hOp, hsp]; repeat' (first | ((first | refine brY ?_ | refine brN ?_ | refine brA ?_ | refine brD ?_ | refine brF ?_ | ((first | apply a0k | apply a0j); (. intro h; simp only [go_sem, simprocAttr, a0p h, a2u, h1, h2, ha, hu, hun, hOp, hsp]; exact rfl))); (try simp only [go_sem, simprocAttr, a2u, h1, h2, ha, hu, hun, hOp, hsp])) | ((first | apply a0e | apply d7E | apply a0a) <;> intro h <;> (try simp only [go_sem, simprocAttr, h, a2u, h1, h2, ha, hu, hun, hOp, hsp]))))
 . have hd : decide (b.err (b.a1f n && b.a2O d) = 0) = false := decide_eq_false he
   simp only [Book.left, if_neg he]
   cases h1 : b.a1f n <;> cases h2 : b.a2O d <;> rw [h1, h2] at ha hd <;> simp only [Bool.and_false, Bool.and_true, Bool.false_and, Bool.true_and] at ha hd <;>
     (rw [K_fn P04.f135 _ _ rfl]; (simp only [go_sem, simprocAttr, a2u, h1, h2, ha, hu, hun, hlen, hp, hd]; repeat' (first | ((first | refine brY ?_ | refine brN ?_ | refine brA ?_ | refine brD ?_ | refine brF ?_ | ((first | apply a0k | apply a0j); (. intro h; simp only [go_sem, simprocAttr, a0p h, a2u, h1, h2, ha, hu, hun, hlen, hp, hd]; exact rfl))); (try simp only [go_sem, simprocAttr, a2u, h1, h2, ha, hu, hun, hlen, hp, hd])) | ((first | apply a0e | apply d7E | apply a0a) <;> intro h <;> (try simp only [go_sem, simprocAttr, h, a2u, h1, h2, ha, hu, hun, hlen, hp, hd])))))
end
end Go.Pm.St
namespace Go.Pm.St
open Ac
def Cost.at (c : Cost) (k : Int) : Int := if k = 0 then c.p else if k = 1 then c.f else c.n
theorem Cost.at_0 (c : Cost) : c.at 0 = c.p := rfl
theorem Cost.at_1 (c : Cost) : c.at 1 = c.f := rfl
theorem Cost.at_2 (c : Cost) : c.at 2 = c.n := rfl
def Book.prs (b : Book) (k : Int) : List Int := b.now.map fun t => t.1.at k
theorem b9S (t : Truth) : (a1g t)[0]? = some (ci t.1.p) := rfl
theorem b9T (t : Truth) : (a1g t)[1]? = some (ci t.1.f) := rfl
theorem b9U (t : Truth) : (a1g t)[2]? = some (ci t.1.n) := rfl
attribute [go_sem] b9S b9T b9U
theorem b2I (x : Int) (l : List Int) : (x :: l).foldl max x = l.foldl max x := by simp [Int.max_self]
def Book.costs (b : Book) (k : Int) : (Int × Int) × Int :=
 if b.err (within k 0 2) = 0 then ((b2a (b.prs k), a9Z (b.prs k)), 0) else ((0, 0), b.err (within k 0 2))
theorem b1M (f : Truth -> Int) : ∀ (l : List Truth) (a : Int × Int), l.foldl (fun a t => (min a.1 (f t), max a.2 (f t))) a = ((l.map f).foldl min a.1, (l.map f).foldl max a.2)
 | [], a => rfl
 | t :: l, a => by simp only [List.foldl_cons, List.map_cons]; rw [b1M f l]
section
variable {Γ : Env} [P04 Γ] [G04 Γ]
theorem b8t (b : Book) (hs : Sane b) (k : Int) (hk : k = 0 \/ k = 1 \/ k = 2) (a0 : Int × Int) {β : Type} (Q : Ex -> St -> Option β) :
   E Γ a8r ⟨[(1, vi k), (4, .sc (.ptr 1 0)), (9, .sc (.ptr 3 0)), (34, .sc (.sl (kT b.now) 4 (b.now.map a1g))), (35, vi b.now.length), (36, vi 0)], [.var b.c, .var [ci 0, ci 0], .var (O b b.now), .var [ci a0.1, ci a0.2]]⟩ Q =
   Q (.exit 0) ⟨[(1, vi k), (4, .sc (.ptr 1 0)), (9, .sc (.ptr 3 0)), (34, .sc (.sl (kT b.now) 4 (b.now.map a1g))), (35, vi b.now.length), (36, vi b.now.length), (37, vb false)], [.var b.c, .var [ci 0, ci 0], .var (O b b.now), .var [ci ((b.prs k).foldl min a0.1), ci ((b.prs k).foldl max a0.2)]]⟩ := by
 have h8 := (b7Z hs).len
 have hO (n : Nat) := a1R b b.now n
 refine (a6g (fun i (a : Int × Int) => ⟨[(1, vi k), (4, .sc (.ptr 1 0)), (9, .sc (.ptr 3 0)), (34, .sc (.sl (kT b.now) 4 (b.now.map a1g))), (35, vi b.now.length), (36, vi i)], [.var b.c, .var [ci 0, ci 0], .var (O b b.now), .var [ci a.1, ci a.2]]⟩) b.now (fun a t => (min a.1 (t.1.at k), max a.2 (t.1.at k)))
   (fun a => (.exit 0, ⟨[(1, vi k), (4, .sc (.ptr 1 0)), (9, .sc (.ptr 3 0)), (34, .sc (.sl (kT b.now) 4 (b.now.map a1g))), (35, vi b.now.length), (36, vi b.now.length), (37, vb false)], [.var b.c, .var [ci 0, ci 0], .var (O b b.now), .var [ci a.1, ci a.2]]⟩)) Q (fun i a x hx => ?_) (fun a => ?_) a0).trans ?_
 . have hlt : i < b.now.length := (List.getElem?_eq_some_iff.1 hx).1
   have hi : IntKind.i64.wrap ((i : Int) + 1) = i + 1 := wrap_i64 (by omega) (by omega)
   rcases hk with rfl | rfl | rfl <;>
   . (simp only [go_sem, simprocAttr, a2e, hx, hi, hO, Cost.at_0, Cost.at_1, Cost.at_2]; repeat' (first | ((first | refine brY ?_ | refine brN ?_ | refine brA ?_ | refine brD ?_ | refine brF ?_ | ((first | apply a0k | apply a0j); (. intro h; simp only [go_sem, simprocAttr, a0p h, a2e, hx, hi, hO, Cost.at_0, Cost.at_1, Cost.at_2]; exact rfl))); (try simp only [go_sem, simprocAttr, a2e, hx, hi, hO, Cost.at_0, Cost.at_1, Cost.at_2])) | ((first | apply a0e | apply d7E | apply a0a) <;> intro h <;> (try simp only [go_sem, simprocAttr, h, a2e, hx, hi, hO, Cost.at_0, Cost.at_1, Cost.at_2]))))
     rfl
 . (simp only [go_sem, simprocAttr, a2e]; repeat' (first | ((first | refine brY ?_ | refine brN ?_ | refine brA ?_ | refine brD ?_ | refine brF ?_ | ((first | apply a0k | apply a0j); (. intro h; simp only [go_sem, simprocAttr, a0p h, a2e]; exact rfl))); (try simp only [go_sem, simprocAttr, a2e])) | ((first | apply a0e | apply d7E | apply a0a) <;> intro h <;> (try simp only [go_sem, simprocAttr, h, a2e]))))
 . rw [b1M]; rfl
@[go_sem] theorem c0t (b : Book) [hb : b.Fits] (k : Int) : K Γ (.fn 137) [.agg b.c, vi k] [] = some (.tup [.agg [ci (b.costs k).1.1, ci (b.costs k).1.2], vi (b.costs k).2], []) := by
 obtain ⟨cs, ha, hlen, hp, hun, hO⟩ := a6O (Γ := Γ) b (within k 0 2)
 have hu (m : Nat) : C.a0G m cs = true := a0C m _ hp
 by_cases he : b.err (within k 0 2) = 0
 . obtain ⟨hv, his, hne⟩ := a5T he
   have hs := a2n.1 hv
   obtain rfl := hO he
   have hOu := a1R b b.now
   have hOp := a3w b b.now
   rw [he] at ha
   simp only [Book.costs, if_pos he]
   obtain ⟨t0, tr, ht⟩ : ∃ t0 tr, b.now = t0 :: tr := by cases h : b.now with | nil => exact absurd h hne | cons t tr => exact ⟨t, tr, rfl⟩
   have h0 : b.now[0]? = some t0 := by rw [ht]; rfl
   have hk : k = 0 \/ k = 1 \/ k = 2 := by rw [within_iff] at his; omega
   have hL {β : Type} (Q : Ex -> St -> Option β) := b8t (Γ := Γ) b hs k hk (t0.1.at k, t0.1.at k) Q
   have e1 : (b.prs k).foldl min (t0.1.at k) = b2a (b.prs k) := by
     simp only [Book.prs, ht, List.map_cons, a8I]; rfl
   have e2 : (b.prs k).foldl max (t0.1.at k) = a9Z (b.prs k) := by
     simp only [Book.prs, ht, List.map_cons, b2I]; rfl
   simp only [e1, e2] at hL
   rcases hk with rfl | rfl | rfl <;>
   . simp only [Cost.at_0, Cost.at_1, Cost.at_2] at hL
     rw [K_fn P04.f137 _ _ rfl]
     (simp only [go_sem, simprocAttr, a2i, ha, hu, hun, hOp, hOu, h0, hL, List.length_map]; repeat' (first | ((first | refine brY ?_ | refine brN ?_ | refine brA ?_ | refine brD ?_ | refine brF ?_ | ((first | apply a0k | apply a0j); (. intro h; simp only [go_sem, simprocAttr, a0p h, a2i, ha, hu, hun, hOp, hOu, h0, hL, List.length_map]; exact rfl))); (try simp only [go_sem, simprocAttr, a2i, ha, hu, hun, hOp, hOu, h0, hL, List.length_map])) | ((first | apply a0e | apply d7E | apply a0a) <;> intro h <;> (try simp only [go_sem, simprocAttr, h, a2i, ha, hu, hun, hOp, hOu, h0, hL, List.length_map]))))
 . have hd : decide (b.err (within k 0 2) = 0) = false := decide_eq_false he
   simp only [Book.costs, if_neg he]
   rw [K_fn P04.f137 _ _ rfl]
   (simp only [go_sem, simprocAttr, a2i, ha, hu, hun, hlen, hp, hd]; repeat' (first | ((first | refine brY ?_ | refine brN ?_ | refine brA ?_ | refine brD ?_ | refine brF ?_ | ((first | apply a0k | apply a0j); (. intro h; simp only [go_sem, simprocAttr, a0p h, a2i, ha, hu, hun, hlen, hp, hd]; exact rfl))); (try simp only [go_sem, simprocAttr, a2i, ha, hu, hun, hlen, hp, hd])) | ((first | apply a0e | apply d7E | apply a0a) <;> intro h <;> (try simp only [go_sem, simprocAttr, h, a2i, ha, hu, hun, hlen, hp, hd]))))
/-! ### Beyond -/
def Book.over (b : Book) (i : Nat) (r : Nat -> Bool) : Option Nat := a1I (fun d => decide (b.low i d r < 0)) b.days.length
def Book.beyond (b : Book) (n : Int) : Int × Int :=
 if b.err (b.a1f n) = 0 then (match b.over n.toNat (b.rest n.toNat) with | some d => ((d : Int), 0) | none => (0, 4)) else (0, b.err (b.a1f n))
@[go_sem] theorem b8s (b : Book) [hb : b.Fits] (n : Int) : K Γ (.fn 138) [.agg b.c, vi n] [] = some (.tup [vi (b.beyond n).1, vi (b.beyond n).2], []) := by
 obtain ⟨cs, ha, hlen, hp, hun, hO⟩ := a6O (Γ := Γ) b (b.a1f n)
 have hu (m : Nat) : C.a0G m cs = true := a0C m _ hp
 by_cases he : b.err (b.a1f n) = 0
 . obtain ⟨hv, his, hne⟩ := a5T he
   have hs := a2n.1 hv
   obtain ⟨i, rfl, hi⟩ := b0c his
   obtain rfl := hO he
   have hOu := a1R b b.now
   have hOp := a3w b b.now
   have hd5 := hs.d5
   rw [he] at ha
   simp only [Book.beyond, if_pos he, Int.toNat_natCast]
   rw [Book.over, b4n]
   rw [K_fn P04.f138 _ _ rfl]
   (simp only [go_sem, simprocAttr, a1Z, ha, hu, hun, hOp, hOu]; repeat' (first | ((first | refine brY ?_ | refine brN ?_ | refine brA ?_ | refine brD ?_ | refine brF ?_ | ((first | apply a0k | apply a0j); (. intro h; simp only [go_sem, simprocAttr, a0p h, a1Z, ha, hu, hun, hOp, hOu]; exact rfl))); (try simp only [go_sem, simprocAttr, a1Z, ha, hu, hun, hOp, hOu])) | ((first | apply a0e | apply d7E | apply a0a) <;> intro h <;> (try simp only [go_sem, simprocAttr, h, a1Z, ha, hu, hun, hOp, hOu]))))
   refine (a4L (fun d => ⟨[(1, vi i), (6, .sc (.ptr 1 0)), (22, vi b.days.length), (23, vi d)], [.var b.c, .var (O b b.now)]⟩) b.days (fun d _ => decide (b.low i d (b.rest i) < 0))
     (fun d _ => (.ret, ⟨[(4, vi d), (5, vi 0)], [.var b.c, .var (O b b.now)]⟩)) (.exit 0, ⟨[(1, vi i), (6, .sc (.ptr 1 0)), (22, vi b.days.length), (23, vi b.days.length), (24, vb false)], [.var b.c, .var (O b b.now)]⟩) _ ?_ ?_ ?_).trans ?_
   . intro d x hx hf
     have hlt : d < b.days.length := (List.getElem?_eq_some_iff.1 hx).1
     have hdw : IntKind.i64.wrap ((d : Int) + 1) = d + 1 := wrap_i64 (by omega) (by omega)
     have hbk := b0X (Γ := Γ) b hs hne i d hi hlt b.F (b.rest i) (a9L b i)
     rw [hf] at hbk
     (simp only [go_sem, simprocAttr, a1N, hdw, hbk, hOu, hun, hOp]; repeat' (first | ((first | refine brY ?_ | refine brN ?_ | refine brA ?_ | refine brD ?_ | refine brF ?_ | ((first | apply a0k | apply a0j); (. intro h; simp only [go_sem, simprocAttr, a0p h, a1N, hdw, hbk, hOu, hun, hOp]; exact rfl))); (try simp only [go_sem, simprocAttr, a1N, hdw, hbk, hOu, hun, hOp])) | ((first | apply a0e | apply d7E | apply a0a) <;> intro h <;> (try simp only [go_sem, simprocAttr, h, a1N, hdw, hbk, hOu, hun, hOp]))))
     rfl
   . intro d x hx hf
     have hlt : d < b.days.length := (List.getElem?_eq_some_iff.1 hx).1
     have hbk := b0X (Γ := Γ) b hs hne i d hi hlt b.F (b.rest i) (a9L b i)
     rw [hf] at hbk
     (simp only [go_sem, simprocAttr, a1N, hbk, hOu, hun, hOp]; repeat' (first | ((first | refine brY ?_ | refine brN ?_ | refine brA ?_ | refine brD ?_ | refine brF ?_ | ((first | apply a0k | apply a0j); (. intro h; simp only [go_sem, simprocAttr, a0p h, a1N, hbk, hOu, hun, hOp]; exact rfl))); (try simp only [go_sem, simprocAttr, a1N, hbk, hOu, hun, hOp])) | ((first | apply a0e | apply d7E | apply a0a) <;> intro h <;> (try simp only [go_sem, simprocAttr, h, a1N, hbk, hOu, hun, hOp]))))
   . simp only [go_sem, simprocAttr, a1N]
   . cases hf : a0z (fun d (_ : Day) => decide (b.low i d (b.rest i) < 0)) 0 b.days with
     | none => simp only [go_sem, simprocAttr, Option.map_none]
     | some q => obtain ⟨d, x⟩ := q; (simp only [go_sem, simprocAttr, Option.map_some]; repeat' (first | ((first | refine brY ?_ | refine brN ?_ | refine brA ?_ | refine brD ?_ | refine brF ?_ | ((first | apply a0k | apply a0j); (. intro h; simp only [go_sem, simprocAttr, a0p h, Option.map_some]; exact rfl))); (try simp only [go_sem, simprocAttr, Option.map_some])) | ((first | apply a0e | apply d7E | apply a0a) <;> intro h <;> (try simp only [go_sem, simprocAttr, h, Option.map_some]))))
 . have hd : decide (b.err (b.a1f n) = 0) = false := decide_eq_false he
   simp only [Book.beyond, if_neg he]
   rw [K_fn P04.f138 _ _ rfl]
   (simp only [go_sem, simprocAttr, a1Z, ha, hu, hun, hlen, hp, hd]; repeat' (first | ((first | refine brY ?_ | refine brN ?_ | refine brA ?_ | refine brD ?_ | refine brF ?_ | ((first | apply a0k | apply a0j); (. intro h; simp only [go_sem, simprocAttr, a0p h, a1Z, ha, hu, hun, hlen, hp, hd]; exact rfl))); (try simp only [go_sem, simprocAttr, a1Z, ha, hu, hun, hlen, hp, hd])) | ((first | apply a0e | apply d7E | apply a0a) <;> intro h <;> (try simp only [go_sem, simprocAttr, h, a1Z, ha, hu, hun, hlen, hp, hd]))))
end
end Go.Pm.St
namespace Go.Pm.St
open Ac
/-! ### Open days -/
def Book.o (b : Book) : Nat := (a2b b.signs).toNat
theorem b6M {b : Book} (hs : Sane b) : 0 <= a2b b.signs /\ a2b b.signs <= b.days.length := by
 have key : ∀ (l : List Sign) (n : Int), (∀ x ∈ l, 0 <= x.day /\ x.day < b.days.length) -> 0 <= n /\ n <= b.days.length -> 0 <= l.foldl (fun n x => max n (x.day + 1)) n /\ l.foldl (fun n x => max n (x.day + 1)) n <= b.days.length := by
   intro l
   induction l with
   | nil => intro n _ h; exact h
   | cons x l ih =>
     intro n hx hn
     have := hx x (by simp)
     exact ih (max n (x.day + 1)) (fun y hy => hx y (by simp [hy])) (by omega)
 exact key b.signs 0 (fun x hx => (hs.sg x hx).2.1) (by omega)
theorem o_eq {b : Book} (hs : Sane b) : a2b b.signs = (b.o : Int) /\ b.o <= b.days.length := by
 have := b6M hs
 simp only [Book.o]; omega
def onF (F : List Int -> Bool) (i : Nat) : Nat -> Bool := fun e => F [(e : Int), (i : Int)]
def Book.a5q (b : Book) (d : Nat) : Option Nat := a1I (fun i => b.harm i d (b.rest i)) b.singers.length
def Book.a4n (b : Book) : Option (Nat × Nat) := match a1I (fun k => (b.a5q (b.o + k)).isSome) (b.days.length - b.o) with
 | some k => some (b.o + k, (b.a5q (b.o + k)).getD 0)
 | none => none
def Book.first (b : Book) : (Int × Int) × Int :=
 if b.err true = 0 then (match b.a4n with | some (d, i) => (((d : Int), (i : Int)), 0) | none => ((0, 0), 4)) else ((0, 0), b.err true)
section
variable {Γ : Env} [P04 Γ] [G04 Γ]
theorem b3T (b : Book) (hs : Sane b) (hne : b.now ≠ []) (d : Nat) (hd : d < b.days.length) {β : Type} (Q : Ex -> St -> Option β) :
   E Γ a8s ⟨[(1, .sc (.ptr 0 0)), (5, .sc (.ptr 1 0)), (6, vi d), (27, vi b.singers.length), (28, vi 0)], [.var b.c, .var (O b b.now)]⟩ Q = match b.a5q d with
   | some i => Q .ret ⟨[(2, vi d), (3, vi i), (4, vi 0)], [.var b.c, .var (O b b.now)]⟩
   | none => Q (.exit 2) ⟨[(1, .sc (.ptr 0 0)), (5, .sc (.ptr 1 0)), (6, vi d), (27, vi b.singers.length), (28, vi b.singers.length), (29, vb false)], [.var b.c, .var (O b b.now)]⟩ := by
 have hu := a1R b b.now
 have hun := O_un b b.now
 have hp := a3w b b.now
 have hs3 := hs.s3
 refine a6N b.singers.length (fun i => ⟨[(1, .sc (.ptr 0 0)), (5, .sc (.ptr 1 0)), (6, vi d), (27, vi b.singers.length), (28, vi i)], [.var b.c, .var (O b b.now)]⟩) (fun i => b.harm i d (b.rest i))
   (fun i => (.ret, ⟨[(2, vi d), (3, vi i), (4, vi 0)], [.var b.c, .var (O b b.now)]⟩)) (.exit 2, ⟨[(1, .sc (.ptr 0 0)), (5, .sc (.ptr 1 0)), (6, vi d), (27, vi b.singers.length), (28, vi b.singers.length), (29, vb false)], [.var b.c, .var (O b b.now)]⟩) Q rfl ?_ ?_ ?_
 . intro i hi hf
   have hiw : IntKind.i64.wrap ((i : Int) + 1) = i + 1 := wrap_i64 (by omega) (by omega)
   have hk := a9j (Γ := Γ) b hs hne i d hi hd b.F (b.rest i) (a9L b i)
   rw [hf] at hk
   (simp only [go_sem, simprocAttr, a1T, hiw, hk, hu, hun, hp]; repeat' (first | ((first | refine brY ?_ | refine brN ?_ | refine brA ?_ | refine brD ?_ | refine brF ?_ | ((first | apply a0k | apply a0j); (. intro h; simp only [go_sem, simprocAttr, a0p h, a1T, hiw, hk, hu, hun, hp]; exact rfl))); (try simp only [go_sem, simprocAttr, a1T, hiw, hk, hu, hun, hp])) | ((first | apply a0e | apply d7E | apply a0a) <;> intro h <;> (try simp only [go_sem, simprocAttr, h, a1T, hiw, hk, hu, hun, hp]))))
   rfl
 . intro i hi hf
   have hk := a9j (Γ := Γ) b hs hne i d hi hd b.F (b.rest i) (a9L b i)
   rw [hf] at hk
   (simp only [go_sem, simprocAttr, a1T, hk, hu, hun, hp]; repeat' (first | ((first | refine brY ?_ | refine brN ?_ | refine brA ?_ | refine brD ?_ | refine brF ?_ | ((first | apply a0k | apply a0j); (. intro h; simp only [go_sem, simprocAttr, a0p h, a1T, hk, hu, hun, hp]; exact rfl))); (try simp only [go_sem, simprocAttr, a1T, hk, hu, hun, hp])) | ((first | apply a0e | apply d7E | apply a0a) <;> intro h <;> (try simp only [go_sem, simprocAttr, h, a1T, hk, hu, hun, hp]))))
 . simp only [go_sem, simprocAttr, a1T]
@[go_sem] theorem c0x (b : Book) [hb : b.Fits] : K Γ (.fn 101) [.agg b.c] [] = some (.tup [vi b.first.1.1, vi b.first.1.2, vi b.first.2], []) := by
 obtain ⟨cs, ha, hlen, hp, hun, hO⟩ := a6O (Γ := Γ) b true
 have hu (m : Nat) : C.a0G m cs = true := a0C m _ hp
 by_cases he : b.err true = 0
 . obtain ⟨hv, -, hne⟩ := a5T he
   have hs := a2n.1 hv
   obtain rfl := hO he
   have hOu := a1R b b.now
   have hOp := a3w b b.now
   have hd5 := hs.d5
   obtain ⟨ho, hol⟩ := o_eq hs
   have hok := b0g (Γ := Γ) b hs
   rw [ho] at hok
   rw [he] at ha
   simp only [Book.first, if_pos he]
   rw [K_fn P04.f101 _ _ rfl]
   simp only [go_sem, simprocAttr, a5i, ha, hu, hun, hOp, hOu, hok]
   refine (a6N (b.days.length - b.o) (fun k => ⟨[(1, .sc (.ptr 0 0)), (5, .sc (.ptr 1 0)), (6, vi ((b.o + k : Nat) : Int))], [.var b.c, .var (O b b.now)]⟩) (fun k => (b.a5q (b.o + k)).isSome)
     (fun k => (.ret, ⟨[(2, vi ((b.o + k : Nat) : Int)), (3, vi ((b.a5q (b.o + k)).getD 0 : Nat)), (4, vi 0)], [.var b.c, .var (O b b.now)]⟩)) (.exit 0, ⟨[(1, .sc (.ptr 0 0)), (5, .sc (.ptr 1 0)), (6, vi b.days.length), (22, vb false)], [.var b.c, .var (O b b.now)]⟩) _ rfl ?_ ?_ ?_).trans ?_
   . intro k hk hf
     have hlt : decide (((b.o + k : Nat) : Int) < b.days.length) = true := decide_eq_true (by omega)
     have hdw : IntKind.i64.wrap (((b.o + k : Nat) : Int) + 1) = ((b.o + (k + 1) : Nat) : Int) := by rw [wrap_i64 (by omega) (by omega)]; omega
     have hL {β : Type} (Q : Ex -> St -> Option β) := b3T (Γ := Γ) b hs hne (b.o + k) (by omega) Q
     rw [Option.isSome_eq_false_iff, Option.isNone_iff_eq_none] at hf
     simp only [hf] at hL
     simp only [go_sem, simprocAttr, a4Z, hlt, hdw, hL, hOu]
   . intro k hk hf
     have hlt : decide (((b.o + k : Nat) : Int) < b.days.length) = true := decide_eq_true (by omega)
     have hL {β : Type} (Q : Ex -> St -> Option β) := b3T (Γ := Γ) b hs hne (b.o + k) (by omega) Q
     obtain ⟨i, hi⟩ := Option.isSome_iff_exists.1 hf
     simp only [hi] at hL
     simp only [hi, Option.getD_some]
     simp only [go_sem, simprocAttr, a4Z, hlt, hL, hOu]
   . have hlt : decide (((b.o + (b.days.length - b.o) : Nat) : Int) < b.days.length) = false := decide_eq_false (by omega)
     have e : b.o + (b.days.length - b.o) = b.days.length := by omega
     rw [e] at hlt ⊢
     simp only [go_sem, simprocAttr, a4Z, hlt]
   . simp only [Book.a4n]
     cases hf : a1I (fun k => (b.a5q (b.o + k)).isSome) (b.days.length - b.o) with
     | none => (simp only [go_sem, simprocAttr]; repeat' (first | ((first | refine brY ?_ | refine brN ?_ | refine brA ?_ | refine brD ?_ | refine brF ?_ | ((first | apply a0k | apply a0j); (. intro h; simp only [go_sem, simprocAttr, a0p h]; exact rfl))); (try simp only [go_sem, simprocAttr])) | ((first | apply a0e | apply d7E | apply a0a) <;> intro h <;> (try simp only [go_sem, simprocAttr, h]))))
     | some k => (simp only [go_sem, simprocAttr]; repeat' (first | ((first | refine brY ?_ | refine brN ?_ | refine brA ?_ | refine brD ?_ | refine brF ?_ | ((first | apply a0k | apply a0j); (. intro h; simp only [go_sem, simprocAttr, a0p h]; exact rfl))); (try simp only [go_sem, simprocAttr])) | ((first | apply a0e | apply d7E | apply a0a) <;> intro h <;> (try simp only [go_sem, simprocAttr, h]))))
 . have hd : decide (b.err true = 0) = false := decide_eq_false he
   simp only [Book.first, if_neg he]
   rw [K_fn P04.f101 _ _ rfl]
   simp only [go_sem, simprocAttr, a5i, ha, hu, hun, hlen, hp, hd]
/-! ### Plans that are safe -/
def Book.a8P (b : Book) (d : Nat) : Int := match b.days[d]? with | some x => x.needs | none => 0
def Book.sing (b : Book) (F : List Int -> Bool) (d : Nat) : Nat := ((List.range b.singers.length).filter fun i => !onF F i d).length
def Book.enough (b : Book) (F : List Int -> Bool) : Bool := (a1I (fun k => decide ((b.sing F (b.o + k) : Int) < b.a8P (b.o + k))) (b.days.length - b.o)).isNone
def Book.well (b : Book) (F : List Int -> Bool) (i : Nat) : Bool := (a1I (fun k => b.harm i (b.o + k) (onF F i)) (b.days.length - b.o)).isNone
theorem b2V (b : Book) (hs : Sane b) (F : List Int -> Bool) (m t : C) (hmt : C.a0v [m, t] = true) (d : Nat) {β : Type} (Q : Ex -> St -> Option β) :
   E Γ a6e ⟨[(1, .sc (.iset 2 F)), (2, .sc (.ptr 0 0)), (5, vi d), (6, vi 0), (22, vi b.singers.length), (23, vi 0)], [.var (B12 b m t)]⟩ Q =
   Q (.exit 2) ⟨[(1, .sc (.iset 2 F)), (2, .sc (.ptr 0 0)), (5, vi d), (6, vi (b.sing F d)), (22, vi b.singers.length), (23, vi b.singers.length), (24, vb false)], [.var (B12 b m t)]⟩ := by
 have hu (n : Nat) : C.a0G n (B12 b m t) = true := a0C n _ (a2S b m t hmt)
 have hs3 := hs.s3
 have hle : ∀ k, ((List.range k).filter fun i => !onF F i d).length <= k := fun k => Nat.le_trans (List.length_filter_le _ _) (by simp)
 refine a4q b.singers.length (fun k (_ : Unit) => ⟨[(1, .sc (.iset 2 F)), (2, .sc (.ptr 0 0)), (5, vi d), (6, vi (((List.range k).filter fun i => !onF F i d).length : Nat)), (22, vi b.singers.length), (23, vi k)], [.var (B12 b m t)]⟩) (fun _ _ => True)
   (fun _ => (.exit 2, ⟨[(1, .sc (.iset 2 F)), (2, .sc (.ptr 0 0)), (5, vi d), (6, vi (b.sing F d)), (22, vi b.singers.length), (23, vi b.singers.length), (24, vb false)], [.var (B12 b m t)]⟩)) () rfl trivial ?_ ?_ (fun _ _ => rfl)
 . intro k _ hk _
   refine ⟨(), trivial, ?_⟩
   have hlt : decide ((k : Int) < b.singers.length) = true := decide_eq_true (by omega)
   have hkw : IntKind.i64.wrap ((k : Int) + 1) = k + 1 := wrap_i64 (by omega) (by omega)
   have hk3 := hle k
   have hnw : IntKind.i64.wrap ((((List.range k).filter fun i => !onF F i d).length : Int) + 1) = ((((List.range k).filter fun i => !onF F i d).length + 1 : Nat) : Int) := by rw [wrap_i64 (by omega) (by omega)]; omega
   have hFd : F [(d : Int), (k : Int)] = onF F k d := rfl
   rw [List.range_succ, List.filter_append, List.filter_cons, List.filter_nil]
   cases hf : onF F k d with
   | true =>
     rw [hf] at hFd
     simp only [Bool.not_true, Bool.false_eq_true, if_false, List.append_nil]
     simp only [go_sem, simprocAttr, a3g, hlt, hkw, hFd, hu]
     rfl
   | false =>
     rw [hf] at hFd
     simp only [Bool.not_false, if_true, List.length_append, List.length_cons, List.length_nil, Nat.zero_add]
     simp only [go_sem, simprocAttr, a3g, hlt, hkw, hFd, hu, hnw]
     rfl
 . intro _ _
   simp only [go_sem, simprocAttr, a3g]
   rfl
theorem b4i (b : Book) [hb : b.Fits] (hs : Sane b) (F : List Int -> Bool) (m t : C) (hmt : C.a0v [m, t] = true) : K Γ (.fn 123) [.agg (B12 b m t), .sc (.iset 2 F)] [] = some (vb (b.enough F), []) := by
 have hu (n : Nat) : C.a0G n (B12 b m t) = true := a0C n _ (a2S b m t hmt)
 have hd5 := hs.d5
 obtain ⟨ho, hol⟩ := o_eq hs
 have hok := b0g (Γ := Γ) b hs
 rw [ho] at hok
 rw [K_fn P04.f123 _ _ rfl]
 (simp only [go_sem, simprocAttr, a2j, hu, hok]; repeat' (first | ((first | refine brY ?_ | refine brN ?_ | refine brA ?_ | refine brD ?_ | refine brF ?_ | ((first | apply a0k | apply a0j); (. intro h; simp only [go_sem, simprocAttr, a0p h, a2j, hu, hok]; exact rfl))); (try simp only [go_sem, simprocAttr, a2j, hu, hok])) | ((first | apply a0e | apply d7E | apply a0a) <;> intro h <;> (try simp only [go_sem, simprocAttr, h, a2j, hu, hok]))))
 refine (a6N (b.days.length - b.o) (fun k => ⟨[(1, .sc (.iset 2 F)), (2, .sc (.ptr 0 0)), (5, vi ((b.o + k : Nat) : Int))], [.var (B12 b m t)]⟩) (fun k => decide ((b.sing F (b.o + k) : Int) < b.a8P (b.o + k)))
   (fun k => (.ret, ⟨[(4, vb false)], [.var (B12 b m t)]⟩)) (.exit 0, ⟨[(1, .sc (.iset 2 F)), (2, .sc (.ptr 0 0)), (5, vi b.days.length), (16, vb false)], [.var (B12 b m t)]⟩) _ rfl ?_ ?_ ?_).trans ?_
 . intro k hk hf
   have hlt : decide (((b.o + k : Nat) : Int) < b.days.length) = true := decide_eq_true (by omega)
   have hdw : IntKind.i64.wrap (((b.o + k : Nat) : Int) + 1) = ((b.o + (k + 1) : Nat) : Int) := by rw [wrap_i64 (by omega) (by omega)]; omega
   obtain ⟨x, hx⟩ : ∃ x, b.days[b.o + k]? = some x := ⟨_, List.getElem?_eq_getElem (by omega)⟩
   have hL {β : Type} (Q : Ex -> St -> Option β) := b2V (Γ := Γ) b hs F m t hmt (b.o + k) Q
   simp only [Book.a8P, hx] at hf
   (simp only [go_sem, simprocAttr, a1k, hlt, hdw, hL, hu, hx, hf]; repeat' (first | ((first | refine brY ?_ | refine brN ?_ | refine brA ?_ | refine brD ?_ | refine brF ?_ | ((first | apply a0k | apply a0j); (. intro h; simp only [go_sem, simprocAttr, a0p h, a1k, hlt, hdw, hL, hu, hx, hf]; exact rfl))); (try simp only [go_sem, simprocAttr, a1k, hlt, hdw, hL, hu, hx, hf])) | ((first | apply a0e | apply d7E | apply a0a) <;> intro h <;> (try simp only [go_sem, simprocAttr, h, a1k, hlt, hdw, hL, hu, hx, hf]))))
 . intro k hk hf
   have hlt : decide (((b.o + k : Nat) : Int) < b.days.length) = true := decide_eq_true (by omega)
   obtain ⟨x, hx⟩ : ∃ x, b.days[b.o + k]? = some x := ⟨_, List.getElem?_eq_getElem (by omega)⟩
   have hL {β : Type} (Q : Ex -> St -> Option β) := b2V (Γ := Γ) b hs F m t hmt (b.o + k) Q
   simp only [Book.a8P, hx] at hf
   (simp only [go_sem, simprocAttr, a1k, hlt, hL, hu, hx, hf]; repeat' (first | ((first | refine brY ?_ | refine brN ?_ | refine brA ?_ | refine brD ?_ | refine brF ?_ | ((first | apply a0k | apply a0j); (. intro h; simp only [go_sem, simprocAttr, a0p h, a1k, hlt, hL, hu, hx, hf]; exact rfl))); (try simp only [go_sem, simprocAttr, a1k, hlt, hL, hu, hx, hf])) | ((first | apply a0e | apply d7E | apply a0a) <;> intro h <;> (try simp only [go_sem, simprocAttr, h, a1k, hlt, hL, hu, hx, hf]))))
 . have hlt : decide (((b.o + (b.days.length - b.o) : Nat) : Int) < b.days.length) = false := decide_eq_false (by omega)
   have e : b.o + (b.days.length - b.o) = b.days.length := by omega
   rw [e] at hlt ⊢
   simp only [go_sem, simprocAttr, a1k, hlt]
 . simp only [Book.enough]
   cases hf : a1I (fun k => decide ((b.sing F (b.o + k) : Int) < b.a8P (b.o + k))) (b.days.length - b.o) with
   | none => simp only [go_sem, simprocAttr, hu]; rfl
   | some k => simp only [go_sem, simprocAttr, hu]; rfl
theorem b5e (b : Book) [hb : b.Fits] (hs : Sane b) (hne : b.now ≠ []) (i : Nat) (hi : i < b.singers.length) (F : List Int -> Bool) : K Γ (.fn 122) [.agg (O b b.now), vi i, .sc (.iset 2 F)] [] = some (vb (b.well F i), []) := by
 have hu := a1R b b.now
 have hun := O_un b b.now
 have hp := a3w b b.now
 have hd5 := hs.d5
 obtain ⟨ho, hol⟩ := o_eq hs
 have hok := b0g (Γ := Γ) b hs
 rw [ho] at hok
 rw [K_fn P04.f122 _ _ rfl]
 simp only [go_sem, simprocAttr, a4I, hu, hok]
 refine (a6N (b.days.length - b.o) (fun k => ⟨[(1, vi i), (2, .sc (.iset 2 F)), (3, .sc (.ptr 0 0)), (7, vi ((b.o + k : Nat) : Int))], [.var (O b b.now)]⟩) (fun k => b.harm i (b.o + k) (onF F i))
   (fun k => (.ret, ⟨[(6, vb false)], [.var (O b b.now)]⟩)) (.exit 0, ⟨[(1, vi i), (2, .sc (.iset 2 F)), (3, .sc (.ptr 0 0)), (7, vi b.days.length), (16, vb false)], [.var (O b b.now)]⟩) _ rfl ?_ ?_ ?_).trans ?_
 . intro k hk hf
   have hlt : decide (((b.o + k : Nat) : Int) < b.days.length) = true := decide_eq_true (by omega)
   have hdw : IntKind.i64.wrap (((b.o + k : Nat) : Int) + 1) = ((b.o + (k + 1) : Nat) : Int) := by rw [wrap_i64 (by omega) (by omega)]; omega
   have hk := a9j (Γ := Γ) b hs hne i (b.o + k) hi (by omega) F (onF F i) rfl
   rw [hf] at hk
   simp only [go_sem, simprocAttr, a3E, hlt, hdw, hk, hu, hun, hp]
 . intro k hk hf
   have hlt : decide (((b.o + k : Nat) : Int) < b.days.length) = true := decide_eq_true (by omega)
   have hk := a9j (Γ := Γ) b hs hne i (b.o + k) hi (by omega) F (onF F i) rfl
   rw [hf] at hk
   simp only [go_sem, simprocAttr, a3E, hlt, hk, hu, hun, hp]
 . have hlt : decide (((b.o + (b.days.length - b.o) : Nat) : Int) < b.days.length) = false := decide_eq_false (by omega)
   have e : b.o + (b.days.length - b.o) = b.days.length := by omega
   rw [e] at hlt ⊢
   simp only [go_sem, simprocAttr, a3E, hlt]
 . simp only [Book.well]
   cases hf : a1I (fun k => b.harm i (b.o + k) (onF F i)) (b.days.length - b.o) with
   | none => simp only [go_sem, simprocAttr, hu]; rfl
   | some k => simp only [go_sem, simprocAttr, hu]; rfl
def Book.b5J (b : Book) (F : List Int -> Bool) : Bool := (a1I (fun i => !b.well F i) b.singers.length).isNone
def Book.safe (b : Book) (l : List Rest) : Bool × Int := if b.err (b.a4k l) = 0 then (b.b5J (a1M b.F l) && b.enough (a1M b.F l), 0) else (false, b.err (b.a4k l))
theorem b0G {b : Book} {is : Bool} (h : b.valid = false) : b.err is = 40 := by simp [Book.err, h]
theorem cmp_neg {x y : Rest} : x.cmp y < 0 <-> x.day < y.day \/ (x.day = y.day /\ x.singer < y.singer) := by
 unfold Rest.cmp cmp3
 by_cases h1 : x.day < y.day
 . simp [h1]
 . by_cases h2 : y.day < x.day
   . simp [h1, h2]; omega
   . have : x.day = y.day := by omega
     by_cases h3 : x.singer < y.singer
     . simp [h1, h2, h3, this]
     . by_cases h4 : y.singer < x.singer <;> simp [h1, h2, h3, h4] <;> omega
theorem b6w {b : Book} {l : List Rest} : b.a4k l = true <-> ∀ (i : Nat) y, l[i]? = some y -> b.a2O y.day = true /\ a2b b.signs <= y.day /\ b.a1f y.singer = true /\ b.rests.any (·.same y) = false /\ ∀ x, 0 < i -> l[i - 1]? = some x -> x.cmp y < 0 := by
 rw [Book.a4k, Option.isNone_iff_eq_none, a2L]
 refine forall_congr' fun i => forall_congr' fun y => ?_
 by_cases hy : l[i]? = some y
 . simp only [hy, forall_const, Nat.zero_add, Book.bad, Bool.or_eq_false_iff, Bool.not_eq_false', decide_eq_false_iff_not, Int.not_lt, late, Bool.and_eq_false_iff]
   refine and_congr_right fun _ => and_congr_right fun _ => and_congr_right fun _ => and_congr_right fun _ => ?_
   constructor
   . rintro (h | h) x hi hx
     . exact absurd hi h
     . rw [hx] at h; simpa using h
   . intro h
     by_cases hi : 0 < i
     . refine .inr ?_
       cases hx : l[i - 1]? with
       | none => rfl
       | some x => have := h x hi hx; simpa using this
     . exact .inl hi
 . simp [hy]
theorem b6x {b : Book} {l : List Rest} (hs : Sane b) (h : b.a4k l = true) : l.length <= 15 := by
 rw [b6w] at h
 have hb : ∀ (i : Nat) y, l[i]? = some y -> (0 <= y.day /\ y.day <= 4) /\ (0 <= y.singer /\ y.singer <= 2) := fun i y hy => by
   obtain ⟨h1, _, h3, _⟩ := h i y hy
   rw [Book.a2O, within_iff] at h1
   rw [Book.a1f, within_iff] at h3
   have := hs.d5; have := hs.s3; omega
 have key : ∀ (i : Nat) y, l[i]? = some y -> (i : Int) <= y.day * 3 + y.singer := by
   intro i
   induction i with
   | zero => intro y hy; have := hb 0 y hy; omega
   | succ i ih =>
     intro y hy
     obtain ⟨x, hx⟩ : ∃ x, l[i]? = some x := ⟨_, List.getElem?_eq_getElem (by have := (List.getElem?_eq_some_iff.1 hy).1; omega)⟩
     have h1 := ih x hx
     have h2 := (h (i + 1) y hy).2.2.2.2 x (by omega) hx
     rw [cmp_neg] at h2
     have := hb i x hx; have := hb (i + 1) y hy
     omega
 by_cases hl : l.length = 0
 . omega
 . have hx := List.getElem?_eq_getElem (l := l) (show l.length - 1 < l.length by omega)
   have h1 := key _ _ hx
   have h2 := hb _ _ hx
   omega
@[go_sem] theorem c1N (b : Book) [hb : b.Fits] (k : SK) (l : List Rest) (hl : l.length <= 9223372036854775807) : K Γ (.fn 105) [.agg b.c, .sc (.sl k 2 (l.map Rest.c))] [] = some (.tup [vb (b.safe l).1, vi (b.safe l).2], []) := by
 cases hv : b.valid with
 | false =>
   have he : ¬ b.err (b.a4k l) = 0 := by rw [b0G hv]; decide
   simp only [Book.safe, if_neg he, b0G hv]
   rw [K_fn P04.f105 _ _ rfl]
   simp only [go_sem, simprocAttr, a1F, hv, Bool.false_eq_true, if_false]
 | true =>
   have hs := a2n.1 hv
   obtain ⟨cs, ha, hlen, hp, hun, hO⟩ := a6O (Γ := Γ) b (b.a4k l)
   have hu (m : Nat) : C.a0G m cs = true := a0C m _ hp
   have hip := b4y (Γ := Γ) b hs k l hl
   by_cases he : b.err (b.a4k l) = 0
   . obtain ⟨-, hpl, hne⟩ := a5T he
     obtain rfl := hO he
     have hOu := a1R b b.now
     have hOp := a3w b b.now
     have hs3 := hs.s3
     have hw := b2z (Γ := Γ) k l (by have := b6x hs hpl; omega) b.F
     have hen := b4i (Γ := Γ) b hs (a1M b.F l) (.iset 2 b.F) (.sl (kT b.now) 4 (b.now.map a1g)) rfl
     rw [he] at ha
     simp only [Book.safe, if_pos he]
     have hL {β : Type} (Q : Ex -> St -> Option β) : E Γ a9b ⟨[(7, .sc (.ptr 1 0)), (9, .sc (.iset 2 (a1M b.F l))), (33, vi b.singers.length), (34, vi 0)], [.var b.c, .var (O b b.now)]⟩ Q =
         match a1I (fun i => !b.well (a1M b.F l) i) b.singers.length with
         | some i => Q .ret ⟨[(4, vb false), (5, vi 0)], [.var b.c, .var (O b b.now)]⟩
         | none => Q (.exit 0) ⟨[(7, .sc (.ptr 1 0)), (9, .sc (.iset 2 (a1M b.F l))), (33, vi b.singers.length), (34, vi b.singers.length), (35, vb false)], [.var b.c, .var (O b b.now)]⟩ := by
       refine a6N b.singers.length (fun i => ⟨[(7, .sc (.ptr 1 0)), (9, .sc (.iset 2 (a1M b.F l))), (33, vi b.singers.length), (34, vi i)], [.var b.c, .var (O b b.now)]⟩) (fun i => !b.well (a1M b.F l) i)
         (fun i => (.ret, ⟨[(4, vb false), (5, vi 0)], [.var b.c, .var (O b b.now)]⟩)) (.exit 0, ⟨[(7, .sc (.ptr 1 0)), (9, .sc (.iset 2 (a1M b.F l))), (33, vi b.singers.length), (34, vi b.singers.length), (35, vb false)], [.var b.c, .var (O b b.now)]⟩) Q rfl ?_ ?_ ?_
       . intro i hi hf
         have hiw : IntKind.i64.wrap ((i : Int) + 1) = i + 1 := wrap_i64 (by omega) (by omega)
         have hk := b5e (Γ := Γ) b hs hne i hi (a1M b.F l)
         rw [Bool.not_eq_false'] at hf
         rw [hf] at hk
         (simp only [go_sem, simprocAttr, a1C, hiw, hk, hOu, hun, hOp]; repeat' (first | ((first | refine brY ?_ | refine brN ?_ | refine brA ?_ | refine brD ?_ | refine brF ?_ | ((first | apply a0k | apply a0j); (. intro h; simp only [go_sem, simprocAttr, a0p h, a1C, hiw, hk, hOu, hun, hOp]; exact rfl))); (try simp only [go_sem, simprocAttr, a1C, hiw, hk, hOu, hun, hOp])) | ((first | apply a0e | apply d7E | apply a0a) <;> intro h <;> (try simp only [go_sem, simprocAttr, h, a1C, hiw, hk, hOu, hun, hOp]))))
         rfl
       . intro i hi hf
         have hk := b5e (Γ := Γ) b hs hne i hi (a1M b.F l)
         rw [Bool.not_eq_true'] at hf
         rw [hf] at hk
         (simp only [go_sem, simprocAttr, a1C, hk, hOu, hun, hOp]; repeat' (first | ((first | refine brY ?_ | refine brN ?_ | refine brA ?_ | refine brD ?_ | refine brF ?_ | ((first | apply a0k | apply a0j); (. intro h; simp only [go_sem, simprocAttr, a0p h, a1C, hk, hOu, hun, hOp]; exact rfl))); (try simp only [go_sem, simprocAttr, a1C, hk, hOu, hun, hOp])) | ((first | apply a0e | apply d7E | apply a0a) <;> intro h <;> (try simp only [go_sem, simprocAttr, h, a1C, hk, hOu, hun, hOp]))))
       . (simp only [go_sem, simprocAttr, a1C]; repeat' (first | ((first | refine brY ?_ | refine brN ?_ | refine brA ?_ | refine brD ?_ | refine brF ?_ | ((first | apply a0k | apply a0j); (. intro h; simp only [go_sem, simprocAttr, a0p h, a1C]; exact rfl))); (try simp only [go_sem, simprocAttr, a1C])) | ((first | apply a0e | apply d7E | apply a0a) <;> intro h <;> (try simp only [go_sem, simprocAttr, h, a1C]))))
     simp only [Book.b5J]
     cases hf : a1I (fun i => !b.well (a1M b.F l) i) b.singers.length with
     | none =>
       simp only [hf] at hL
       rw [K_fn P04.f105 _ _ rfl]
       (simp only [go_sem, simprocAttr, a1F, hv, if_true, hip, ha, hu, hun, hOp, hOu, hw, hL, hen, Option.isNone_none, Bool.true_and]; repeat' (first | ((first | refine brY ?_ | refine brN ?_ | refine brA ?_ | refine brD ?_ | refine brF ?_ | ((first | apply a0k | apply a0j); (. intro h; simp only [go_sem, simprocAttr, a0p h, a1F, hv, if_true, hip, ha, hu, hun, hOp, hOu, hw, hL, hen, Option.isNone_none, Bool.true_and]; exact rfl))); (try simp only [go_sem, simprocAttr, a1F, hv, if_true, hip, ha, hu, hun, hOp, hOu, hw, hL, hen, Option.isNone_none, Bool.true_and])) | ((first | apply a0e | apply d7E | apply a0a) <;> intro h <;> (try simp only [go_sem, simprocAttr, h, a1F, hv, if_true, hip, ha, hu, hun, hOp, hOu, hw, hL, hen, Option.isNone_none, Bool.true_and]))))
     | some i =>
       simp only [hf] at hL
       rw [K_fn P04.f105 _ _ rfl]
       (simp only [go_sem, simprocAttr, a1F, hv, if_true, hip, ha, hu, hun, hOp, hOu, hw, hL, hen, Option.isNone_some, Bool.false_and]; repeat' (first | ((first | refine brY ?_ | refine brN ?_ | refine brA ?_ | refine brD ?_ | refine brF ?_ | ((first | apply a0k | apply a0j); (. intro h; simp only [go_sem, simprocAttr, a0p h, a1F, hv, if_true, hip, ha, hu, hun, hOp, hOu, hw, hL, hen, Option.isNone_some, Bool.false_and]; exact rfl))); (try simp only [go_sem, simprocAttr, a1F, hv, if_true, hip, ha, hu, hun, hOp, hOu, hw, hL, hen, Option.isNone_some, Bool.false_and])) | ((first | apply a0e | apply d7E | apply a0a) <;> intro h <;> (try simp only [go_sem, simprocAttr, h, a1F, hv, if_true, hip, ha, hu, hun, hOp, hOu, hw, hL, hen, Option.isNone_some, Bool.false_and]))))
   . have hd : decide (b.err (b.a4k l) = 0) = false := decide_eq_false he
     simp only [Book.safe, if_neg he]
     rw [K_fn P04.f105 _ _ rfl]
     (simp only [go_sem, simprocAttr, a1F, hv, if_true, hip, ha, hu, hun, hlen, hp, hd]; repeat' (first | ((first | refine brY ?_ | refine brN ?_ | refine brA ?_ | refine brD ?_ | refine brF ?_ | ((first | apply a0k | apply a0j); (. intro h; simp only [go_sem, simprocAttr, a0p h, a1F, hv, if_true, hip, ha, hu, hun, hlen, hp, hd]; exact rfl))); (try simp only [go_sem, simprocAttr, a1F, hv, if_true, hip, ha, hu, hun, hlen, hp, hd])) | ((first | apply a0e | apply d7E | apply a0a) <;> intro h <;> (try simp only [go_sem, simprocAttr, h, a1F, hv, if_true, hip, ha, hu, hun, hlen, hp, hd]))))
end
end Go.Pm.St
namespace Go.Pm.St
open Ac
def Book.add (b : Book) (x : Sign) : Book := { b with kg := .shared, signs := b.signs ++ [x] }
def ownB (b : Book) (x : Sign) : List C := [.sl b.ks 2 (b.singers.map Span.c), ci b.c0.lo, ci b.c0.hi, ci b.c1.lo, ci b.c1.hi, ci b.c2.lo, ci b.c2.hi, .sl b.kd 3 (b.days.map Day.c), .sl b.kr 2 (b.rests.map Rest.c), .own 4 (b.signs.map Sign.c ++ [x.c])]
@[go_sem] theorem c8D (b : Book) (x : Sign) : b.c.set 9 (.own 4 (b.signs.map Sign.c ++ [x.c])) = ownB b x := nrfl rfl
@[go_sem] theorem c8C (b : Book) (x : Sign) : a0R (ownB b x) 0 10 = some (ownB b x) := nrfl rfl
@[go_sem] theorem c9R (b : Book) (x : Sign) : (ownB b x).map a0r = (b.add x).c := by
 simp [ownB, Book.add, Book.c, a0r]
@[go_sem] theorem c5q (b : Book) (x : Sign) (n : Nat) : C.a0G n (ownB b x) = true := by simp [ownB, go_sem]
theorem b6y {b : Book} {x : Sign} : b.a3z x = true <-> (0 <= x.singer /\ x.singer < b.singers.length) /\ (0 <= x.day /\ x.day < b.days.length) /\ (-150 <= x.left /\ x.left <= 30) /\ (0 <= x.err /\ x.err <= 3) := by
 simp only [Book.a3z, Book.a1f, Book.a2O, Bool.and_eq_true, within_iff]; omega
theorem b9z {b : Book} (hv : b.valid = true) {x : Sign} (hx : b.a3z x = true) : Sane (b.add x) := by
 obtain ⟨hs, h4⟩ := a8w.1 hv
 refine ⟨hs.s1, hs.s3, hs.d1, hs.d5, hs.r6, by simp [Book.add]; omega, hs.sp, hs.k0, hs.k1, hs.k2, hs.dy, hs.rs, fun y hy => ?_⟩
 simp only [Book.add, List.mem_append, List.mem_singleton] at hy
 rcases hy with hy | rfl
 . exact hs.sg y hy
 . exact b6y.1 hx
section
variable {Γ : Env} [P04 Γ] [G04 Γ]
theorem b8S {b : Book} (hv : b.valid = true) (x : Sign) : (b.add x).Fits := by
 have hs := a2n.1 hv
 have := hs.s3; have := hs.d5; have := hs.r6; have := hs.g4
 exact ⟨by simp only [Book.add]; omega, by simp only [Book.add]; omega, by simp only [Book.add]; omega, by simp only [Book.add, List.length_append, List.length_cons, List.length_nil]; omega⟩
def Book.fits (b : Book) (x : Sign) : Bool × Int := if b.err (b.a3z x) = 0 then (!(b.add x).now.isEmpty, 0) else (false, b.err (b.a3z x))
@[go_sem] theorem c1M (b : Book) [hb : b.Fits] (x : Sign) : K Γ (.fn 141) [.agg b.c, .agg x.c] [] = some (.tup [vb (b.fits x).1, vi (b.fits x).2], []) := by
 obtain ⟨cs, ha, hlen, hp, hun, hO⟩ := a6O (Γ := Γ) b (b.a3z x)
 have hu (m : Nat) : C.a0G m cs = true := a0C m _ hp
 by_cases he : b.err (b.a3z x) = 0
 . obtain ⟨hv, hx, hne⟩ := a5T he
   have hs := b9z hv hx
   haveI := b8S hv x
   have hg := a2n.2 hv
   have ho := b2m (Γ := Γ) (b.add x) hs .nil
   have hOu := a1R (b.add x) (b.add x).now
   have hS := a6u 4 b.kg (b.signs.map Sign.c) b.signs.length (by simp)
   have hP := a7M 4 b.kg .full (b.signs.map Sign.c) x.c (by simp only [List.length_map, room]; omega)
   have h0 := b7Y (b.add x)
   rw [he] at ha
   simp only [Book.fits, if_pos he]
   rw [K_fn P04.f141 _ _ rfl]
   (simp only [go_sem, simprocAttr, a2t, ha, hu, hun, hlen, hp, ho, hOu, hS, hP, h0, List.length_map]; repeat' (first | ((first | refine brY ?_ | refine brN ?_ | refine brA ?_ | refine brD ?_ | refine brF ?_ | ((first | apply a0k | apply a0j); (. intro h; simp only [go_sem, simprocAttr, a0p h, a2t, ha, hu, hun, hlen, hp, ho, hOu, hS, hP, h0, List.length_map]; exact rfl))); (try simp only [go_sem, simprocAttr, a2t, ha, hu, hun, hlen, hp, ho, hOu, hS, hP, h0, List.length_map])) | ((first | apply a0e | apply d7E | apply a0a) <;> intro h <;> (try simp only [go_sem, simprocAttr, h, a2t, ha, hu, hun, hlen, hp, ho, hOu, hS, hP, h0, List.length_map]))))
 . have hd : decide (b.err (b.a3z x) = 0) = false := decide_eq_false he
   simp only [Book.fits, if_neg he]
   rw [K_fn P04.f141 _ _ rfl]
   (simp only [go_sem, simprocAttr, a2t, ha, hu, hun, hlen, hp, hd]; repeat' (first | ((first | refine brY ?_ | refine brN ?_ | refine brA ?_ | refine brD ?_ | refine brF ?_ | ((first | apply a0k | apply a0j); (. intro h; simp only [go_sem, simprocAttr, a0p h, a2t, ha, hu, hun, hlen, hp, hd]; exact rfl))); (try simp only [go_sem, simprocAttr, a2t, ha, hu, hun, hlen, hp, hd])) | ((first | apply a0e | apply d7E | apply a0a) <;> intro h <;> (try simp only [go_sem, simprocAttr, h, a2t, ha, hu, hun, hlen, hp, hd]))))
end
end Go.Pm.St
namespace Go.Pm.St
open Ac
def a2r (l : List Int) : Int := if l = [] then 0 else l.getD (l.length - 1) 0 + 1
def Book.choose (b : Book) : Nat -> List Int -> List Int × Bool
 | 0, l => (l, (!(b.a3d fun n => l.contains n).isEmpty))
 | r + 1, l => match a0z (fun i _ => (b.choose r (l ++ [a2r l + (i : Nat)])).2) 0 (List.range (b.signs.length - a2r l).toNat) with
   | some (i, _) => ((b.choose r (l ++ [a2r l + (i : Nat)])).1, true)
   | none => ([], false)
def iC (k : SK) (l : List Int) : C := .sl k 1 (l.map fun x => [ci x])
def a4i (b : Book) (k : SK) : Nat -> List Int -> SK
 | 0, l => k
 | r + 1, l => if (b.choose (r + 1) l).2 then .shared else .nil
section
variable {Γ : Env} [P04 Γ] [G04 Γ]
theorem b2C (b : Book) (r : Nat) (l : List Int) (h : (b.choose r l).2 = true) : a4i b .shared r l = .shared := by
 cases r with
 | zero => rfl
 | succ r => simp only [a4i, h, if_true]
theorem b7q (b : Book) [hb : b.Fits] (hs : Sane b) (q : Nat) (many r : Nat) (l : List Int) (k : SK) (H : List Obj) (n : Nat) (hl6 : l.length <= 6) (from' : Int) (hfr : 0 <= from' /\ from' <= 7) (hn : H.length = n) (hq : q < n)
   (hhq : H[q]? = some (.var [.fn (.fn 170) [] [] [.eptr b.c 0, .ptr q 0]])) (hu : H.all (Obj.under n) = true)
   (hK : ∀ i : Nat, from' + i < b.signs.length -> K Γ (.fn 170) [.sc (.sl .shared 1 ((l ++ [from' + (i : Nat)]).map fun x => [ci x])), vi many, .sc (.eptr b.c 0), .sc (.ptr q 0)] H =
     some (.tup [.sc (iC (a4i b .shared r (l ++ [from' + (i : Nat)])) (b.choose r (l ++ [from' + (i : Nat)])).1), vb (b.choose r (l ++ [from' + (i : Nat)])).2], H)) {β : Type} (Q : Ex -> St -> Option β) :
   E Γ a5x ⟨[(0, .sc (.sl k 1 (l.map fun x => [ci x]))), (1, vi many), (2, .sc (.eptr b.c 0)), (3, .sc (.ptr q 0)), (8, vi l.length), (10, vi from')], H⟩ Q =
     match a0z (fun i _ => (b.choose r (l ++ [from' + (i : Nat)])).2) 0 (List.range (b.signs.length - from').toNat) with
     | some (i, _) => Q .ret ⟨[(6, .sc (iC .shared (b.choose r (l ++ [from' + (i : Nat)])).1)), (7, vb true)], H⟩
     | none => Q (.exit 0) ⟨[(0, .sc (.sl k 1 (l.map fun x => [ci x]))), (1, vi many), (2, .sc (.eptr b.c 0)), (3, .sc (.ptr q 0)), (8, vi l.length), (10, vi (from' + (b.signs.length - from').toNat)), (38, vb false)], H⟩ := by
 have hg4 := hs.g4
 have hS := a6u 1 k (l.map fun x => [ci x]) l.length (by simp)
 have hts : H.take n = H := by rw [← hn]; exact List.take_length
 refine Eq.trans (congrArg (fun s => E Γ a5x s Q) (?_ : _ = (⟨[(0, .sc (.sl k 1 (l.map fun x => [ci x]))), (1, vi many), (2, .sc (.eptr b.c 0)), (3, .sc (.ptr q 0)), (8, vi l.length), (10, vi (from' + (0 : Nat)))], H⟩ : St))) ?_
 . simp
 refine (a4L (fun i => ⟨[(0, .sc (.sl k 1 (l.map fun x => [ci x]))), (1, vi many), (2, .sc (.eptr b.c 0)), (3, .sc (.ptr q 0)), (8, vi l.length), (10, vi (from' + (i : Nat)))], H⟩) (List.range (b.signs.length - from').toNat) (fun i _ => (b.choose r (l ++ [from' + (i : Nat)])).2)
   (fun i x => (.ret, ⟨[(6, .sc (iC .shared (b.choose r (l ++ [from' + (i : Nat)])).1)), (7, vb true)], H⟩))
   (.exit 0, ⟨[(0, .sc (.sl k 1 (l.map fun x => [ci x]))), (1, vi many), (2, .sc (.eptr b.c 0)), (3, .sc (.ptr q 0)), (8, vi l.length), (10, vi (from' + (b.signs.length - from').toNat)), (38, vb false)], H⟩) Q ?_ ?_ ?_).trans ?_
 . intro i x hx hqi
   have hlt : i < (b.signs.length - from').toNat := by
     have := (List.getElem?_eq_some_iff.1 hx).1; simpa using this
   have hlt2 : from' + (i : Int) < b.signs.length := by omega
   have hP := a7M 1 k .full (l.map fun x => [ci x]) [ci (from' + (i : Nat))] (by simp only [List.length_map, room]; omega)
   have hiw : IntKind.i64.wrap (from' + (i : Int) + 1) = from' + (i + 1 : Nat) := by rw [wrap_i64 (by omega) (by omega)]; omega
   have hKi := hK i hlt2
   simp only [List.map_append, List.map_cons, List.map_nil] at hKi
   (simp only [go_sem, simprocAttr, a1G, hn, a0E, hhq, hu, hS, hP, hKi, hqi, hiw, hq, hts, iC]; repeat' (first | ((first | refine brY ?_ | refine brN ?_ | refine brA ?_ | refine brD ?_ | refine brF ?_ | ((first | apply a0k | apply a0j); (. intro h; simp only [go_sem, simprocAttr, a0p h, a1G, hn, a0E, hhq, hu, hS, hP, hKi, hqi, hiw, hq, hts, iC]; exact rfl))); (try simp only [go_sem, simprocAttr, a1G, hn, a0E, hhq, hu, hS, hP, hKi, hqi, hiw, hq, hts, iC])) | ((first | apply a0e | apply d7E | apply a0a) <;> intro h <;> (try simp only [go_sem, simprocAttr, h, a1G, hn, a0E, hhq, hu, hS, hP, hKi, hqi, hiw, hq, hts, iC]))))
 . intro i x hx hqi
   have hlt : i < (b.signs.length - from').toNat := by
     have := (List.getElem?_eq_some_iff.1 hx).1; simpa using this
   have hlt2 : from' + (i : Int) < b.signs.length := by omega
   have hP := a7M 1 k .full (l.map fun x => [ci x]) [ci (from' + (i : Nat))] (by simp only [List.length_map, room]; omega)
   have hKi := hK i hlt2
   have hsh := b2C b r _ hqi
   rw [hsh] at hKi
   simp only [List.map_append, List.map_cons, List.map_nil] at hKi
   (simp only [go_sem, simprocAttr, a1G, hn, a0E, hhq, hu, hS, hP, hKi, hqi, hq, hts, iC]; repeat' (first | ((first | refine brY ?_ | refine brN ?_ | refine brA ?_ | refine brD ?_ | refine brF ?_ | ((first | apply a0k | apply a0j); (. intro h; simp only [go_sem, simprocAttr, a0p h, a1G, hn, a0E, hhq, hu, hS, hP, hKi, hqi, hq, hts, iC]; exact rfl))); (try simp only [go_sem, simprocAttr, a1G, hn, a0E, hhq, hu, hS, hP, hKi, hqi, hq, hts, iC])) | ((first | apply a0e | apply d7E | apply a0a) <;> intro h <;> (try simp only [go_sem, simprocAttr, h, a1G, hn, a0E, hhq, hu, hS, hP, hKi, hqi, hq, hts, iC]))))
 . have hnlt : ¬ (from' + ((b.signs.length - from').toNat : Int) < b.signs.length) := by omega
   have hdd := decide_eq_false hnlt
   simp only [List.length_range]
   simp only [go_sem, simprocAttr, a1G, hdd]
 . cases a0z (fun i _ => (b.choose r (l ++ [from' + (i : Nat)])).2) 0 (List.range (b.signs.length - from').toNat) <;> rfl
theorem b8E (b : Book) [hb : b.Fits] (hs : Sane b) (q : Nat) (many : Nat) (hm : many <= 6) : ∀ (r : Nat) (l : List Int) (k : SK) (H : List Obj) (n : Nat), l.length + r = many -> (∀ x, x ∈ l -> 0 <= x /\ x <= 6) -> H.length = n -> q < n →
   H[q]? = some (.var [.fn (.fn 170) [] [] [.eptr b.c 0, .ptr q 0]]) -> H.all (Obj.under n) = true →
   K Γ (.fn 170) [.sc (iC k l), vi many, .sc (.eptr b.c 0), .sc (.ptr q 0)] H = some (.tup [.sc (iC (a4i b k r l) (b.choose r l).1), vb (b.choose r l).2], H) := by
 intro r
 induction r with
 | zero =>
   intro l k H n hlr hl hn hq hhq hu
   have hll : (l.length : Int) = many := by omega
   have h0 : decide ((0 : Int) < ((b.a3d fun n => l.contains n).length : Int)) = !(b.a3d fun n => l.contains n).isEmpty := by
     cases (b.a3d fun n => l.contains n) <;> simp
   have hOu := a1R b (b.a3d fun n => l.contains n)
   have hO := b2l (Γ := Γ) b hs k l (by omega)
   simp only [iC]
   rw [K_fn P04.f170 _ _ rfl]
   simp only [go_sem, simprocAttr, a1d, hn, a0E, hhq, hu, hO, hOu, h0, hll, List.length_map, Book.choose, a4i, (by rw [← hn]; exact List.take_length : H.take n = H)]
 | succ r ih =>
   intro l k H n hlr hl hn hq hhq hu
   have hll : ¬ (l.length : Int) = many := by omega
   have hg4 := hs.g4
   have hts : H.take n = H := by rw [← hn]; exact List.take_length
   have hne : decide ((l.length : Int) = many) = false := decide_eq_false hll
   have hfr : 0 <= a2r l /\ a2r l <= 7 := by
     by_cases he : l = []
     . simp [a2r, he]
     . have hlp : l.length - 1 < l.length := by
         have : l.length ≠ 0 := fun e => he (List.length_eq_zero_iff.1 e)
         omega
       have hm' := hl (l.getD (l.length - 1) 0) (by simp only [List.getD, List.getElem?_eq_getElem hlp, Option.getD_some]; exact List.getElem_mem hlp)
       simp only [a2r, if_neg he]; omega
   have hL {β : Type} (Q : Ex -> St -> Option β) := b7q (Γ := Γ) b hs q many r l k H n (by omega) (a2r l) hfr hn hq hhq hu (fun i hi => by
     have := ih (l ++ [a2r l + (i : Nat)]) .shared H n (by simp; omega) (fun x hx => by
       rcases List.mem_append.1 hx with hx | hx
       . exact hl x hx
       . rw [List.mem_singleton] at hx; subst hx; omega) hn hq hhq hu
     exact this) Q
   have main : (match a0z (fun i _ => (b.choose r (l ++ [a2r l + (i : Nat)])).2) 0 (List.range (b.signs.length - a2r l).toNat) with
       | some (i, _) => some (V.tup [.sc (iC .shared (b.choose r (l ++ [a2r l + (i : Nat)])).1), vb true], H)
       | none => some (V.tup [.sc (.sl .nil 1 []), vb false], H)) = some (V.tup [.sc (iC (a4i b k (r + 1) l) (b.choose (r + 1) l).1), vb (b.choose (r + 1) l).2], H) := by
     simp only [a4i, Book.choose]
     obtain ⟨o, ho⟩ : ∃ o, a0z (fun i _ => (b.choose r (l ++ [a2r l + (i : Nat)])).2) 0 (List.range (b.signs.length - a2r l).toNat) = o := ⟨_, rfl⟩
     simp only [ho]
     cases o <;> rfl
   rw [← main]
   clear main
   simp only [iC]
   rw [K_fn P04.f170 _ _ rfl]
   by_cases he : l = []
   . have hf0 : a2r l = 0 := by simp [a2r, he]
     have hl0 : decide ((0 : Int) < (l.length : Int)) = false := decide_eq_false (by rw [he]; simp)
     simp only [hf0] at hL ⊢
     cases hff : a0z (fun i _ => (b.choose r (l ++ [0 + ((i : Nat) : Int)])).2) 0 (List.range ((b.signs.length : Int) - 0).toNat) with
     | none =>
       simp only [hff] at hL
       simp only [go_sem, simprocAttr, a1d, hn, a0E, hhq, hu, hne, hl0, hL, hts]
     | some p =>
       simp only [hff] at hL
       (simp only [go_sem, simprocAttr, a1d, hn, a0E, hhq, hu, hne, hl0, hL, hts, iC]; repeat' (first | ((first | refine brY ?_ | refine brN ?_ | refine brA ?_ | refine brD ?_ | refine brF ?_ | ((first | apply a0k | apply a0j); (. intro h; simp only [go_sem, simprocAttr, a0p h, a1d, hn, a0E, hhq, hu, hne, hl0, hL, hts, iC]; exact rfl))); (try simp only [go_sem, simprocAttr, a1d, hn, a0E, hhq, hu, hne, hl0, hL, hts, iC])) | ((first | apply a0e | apply d7E | apply a0a) <;> intro h <;> (try simp only [go_sem, simprocAttr, h, a1d, hn, a0E, hhq, hu, hne, hl0, hL, hts, iC]))))
   . have hlp : l.length - 1 < l.length := by
       have : l.length ≠ 0 := fun e => he (List.length_eq_zero_iff.1 e)
       omega
     have hl0 : decide ((0 : Int) < (l.length : Int)) = true := decide_eq_true (by omega)
     have hlw : IntKind.i64.wrap ((l.length : Int) - 1) = l.length - 1 := wrap_i64 (by omega) (by omega)
     have hlt : ((l.length : Int) - 1).toNat = l.length - 1 := by omega
     have hget : l[l.length - 1]? = some (l.getD (l.length - 1) 0) := by simp only [List.getD, List.getElem?_eq_getElem hlp, Option.getD_some]
     have hfw : IntKind.i64.wrap (l.getD (l.length - 1) 0 + 1) = a2r l := by
       have e : a2r l = l.getD (l.length - 1) 0 + 1 := by simp only [a2r, if_neg he]
       rw [e] at hfr ⊢
       exact wrap_i64 (by omega) (by omega)
     cases hff : a0z (fun i _ => (b.choose r (l ++ [a2r l + ((i : Nat) : Int)])).2) 0 (List.range ((b.signs.length : Int) - a2r l).toNat) with
     | none =>
       simp only [hff] at hL
       (simp only [go_sem, simprocAttr, a1d, hn, a0E, hhq, hu, hne, hl0, hlw, hlt, hget, hfw, hL, hts]; repeat' (first | ((first | refine brY ?_ | refine brN ?_ | refine brA ?_ | refine brD ?_ | refine brF ?_ | ((first | apply a0k | apply a0j); (. intro h; simp only [go_sem, simprocAttr, a0p h, a1d, hn, a0E, hhq, hu, hne, hl0, hlw, hlt, hget, hfw, hL, hts]; exact rfl))); (try simp only [go_sem, simprocAttr, a1d, hn, a0E, hhq, hu, hne, hl0, hlw, hlt, hget, hfw, hL, hts])) | ((first | apply a0e | apply d7E | apply a0a) <;> intro h <;> (try simp only [go_sem, simprocAttr, h, a1d, hn, a0E, hhq, hu, hne, hl0, hlw, hlt, hget, hfw, hL, hts]))))
     | some p =>
       simp only [hff] at hL
       (simp only [go_sem, simprocAttr, a1d, hn, a0E, hhq, hu, hne, hl0, hlw, hlt, hget, hfw, hL, hts, iC]; repeat' (first | ((first | refine brY ?_ | refine brN ?_ | refine brA ?_ | refine brD ?_ | refine brF ?_ | ((first | apply a0k | apply a0j); (. intro h; simp only [go_sem, simprocAttr, a0p h, a1d, hn, a0E, hhq, hu, hne, hl0, hlw, hlt, hget, hfw, hL, hts, iC]; exact rfl))); (try simp only [go_sem, simprocAttr, a1d, hn, a0E, hhq, hu, hne, hl0, hlw, hlt, hget, hfw, hL, hts, iC])) | ((first | apply a0e | apply d7E | apply a0a) <;> intro h <;> (try simp only [go_sem, simprocAttr, h, a1d, hn, a0E, hhq, hu, hne, hl0, hlw, hlt, hget, hfw, hL, hts, iC]))))
def Book.wrong (b : Book) : List Int × Int := if b.valid then (match a0z (fun m _ => (b.choose m []).2) 0 (List.range (b.signs.length + 1)) with | some (m, _) => (b.choose m []).1 | none => [], 0) else ([], 40)
def b2A (b : Book) : SK := if b.valid then (match a0z (fun m _ => (b.choose m []).2) 0 (List.range (b.signs.length + 1)) with | some (m, _) => topK (a4i b .nil m []) | none => .nil) else .nil
theorem c0c (b : Book) [hb : b.Fits] (hs : Sane b) (hvc : b.signs.length <= 4) {β : Type} (Q : Ex -> St -> Option β) :
   E Γ a8t ⟨[(5, .sc (.ptr 1 0)), (18, vi (b.signs.length + 1)), (19, vi 0)], [.dead, .var [.fn (.fn 170) [] [] [.eptr b.c 0, .ptr 1 0]]]⟩ Q =
     match a0z (fun m _ => (b.choose m []).2) 0 (List.range (b.signs.length + 1)) with
     | some (m, _) => Q .ret ⟨[(2, .sc (.sl (topK (a4i b .nil m [])) 1 ((b.choose m []).1.map fun x => [ci x]))), (3, vi 0)], [.dead, .var [.fn (.fn 170) [] [] [.eptr b.c 0, .ptr 1 0]]]⟩
     | none => Q (.exit 0) ⟨[(5, .sc (.ptr 1 0)), (18, vi (b.signs.length + 1)), (19, vi (b.signs.length + 1)), (20, vb false)], [.dead, .var [.fn (.fn 170) [] [] [.eptr b.c 0, .ptr 1 0]]]⟩ := by
 have hK (i : Nat) (hi : i <= 6) := b8E (Γ := Γ) b hs 1 i hi i [] .nil [.dead, .var [.fn (.fn 170) [] [] [.eptr b.c 0, .ptr 1 0]]] 2 (by simp) (by simp) rfl (by decide) rfl (by simp [go_sem])
 simp only [iC, List.map_nil] at hK
 refine (a4L (fun i => ⟨[(5, .sc (.ptr 1 0)), (18, vi (b.signs.length + 1)), (19, vi i)], [.dead, .var [.fn (.fn 170) [] [] [.eptr b.c 0, .ptr 1 0]]]⟩) (List.range (b.signs.length + 1)) (fun m _ => (b.choose m []).2)
   (fun m x => (.ret, ⟨[(2, .sc (.sl (topK (a4i b .nil m [])) 1 ((b.choose m []).1.map fun x => [ci x]))), (3, vi 0)], [.dead, .var [.fn (.fn 170) [] [] [.eptr b.c 0, .ptr 1 0]]]⟩))
   (.exit 0, ⟨[(5, .sc (.ptr 1 0)), (18, vi (b.signs.length + 1)), (19, vi (b.signs.length + 1)), (20, vb false)], [.dead, .var [.fn (.fn 170) [] [] [.eptr b.c 0, .ptr 1 0]]]⟩) Q ?_ ?_ ?_).trans ?_
 . intro i x hx hqi
   have hlt : i < b.signs.length + 1 := by have := (List.getElem?_eq_some_iff.1 hx).1; simpa using this
   have hiw : IntKind.i64.wrap ((i : Int) + 1) = i + 1 := wrap_i64 (by omega) (by omega)
   have hKi := hK i (by omega)
   rw [hqi] at hKi
   (simp only [go_sem, simprocAttr, a1U, hKi, hiw]; repeat' (first | ((first | refine brY ?_ | refine brN ?_ | refine brA ?_ | refine brD ?_ | refine brF ?_ | ((first | apply a0k | apply a0j); (. intro h; simp only [go_sem, simprocAttr, a0p h, a1U, hKi, hiw]; exact rfl))); (try simp only [go_sem, simprocAttr, a1U, hKi, hiw])) | ((first | apply a0e | apply d7E | apply a0a) <;> intro h <;> (try simp only [go_sem, simprocAttr, h, a1U, hKi, hiw]))))
   rfl
 . intro i x hx hqi
   have hlt : i < b.signs.length + 1 := by have := (List.getElem?_eq_some_iff.1 hx).1; simpa using this
   have hKi := hK i (by omega)
   rw [hqi] at hKi
   have hS := a6u 1 (a4i b .nil i []) ((b.choose i []).1.map fun x => [ci x]) (b.choose i []).1.length (by simp)
   (simp only [go_sem, simprocAttr, a1U, hKi, hS]; repeat' (first | ((first | refine brY ?_ | refine brN ?_ | refine brA ?_ | refine brD ?_ | refine brF ?_ | ((first | apply a0k | apply a0j); (. intro h; simp only [go_sem, simprocAttr, a0p h, a1U, hKi, hS]; exact rfl))); (try simp only [go_sem, simprocAttr, a1U, hKi, hS])) | ((first | apply a0e | apply d7E | apply a0a) <;> intro h <;> (try simp only [go_sem, simprocAttr, h, a1U, hKi, hS]))))
 . simp only [List.length_range]
   have hdd : decide (((b.signs.length + 1 : Nat) : Int) < b.signs.length + 1) = false := decide_eq_false (by omega)
   simp only [go_sem, simprocAttr, a1U, hdd]
   rfl
 . obtain ⟨o, ho⟩ : ∃ o, a0z (fun m _ => (b.choose m []).2) 0 (List.range (b.signs.length + 1)) = o := ⟨_, rfl⟩
   simp only [ho]
   cases o <;> rfl
@[go_sem] theorem c0E (b : Book) [hb : b.Fits] : K Γ (.fn 143) [.agg b.c] [] = some (.tup [.sc (iC (b2A b) b.wrong.1), vi b.wrong.2], []) := by
 rw [K_fn P04.f143 _ _ rfl]
 rcases Bool.eq_false_or_eq_true b.valid with hv | hv
 rotate_left
 . simp only [Book.wrong, b2A, hv, Bool.false_eq_true, if_false, iC]
   simp only [go_sem, simprocAttr, a4l, hv, Bool.false_eq_true]
 . simp only [Book.wrong, b2A, hv, if_true, iC]
   have hvc := a2n.2 hv
   have hcw : IntKind.i64.wrap ((b.signs.length : Int) + 1) = b.signs.length + 1 := wrap_i64 (by omega) (by omega)
   have hL {β : Type} (Q : Ex -> St -> Option β) := c0c (Γ := Γ) b (a2n.1 hv) hvc Q
   obtain ⟨o, ho⟩ : ∃ o, a0z (fun m _ => (b.choose m []).2) 0 (List.range (b.signs.length + 1)) = o := ⟨_, rfl⟩
   simp only [ho] at hL ⊢
   cases o with
   | none => simp only [go_sem, simprocAttr, a4l, hv, hcw, hL, List.map_nil]
   | some p => simp only [go_sem, simprocAttr, a4l, hv, hcw, hL]
end
end Go.Pm.St
namespace Go.Pm.St
open Ac
/-! ### Rests as a row that is written into -/
def a1A (l : List Rest) : List C := (l.map Rest.c).flatten
theorem a7t (x : Rest) (l : List Rest) : a1A (x :: l) = x.c ++ a1A l := rfl
@[go_sem] theorem b2W : ∀ l : List Rest, (a1A l).length = 2 * l.length
 | [] => rfl
 | x :: l => by
   have h2 : x.c.length = 2 := rfl
   rw [a7t, List.length_append, b2W l, List.length_cons, h2]; omega
theorem a8z (l : List Rest) : ∀ c, c ∈ a1A l -> b1I c = true /\ a0r c = c /\ c.pure = true := by
 intro c hc
 simp only [a1A, List.mem_flatten, List.mem_map] at hc
 obtain ⟨l, ⟨x, -, rfl⟩, hc⟩ := hc
 simp only [Rest.c, List.mem_cons, List.not_mem_nil, or_false] at hc
 rcases hc with rfl | rfl <;> exact ⟨rfl, rfl, rfl⟩
theorem b8T (l : List Rest) : (a1A l).map a0r = a1A l := by
 conv => rhs; rw [← List.map_id (a1A l)]
 exact List.map_congr_left fun c hc => (a8z l c hc).2.1
theorem b3s : ∀ (cs : List C), (∀ c, c ∈ cs -> c.pure = true) -> C.a0v cs = true
 | [], _ => rfl
 | c :: cs, h => by simp only [C.a0v, h c (by simp), b3s cs (fun x hx => h x (by simp [hx])), Bool.and_self]
theorem b1J (l : List Rest) : C.a0v (a1A l) = true := b3s _ fun c hc => (a8z l c hc).2.2
@[go_sem] theorem a1j (n : Nat) (l : List Rest) : C.a0G n (a1A l) = true := a0C n _ (b1J l)
theorem b2r (a cs : List C) : ∀ (vs : List C) (off : Nat), a1H (a ++ cs) (a.length + off) vs = a ++ a1H cs off vs
 | [], _ => rfl
 | v :: vs, off => by
   simp only [a1H]
   rw [List.set_append_right _ _ (by omega), show a.length + off - a.length = off by omega, Nat.add_assoc]
   exact b2r a (cs.set off v) vs (off + 1)
theorem a8y (a cs : List C) : ∀ (n off : Nat), a0R (a ++ cs) (a.length + off) n = a0R cs off n
 | 0, _ => rfl
 | n + 1, off => by
   simp only [a0R]
   rw [List.getElem?_append_right (by omega), show a.length + off - a.length = off by omega, Nat.add_assoc, a8y a cs n (off + 1)]
theorem b1A (a cs : List C) (es : Nat) : ∀ (n off : Nat), chunks (a ++ cs) (a.length + off) es n = chunks cs off es n
 | 0, _ => rfl
 | n + 1, off => by
   simp only [chunks]
   rw [a8y, Nat.add_assoc, b1A a cs es n (off + es)]
theorem a9V : ∀ l : List Rest, chunks (a1A l) 0 2 l.length = some (l.map Rest.c)
 | [] => rfl
 | x :: l => by
   have h := b1A x.c (a1A l) 2 l.length 0
   rw [a9V l, Nat.add_zero] at h
   have h0 : a0R (x.c ++ a1A l) 0 2 = some x.c := rfl
   have e : (x :: l).length = l.length + 1 := rfl
   simp only [a7t, e, chunks, h0]
   have h2 : x.c.length = 2 := rfl
   rw [h2] at h
   simp only [Nat.zero_add, h]; rfl
theorem a7h : ∀ (l : List Rest) (j : Nat) (x : Rest), l[j]? = some x -> a0R (a1A l) (j * 2) 2 = some x.c
 | [], j, x, h => by simp at h
 | y :: l, 0, x, h => by simp at h; subst h; rfl
 | y :: l, j + 1, x, h => by
   have e : (j + 1) * 2 = y.c.length + j * 2 := by
     have : y.c.length = 2 := rfl
     rw [this]; omega
   rw [a7t, e, a8y]
   exact a7h l j x (by simpa using h)
theorem a9W : ∀ (l : List Rest) (j : Nat) (x : Rest), j < l.length -> a1H (a1A l) (j * 2) x.c = a1A (l.set j x)
 | [], j, x, h => by simp at h
 | y :: l, 0, x, h => rfl
 | y :: l, j + 1, x, h => by
   have e : (j + 1) * 2 = y.c.length + j * 2 := by
     have : y.c.length = 2 := rfl
     rw [this]; omega
   rw [a7t, e, b2r, a9W l j x (by simpa using h)]
   rfl
/-! ### Into their order, one after the other -/
def Rest.lt (x y : Rest) : Bool := decide (x.cmp y < 0)
theorem lt_iff {x y : Rest} : x.lt y = true <-> x.day < y.day \/ (x.day = y.day /\ x.singer < y.singer) := by rw [Rest.lt, decide_eq_true_eq, cmp_neg]
def insR (x : Rest) : List Rest -> List Rest
 | [] => [x]
 | y :: l => if x.lt y then x :: y :: l else y :: insR x l
def a1w (l : List Rest) : List Rest := l.foldl (fun p x => insR x p) []
theorem b0a (x : Rest) : ∀ l, (insR x l).Perm (x :: l)
 | [] => List.Perm.refl _
 | y :: l => by
   simp only [insR]
   split
   . exact List.Perm.refl _
   . exact ((b0a x l).cons y).trans (List.Perm.swap x y l)
def Up (l : List Rest) : Prop := l.Pairwise fun x y => y.lt x = false
theorem a8M {x y z : Rest} (h1 : y.lt x = false) (h2 : z.lt y = false) : z.lt x = false := by
 rw [Bool.eq_false_iff] at *
 intro h
 rw [lt_iff] at h
 rw [Ne, lt_iff] at h1 h2
 omega
theorem b5T (x : Rest) : ∀ l, Up l -> Up (insR x l)
 | [], _ => List.pairwise_singleton _ _
 | y :: l, h => by
   obtain ⟨h1, h2⟩ := List.pairwise_cons.1 h
   simp only [insR]
   by_cases hx : x.lt y = true
   . rw [if_pos hx]
     refine List.pairwise_cons.2 ⟨fun z hz => ?_, h⟩
     have hyx : y.lt x = false := by
       rw [Bool.eq_false_iff]; intro e; rw [lt_iff] at e hx; omega
     rcases List.mem_cons.1 hz with rfl | hz
     . exact hyx
     . exact a8M hyx (h1 z hz)
   . rw [if_neg hx]
     refine List.pairwise_cons.2 ⟨fun z hz => ?_, b5T x l h2⟩
     rcases List.mem_cons.1 ((b0a x l).mem_iff.1 hz) with rfl | hz
     . rwa [Bool.not_eq_true] at hx
     . exact h1 z hz
theorem b5K : ∀ (l p : List Rest), Up p -> Up (l.foldl (fun p x => insR x p) p)
 | [], p, h => h
 | x :: l, p, h => b5K l _ (b5T x p h)
theorem b9L (l : List Rest) : Up (a1w l) := b5K l [] List.Pairwise.nil
theorem b2Y : ∀ (l p : List Rest), (l.foldl (fun p x => insR x p) p).Perm (l ++ p)
 | [], p => List.Perm.refl _
 | x :: l, p => (b2Y l _).trans (((b0a x p).append_left l).trans List.perm_middle)
theorem b6V (l : List Rest) : (a1w l).Perm l := by have := b2Y l []; rwa [List.append_nil] at this
theorem a8l (l : List Rest) : (a1w l).length = l.length := (b6V l).length_eq
theorem b6W (l : List Rest) (x : Rest) : a1w (l ++ [x]) = insR x (a1w l) := by simp [a1w]
theorem b5S (x : Rest) : ∀ (p : List Rest) (j : Nat), Up p -> j <= p.length -> (∀ (i : Nat) y, j <= i -> p[i]? = some y -> x.lt y = true) -> (∀ y, 0 < j -> p[j - 1]? = some y -> x.lt y = false) -> insR x p = p.take j ++ x :: p.drop j
 | [], j, _, hj, _, _ => by
   have : j = 0 := by simpa using hj
   subst this; rfl
 | y :: p, 0, h, _, h1, _ => by
   have := h1 0 y (Nat.le_refl _) rfl
   simp only [insR, this, if_true]; rfl
 | y :: p, j + 1, h, hj, h1, h2 => by
   obtain ⟨h3, h4⟩ := List.pairwise_cons.1 h
   have hxy : x.lt y = false := by
     cases j with
     | zero => exact h2 y (by omega) rfl
     | succ j =>
       have hlt : j < p.length := by simp at hj; omega
       have h5 := h2 (p[j]) (by omega) (by simp [hlt])
       have h6 := h3 p[j] (List.getElem_mem _)
       exact a8M h6 h5
   simp only [insR, hxy, Bool.false_eq_true, if_false, List.take_succ_cons, List.drop_succ_cons, List.cons_append]
   rw [b5S x p j h4 (by simpa using hj) (fun i z hi hz => h1 (i + 1) z (by omega) (by simpa using hz)) (fun z hj0 hz => h2 z (by omega) (by cases j with | zero => omega | succ j => simpa using hz))]
def mid (p : List Rest) (x : Rest) (q : List Rest) (j : Nat) : List Rest := p.take j ++ x :: (p.drop j ++ q)
theorem b6d (p : List Rest) (x : Rest) (q : List Rest) (j : Nat) (hj : j <= p.length) : (mid p x q j).length = p.length + 1 + q.length := by
 simp [mid, List.length_take, List.length_drop]; omega
theorem b7S (p : List Rest) (x : Rest) (q : List Rest) (j : Nat) (hj : j <= p.length) : (mid p x q j)[j]? = some x := by
 have : (p.take j).length = j := by rw [List.length_take]; omega
 rw [mid, List.getElem?_append_right (by omega), this, Nat.sub_self]; rfl
theorem b2d (p : List Rest) (x : Rest) (q : List Rest) (j : Nat) {y : Rest} (hy : p[j]? = some y) : (mid p x q (j + 1))[j]? = some y := by
 have hlt := (List.getElem?_eq_some_iff.1 hy).1
 rw [mid, List.getElem?_append_left (by rw [List.length_take]; omega), List.getElem?_take, if_pos (by omega), hy]
theorem b9j (p : List Rest) (x : Rest) (q : List Rest) (j : Nat) {y : Rest} (hy : p[j]? = some y) : ((mid p x q (j + 1)).set (j + 1) y).set j x = mid p x q j := by
 have hlt := (List.getElem?_eq_some_iff.1 hy).1
 have h1 : p.take (j + 1) = p.take j ++ [y] := take_snoc hy
 have h2 : p.drop j = y :: p.drop (j + 1) := by
   rw [List.drop_eq_getElem_cons hlt]
   rw [List.getElem?_eq_getElem hlt, Option.some.injEq] at hy
   rw [hy]
 have hl : (p.take j).length = j := by rw [List.length_take]; omega
 simp only [mid, h1, h2, List.append_assoc, List.cons_append, List.nil_append]
 rw [List.set_append_right _ _ (by omega), hl, show j + 1 - j = 1 by omega]
 rw [List.set_append_right _ _ (by omega), hl, Nat.sub_self]
 rfl
theorem b9i (p : List Rest) (x : Rest) (q : List Rest) : mid p x q p.length = p ++ x :: q := by simp [mid]
end Go.Pm.St
namespace Go.Pm.St
open Ac
def a6v (p : List Rest) (x : Rest) (k : Nat) : Bool := match p[p.length - k - 1]? with
 | some y => !(decide (0 < p.length - k) && x.lt y)
 | none => true
theorem c1u (p : List Rest) (x : Rest) : ∃ k, a1I (a6v p x) (p.length + 1) = some k := by
 cases h : a1I (a6v p x) (p.length + 1) with
 | some k => exact ⟨k, rfl⟩
 | none =>
   rw [a3y] at h
   have := h p.length (by omega)
   simp only [a6v, Nat.sub_self, Nat.lt_irrefl, decide_false, Bool.false_and, Bool.not_false] at this
   split at this <;> simp at this
theorem b9O {p : List Rest} {x : Rest} (q : List Rest) (hup : Up p) {k : Nat} (h : a1I (a6v p x) (p.length + 1) = some k) : mid p x q (p.length - k) = insR x p ++ q := by
 rw [a4j] at h
 obtain ⟨h1, h2, h3⟩ := h
 rw [b5S x p (p.length - k) hup (by omega) (fun i y hi hy => ?_) (fun y hj hy => ?_)]
 . simp [mid]
 . have hlt := (List.getElem?_eq_some_iff.1 hy).1
   have := h3 (p.length - 1 - i) (by omega)
   simp only [a6v] at this
   rw [show p.length - (p.length - 1 - i) - 1 = i by omega, hy] at this
   simp only [Bool.not_eq_false', Bool.and_eq_true] at this
   exact this.2
 . simp only [a6v, hy, Bool.not_eq_true', Bool.and_eq_false_iff, decide_eq_false_iff_not] at h2
   rcases h2 with h2 | h2
   . omega
   . exact h2
section
variable {Γ : Env} [P04 Γ] [G04 Γ]
theorem b7B (H : List Obj) (N r : Nat) (hn : H.length = N) (hr : r < N) (hu : H.all (Obj.under N) = true) (p : List Rest) (x : Rest) (q : List Rest) (n : Nat) (hpn : p.length < n) (hup : Up p) (hl : p.length <= 1000) :
   ∃ j0 : Nat, ∀ {β : Type} (Q : Ex -> St -> Option β), E Γ a2p ⟨[(0, .sc (.msl r 0 n 0 2)), (1, vi 0), (2, vi n), (3, .sc (.fn (.fn 131) [] [] [])), (8, vi p.length), (9, vi p.length)], H.set r (.var (a1A (p ++ x :: q)))⟩ Q =
   Q (.exit 2) ⟨[(0, .sc (.msl r 0 n 0 2)), (1, vi 0), (2, vi n), (3, .sc (.fn (.fn 131) [] [] [])), (8, vi p.length), (9, vi j0), (34, vb false)], H.set r (.var (a1A (insR x p ++ q)))⟩ := by
 obtain ⟨k, hk⟩ := c1u p x
 refine ⟨p.length - k, fun Q => ?_⟩
 have hrl : r < H.length := by omega
 have hg (v : Obj) : (H.set r v)[r]? = some v := b1c _ _ _ hrl
 have hun (v : List Rest) : (H.set r (.var (a1A v))).all (Obj.under N) = true := a6R _ _ _ _ hu (by simp [go_sem])
 have hT (v : Obj) : (H.set r v).take N = H.set r v := List.take_of_length_le (by simp [hn])
 refine (a6N (p.length + 1) (fun k => ⟨[(0, .sc (.msl r 0 n 0 2)), (1, vi 0), (2, vi n), (3, .sc (.fn (.fn 131) [] [] [])), (8, vi p.length), (9, vi ((p.length - k : Nat) : Int))], H.set r (.var (a1A (mid p x q (p.length - k))))⟩) (a6v p x)
   (fun k => (.exit 2, ⟨[(0, .sc (.msl r 0 n 0 2)), (1, vi 0), (2, vi n), (3, .sc (.fn (.fn 131) [] [] [])), (8, vi p.length), (9, vi ((p.length - k : Nat) : Int)), (34, vb false)], H.set r (.var (a1A (mid p x q (p.length - k))))⟩))
   (.exit 2, ⟨[(0, .sc (.msl r 0 n 0 2)), (1, vi 0), (2, vi n), (3, .sc (.fn (.fn 131) [] [] [])), (8, vi p.length), (9, vi 0), (34, vb false)], H.set r (.var (a1A (mid p x q 0)))⟩) Q ?_ ?_ ?_ ?_).trans ?_
 . rw [Nat.sub_zero, b9i]
 . intro k hk hs
   simp only [a6v] at hs
   cases hy : p[p.length - k - 1]? with
   | none => rw [hy] at hs; cases hs
   | some y =>
     rw [hy] at hs
     simp only [Bool.not_eq_false', Bool.and_eq_true, decide_eq_true_eq] at hs
     obtain ⟨h0, hlt⟩ := hs
     obtain ⟨j, hj⟩ : ∃ j, p.length - k = j + 1 := ⟨p.length - k - 1, by omega⟩
     have hj2 : p.length - (k + 1) = j := by omega
     rw [hj, Nat.add_sub_cancel] at hy
     simp only [hj, hj2]
     have hjp : j + 1 <= p.length := by omega
     have hml := b6d p x q (j + 1) hjp
     have hA := a7h _ _ _ (b7S p x q (j + 1) hjp)
     have hB := a7h _ _ _ (b2d p x q j hy)
     have hS1 := a9W (mid p x q (j + 1)) (j + 1) y (by omega)
     have hS2 := a9W ((mid p x q (j + 1)).set (j + 1) y) j x (by rw [List.length_set]; omega)
     rw [b9j p x q j hy] at hS2
     have hp0 : decide ((0 : Int) < ((j + 1 : Nat) : Int)) = true := decide_eq_true (by omega)
     have hw : IntKind.i64.wrap (((j + 1 : Nat) : Int) - 1) = (j : Int) := by rw [wrap_i64 (by omega) (by omega)]; omega
     have hb1 : decide (0 <= ((j + 1 : Nat) : Int) /\ ((j + 1 : Nat) : Int) < n) = true := decide_eq_true (by omega)
     have hb2 : decide (0 <= (j : Int) /\ (j : Int) < n) = true := decide_eq_true (by omega)
     have hc : decide (x.cmp y < 0) = true := hlt
     have hq1 : decide ((j + 1) * 2 + 2 <= 2 * (mid p x q (j + 1)).length) = true := decide_eq_true (by omega)
     have hq2 : decide (j * 2 + 2 <= 2 * (mid p x q (j + 1)).length) = true := decide_eq_true (by omega)
     (simp only [go_sem, simprocAttr, a0B, hp0, hw, hb1, hb2, hq1, hq2, hg, hA, hB, hS1, hS2, hc, hn, a0E, hrl, hT, hun, Int.toNat_natCast, Nat.zero_add, List.length_set]; repeat' (first | ((first | refine brY ?_ | refine brN ?_ | refine brA ?_ | refine brD ?_ | refine brF ?_ | ((first | apply a0k | apply a0j); (. intro h; simp only [go_sem, simprocAttr, a0p h, a0B, hp0, hw, hb1, hb2, hq1, hq2, hg, hA, hB, hS1, hS2, hc, hn, a0E, hrl, hT, hun, Int.toNat_natCast, Nat.zero_add, List.length_set]; exact rfl))); (try simp only [go_sem, simprocAttr, a0B, hp0, hw, hb1, hb2, hq1, hq2, hg, hA, hB, hS1, hS2, hc, hn, a0E, hrl, hT, hun, Int.toNat_natCast, Nat.zero_add, List.length_set])) | ((first | apply a0e | apply d7E | apply a0a) <;> intro h <;> (try simp only [go_sem, simprocAttr, h, a0B, hp0, hw, hb1, hb2, hq1, hq2, hg, hA, hB, hS1, hS2, hc, hn, a0E, hrl, hT, hun, Int.toNat_natCast, Nat.zero_add, List.length_set]))))
 . intro k hk hs
   by_cases h0 : p.length - k = 0
   . have hp0 : decide ((0 : Int) < ((p.length - k : Nat) : Int)) = false := decide_eq_false (by omega)
     simp only [go_sem, simprocAttr, a0B, hp0]
   . obtain ⟨j, hj⟩ : ∃ j, p.length - k = j + 1 := ⟨p.length - k - 1, by omega⟩
     have hjp : j + 1 <= p.length := by omega
     have hy := List.getElem?_eq_getElem (l := p) (show j < p.length by omega)
     simp only [a6v, hj, Nat.add_sub_cancel, hy] at hs
     have hlt : x.lt p[j] = false := by simpa using hs
     simp only [hj]
     have hml := b6d p x q (j + 1) hjp
     have hA := a7h _ _ _ (b7S p x q (j + 1) hjp)
     have hB := a7h _ _ _ (b2d p x q j hy)
     have hp0 : decide ((0 : Int) < ((j + 1 : Nat) : Int)) = true := decide_eq_true (by omega)
     have hw : IntKind.i64.wrap (((j + 1 : Nat) : Int) - 1) = (j : Int) := by rw [wrap_i64 (by omega) (by omega)]; omega
     have hb1 : decide (0 <= ((j + 1 : Nat) : Int) /\ ((j + 1 : Nat) : Int) < n) = true := decide_eq_true (by omega)
     have hb2 : decide (0 <= (j : Int) /\ (j : Int) < n) = true := decide_eq_true (by omega)
     have hc : decide (x.cmp p[j] < 0) = false := hlt
     simp only [go_sem, simprocAttr, a0B, hp0, hw, hb1, hb2, hg, hA, hB, hc, hn, a0E, hrl, Int.toNat_natCast, Nat.zero_add]
 . rw [show p.length - (p.length + 1) = 0 by omega]
   simp only [go_sem, simprocAttr, a0B]
 . rw [hk]
   simp only [b9O q hup hk]
theorem insert_k (H : List Obj) (N r : Nat) (hn : H.length = N) (hr : r < N) (hu : H.all (Obj.under N) = true) (l : List Rest) (hl : l.length <= 1000) (hH : H[r]? = some (.var (a1A l))) :
   K Γ (.fn 178) [.sc (.msl r 0 l.length 0 2), vi 0, vi l.length, .sc (.fn (.fn 131) [] [] [])] H = some (.tup [], H.set r (.var (a1A (a1w l)))) := by
 have hrl : r < H.length := by omega
 have hun (v : List Rest) : (H.set r (.var (a1A v))).all (Obj.under N) = true := a6R _ _ _ _ hu (by simp [go_sem])
 have hT (v : Obj) : (H.set r v).take N = H.set r v := List.take_of_length_le (by simp [hn])
 have h0 : H = H.set r (.var (a1A (a1w (l.take 1) ++ l.drop 1))) := by
   have : a1w (l.take 1) ++ l.drop 1 = l := by cases l <;> rfl
   rw [this, b1j _ _ _ hH]
 have hL {β : Type} (Q : Ex -> St -> Option β) : E Γ a1L ⟨[(0, .sc (.msl r 0 l.length 0 2)), (1, vi 0), (2, vi l.length), (3, .sc (.fn (.fn 131) [] [] [])), (8, vi 1)], H⟩ Q =
     Q (.exit 0) ⟨[(0, .sc (.msl r 0 l.length 0 2)), (1, vi 0), (2, vi l.length), (3, .sc (.fn (.fn 131) [] [] [])), (8, vi ((1 + (l.length - 1) : Nat) : Int)), (14, vb false)], H.set r (.var (a1A (a1w l)))⟩ := by
   refine a4q (l.length - 1) (fun k (_ : Unit) => ⟨[(0, .sc (.msl r 0 l.length 0 2)), (1, vi 0), (2, vi l.length), (3, .sc (.fn (.fn 131) [] [] [])), (8, vi ((1 + k : Nat) : Int))], H.set r (.var (a1A (a1w (l.take (1 + k)) ++ l.drop (1 + k))))⟩) (fun _ _ => True)
     (fun _ => (.exit 0, ⟨[(0, .sc (.msl r 0 l.length 0 2)), (1, vi 0), (2, vi l.length), (3, .sc (.fn (.fn 131) [] [] [])), (8, vi ((1 + (l.length - 1) : Nat) : Int)), (14, vb false)], H.set r (.var (a1A (a1w l)))⟩)) () ?_ trivial ?_ ?_ (fun _ _ => rfl)
   . simp only [Nat.add_zero]; rw [← h0]; rfl
   . intro k _ hk _
     refine ⟨(), trivial, ?_⟩
     have hx := List.getElem?_eq_getElem (l := l) (show 1 + k < l.length by omega)
     have hpl : (a1w (l.take (1 + k))).length = 1 + k := by rw [a8l, List.length_take]; omega
     have hd : l.drop (1 + k) = l[1 + k] :: l.drop (1 + (k + 1)) := by rw [List.drop_eq_getElem_cons (show 1 + k < l.length by omega)]; rfl
     have ht : l.take (1 + (k + 1)) = l.take (1 + k) ++ [l[1 + k]] := take_snoc hx
     obtain ⟨j0, hL⟩ := b7B (Γ := Γ) H N r hn hr hu (a1w (l.take (1 + k))) l[1 + k] (l.drop (1 + (k + 1))) l.length (by omega) (b9L _) (by omega)
     rw [hpl] at hL
     have hlt : decide (((1 + k : Nat) : Int) < l.length) = true := decide_eq_true (by omega)
     have hkw : IntKind.i64.wrap (((1 + k : Nat) : Int) + 1) = ((1 + (k + 1) : Nat) : Int) := by rw [wrap_i64 (by omega) (by omega)]; omega
     rw [hd, ht, b6W]
     (simp only [go_sem, simprocAttr, a0F, hlt, hkw, hL, hn, a0E, hT, hun]; repeat' (first | ((first | refine brY ?_ | refine brN ?_ | refine brA ?_ | refine brD ?_ | refine brF ?_ | ((first | apply a0k | apply a0j); (. intro h; simp only [go_sem, simprocAttr, a0p h, a0F, hlt, hkw, hL, hn, a0E, hT, hun]; exact rfl))); (try simp only [go_sem, simprocAttr, a0F, hlt, hkw, hL, hn, a0E, hT, hun])) | ((first | apply a0e | apply d7E | apply a0a) <;> intro h <;> (try simp only [go_sem, simprocAttr, h, a0F, hlt, hkw, hL, hn, a0E, hT, hun]))))
   . intro _ _
     have hlt : decide (((1 + (l.length - 1) : Nat) : Int) < l.length) = false := decide_eq_false (by omega)
     have e1 : l.take (1 + (l.length - 1)) = l := List.take_of_length_le (by omega)
     have e2 : l.drop (1 + (l.length - 1)) = [] := List.drop_of_length_le (by omega)
     rw [e1, e2, List.append_nil]
     simp only [go_sem, simprocAttr, a0F, hlt]
 rw [K_fn P04.f178 _ _ rfl]
 simp only [go_sem, simprocAttr, a1c, hL, hn, a0E, hT, hun]
end
end Go.Pm.St
namespace Go.Pm.St
open Ac
section
variable {Γ : Env} [P04 Γ] [G04 Γ]
theorem c0k (n : Nat) (hn : n <= 15) : ∃ v : Nat, v <= 4 /\ (8 <= n -> v = 4) /\ K Γ (.fn 161) [.sc (.int .u64 n)] [] = some (vi v, []) := by
 have h : n = 0 \/ n = 1 \/ n = 2 \/ n = 3 \/ n = 4 \/ n = 5 \/ n = 6 \/ n = 7 \/ n = 8 \/ n = 9 \/ n = 10 \/ n = 11 \/ n = 12 \/ n = 13 \/ n = 14 \/ n = 15 := by omega
 have step (n : Nat) (v : UInt8) (hv : K Γ (.fn 187) [.sc (.int .u64 n)] [] = some (vi v.toNat, [])) : K Γ (.fn 161) [.sc (.int .u64 n)] [] = some (vi v.toNat, []) := by
   rw [K_fn P04.f161 _ _ rfl]
   simp only [go_sem, simprocAttr, a5J, hv]
 rcases h with rfl | rfl | rfl | rfl | rfl | rfl | rfl | rfl | rfl | rfl | rfl | rfl | rfl | rfl | rfl | rfl
 . refine ⟨_, ?_, ?_, step 0 0 ?_⟩
   . decide
   . decide
   . rw [K_fn P04.f187 _ _ rfl]
     simp only [go_sem, simprocAttr, a0P]
     refine a0n (by decide) ?_
     refine a2o (x := 0) (by decide) ?_
     simp only [go_sem, simprocAttr]
 . refine ⟨_, ?_, ?_, step 1 1 ?_⟩
   . decide
   . decide
   . rw [K_fn P04.f187 _ _ rfl]
     simp only [go_sem, simprocAttr, a0P]
     refine a0n (by decide) ?_
     refine a2o (x := 1) (by decide) ?_
     simp only [go_sem, simprocAttr]
 . refine ⟨_, ?_, ?_, step 2 2 ?_⟩
   . decide
   . decide
   . rw [K_fn P04.f187 _ _ rfl]
     simp only [go_sem, simprocAttr, a0P]
     refine a0n (by decide) ?_
     refine a2o (x := 2) (by decide) ?_
     simp only [go_sem, simprocAttr]
 . refine ⟨_, ?_, ?_, step 3 2 ?_⟩
   . decide
   . decide
   . rw [K_fn P04.f187 _ _ rfl]
     simp only [go_sem, simprocAttr, a0P]
     refine a0n (by decide) ?_
     refine a2o (x := 2) (by decide) ?_
     simp only [go_sem, simprocAttr]
 . refine ⟨_, ?_, ?_, step 4 3 ?_⟩
   . decide
   . decide
   . rw [K_fn P04.f187 _ _ rfl]
     simp only [go_sem, simprocAttr, a0P]
     refine a0n (by decide) ?_
     refine a2o (x := 3) (by decide) ?_
     simp only [go_sem, simprocAttr]
 . refine ⟨_, ?_, ?_, step 5 3 ?_⟩
   . decide
   . decide
   . rw [K_fn P04.f187 _ _ rfl]
     simp only [go_sem, simprocAttr, a0P]
     refine a0n (by decide) ?_
     refine a2o (x := 3) (by decide) ?_
     simp only [go_sem, simprocAttr]
 . refine ⟨_, ?_, ?_, step 6 3 ?_⟩
   . decide
   . decide
   . rw [K_fn P04.f187 _ _ rfl]
     simp only [go_sem, simprocAttr, a0P]
     refine a0n (by decide) ?_
     refine a2o (x := 3) (by decide) ?_
     simp only [go_sem, simprocAttr]
 . refine ⟨_, ?_, ?_, step 7 3 ?_⟩
   . decide
   . decide
   . rw [K_fn P04.f187 _ _ rfl]
     simp only [go_sem, simprocAttr, a0P]
     refine a0n (by decide) ?_
     refine a2o (x := 3) (by decide) ?_
     simp only [go_sem, simprocAttr]
 . refine ⟨_, ?_, ?_, step 8 4 ?_⟩
   . decide
   . decide
   . rw [K_fn P04.f187 _ _ rfl]
     simp only [go_sem, simprocAttr, a0P]
     refine a0n (by decide) ?_
     refine a2o (x := 4) (by decide) ?_
     simp only [go_sem, simprocAttr]
 . refine ⟨_, ?_, ?_, step 9 4 ?_⟩
   . decide
   . decide
   . rw [K_fn P04.f187 _ _ rfl]
     simp only [go_sem, simprocAttr, a0P]
     refine a0n (by decide) ?_
     refine a2o (x := 4) (by decide) ?_
     simp only [go_sem, simprocAttr]
 . refine ⟨_, ?_, ?_, step 10 4 ?_⟩
   . decide
   . decide
   . rw [K_fn P04.f187 _ _ rfl]
     simp only [go_sem, simprocAttr, a0P]
     refine a0n (by decide) ?_
     refine a2o (x := 4) (by decide) ?_
     simp only [go_sem, simprocAttr]
 . refine ⟨_, ?_, ?_, step 11 4 ?_⟩
   . decide
   . decide
   . rw [K_fn P04.f187 _ _ rfl]
     simp only [go_sem, simprocAttr, a0P]
     refine a0n (by decide) ?_
     refine a2o (x := 4) (by decide) ?_
     simp only [go_sem, simprocAttr]
 . refine ⟨_, ?_, ?_, step 12 4 ?_⟩
   . decide
   . decide
   . rw [K_fn P04.f187 _ _ rfl]
     simp only [go_sem, simprocAttr, a0P]
     refine a0n (by decide) ?_
     refine a2o (x := 4) (by decide) ?_
     simp only [go_sem, simprocAttr]
 . refine ⟨_, ?_, ?_, step 13 4 ?_⟩
   . decide
   . decide
   . rw [K_fn P04.f187 _ _ rfl]
     simp only [go_sem, simprocAttr, a0P]
     refine a0n (by decide) ?_
     refine a2o (x := 4) (by decide) ?_
     simp only [go_sem, simprocAttr]
 . refine ⟨_, ?_, ?_, step 14 4 ?_⟩
   . decide
   . decide
   . rw [K_fn P04.f187 _ _ rfl]
     simp only [go_sem, simprocAttr, a0P]
     refine a0n (by decide) ?_
     refine a2o (x := 4) (by decide) ?_
     simp only [go_sem, simprocAttr]
 . refine ⟨_, ?_, ?_, step 15 4 ?_⟩
   . decide
   . decide
   . rw [K_fn P04.f187 _ _ rfl]
     simp only [go_sem, simprocAttr, a0P]
     refine a0n (by decide) ?_
     refine a2o (x := 4) (by decide) ?_
     simp only [go_sem, simprocAttr]
def b2B (Γ : Env) (m : Nat) : Prop := ∀ (H : List Obj) (N r : Nat) (l : List Rest), H.length = N -> r < N -> H.all (Obj.under N) = true -> l.length <= m -> H[r]? = some (.var (a1A l)) →
 K Γ (.fn 130) [.sc (.msl r 0 l.length 0 2), .sc (.fn (.fn 131) [] [] [])] H = some (.tup [], H.set r (.var (a1A (a1w l))))
theorem c2n (H : List Obj) (N r : Nat) (hn : H.length = N) (hr : r < N) (hu : H.all (Obj.under N) = true) (l : List Rest) (hl : l.length <= 12) (hH : H[r]? = some (.var (a1A l))) (lim : Int) :
   K Γ (.fn 162) [.sc (.msl r 0 l.length 0 2), vi 0, vi l.length, vi lim, .sc (.fn (.fn 131) [] [] [])] H = some (.tup [], H.set r (.var (a1A (a1w l)))) := by
 have hun (v : List Rest) : (H.set r (.var (a1A v))).all (Obj.under N) = true := a6R _ _ _ _ hu (by simp [go_sem])
 have hT (v : Obj) : (H.set r v).take N = H.set r v := List.take_of_length_le (by simp [hn])
 have hk := insert_k (Γ := Γ) H N r hn hr hu l (by omega) hH
 have hw : IntKind.i64.wrap ((l.length : Int) - 0) = l.length := by rw [wrap_i64 (by omega) (by omega)]; omega
 have h12 : decide ((l.length : Int) <= 12) = true := decide_eq_true (by omega)
 rw [K_fn P04.f162 _ _ rfl]
 simp only [go_sem, simprocAttr, a1v, a1Y, a1X, a1J, hw, h12, hk, hn, a0E, hT, hun]
theorem b6l : b2B Γ 12 := by
 intro H N r l hn hr hu hl hH
 have hun (v : List Rest) : (H.set r (.var (a1A v))).all (Obj.under N) = true := a6R _ _ _ _ hu (by simp [go_sem])
 have hT (v : Obj) : (H.set r v).take N = H.set r v := List.take_of_length_le (by simp [hn])
 obtain ⟨v, _, _, hv⟩ := c0k (Γ := Γ) l.length (by omega)
 have hk := c2n (Γ := Γ) H N r hn hr hu l hl hH v
 have hw : IntKind.u64.wrap (l.length : Int) = l.length := by
   have : ∀ n : Nat, n <= 12 -> IntKind.u64.wrap (n : Int) = n := by decide
   exact this _ hl
 rw [K_fn P04.f130 _ _ rfl]
 simp only [go_sem, simprocAttr, a0X, hw, hv, hk, hn, a0E, hT, hun]
theorem c0J (k : SK) (l : List Rest) (H : List Obj) (N : Nat) (hn : H.length = N) (hl : l.length <= 1000) (hne : l ≠ []) (hk : k ≠ .nil) :
   K Γ (.fn 231) [.sc (.sl k 2 (l.map Rest.c))] H = some (.sc (.msl N 0 l.length 0 2), H ++ [.var (a1A l)]) := by
 have hd : decide (k = .nil) = false := decide_eq_false hk
 have ha {β : Type} (p : Nat) (f : C -> Option Obj -> Option β) := b6J 2 k (l.map Rest.c) p f (by simpa using hne) (by simp only [List.length_map, room]; omega)
 rw [K_fn P04.f231 _ _ rfl]
 simp only [go_sem, simprocAttr, a1a, hd, hn, a0E, ha, List.length_map]
 rfl
end
end Go.Pm.St
namespace Go.Pm.St
open Ac
def drawn (s : Span) (n : Int) : Int := s.lo + turn n (s.hi - s.lo + 1)
section
variable {Γ : Env} [P04 Γ]
@[go_sem] theorem d0l (a b c : Int) : K Γ (.fn 29) [vi a, vi b, vi c] [] = some (vb (within a b c), []) := by
 rw [K_fn P04.f29 _ _ rfl]
 (simp only [go_sem, simprocAttr, a2w]; repeat' (first | ((first | refine brY ?_ | refine brN ?_ | refine brA ?_ | refine brD ?_ | refine brF ?_ | ((first | apply a0k | apply a0j); (. intro h; simp only [go_sem, simprocAttr, a0p h, a2w]; exact rfl))); (try simp only [go_sem, simprocAttr, a2w])) | ((first | apply a0e | apply d7E | apply a0a) <;> intro h <;> (try simp only [go_sem, simprocAttr, h, a2w]))))
 all_goals (simp_all [within]; try (intros; omega))
@[go_sem] theorem c7G (a b : Int) : K Γ (.fn 33) [vi a, vi b] [] = some (.agg [ci a, ci b], []) := by
 rw [K_fn P04.f33 _ _ rfl]
 simp only [go_sem, simprocAttr, a3N]
@[go_sem] theorem d0m (a : Int) : K Γ (.fn 30) [vi a] [] = some (.agg [ci a, ci a], []) := by
 rw [K_fn P04.f30 _ _ rfl]
 simp only [go_sem, simprocAttr, a4A]
theorem b7i (s : Span) (low high wide : Int) (hl : 0 <= low) (hh : high <= 1000) :
   K Γ (.fn 49) [.agg [ci s.lo, ci s.hi], vi low, vi high, vi wide] [] = some (vb (s.is low high wide), []) := by
 rw [K_fn P04.f49 _ _ rfl]
 (simp only [go_sem, simprocAttr, a2v]; repeat' (first | ((first | refine brY ?_ | refine brN ?_ | refine brA ?_ | refine brD ?_ | refine brF ?_ | ((first | apply a0k | apply a0j); (. intro h; simp only [go_sem, simprocAttr, a0p h, a2v]; exact rfl))); (try simp only [go_sem, simprocAttr, a2v])) | ((first | apply a0e | apply d7E | apply a0a) <;> intro h <;> (try simp only [go_sem, simprocAttr, h, a2v]))))
 by_cases h : low <= s.lo /\ s.lo <= s.hi /\ s.hi <= high
 . rw [wrap_i64 (by omega) (by omega)]; rfl
 . simp only [Span.is]
   have e : (decide (low <= s.lo) && decide (s.lo <= s.hi) && decide (s.hi <= high)) = false := by
     rw [Bool.eq_false_iff]; intro e; simp only [Bool.and_eq_true, decide_eq_true_eq] at e; omega
   simp only [e, Bool.false_and]
@[go_sem] theorem d3F (set n : Int) : K Γ (.fn 65) [vi set, vi n] [] = some (vb (d2J set n), []) := by
 rw [K_fn P04.f65 _ _ rfl]
 by_cases h0 : 0 <= n
 . by_cases h1 : n < 62
   . have hm : Nat.min n.toNat IntKind.i64.bits = n.toNat := Nat.min_eq_left (show n.toNat <= 64 by omega)
     have hn : decide (n < 0) = false := decide_eq_false (by omega)
     have d0 := decide_eq_true h0
     have d1 := decide_eq_true h1
     simp only [go_sem, simprocAttr, d2y, d0, d1, hn, hm, d2J]
     rfl
   . have d0 := decide_eq_true h0
     have d1 := decide_eq_false h1
     simp only [go_sem, simprocAttr, d2y, d0, d1, d2J, Bool.false_and]
 . have d0 := decide_eq_false h0
   simp only [go_sem, simprocAttr, d2y, d0, d2J, Bool.false_and]
@[go_sem] theorem d3s (set below : Int) (hb : 0 <= below /\ below <= 1000) : K Γ (.fn 35) [vi set, vi below] [] = some (.sc (.sl (kF (d2D set below.toNat)) 1 ((d2D set below.toNat).map fun x => [ci x])), []) := by
 rw [K_fn P04.f35 _ _ rfl]
 simp only [go_sem, simprocAttr, d2F]
 refine a4q below.toNat (fun i (_ : Unit) => ⟨[(0, vi set), (1, vi below), (5, .sc (ownF 1 ((d2D set i).map fun x => [ci x]))), (6, vi i)], []⟩) (fun i _ => (d2D set i).length <= i)
   (fun _ => (.exit 0, ⟨[(0, vi set), (1, vi below), (5, .sc (ownF 1 ((d2D set below.toNat).map fun x => [ci x]))), (6, vi below), (10, vb false)], []⟩)) () rfl (by simp [d2D]) ?_ ?_ ?_
 . intro i _ hi hlen
   have hlt := decide_eq_true (show (i : Int) < below by omega)
   have hiw : IntKind.i64.wrap ((i : Int) + 1) = i + 1 := wrap_i64 (by omega) (by omega)
   have hA := d1w 1 .full ((d2D set i).map fun x => [ci x]) [ci i] (by simp only [List.length_map, room]; omega)
   refine ⟨(), ?_, ?_⟩
   . rw [d3c]; split
     . simp; omega
     . omega
   . rw [d3c]
     cases h : d2J set (i : Int) with
     | true =>
       rw [if_pos rfl, List.map_append, List.map_cons, List.map_nil, d3p]
       simp only [go_sem, simprocAttr, d2A, hlt, h, hA, hiw]
       rfl
     | false =>
       rw [if_neg (by decide)]
       simp only [go_sem, simprocAttr, d2A, hlt, h, hiw]
       rfl
 . intro _ _
   have hm : (below.toNat : Int) = below := by omega
   simp only [hm]
   simp only [go_sem, simprocAttr, d2A]
 . intro _ _
   simp only [go_sem, simprocAttr, d3j, d3u]
@[go_sem] theorem d3m (k k' : SK) (l m : List Int) (hl : l.length <= 1000000) (hm : m.length <= 1000000) : K Γ (.fn 67) [.sc (.sl k 1 (l.map fun x => [ci x])), .sc (.sl k' 1 (m.map fun x => [ci x]))] [] = some (vb (earlier l m), []) := by
 rw [K_fn P04.f67 _ _ rfl]
 simp only [go_sem, simprocAttr, d2B]
 have hz : (l.zip m).length <= l.length /\ (l.zip m).length <= m.length := by simp [List.length_zip]; omega
 have hzm : (l.zip m).length = l.length \/ (l.zip m).length = m.length := by simp [List.length_zip]; omega
 obtain ⟨u, hu⟩ : ∃ u : Bool, decide (((l.zip m).length : Int) < l.length) = u := ⟨_, rfl⟩
 refine (a4L (fun i => ⟨[(0, .sc (.sl k 1 (l.map fun x => [ci x]))), (1, .sc (.sl k' 1 (m.map fun x => [ci x]))), (5, vi i)], []⟩) (l.zip m) (fun _ (p : Int × Int) => decide (p.1 ≠ p.2))
   (fun i p => (.ret, ⟨[(4, vb (decide (p.1 < p.2)))], []⟩)) (.exit 0, ⟨[(0, .sc (.sl k 1 (l.map fun x => [ci x]))), (1, .sc (.sl k' 1 (m.map fun x => [ci x]))), (5, vi (l.zip m).length), (15, vb false)], []⟩) _ ?_ ?_ ?_).trans ?_
 . intro i p hp hf
   obtain ⟨h1, h2⟩ := List.getElem?_zip_eq_some.1 hp
   have d1 := decide_eq_true (show (i : Int) < l.length by have := (List.getElem?_eq_some_iff.1 h1).1; omega)
   have d2 := decide_eq_true (show (i : Int) < m.length by have := (List.getElem?_eq_some_iff.1 h2).1; omega)
   have hi : IntKind.i64.wrap ((i : Int) + 1) = i + 1 := wrap_i64 (by have := (List.getElem?_eq_some_iff.1 h1).1; omega) (by have := (List.getElem?_eq_some_iff.1 h1).1; omega)
   have hne : decide (p.1 = p.2) = true := by
     simp only [ne_eq, decide_not, Bool.not_eq_false'] at hf; exact hf
   (simp only [go_sem, simprocAttr, d2t, h1, h2, d1, d2, hi, hne]; repeat' (first | ((first | refine brY ?_ | refine brN ?_ | refine brA ?_ | refine brD ?_ | refine brF ?_ | ((first | apply a0k | apply a0j); (. intro h; simp only [go_sem, simprocAttr, a0p h, d2t, h1, h2, d1, d2, hi, hne]; exact rfl))); (try simp only [go_sem, simprocAttr, d2t, h1, h2, d1, d2, hi, hne])) | ((first | apply a0e | apply d7E | apply a0a) <;> intro h <;> (try simp only [go_sem, simprocAttr, h, d2t, h1, h2, d1, d2, hi, hne]))))
   rfl
 . intro i p hp hf
   obtain ⟨h1, h2⟩ := List.getElem?_zip_eq_some.1 hp
   have d1 := decide_eq_true (show (i : Int) < l.length by have := (List.getElem?_eq_some_iff.1 h1).1; omega)
   have d2 := decide_eq_true (show (i : Int) < m.length by have := (List.getElem?_eq_some_iff.1 h2).1; omega)
   have hne : decide (p.1 = p.2) = false := by
     simp only [ne_eq, decide_not, Bool.not_eq_true'] at hf; exact hf
   (simp only [go_sem, simprocAttr, d2t, h1, h2, d1, d2, hne]; repeat' (first | ((first | refine brY ?_ | refine brN ?_ | refine brA ?_ | refine brD ?_ | refine brF ?_ | ((first | apply a0k | apply a0j); (. intro h; simp only [go_sem, simprocAttr, a0p h, d2t, h1, h2, d1, d2, hne]; exact rfl))); (try simp only [go_sem, simprocAttr, d2t, h1, h2, d1, d2, hne])) | ((first | apply a0e | apply d7E | apply a0a) <;> intro h <;> (try simp only [go_sem, simprocAttr, h, d2t, h1, h2, d1, d2, hne]))))
 . by_cases hlm : ((l.zip m).length : Int) < l.length
   . have d1 := decide_eq_true hlm
     have d2 : decide (((l.zip m).length : Int) < m.length) = false := decide_eq_false (by omega)
     simp only [go_sem, simprocAttr, d2t, d1, d2]
   . have d1 := decide_eq_false hlm
     simp only [go_sem, simprocAttr, d2t, d1]
 . cases h : a0z (fun _ (p : Int × Int) => decide (p.1 ≠ p.2)) 0 (l.zip m) with
   | none => simp only [go_sem, simprocAttr, earlier, h]
   | some q => simp only [go_sem, simprocAttr, earlier, h]
@[go_sem] theorem d3o (k k' : SK) (l m : List Int) (hl : l.length <= 1000000) (hm : m.length <= 1000000) : K Γ (.fn 37) [.sc (.sl k 1 (l.map fun x => [ci x])), .sc (.sl k' 1 (m.map fun x => [ci x]))] [] = some (vb (shorter l m), []) := by
 have hE := d3m (Γ := Γ) k k' l m hl hm
 rw [K_fn P04.f37 _ _ rfl]
 by_cases h1 : (l.length : Int) < m.length
 . have d1 := decide_eq_true h1
   simp only [go_sem, simprocAttr, d2w, d1, shorter, Bool.true_or]
 . have d1 := decide_eq_false h1
   by_cases h2 : (l.length : Int) = m.length
   . have d2 := decide_eq_true h2
     simp only [go_sem, simprocAttr, d2w, d1, d2, hE, shorter, Bool.false_or]
   . have d2 := decide_eq_false h2
     simp only [go_sem, simprocAttr, d2w, d1, d2, shorter, Bool.false_or, Bool.false_and]
@[go_sem] theorem c0w (k k' : SK) (l m : List Int) (hl : l.length <= 1000000) (hm : m.length <= 1000000) : K Γ (.fn 23) [.sc (.sl k 1 (l.map fun x => [ci x])), .sc (.sl k' 1 (m.map fun x => [ci x]))] [] = some (vb (decide (l = m)), []) := by
 rw [K_fn P04.f23 _ _ rfl]
 by_cases hlm : (l.length : Int) = m.length
 . have d1 := decide_eq_true hlm
   have hz : (l.zip m).length = l.length := by simp [List.length_zip]; omega
   simp only [go_sem, simprocAttr, a3l, d1]
   refine (b5G (fun i (a : Bool) => ⟨[(0, .sc (.sl k 1 (l.map fun x => [ci x]))), (1, .sc (.sl k' 1 (m.map fun x => [ci x]))), (5, vb a), (6, vi i)], []⟩) (l.zip m)
     (fun i a p => if a then .inl (decide (p.1 = p.2)) else .inr (.exit 0, ⟨[(0, .sc (.sl k 1 (l.map fun x => [ci x]))), (1, .sc (.sl k' 1 (m.map fun x => [ci x]))), (5, vb false), (6, vi i), (18, vb false)], []⟩))
     (fun a => (.exit 0, ⟨[(0, .sc (.sl k 1 (l.map fun x => [ci x]))), (1, .sc (.sl k' 1 (m.map fun x => [ci x]))), (5, vb a), (6, vi (l.zip m).length), (18, vb false)], []⟩)) _ ?_ ?_ ?_ true).trans ?_
   . intro i a p a' hp hf
     obtain ⟨h1, h2⟩ := List.getElem?_zip_eq_some.1 hp
     have d1 := decide_eq_true (show (i : Int) < l.length by have := (List.getElem?_eq_some_iff.1 h1).1; omega)
     have hi : IntKind.i64.wrap ((i : Int) + 1) = i + 1 := wrap_i64 (by have := (List.getElem?_eq_some_iff.1 h1).1; omega) (by have := (List.getElem?_eq_some_iff.1 h1).1; omega)
     cases a with
     | false => simp at hf
     | true =>
       simp only [if_true, Sum.inl.injEq] at hf
       subst hf
       (simp only [go_sem, simprocAttr, a1b, h1, h2, d1, hi]; repeat' (first | ((first | refine brY ?_ | refine brN ?_ | refine brA ?_ | refine brD ?_ | refine brF ?_ | ((first | apply a0k | apply a0j); (. intro h; simp only [go_sem, simprocAttr, a0p h, a1b, h1, h2, d1, hi]; exact rfl))); (try simp only [go_sem, simprocAttr, a1b, h1, h2, d1, hi])) | ((first | apply a0e | apply d7E | apply a0a) <;> intro h <;> (try simp only [go_sem, simprocAttr, h, a1b, h1, h2, d1, hi]))))
       rfl
   . intro i a p r hp hf
     cases a with
     | true => simp at hf
     | false =>
       simp only [Bool.false_eq_true, if_false, Sum.inr.injEq] at hf
       subst hf
       (simp only [go_sem, simprocAttr, a1b]; repeat' (first | ((first | refine brY ?_ | refine brN ?_ | refine brA ?_ | refine brD ?_ | refine brF ?_ | ((first | apply a0k | apply a0j); (. intro h; simp only [go_sem, simprocAttr, a0p h, a1b]; exact rfl))); (try simp only [go_sem, simprocAttr, a1b])) | ((first | apply a0e | apply d7E | apply a0a) <;> intro h <;> (try simp only [go_sem, simprocAttr, h, a1b]))))
   . intro a
     have d1 : decide (((l.zip m).length : Int) < l.length) = false := decide_eq_false (by omega)
     cases a with
     | true => simp only [go_sem, simprocAttr, a1b, d1]
     | false => simp only [go_sem, simprocAttr, a1b]
   . have key : ∀ (ps : List (Int × Int)) (n : Nat) (a : Bool), ∃ j e, a4N (fun (i : Nat) (a : Bool) (p : Int × Int) => if a then Sum.inl (decide (p.1 = p.2)) else Sum.inr (Ex.exit 0, (⟨[(0, .sc (.sl k 1 (l.map fun x => [ci x]))), (1, .sc (.sl k' 1 (m.map fun x => [ci x]))), (5, vb false), (6, vi i), (18, vb false)], []⟩ : St)))
         (fun a => (.exit 0, ⟨[(0, .sc (.sl k 1 (l.map fun x => [ci x]))), (1, .sc (.sl k' 1 (m.map fun x => [ci x]))), (5, vb a), (6, vi (l.zip m).length), (18, vb false)], []⟩)) n a ps =
         (.exit 0, ⟨[(0, .sc (.sl k 1 (l.map fun x => [ci x]))), (1, .sc (.sl k' 1 (m.map fun x => [ci x]))), (5, vb e), (6, vi j), (18, vb false)], []⟩) /\ e = (a && decide (∀ p, p ∈ ps -> p.1 = p.2)) := by
       intro ps
       induction ps with
       | nil => intro n a; exact ⟨_, a, rfl, by simp⟩
       | cons p ps ih =>
         intro n a
         cases a with
         | false => exact ⟨n, false, rfl, by simp⟩
         | true =>
           obtain ⟨j, e, h1, h2⟩ := ih (n + 1) (decide (p.1 = p.2))
           refine ⟨j, e, by simp only [a4N, if_true]; exact h1, ?_⟩
           rw [h2, Bool.true_and]
           by_cases hp : p.1 = p.2
           . have e1 : (∀ q, q ∈ p :: ps -> q.1 = q.2) <-> (∀ q, q ∈ ps -> q.1 = q.2) := by simp [hp]
             rw [decide_eq_true hp, Bool.true_and, decide_eq_decide.2 e1]
           . have e1 : ¬ (∀ q, q ∈ p :: ps -> q.1 = q.2) := fun h => hp (h p (by simp))
             rw [decide_eq_false hp, Bool.false_and, decide_eq_false e1]
     obtain ⟨j, e, h1, h2⟩ := key (l.zip m) 0 true
     rw [h1]
     have he : e = decide (l = m) := by
       rw [h2, Bool.true_and, decide_eq_decide]
       constructor
       . intro h
         apply List.ext_getElem?
         intro i
         by_cases hi : i < l.length
         . have hi' : i < m.length := by omega
           have := h (l[i], m[i]) (List.mem_of_getElem? (List.getElem?_zip_eq_some.2 ⟨List.getElem?_eq_getElem hi, List.getElem?_eq_getElem hi'⟩))
           rw [List.getElem?_eq_getElem hi, List.getElem?_eq_getElem hi']
           exact congrArg some this
         . rw [List.getElem?_eq_none (by omega), List.getElem?_eq_none (by omega)]
       . rintro rfl p hp
         obtain ⟨i, hi⟩ := List.getElem?_of_mem hp
         obtain ⟨a1, a2⟩ := List.getElem?_zip_eq_some.1 hi
         rw [a1] at a2; exact Option.some.inj a2
     subst he
     (simp only [go_sem, simprocAttr]; repeat' (first | ((first | refine brY ?_ | refine brN ?_ | refine brA ?_ | refine brD ?_ | refine brF ?_ | ((first | apply a0k | apply a0j); (. intro h; simp only [go_sem, simprocAttr, a0p h]; exact rfl))); (try simp only [go_sem, simprocAttr])) | ((first | apply a0e | apply d7E | apply a0a) <;> intro h <;> (try simp only [go_sem, simprocAttr, h]))))
 . have d1 := decide_eq_false hlm
   have hne : decide (l = m) = false := decide_eq_false (fun e => hlm (by rw [e]))
   simp only [go_sem, simprocAttr, a3l, d1, hne, a6n, a1b, a1J]
end
end Go.Pm.St
namespace Go.Pm.St
open Ac
def b1v (set k : Nat) : Bool := decide (a5l .i64 (BitVec.ofInt 64 ((set : Int).fdiv (2 ^ k)) &&& BitVec.ofInt 64 1) = 1)
def a7u (b : Book) (i : Nat) (j : Nat) : List Rest := ((List.range j).filter fun k => !b.rest i (b.o + k)).map fun (k : Nat) => ⟨((b.o + k : Nat) : Int), i⟩
def Book.free (b : Book) (i : Nat) : List Rest := a7u b i (b.days.length - b.o)
theorem b6r (b : Book) (i j : Nat) : a7u b i (j + 1) = if b.rest i (b.o + j) then a7u b i j else a7u b i j ++ [⟨((b.o + j : Nat) : Int), i⟩] := by
 simp only [a7u, List.range_succ, List.filter_append, List.map_append]
 cases h : b.rest i (b.o + j) <;> simp [h]
theorem b2Z (b : Book) (i j : Nat) : (a7u b i j).length <= j := by
 simp only [a7u, List.length_map]
 exact Nat.le_trans (List.length_filter_le _ _) (by simp)
def subN (set : Nat) (l : List Rest) (j : Nat) : List Rest := ((List.range j).filter fun k => b1v set k).filterMap fun k => l[k]?
def sub (set : Nat) (l : List Rest) : List Rest := subN set l l.length
theorem b8m (set : Nat) {l : List Rest} {j : Nat} {x : Rest} (h : l[j]? = some x) : subN set l (j + 1) = if b1v set j then subN set l j ++ [x] else subN set l j := by
 simp only [subN, List.range_succ, List.filter_append, List.filterMap_append]
 cases hb : b1v set j <;> simp [hb, h]
theorem b1n (set : Nat) (l : List Rest) (j : Nat) : (subN set l j).length <= j := by
 simp only [subN]
 refine Nat.le_trans (List.length_filterMap_le _ _) (Nat.le_trans (List.length_filter_le _ _) (by simp))
def a5c (b : Book) (i j : Nat) : List (List Rest) := ((List.range j).map fun s => sub s (b.free i)).filter fun l => b.well (a1M b.F l) i
def Book.alone (b : Book) (i : Nat) : List (List Rest) := a5c b i (2 ^ (b.free i).length)
theorem b5g (b : Book) (i j : Nat) : a5c b i (j + 1) = if b.well (a1M b.F (sub j (b.free i))) i then a5c b i j ++ [sub j (b.free i)] else a5c b i j := by
 simp only [a5c, List.range_succ, List.map_append, List.filter_append]
 cases h : b.well (a1M b.F (sub j (b.free i))) i <;> simp [h]
theorem b1s (b : Book) (i j : Nat) : (a5c b i j).length <= j := by
 simp only [a5c]
 exact Nat.le_trans (List.length_filter_le _ _) (by simp)
abbrev rl (l : List Rest) : List (List C) := l.map Rest.c
def rC (l : List Rest) : C := .sl (kS l) 2 (rl l)
abbrev rlC (ls : List (List Rest)) : List (List C) := ls.map fun l => [rC l]
theorem b3u (l : List Rest) (x : Rest) : rl (l ++ [x]) = rl l ++ [x.c] := by simp [rl]
theorem b6S (l : List (List Rest)) (x : List Rest) : rlC (l ++ [x]) = rlC l ++ [[rC x]] := by simp [rlC]
theorem b1p (l : List Rest) : a0r (ownC 2 (rl l)) = rC l := by rw [a9I, rC]; cases l <;> rfl
theorem b8q (l : List (List Rest)) : a0r (ownC 1 (rlC l)) = .sl (kS l) 1 (rlC l) := by rw [a9I]; cases l <;> rfl
theorem b9t {n : Nat} (h : n <= 5) : IntKind.i64.wrap (1 * 2 ^ (n.min IntKind.i64.bits)) = ((2 ^ n : Nat) : Int) := by
 have : ∀ n : Nat, n <= 5 -> IntKind.i64.wrap (1 * 2 ^ (n.min IntKind.i64.bits)) = ((2 ^ n : Nat) : Int) := by decide
 exact this n h
theorem b6h {n : Nat} (h : n <= 5) : 2 ^ n <= 32 := Nat.pow_le_pow_right (by decide) h
section
variable {Γ : Env} [P04 Γ] [G04 Γ]
theorem b8w (b : Book) (hs : Sane b) (i : Nat) (hi : i < b.singers.length) {β : Type} (Q : Ex -> St -> Option β) :
   E Γ a6C ⟨[(1, vi i), (2, .sc (.ptr 0 0)), (5, .sc (.sl .nil 2 [])), (6, vi b.o)], [.var (O b b.now)]⟩ Q =
   Q (.exit 0) ⟨[(1, vi i), (2, .sc (.ptr 0 0)), (5, .sc (ownC 2 (rl (b.free i)))), (6, vi b.days.length), (20, vb false)], [.var (O b b.now)]⟩ := by
 have hO := a1R b b.now
 have hd5 := hs.d5
 obtain ⟨ho, hol⟩ := o_eq hs
 refine a4q (b.days.length - b.o) (fun j (_ : Unit) => ⟨[(1, vi i), (2, .sc (.ptr 0 0)), (5, .sc (ownC 2 (rl (a7u b i j)))), (6, vi ((b.o + j : Nat) : Int))], [.var (O b b.now)]⟩) (fun _ _ => True)
   (fun _ => (.exit 0, ⟨[(1, vi i), (2, .sc (.ptr 0 0)), (5, .sc (ownC 2 (rl (b.free i)))), (6, vi b.days.length), (20, vb false)], [.var (O b b.now)]⟩)) () rfl trivial ?_ ?_ (fun _ _ => rfl)
 . intro j _ hj _
   refine ⟨(), trivial, ?_⟩
   have hlt : decide (((b.o + j : Nat) : Int) < b.days.length) = true := decide_eq_true (by omega)
   have hw : IntKind.i64.wrap (((b.o + j : Nat) : Int) + 1) = ((b.o + (j + 1) : Nat) : Int) := by rw [wrap_i64 (by omega) (by omega)]; omega
   have hF := F_at b (b.o + j) i
   change b.F [((b.o + j : Nat) : Int), (i : Int)] = b.rest i (b.o + j) at hF
   have happ := a2K 2 (rl (a7u b i j)) .full [ci ((b.o + j : Nat) : Int), ci i] (by have := b2Z b i j; simp only [rl, List.length_map, room]; omega)
   rw [b6r]
   cases hr : b.rest i (b.o + j) with
   | true =>
     rw [hr] at hF
     simp only [if_true]
     simp only [go_sem, simprocAttr, a3s, hlt, hw, hF, hO]
   | false =>
     rw [hr] at hF
     simp only [Bool.false_eq_true, if_false, b3u, Rest.c]
     simp only [go_sem, simprocAttr, a3s, hlt, hw, hF, hO, happ]
 . intro _ _
   have hlt : decide (((b.o + (b.days.length - b.o) : Nat) : Int) < b.days.length) = false := decide_eq_false (by omega)
   have e : b.o + (b.days.length - b.o) = b.days.length := by omega
   simp only [e] at hlt ⊢
   simp only [go_sem, simprocAttr, a3s, hlt]
   rfl
theorem b8y (b : Book) (i : Nat) (set : Nat) (hset : set <= 40) (l : List Rest) (hl : l.length <= 5) (c5 c7 : C) (h5 : ∀ n, C.under n c5 = true) (h7 : ∀ n, C.under n c7 = true) (p : Int) {β : Type} (Q : Ex -> St -> Option β) :
   E Γ a6E ⟨[(1, vi i), (2, .sc (.ptr 0 0)), (5, .sc c5), (7, .sc c7), (8, vi set), (9, .sc (.sl .nil 2 [])), (38, vi p), (39, vi set), (42, .sc (rC l)), (43, vi l.length), (44, vi 0)], [.var (O b b.now)]⟩ Q =
   Q (.exit 4) ⟨[(1, vi i), (2, .sc (.ptr 0 0)), (5, .sc c5), (7, .sc c7), (8, vi set), (9, .sc (ownC 2 (rl (sub set l)))), (38, vi p), (39, vi set), (42, .sc (rC l)), (43, vi l.length), (44, vi l.length), (45, vb false)], [.var (O b b.now)]⟩ := by
 have hO := a1R b b.now
 refine a4Q (fun j => ⟨[(1, vi i), (2, .sc (.ptr 0 0)), (5, .sc c5), (7, .sc c7), (8, vi set), (9, .sc (ownC 2 (rl (subN set l j)))), (38, vi p), (39, vi set), (42, .sc (rC l)), (43, vi l.length), (44, vi j)], [.var (O b b.now)]⟩) l
   (.exit 4, ⟨[(1, vi i), (2, .sc (.ptr 0 0)), (5, .sc c5), (7, .sc c7), (8, vi set), (9, .sc (ownC 2 (rl (sub set l)))), (38, vi p), (39, vi set), (42, .sc (rC l)), (43, vi l.length), (44, vi l.length), (45, vb false)], [.var (O b b.now)]⟩) Q rfl ?_ ?_
 . intro j x hx
   have hlt : j < l.length := (List.getElem?_eq_some_iff.1 hx).1
   have hw : IntKind.i64.wrap ((j : Int) + 1) = j + 1 := wrap_i64 (by omega) (by omega)
   have hm : Nat.min j IntKind.i64.bits = j := Nat.min_eq_left (show j <= 64 by omega)
   have hn : decide ((j : Int) < 0) = false := decide_eq_false (by omega)
   have happ := a2K 2 (rl (subN set l j)) .full x.c (by have := b1n set l j; simp only [rl, List.length_map, room]; omega)
   rw [b8m set hx]
   have hb : decide (a5l .i64 (BitVec.ofInt IntKind.i64.bits ((set : Int).fdiv (2 ^ j)) &&& BitVec.ofInt IntKind.i64.bits 1) = 1) = b1v set j := rfl
   cases hbt : b1v set j with
   | true =>
     rw [hbt] at hb
     simp only [if_true, b3u]
     (simp only [go_sem, simprocAttr, a0T, rC, hx, hw, hm, hn, hb, hO, h5, h7, happ]; repeat' (first | ((first | refine brY ?_ | refine brN ?_ | refine brA ?_ | refine brD ?_ | refine brF ?_ | ((first | apply a0k | apply a0j); (. intro h; simp only [go_sem, simprocAttr, a0p h, a0T, rC, hx, hw, hm, hn, hb, hO, h5, h7, happ]; exact rfl))); (try simp only [go_sem, simprocAttr, a0T, rC, hx, hw, hm, hn, hb, hO, h5, h7, happ])) | ((first | apply a0e | apply d7E | apply a0a) <;> intro h <;> (try simp only [go_sem, simprocAttr, h, a0T, rC, hx, hw, hm, hn, hb, hO, h5, h7, happ]))))
     rfl
   | false =>
     rw [hbt] at hb
     simp only [Bool.false_eq_true, if_false]
     (simp only [go_sem, simprocAttr, a0T, rC, hx, hw, hm, hn, hb, hO, h5, h7]; repeat' (first | ((first | refine brY ?_ | refine brN ?_ | refine brA ?_ | refine brD ?_ | refine brF ?_ | ((first | apply a0k | apply a0j); (. intro h; simp only [go_sem, simprocAttr, a0p h, a0T, rC, hx, hw, hm, hn, hb, hO, h5, h7]; exact rfl))); (try simp only [go_sem, simprocAttr, a0T, rC, hx, hw, hm, hn, hb, hO, h5, h7])) | ((first | apply a0e | apply d7E | apply a0a) <;> intro h <;> (try simp only [go_sem, simprocAttr, h, a0T, rC, hx, hw, hm, hn, hb, hO, h5, h7]))))
     rfl
 . (simp only [go_sem, simprocAttr, a0T, rC]; repeat' (first | ((first | refine brY ?_ | refine brN ?_ | refine brA ?_ | refine brD ?_ | refine brF ?_ | ((first | apply a0k | apply a0j); (. intro h; simp only [go_sem, simprocAttr, a0p h, a0T, rC]; exact rfl))); (try simp only [go_sem, simprocAttr, a0T, rC])) | ((first | apply a0e | apply d7E | apply a0a) <;> intro h <;> (try simp only [go_sem, simprocAttr, h, a0T, rC]))))
   rfl
theorem a9i {b : Book} (hs : Sane b) (i : Nat) : (b.free i).length <= 5 := by
 have := b2Z b i (b.days.length - b.o)
 have := hs.d5
 simp only [Book.free]; omega
theorem b8x (b : Book) [hb : b.Fits] (hs : Sane b) (hne : b.now ≠ []) (i : Nat) (hi : i < b.singers.length) {β : Type} (Q : Ex -> St -> Option β) :
   E Γ a6D ⟨[(1, vi i), (2, .sc (.ptr 0 0)), (5, .sc (ownC 2 (rl (b.free i)))), (7, .sc (.sl .nil 1 [])), (38, vi ((2 ^ (b.free i).length : Nat) : Int)), (39, vi 0)], [.var (O b b.now)]⟩ Q =
   Q (.exit 2) ⟨[(1, vi i), (2, .sc (.ptr 0 0)), (5, .sc (ownC 2 (rl (b.free i)))), (7, .sc (ownC 1 (rlC (b.alone i)))), (38, vi ((2 ^ (b.free i).length : Nat) : Int)), (39, vi ((2 ^ (b.free i).length : Nat) : Int)), (40, vb false)], [.var (O b b.now)]⟩ := by
 have hO := a1R b b.now
 have hun := O_un b b.now
 have hOp := a3w b b.now
 have hf5 := a9i hs i
 have hp := b6h hf5
 refine a4q (2 ^ (b.free i).length) (fun j (_ : Unit) => ⟨[(1, vi i), (2, .sc (.ptr 0 0)), (5, .sc (ownC 2 (rl (b.free i)))), (7, .sc (ownC 1 (rlC (a5c b i j)))), (38, vi ((2 ^ (b.free i).length : Nat) : Int)), (39, vi j)], [.var (O b b.now)]⟩) (fun _ _ => True)
   (fun _ => (.exit 2, ⟨[(1, vi i), (2, .sc (.ptr 0 0)), (5, .sc (ownC 2 (rl (b.free i)))), (7, .sc (ownC 1 (rlC (b.alone i)))), (38, vi ((2 ^ (b.free i).length : Nat) : Int)), (39, vi ((2 ^ (b.free i).length : Nat) : Int)), (40, vb false)], [.var (O b b.now)]⟩)) () rfl trivial ?_ ?_ (fun _ _ => rfl)
 . intro j _ hj _
   refine ⟨(), trivial, ?_⟩
   have hlt : decide ((j : Int) < ((2 ^ (b.free i).length : Nat) : Int)) = true := decide_eq_true (by omega)
   have hw : IntKind.i64.wrap ((j : Int) + 1) = ((j + 1 : Nat) : Int) := by rw [wrap_i64 (by omega) (by omega)]; omega
   have hL {β : Type} (Q : Ex -> St -> Option β) := b8y (Γ := Γ) b i j (by omega) (b.free i) hf5 (ownC 2 (rl (b.free i))) (ownC 1 (rlC (a5c b i j))) (fun n => a7C _ _ _) (fun n => a7C _ _ _) ((2 ^ (b.free i).length : Nat) : Int) Q
   have hu5 := b1p (b.free i)
   have hu9 := b1p (sub j (b.free i))
   have hsl : (sub j (b.free i)).length <= 5 := Nat.le_trans (b1n _ _ _) hf5
   have hwk := b2z (Γ := Γ) (kS (sub j (b.free i))) (sub j (b.free i)) (by omega) b.F
   have hwe := b5e (Γ := Γ) b hs hne i hi (a1M b.F (sub j (b.free i)))
   have happ := a2K 1 (rlC (a5c b i j)) .full [rC (sub j (b.free i))] (by have := b1s b i j; simp only [rlC, List.length_map, room]; omega)
   have hrp : C.pure (rC (sub j (b.free i))) = true := rfl
   simp only [rC] at hL hu5 hu9 happ hrp
   rw [b5g]
   cases hwl : b.well (a1M b.F (sub j (b.free i))) i with
   | true =>
     rw [hwl] at hwe
     simp only [if_true, b6S, rC]
     simp only [go_sem, simprocAttr, a3t, hlt, hw, hu5, hu9, hL, hwk, hwe, happ, hrp, hO, hun, hOp, List.length_map]
   | false =>
     rw [hwl] at hwe
     simp only [Bool.false_eq_true, if_false]
     simp only [go_sem, simprocAttr, a3t, hlt, hw, hu5, hu9, hL, hwk, hwe, hrp, hO, hun, hOp, List.length_map]
 . intro _ _
   have hlt : decide (((2 ^ (b.free i).length : Nat) : Int) < ((2 ^ (b.free i).length : Nat) : Int)) = false := decide_eq_false (by omega)
   simp only [go_sem, simprocAttr, a3t, hlt]
   rfl
theorem c0G (b : Book) [hb : b.Fits] (hs : Sane b) (hne : b.now ≠ []) (i : Nat) (hi : i < b.singers.length) :
   K Γ (.fn 127) [.agg (O b b.now), vi i] [] = some (.sc (.sl (kS (b.alone i)) 1 (rlC (b.alone i))), []) := by
 have hO := a1R b b.now
 have hf5 := a9i hs i
 obtain ⟨ho, hol⟩ := o_eq hs
 have hok := b0g (Γ := Γ) b hs
 rw [ho] at hok
 have hL0 {β : Type} (Q : Ex -> St -> Option β) := b8w (Γ := Γ) b hs i hi Q
 have hL1 {β : Type} (Q : Ex -> St -> Option β) := b8x (Γ := Γ) b hs hne i hi Q
 have hu5 := b1p (b.free i)
 have hu7 := b8q (b.alone i)
 have hpw := b9t hf5
 have hn : decide (((b.free i).length : Int) < 0) = false := decide_eq_false (by omega)
 simp only [rC] at hu5
 rw [K_fn P04.f127 _ _ rfl]
 simp only [go_sem, simprocAttr, a4f, hok, hO, hL0, hL1, hu5, hu7, hpw, hn, List.length_map]
end
end Go.Pm.St
namespace Go.Pm.St
open Ac
def cmpL (l m : List Rest) : Int := match a0z (fun i (x : Rest) => match m[i]? with | some y => !decide (x.cmp y = 0) | none => true) 0 l with
 | some (i, x) => (match m[i]? with | some y => x.cmp y | none => 1)
 | none => if l.length < m.length then -1 else 0
def better (l m : List Rest) : Bool := decide ((if cmp3 l.length m.length = 0 then cmpL l m else cmp3 l.length m.length) < 0)
section
variable {Γ : Env} [P04 Γ] [G04 Γ]
theorem c1W (k k' : SK) (l m : List Rest) (hl : l.length <= 1000) (hm : m.length <= 1000) : K Γ (.fn 176) [.sc (.sl k 2 (rl l)), .sc (.sl k' 2 (rl m)), .sc (.fn (.fn 131) [] [] [])] [] = some (vi (cmpL l m), []) := by
 rw [K_fn P04.f176 _ _ rfl]
 simp only [go_sem, simprocAttr, a0D, List.length_map]
 refine (a4L (fun i => ⟨[(0, .sc (.sl k 2 (rl l))), (1, .sc (.sl k' 2 (rl m))), (2, .sc (.fn (.fn 131) [] [] [])), (11, .sc (.sl k 2 (rl l))), (12, vi l.length), (13, vi i)], []⟩) l (fun i (x : Rest) => match m[i]? with | some y => !decide (x.cmp y = 0) | none => true)
   (fun i x => (.ret, match m[i]? with | some y => ⟨[(6, vi (x.cmp y))], [.var x.c, .var y.c]⟩ | none => ⟨[(6, vi 1)], [.var x.c]⟩))
   (.exit 0, ⟨[(0, .sc (.sl k 2 (rl l))), (1, .sc (.sl k' 2 (rl m))), (2, .sc (.fn (.fn 131) [] [] [])), (11, .sc (.sl k 2 (rl l))), (12, vi l.length), (13, vi l.length), (14, vb false)], []⟩) _ ?_ ?_ ?_).trans ?_
 . intro i x hx hf
   have hlt : i < l.length := (List.getElem?_eq_some_iff.1 hx).1
   have hw : IntKind.i64.wrap ((i : Int) + 1) = i + 1 := wrap_i64 (by omega) (by omega)
   cases hy : m[i]? with
   | none => simp [hy] at hf
   | some y =>
     simp only [hy, Bool.not_eq_false'] at hf
     have hml : i < m.length := (List.getElem?_eq_some_iff.1 hy).1
     have hge : decide ((m.length : Int) <= (i : Int)) = false := decide_eq_false (by omega)
     (simp only [go_sem, simprocAttr, a0i, hx, hy, hw, hge, hf, List.length_map]; repeat' (first | ((first | refine brY ?_ | refine brN ?_ | refine brA ?_ | refine brD ?_ | refine brF ?_ | ((first | apply a0k | apply a0j); (. intro h; simp only [go_sem, simprocAttr, a0p h, a0i, hx, hy, hw, hge, hf, List.length_map]; exact rfl))); (try simp only [go_sem, simprocAttr, a0i, hx, hy, hw, hge, hf, List.length_map])) | ((first | apply a0e | apply d7E | apply a0a) <;> intro h <;> (try simp only [go_sem, simprocAttr, h, a0i, hx, hy, hw, hge, hf, List.length_map]))))
     rfl
 . intro i x hx hf
   have hlt : i < l.length := (List.getElem?_eq_some_iff.1 hx).1
   cases hy : m[i]? with
   | none =>
     have hml : ¬ i < m.length := fun h => by rw [List.getElem?_eq_getElem h] at hy; cases hy
     have hge : decide ((m.length : Int) <= (i : Int)) = true := decide_eq_true (by omega)
     (simp only [go_sem, simprocAttr, a0i, hx, hge, List.length_map]; repeat' (first | ((first | refine brY ?_ | refine brN ?_ | refine brA ?_ | refine brD ?_ | refine brF ?_ | ((first | apply a0k | apply a0j); (. intro h; simp only [go_sem, simprocAttr, a0p h, a0i, hx, hge, List.length_map]; exact rfl))); (try simp only [go_sem, simprocAttr, a0i, hx, hge, List.length_map])) | ((first | apply a0e | apply d7E | apply a0a) <;> intro h <;> (try simp only [go_sem, simprocAttr, h, a0i, hx, hge, List.length_map]))))
   | some y =>
     simp only [hy, Bool.not_eq_true'] at hf
     have hml : i < m.length := (List.getElem?_eq_some_iff.1 hy).1
     have hge : decide ((m.length : Int) <= (i : Int)) = false := decide_eq_false (by omega)
     (simp only [go_sem, simprocAttr, a0i, hx, hy, hge, hf, List.length_map]; repeat' (first | ((first | refine brY ?_ | refine brN ?_ | refine brA ?_ | refine brD ?_ | refine brF ?_ | ((first | apply a0k | apply a0j); (. intro h; simp only [go_sem, simprocAttr, a0p h, a0i, hx, hy, hge, hf, List.length_map]; exact rfl))); (try simp only [go_sem, simprocAttr, a0i, hx, hy, hge, hf, List.length_map])) | ((first | apply a0e | apply d7E | apply a0a) <;> intro h <;> (try simp only [go_sem, simprocAttr, h, a0i, hx, hy, hge, hf, List.length_map]))))
 . simp only [go_sem, simprocAttr, a0i]
 . unfold cmpL
   cases h : a0z (fun i (x : Rest) => match m[i]? with | some y => !decide (x.cmp y = 0) | none => true) 0 l with
   | none =>
     by_cases hlm : l.length < m.length
     . have hd : decide ((l.length : Int) < m.length) = true := decide_eq_true (by omega)
       simp only [go_sem, simprocAttr, hd, List.length_map, if_pos hlm]
     . have hd : decide ((l.length : Int) < m.length) = false := decide_eq_false (by omega)
       simp only [go_sem, simprocAttr, hd, List.length_map, if_neg hlm]
   | some q =>
     obtain ⟨i, x⟩ := q
     cases hy : m[i]? with
     | none => simp only [hy]; (simp only [go_sem, simprocAttr]; repeat' (first | ((first | refine brY ?_ | refine brN ?_ | refine brA ?_ | refine brD ?_ | refine brF ?_ | ((first | apply a0k | apply a0j); (. intro h; simp only [go_sem, simprocAttr, a0p h]; exact rfl))); (try simp only [go_sem, simprocAttr])) | ((first | apply a0e | apply d7E | apply a0a) <;> intro h <;> (try simp only [go_sem, simprocAttr, h]))))
     | some y => simp only [hy]; (simp only [go_sem, simprocAttr]; repeat' (first | ((first | refine brY ?_ | refine brN ?_ | refine brA ?_ | refine brD ?_ | refine brF ?_ | ((first | apply a0k | apply a0j); (. intro h; simp only [go_sem, simprocAttr, a0p h]; exact rfl))); (try simp only [go_sem, simprocAttr])) | ((first | apply a0e | apply d7E | apply a0a) <;> intro h <;> (try simp only [go_sem, simprocAttr, h]))))
theorem b8z (k k' : SK) (l m : List Rest) (hl : l.length <= 1000) (hm : m.length <= 1000) : K Γ (.fn 160) [.sc (.sl k 2 (rl l)), .sc (.sl k' 2 (rl m))] [] = some (vb (better l m), []) := by
 have hc := c1W (Γ := Γ) k k' l m hl hm
 rw [K_fn P04.f160 _ _ rfl]
 simp only [go_sem, simprocAttr, a5a, hc, List.length_map]
 rfl
@[go_sem] theorem c8h : K Γ (.fn 128) [] [] = some (.agg [.fn (.fn 160) [] [] []], []) := by
 rw [K_fn P04.f128 _ _ rfl]
 simp only [go_sem, simprocAttr, a5L]
end
/-! ### The best plan -/
def Book.look (b : Book) (a : Option (List Rest)) (l : List Rest) : Option (List Rest) := match a with
 | none => if b.enough (a1M b.F (a1w l)) then some (a1w l) else none
 | some best => if best.length < l.length then a else if better (a1w l) best && b.enough (a1M b.F (a1w l)) then some (a1w l) else a
end Go.Pm.St
namespace Go.Pm.St
open Ac
abbrev KL := SK × List Rest
def a2P (p : KL) (own : List Rest) : KL := match own with
 | [] => (topK p.1, p.2)
 | _ :: _ => (.shared, p.2 ++ own)
def pC (p : KL) : C := .sl p.1 2 (rl p.2)
abbrev psC (ps : List KL) : List (List C) := ps.map fun p => [pC p]
def ow (p : KL) (own : List Rest) : C := match own with
 | [] => .sl (topK p.1) 2 (rl p.2)
 | _ :: _ => .own 2 (rl (p.2 ++ own))
theorem b9Y (p : KL) (own : List Rest) : a0r (ow p own) = pC (a2P p own) := by cases own <;> rfl
theorem b5i (p : KL) (k : SK) (own : List Rest) (h : p.2.length + own.length <= room) : appended 2 (.sc (.sl (topK p.1) 2 (rl p.2))) (.sc (.sl k 2 (rl own))) = some (ow p own) := by
 obtain ⟨kp, l⟩ := p
 cases own with
 | nil => cases kp <;> simp at h <;> simp [appended, elems, topK, ow, h]
 | cons x own => cases kp <;> simp at h <;> simp [appended, elems, topK, ow, rl, h]
theorem b9W (p : KL) (own : List Rest) (n : Nat) : C.under n (ow p own) = true := by cases own <;> rfl
attribute [go_sem] b9W
def Book.a0V (b : Book) : Nat -> List KL
 | 0 => [(.nil, [])]
 | i + 1 => (b.a0V i).flatMap fun p => (b.alone i).map (a2P p)
theorem b7F (p : KL) (own : List Rest) : (a2P p own).2 = p.2 ++ own := by cases own <;> simp [a2P]
def Neat (p : KL) : Prop := (p.1 = .nil /\ p.2 = []) \/ (p.1 ≠ .nil /\ p.2 ≠ [])
theorem b7V {p : KL} (h : Neat p) (own : List Rest) : Neat (a2P p own) := by
 obtain ⟨k, l⟩ := p
 cases own with
 | nil => rcases h with ⟨h1, h2⟩ | ⟨h1, h2⟩
          . simp only at h1 h2; subst h1 h2; exact .inl ⟨rfl, rfl⟩
          . refine .inr ⟨?_, h2⟩
            cases k <;> simp_all [a2P, topK]
 | cons x own => exact .inr ⟨by simp [a2P], by simp [a2P]⟩
theorem b2f (b : Book) : ∀ i, ∀ p ∈ b.a0V i, Neat p
 | 0, p, h => by simp only [Book.a0V, List.mem_singleton] at h; subst h; exact .inl ⟨rfl, rfl⟩
 | i + 1, p, h => by
   simp only [Book.a0V, List.mem_flatMap, List.mem_map] at h
   obtain ⟨q, hq, own, -, rfl⟩ := h
   exact b7V (b2f b i q hq) own
theorem a9t {b : Book} (hs : Sane b) {i : Nat} {l : List Rest} (h : l ∈ b.alone i) : l.length <= 5 := by
 simp only [Book.alone, a5c, List.mem_filter, List.mem_map] at h
 obtain ⟨⟨s, -, rfl⟩, -⟩ := h
 exact Nat.le_trans (b1n _ _ _) (a9i hs i)
theorem a9M {b : Book} (hs : Sane b) (i : Nat) : (b.alone i).length <= 32 := Nat.le_trans (b1s _ _ _) (b6h (a9i hs i))
theorem a7q {b : Book} (hs : Sane b) : ∀ i, ∀ p ∈ b.a0V i, p.2.length <= 5 * i
 | 0, p, h => by simp only [Book.a0V, List.mem_singleton] at h; subst h; simp
 | i + 1, p, h => by
   simp only [Book.a0V, List.mem_flatMap, List.mem_map] at h
   obtain ⟨q, hq, own, ho, rfl⟩ := h
   have := a7q hs i q hq
   have := a9t hs ho
   rw [b7F, List.length_append]; omega
theorem a8h {b : Book} (hs : Sane b) : ∀ i, (b.a0V i).length <= 32 ^ i
 | 0 => by simp [Book.a0V]
 | i + 1 => by
   have h := a2H (fun p => (b.alone i).map (a2P p)) 32 (b.a0V i) (fun p _ => by rw [List.length_map]; exact a9M hs i)
   have h2 := Nat.mul_le_mul_right 32 (a8h hs i)
   rw [Nat.pow_succ]
   exact Nat.le_trans h h2
theorem b2O {b : Book} (hs : Sane b) (i m : Nat) (hi : i <= 2) : (((b.a0V i).take m).flatMap fun p => (b.alone i).map (a2P p)).length <= 32768 := by
 have h := a2H (fun p => (b.alone i).map (a2P p)) 32 ((b.a0V i).take m) (fun p _ => by rw [List.length_map]; exact a9M hs i)
 have h1 : ((b.a0V i).take m).length <= 32 ^ i := Nat.le_trans (by rw [List.length_take]; exact Nat.min_le_right _ _) (a8h hs i)
 have h2 : 32 ^ i <= 32 ^ 2 := Nat.pow_le_pow_right (by decide) hi
 have : (32 : Nat) ^ 2 = 1024 := by decide
 omega
section
variable {Γ : Env} [P04 Γ] [G04 Γ]
theorem c0B (b : Book) (hs : Sane b) (i : Nat) (more : List KL) (hmore : more.length <= 32768) (kp : SK) (l : List Rest) (hp : l.length <= 10) (ka : SK) (all : List KL) (m : Nat) {β : Type} (Q : Ex -> St -> Option β) :
   E Γ a8Z ⟨[(4, .sc (.ptr 1 0)), (7, vi i), (8, .sc (ownC 1 (psC more))), (10, .sc (.sl kp 2 (rl l))), (29, vi b.singers.length), (30, vi i), (33, .sc (.sl ka 1 (psC all))), (34, vi all.length), (35, vi m), (41, .sc (.sl (kS (b.alone i)) 1 (rlC (b.alone i)))), (42, vi (b.alone i).length), (43, vi 0)], [.var b.c, .var (O b b.now)]⟩ Q =
   Q (.exit 4) ⟨[(4, .sc (.ptr 1 0)), (7, vi i), (8, .sc (ownC 1 (psC (more ++ (b.alone i).map (a2P (kp, l)))))), (10, .sc (.sl kp 2 (rl l))), (29, vi b.singers.length), (30, vi i), (33, .sc (.sl ka 1 (psC all))), (34, vi all.length), (35, vi m), (41, .sc (.sl (kS (b.alone i)) 1 (rlC (b.alone i)))), (42, vi (b.alone i).length), (43, vi (b.alone i).length), (44, vb false)], [.var b.c, .var (O b b.now)]⟩ := by
 have hO := a1R b b.now
 have h32 := a9M hs i
 refine a4Q (fun j => ⟨[(4, .sc (.ptr 1 0)), (7, vi i), (8, .sc (ownC 1 (psC (more ++ ((b.alone i).take j).map (a2P (kp, l)))))), (10, .sc (.sl kp 2 (rl l))), (29, vi b.singers.length), (30, vi i), (33, .sc (.sl ka 1 (psC all))), (34, vi all.length), (35, vi m), (41, .sc (.sl (kS (b.alone i)) 1 (rlC (b.alone i)))), (42, vi (b.alone i).length), (43, vi j)], [.var b.c, .var (O b b.now)]⟩) (b.alone i)
   (.exit 4, ⟨[(4, .sc (.ptr 1 0)), (7, vi i), (8, .sc (ownC 1 (psC (more ++ (b.alone i).map (a2P (kp, l)))))), (10, .sc (.sl kp 2 (rl l))), (29, vi b.singers.length), (30, vi i), (33, .sc (.sl ka 1 (psC all))), (34, vi all.length), (35, vi m), (41, .sc (.sl (kS (b.alone i)) 1 (rlC (b.alone i)))), (42, vi (b.alone i).length), (43, vi (b.alone i).length), (44, vb false)], [.var b.c, .var (O b b.now)]⟩) Q ?_ ?_ ?_
 . simp
 . intro j own hx
   have hlt : j < (b.alone i).length := (List.getElem?_eq_some_iff.1 hx).1
   have hw : IntKind.i64.wrap ((j : Int) + 1) = j + 1 := wrap_i64 (by omega) (by omega)
   have ho5 := a9t hs (List.mem_of_getElem? hx)
   have hS := a6u 2 kp (rl l) l.length (by simp)
   have hA := b5i (kp, l) (kS own) own (by simp only [room]; omega)
   have hU := b9Y (kp, l) own
   have happ := a2K 1 (psC (more ++ ((b.alone i).take j).map (a2P (kp, l)))) .full [pC (a2P (kp, l) own)] (by simp only [List.length_map, List.length_append, List.length_take, room]; omega)
   have hpp : ∀ q : KL, C.pure (pC q) = true := fun _ => rfl
   have hpu : ∀ q : KL, a0r (pC q) = pC q := fun _ => rfl
   have hpc : ∀ q : KL, (V.sc (pC q)).cells = [pC q] := fun _ => rfl
   have hpn : ∀ (q : KL) n, C.under n (pC q) = true := fun _ _ => rfl
   have hxc : (rlC (b.alone i))[j]? = some [rC own] := by rw [rlC, List.getElem?_map, hx]; rfl
   rw [take_snoc hx, List.map_append, ← List.append_assoc, List.map_cons, List.map_nil]
   have hpe : psC (more ++ ((b.alone i).take j).map (a2P (kp, l)) ++ [a2P (kp, l) own]) = psC (more ++ ((b.alone i).take j).map (a2P (kp, l))) ++ [[pC (a2P (kp, l) own)]] := by simp
   rw [hpe]
   simp only at hA
   (simp only [go_sem, simprocAttr, a2l, hx, hxc, rC, hw, hO, hS, hA, hU, happ, hpu, hpn, hpp, hpc, List.length_map]; repeat' (first | ((first | refine brY ?_ | refine brN ?_ | refine brA ?_ | refine brD ?_ | refine brF ?_ | ((first | apply a0k | apply a0j); (. intro h; simp only [go_sem, simprocAttr, a0p h, a2l, hx, hxc, rC, hw, hO, hS, hA, hU, happ, hpu, hpn, hpp, hpc, List.length_map]; exact rfl))); (try simp only [go_sem, simprocAttr, a2l, hx, hxc, rC, hw, hO, hS, hA, hU, happ, hpu, hpn, hpp, hpc, List.length_map])) | ((first | apply a0e | apply d7E | apply a0a) <;> intro h <;> (try simp only [go_sem, simprocAttr, h, a2l, hx, hxc, rC, hw, hO, hS, hA, hU, happ, hpu, hpn, hpp, hpc, List.length_map]))))
   rfl
 . simp only [List.take_length]
   (simp only [go_sem, simprocAttr, a2l]; repeat' (first | ((first | refine brY ?_ | refine brN ?_ | refine brA ?_ | refine brD ?_ | refine brF ?_ | ((first | apply a0k | apply a0j); (. intro h; simp only [go_sem, simprocAttr, a0p h, a2l]; exact rfl))); (try simp only [go_sem, simprocAttr, a2l])) | ((first | apply a0e | apply d7E | apply a0a) <;> intro h <;> (try simp only [go_sem, simprocAttr, h, a2l]))))
theorem b8p (ps : List KL) : a0r (ownC 1 (psC ps)) = .sl (kS ps) 1 (psC ps) := by cases ps <;> rfl
theorem c0A (b : Book) [hb : b.Fits] (hs : Sane b) (hne : b.now ≠ []) (i : Nat) (hi : i < b.singers.length) (ka : SK) {β : Type} (Q : Ex -> St -> Option β) :
   E Γ a8Y ⟨[(4, .sc (.ptr 1 0)), (7, vi i), (8, .sc (.sl .nil 1 [])), (29, vi b.singers.length), (30, vi i), (33, .sc (.sl ka 1 (psC (b.a0V i)))), (34, vi (b.a0V i).length), (35, vi 0)], [.var b.c, .var (O b b.now)]⟩ Q =
   Q (.exit 2) ⟨[(4, .sc (.ptr 1 0)), (7, vi i), (8, .sc (ownC 1 (psC (b.a0V (i + 1))))), (29, vi b.singers.length), (30, vi i), (33, .sc (.sl ka 1 (psC (b.a0V i)))), (34, vi (b.a0V i).length), (35, vi (b.a0V i).length), (36, vb false)], [.var b.c, .var (O b b.now)]⟩ := by
 have hO := a1R b b.now
 have hun := O_un b b.now
 have hOp := a3w b b.now
 have hs3 := hs.s3
 have hi2 : i <= 2 := by omega
 have hlen : (b.a0V i).length <= 1024 := by
   have h1 := a8h hs i
   have h2 : 32 ^ i <= 32 ^ 2 := Nat.pow_le_pow_right (by decide) hi2
   have : (32 : Nat) ^ 2 = 1024 := by decide
   omega
 have hak := c0G (Γ := Γ) b hs hne i hi
 refine a4Q (fun m => ⟨[(4, .sc (.ptr 1 0)), (7, vi i), (8, .sc (ownC 1 (psC (((b.a0V i).take m).flatMap fun p => (b.alone i).map (a2P p))))), (29, vi b.singers.length), (30, vi i), (33, .sc (.sl ka 1 (psC (b.a0V i)))), (34, vi (b.a0V i).length), (35, vi m)], [.var b.c, .var (O b b.now)]⟩) (b.a0V i)
   (.exit 2, ⟨[(4, .sc (.ptr 1 0)), (7, vi i), (8, .sc (ownC 1 (psC (b.a0V (i + 1))))), (29, vi b.singers.length), (30, vi i), (33, .sc (.sl ka 1 (psC (b.a0V i)))), (34, vi (b.a0V i).length), (35, vi (b.a0V i).length), (36, vb false)], [.var b.c, .var (O b b.now)]⟩) Q ?_ ?_ ?_
 . simp [ownC]
 . intro m p hx
   obtain ⟨kp, l⟩ := p
   have hlt : m < (b.a0V i).length := (List.getElem?_eq_some_iff.1 hx).1
   have hw : IntKind.i64.wrap ((m : Int) + 1) = m + 1 := wrap_i64 (by omega) (by omega)
   have hl10 : l.length <= 10 := by have := a7q hs i _ (List.mem_of_getElem? hx); simp only at this; omega
   have hL {β : Type} (Q : Ex -> St -> Option β) := c0B (Γ := Γ) b hs i (((b.a0V i).take m).flatMap fun p => (b.alone i).map (a2P p)) (b2O hs i m hi2) kp l hl10 ka (b.a0V i) m Q
   have hpk : pC (kp, l) = .sl kp 2 (rl l) := rfl
   have hxc : (psC (b.a0V i))[m]? = some [pC (kp, l)] := by rw [List.getElem?_map, hx]; rfl
   rw [take_snoc hx, List.flatMap_append, List.flatMap_cons, List.flatMap_nil, List.append_nil]
   (simp only [go_sem, simprocAttr, a2k, hx, hxc, hpk, hw, hO, hun, hOp, hak, hL, List.length_map]; repeat' (first | ((first | refine brY ?_ | refine brN ?_ | refine brA ?_ | refine brD ?_ | refine brF ?_ | ((first | apply a0k | apply a0j); (. intro h; simp only [go_sem, simprocAttr, a0p h, a2k, hx, hxc, hpk, hw, hO, hun, hOp, hak, hL, List.length_map]; exact rfl))); (try simp only [go_sem, simprocAttr, a2k, hx, hxc, hpk, hw, hO, hun, hOp, hak, hL, List.length_map])) | ((first | apply a0e | apply d7E | apply a0a) <;> intro h <;> (try simp only [go_sem, simprocAttr, h, a2k, hx, hxc, hpk, hw, hO, hun, hOp, hak, hL, List.length_map]))))
   rfl
 . simp only [List.take_length]
   (simp only [go_sem, simprocAttr, a2k]; repeat' (first | ((first | refine brY ?_ | refine brN ?_ | refine brA ?_ | refine brD ?_ | refine brF ?_ | ((first | apply a0k | apply a0j); (. intro h; simp only [go_sem, simprocAttr, a0p h, a2k]; exact rfl))); (try simp only [go_sem, simprocAttr, a2k])) | ((first | apply a0e | apply d7E | apply a0a) <;> intro h <;> (try simp only [go_sem, simprocAttr, h, a2k]))))
   rfl
def kA (b : Book) : Nat -> SK
 | 0 => .full
 | i + 1 => kS (b.a0V (i + 1))
theorem c0z (b : Book) [hb : b.Fits] (hs : Sane b) (hne : b.now ≠ []) {β : Type} (Q : Ex -> St -> Option β) :
   E Γ a8X ⟨[(4, .sc (.ptr 1 0)), (6, .sc (.sl .full 1 [[.sl .nil 2 []]])), (29, vi b.singers.length), (30, vi 0)], [.var b.c, .var (O b b.now)]⟩ Q =
   Q (.exit 0) ⟨[(4, .sc (.ptr 1 0)), (6, .sc (.sl (kA b b.singers.length) 1 (psC (b.a0V b.singers.length)))), (29, vi b.singers.length), (30, vi b.singers.length), (31, vb false)], [.var b.c, .var (O b b.now)]⟩ := by
 have hO := a1R b b.now
 have hs3 := hs.s3
 refine a4q b.singers.length (fun i (_ : Unit) => ⟨[(4, .sc (.ptr 1 0)), (6, .sc (.sl (kA b i) 1 (psC (b.a0V i)))), (29, vi b.singers.length), (30, vi i)], [.var b.c, .var (O b b.now)]⟩) (fun _ _ => True)
   (fun _ => (.exit 0, ⟨[(4, .sc (.ptr 1 0)), (6, .sc (.sl (kA b b.singers.length) 1 (psC (b.a0V b.singers.length)))), (29, vi b.singers.length), (30, vi b.singers.length), (31, vb false)], [.var b.c, .var (O b b.now)]⟩)) () rfl trivial ?_ ?_ (fun _ _ => rfl)
 . intro i _ hi _
   refine ⟨(), trivial, ?_⟩
   have hlt : decide ((i : Int) < b.singers.length) = true := decide_eq_true (by omega)
   have hw : IntKind.i64.wrap ((i : Int) + 1) = i + 1 := wrap_i64 (by omega) (by omega)
   have hL {β : Type} (Q : Ex -> St -> Option β) := c0A (Γ := Γ) b hs hne i hi (kA b i) Q
   have hup := b8p (b.a0V (i + 1))
   simp only [go_sem, simprocAttr, a6W, hlt, hw, hO, hL, hup, List.length_map]
   rfl
 . intro _ _
   simp only [go_sem, simprocAttr, a6W]
end
end Go.Pm.St
namespace Go.Pm.St
open Ac
def a3L (a : Option (List Rest)) : C := match a with
 | none => .sl .nil 2 []
 | some l => .sl (kS l) 2 (rl l)
theorem b5p {t : List (Nat × V)} {i : Nat} {x0 x1 x2 : Obj} {s : List Rest} {n : Nat} (hi : get t i = .sc (.msl 3 0 n 0 2)) (hn : s.length = n) (hl : s.length <= 100) :
   a3G i ⟨t, [x0, x1, x2, .var (a1A s)]⟩ = some ⟨(i, .sc (.sl .shared 2 (rl s))) :: t, [x0, x1, x2, .dead]⟩ := by
 subst hn
 have hm : a3p 400 (.msl 3 0 s.length 0 2) [x0, x1, x2, .var (a1A s)] = some (.sl .shared 2 (rl s), [x0, x1, x2, .dead]) :=
   b2J rfl (b8T s) (fun c hc => (a8z s c hc).1) (by rw [b2W]; omega) (b1J s) (a9V s)
 simp only [a3G, hi, hm]
theorem c0R {t : List (Nat × V)} {i : Nat} {h : List Obj} {k : SK} {es : Nat} {l : List (List C)} (hi : get t i = .sc (.sl k es l)) : a3G i ⟨t, h⟩ = some ⟨t, h⟩ := by
 simp only [a3G, hi]
theorem b9g {b : Book} {a : Option (List Rest)} {l : List Rest} (ha : ∀ s, a = some s -> s.length <= 15) (hl : l.length <= 15) : ∀ s, b.look a l = some s -> s.length <= 15 := by
 intro s hs
 unfold Book.look at hs
 split at hs
 . split at hs
   . simp only [Option.some.injEq] at hs; subst hs; rw [a8l]; exact hl
   . cases hs
 . rename_i best
   split at hs
   . exact ha s hs
   . split at hs
     . simp only [Option.some.injEq] at hs; subst hs; rw [a8l]; exact hl
     . exact ha s hs
theorem a9y {b : Book} : ∀ (ps : List KL) (a : Option (List Rest)), (∀ s, a = some s -> s.length <= 15) -> (∀ p ∈ ps, p.2.length <= 15) -> ∀ s, ps.foldl (fun a p => b.look a p.2) a = some s -> s.length <= 15
 | [], a, ha, _, s, hs => ha s hs
 | p :: ps, a, ha, hp, s, hs => a9y ps _ (b9g ha (hp p (by simp))) (fun q hq => hp q (by simp [hq])) s hs
theorem kS_n : kS ([] : List Rest) = .nil := rfl
theorem a2E : a1w [] = [] := rfl
def Book.looks (b : Book) (ps : List KL) : Option (List Rest) := ps.foldl (fun a p => b.look a p.2) none
theorem b6C (b : Book) (ps : List KL) (k : SK) (l : List Rest) : b.looks (ps ++ [(k, l)]) = b.look (b.looks ps) l := by simp [Book.looks]
section
variable {b : Book} {l best : List Rest}
theorem b6a (h : b.enough (a1M b.F (a1w l)) = true) : b.look none l = some (a1w l) := by simp [Book.look, h]
theorem b5Z (h : b.enough (a1M b.F (a1w l)) = false) : b.look none l = none := by simp [Book.look, h]
theorem b7O (h : best.length < l.length) : b.look (some best) l = some best := by simp [Book.look, h]
theorem b7P (h : ¬ best.length < l.length) (h1 : better (a1w l) best = true) (h2 : b.enough (a1M b.F (a1w l)) = true) : b.look (some best) l = some (a1w l) := by simp [Book.look, h, h1, h2]
theorem b7N (h : ¬ best.length < l.length) (h1 : better (a1w l) best = false) : b.look (some best) l = some best := by simp [Book.look, h1]
theorem b7M (h : ¬ best.length < l.length) (h2 : b.enough (a1M b.F (a1w l)) = false) : b.look (some best) l = some best := by simp [Book.look, h2]
end
section
variable {Γ : Env} [P04 Γ] [G04 Γ]
theorem clone_nil (H : List Obj) : K Γ (.fn 231) [.sc (.sl .nil 2 [])] H = some (.sc (.sl .nil 2 []), H) := by
 rw [K_fn P04.f231 _ _ rfl]
 simp only [go_sem, simprocAttr, a1a]
theorem b9M (x0 x1 x2 : Obj) (u0 : x0.under 3 = true) (u1 : x1.under 3 = true) (u2 : x2.under 3 = true) : K Γ (.fn 130) [.sc (.sl .nil 2 []), .sc (.fn (.fn 131) [] [] [])] [x0, x1, x2] = some (.tup [], [x0, x1, x2]) := by
 have h1 : K Γ (.fn 178) [.sc (.sl .nil 2 []), vi 0, vi 0, .sc (.fn (.fn 131) [] [] [])] [x0, x1, x2] = some (.tup [], [x0, x1, x2]) := by
   rw [K_fn P04.f178 _ _ rfl]
   simp only [go_sem, simprocAttr, a1c, a1L, a0F, a1J, u0, u1, u2]
 have h2 (v : Int) : K Γ (.fn 162) [.sc (.sl .nil 2 []), vi 0, vi 0, vi v, .sc (.fn (.fn 131) [] [] [])] [x0, x1, x2] = some (.tup [], [x0, x1, x2]) := by
   rw [K_fn P04.f162 _ _ rfl]
   simp only [go_sem, simprocAttr, a1v, a1Y, a1X, a1J, h1, u0, u1, u2]
 obtain ⟨v, _, _, hv⟩ := c0k (Γ := Γ) 0 (by omega)
 have hw : IntKind.u64.wrap 0 = 0 := by decide
 replace hv : K Γ (.fn 161) [.sc (.int .u64 0)] [] = some (vi v, []) := hv
 rw [K_fn P04.f130 _ _ rfl]
 simp only [go_sem, simprocAttr, a0X, hw, hv, h2, List.length_nil, u0, u1, u2]
theorem c0C (b : Book) [hb : b.Fits] (hs : Sane b) (M : Nat) (hsort : b2B Γ M) (ka : SK) (ps : List KL) (hps : ps.length <= 100000) (hneat : ∀ p ∈ ps, Neat p) (hl15 : ∀ p ∈ ps, p.2.length <= 15) (hM : ∀ p ∈ ps, p.2.length <= M) {β : Type} (Q : Ex -> St -> Option β) :
   E Γ a9a ⟨[(4, .sc (.ptr 1 0)), (13, .sc (.sl .nil 2 [])), (14, vb false), (15, .sc (.ptr 2 0)), (63, .sc (.sl ka 1 (psC ps))), (64, vi ps.length), (65, vi 0)], [.var b.c, .var (O b b.now), .var [.fn (.fn 160) [] [] []]]⟩ Q =
   Q (.exit 6) ⟨[(4, .sc (.ptr 1 0)), (13, .sc (a3L (b.looks ps))), (14, vb (b.looks ps).isSome), (15, .sc (.ptr 2 0)), (63, .sc (.sl ka 1 (psC ps))), (64, vi ps.length), (65, vi ps.length), (66, vb false)], [.var b.c, .var (O b b.now), .var [.fn (.fn 160) [] [] []]]⟩ := by
 have hO := a1R b b.now
 have hun := O_un b b.now
 have hOp := a3w b b.now
 refine a4Q (fun m => ⟨[(4, .sc (.ptr 1 0)), (13, .sc (a3L (b.looks (ps.take m)))), (14, vb (b.looks (ps.take m)).isSome), (15, .sc (.ptr 2 0)), (63, .sc (.sl ka 1 (psC ps))), (64, vi ps.length), (65, vi m)], [.var b.c, .var (O b b.now), .var [.fn (.fn 160) [] [] []]]⟩) ps
   (.exit 6, ⟨[(4, .sc (.ptr 1 0)), (13, .sc (a3L (b.looks ps))), (14, vb (b.looks ps).isSome), (15, .sc (.ptr 2 0)), (63, .sc (.sl ka 1 (psC ps))), (64, vi ps.length), (65, vi ps.length), (66, vb false)], [.var b.c, .var (O b b.now), .var [.fn (.fn 160) [] [] []]]⟩) Q ?_ ?_ ?_
 . rfl
 . intro m p hx
   have hlt : m < ps.length := (List.getElem?_eq_some_iff.1 hx).1
   have hw : IntKind.i64.wrap ((m : Int) + 1) = m + 1 := wrap_i64 (by omega) (by omega)
   have hmem := List.mem_of_getElem? hx
   have hA15 := a9y (b := b) (ps.take m) none (by simp) (fun q hq => hl15 q (List.mem_of_mem_take hq))
   have hp15 := hl15 p hmem
   have hpM := hM p hmem
   have hpn := hneat p hmem
   obtain ⟨k, l⟩ := p
   simp only at hp15 hpM
   rw [take_snoc hx, b6C]
   change ∀ s, b.looks (ps.take m) = some s -> s.length <= 15 at hA15
   generalize b.looks (ps.take m) = a at hA15 ⊢
   have hpk : pC (k, l) = .sl k 2 (rl l) := rfl
   have hxc : (psC ps)[m]? = some [pC (k, l)] := by rw [List.getElem?_map, hx]; rfl
   have hlen := a8l l
   have hwk (kk : SK) := b2z (Γ := Γ) kk (a1w l) (by omega) b.F
   have hen := b4i (Γ := Γ) b hs (a1M b.F (a1w l)) (.iset 2 b.F) (.sl (kT b.now) 4 (b.now.map a1g)) rfl
   have hgt (best : List Rest) : decide ((best.length : Int) < (l.length : Int)) = decide (best.length < l.length) := by
     rw [decide_eq_decide]; omega
   have hbet (k1 : SK) (best : List Rest) (hbl : best.length <= 15) := b8z (Γ := Γ) k1 (kS best) (a1w l) best (by omega) (by omega)
   rcases hpn with ⟨h1, h2⟩ | ⟨h1, h2⟩
   . simp only at h1 h2
     subst h1 h2
     rw [a2E] at hwk
     simp only [rl, List.map_nil] at hwk
     have hcl := clone_nil (Γ := Γ) [.var b.c, .var (O b b.now), .var [.fn (.fn 160) [] [] []]]
     have hso := b9M (Γ := Γ) (.var b.c) (.var (O b b.now)) (.var [.fn (.fn 160) [] [] []]) (by simp [go_sem]) (by simp [go_sem, hO]) (by simp [go_sem])
     have hfz {t : List (Nat × V)} {h : List Obj} (hi : get t 17 = .sc (.sl .nil 2 [])) : a3G 17 ⟨t, h⟩ = some ⟨t, h⟩ := c0R hi
     cases a with
     | none =>
       cases he : b.enough (a1M b.F (a1w ([] : List Rest))) with
       | true =>
         rw [b6a he]
         rw [he, a2E] at hen
         simp only [a3L, Option.isSome_none, Option.isSome_some, a2E, kS_n]
         (simp only [go_sem, simprocAttr, a0s, hxc, hpk, hcl, hso, hfz, hwk, hen, hw, hO, hun, hOp, List.length_map, List.map_nil, List.length_nil]; repeat' (first | ((first | refine brY ?_ | refine brN ?_ | refine brA ?_ | refine brD ?_ | refine brF ?_ | ((first | apply a0k | apply a0j); (. intro h; simp only [go_sem, simprocAttr, a0p h, a0s, hxc, hpk, hcl, hso, hfz, hwk, hen, hw, hO, hun, hOp, List.length_map, List.map_nil, List.length_nil]; exact rfl))); (try simp only [go_sem, simprocAttr, a0s, hxc, hpk, hcl, hso, hfz, hwk, hen, hw, hO, hun, hOp, List.length_map, List.map_nil, List.length_nil])) | ((first | apply a0e | apply d7E | apply a0a) <;> intro h <;> (try simp only [go_sem, simprocAttr, h, a0s, hxc, hpk, hcl, hso, hfz, hwk, hen, hw, hO, hun, hOp, List.length_map, List.map_nil, List.length_nil]))))
         rfl
       | false =>
         rw [b5Z he]
         rw [he, a2E] at hen
         simp only [a3L, Option.isSome_none, Option.isSome_some, a2E, kS_n]
         (simp only [go_sem, simprocAttr, a0s, hxc, hpk, hcl, hso, hfz, hwk, hen, hw, hO, hun, hOp, List.length_map, List.map_nil, List.length_nil]; repeat' (first | ((first | refine brY ?_ | refine brN ?_ | refine brA ?_ | refine brD ?_ | refine brF ?_ | ((first | apply a0k | apply a0j); (. intro h; simp only [go_sem, simprocAttr, a0p h, a0s, hxc, hpk, hcl, hso, hfz, hwk, hen, hw, hO, hun, hOp, List.length_map, List.map_nil, List.length_nil]; exact rfl))); (try simp only [go_sem, simprocAttr, a0s, hxc, hpk, hcl, hso, hfz, hwk, hen, hw, hO, hun, hOp, List.length_map, List.map_nil, List.length_nil])) | ((first | apply a0e | apply d7E | apply a0a) <;> intro h <;> (try simp only [go_sem, simprocAttr, h, a0s, hxc, hpk, hcl, hso, hfz, hwk, hen, hw, hO, hun, hOp, List.length_map, List.map_nil, List.length_nil]))))
         rfl
     | some best =>
       have hb15 := hA15 best rfl
       by_cases hmore : best.length < ([] : List Rest).length
       . exact absurd hmore (by simp)
       . have hd := hgt best
         rw [decide_eq_false hmore] at hd
         have hbk := hbet .nil best hb15
         cases hbe : better (a1w ([] : List Rest)) best with
         | true =>
           cases he : b.enough (a1M b.F (a1w ([] : List Rest))) with
           | true =>
             rw [b7P hmore hbe he]
             rw [he, a2E] at hen
             rw [hbe, a2E] at hbk
             simp only [rl, List.map_nil] at hbk
             simp only [a3L, Option.isSome_none, Option.isSome_some, a2E, kS_n]
             (simp only [go_sem, simprocAttr, a0s, hd, hbk, hxc, hpk, hcl, hso, hfz, hwk, hen, hw, hO, hun, hOp, List.length_map, List.map_nil, List.length_nil]; repeat' (first | ((first | refine brY ?_ | refine brN ?_ | refine brA ?_ | refine brD ?_ | refine brF ?_ | ((first | apply a0k | apply a0j); (. intro h; simp only [go_sem, simprocAttr, a0p h, a0s, hd, hbk, hxc, hpk, hcl, hso, hfz, hwk, hen, hw, hO, hun, hOp, List.length_map, List.map_nil, List.length_nil]; exact rfl))); (try simp only [go_sem, simprocAttr, a0s, hd, hbk, hxc, hpk, hcl, hso, hfz, hwk, hen, hw, hO, hun, hOp, List.length_map, List.map_nil, List.length_nil])) | ((first | apply a0e | apply d7E | apply a0a) <;> intro h <;> (try simp only [go_sem, simprocAttr, h, a0s, hd, hbk, hxc, hpk, hcl, hso, hfz, hwk, hen, hw, hO, hun, hOp, List.length_map, List.map_nil, List.length_nil]))))
             rfl
           | false =>
             rw [b7M hmore he]
             rw [he, a2E] at hen
             rw [hbe, a2E] at hbk
             simp only [rl, List.map_nil] at hbk
             simp only [a3L, Option.isSome_none, Option.isSome_some, a2E, kS_n]
             (simp only [go_sem, simprocAttr, a0s, hd, hbk, hxc, hpk, hcl, hso, hfz, hwk, hen, hw, hO, hun, hOp, List.length_map, List.map_nil, List.length_nil]; repeat' (first | ((first | refine brY ?_ | refine brN ?_ | refine brA ?_ | refine brD ?_ | refine brF ?_ | ((first | apply a0k | apply a0j); (. intro h; simp only [go_sem, simprocAttr, a0p h, a0s, hd, hbk, hxc, hpk, hcl, hso, hfz, hwk, hen, hw, hO, hun, hOp, List.length_map, List.map_nil, List.length_nil]; exact rfl))); (try simp only [go_sem, simprocAttr, a0s, hd, hbk, hxc, hpk, hcl, hso, hfz, hwk, hen, hw, hO, hun, hOp, List.length_map, List.map_nil, List.length_nil])) | ((first | apply a0e | apply d7E | apply a0a) <;> intro h <;> (try simp only [go_sem, simprocAttr, h, a0s, hd, hbk, hxc, hpk, hcl, hso, hfz, hwk, hen, hw, hO, hun, hOp, List.length_map, List.map_nil, List.length_nil]))))
             rfl
         | false =>
           rw [b7N hmore hbe]
           rw [hbe, a2E] at hbk
           simp only [rl, List.map_nil] at hbk
           simp only [a3L, Option.isSome_none, Option.isSome_some, a2E, kS_n]
           (simp only [go_sem, simprocAttr, a0s, hd, hbk, hxc, hpk, hcl, hso, hfz, hwk, hen, hw, hO, hun, hOp, List.length_map, List.map_nil, List.length_nil]; repeat' (first | ((first | refine brY ?_ | refine brN ?_ | refine brA ?_ | refine brD ?_ | refine brF ?_ | ((first | apply a0k | apply a0j); (. intro h; simp only [go_sem, simprocAttr, a0p h, a0s, hd, hbk, hxc, hpk, hcl, hso, hfz, hwk, hen, hw, hO, hun, hOp, List.length_map, List.map_nil, List.length_nil]; exact rfl))); (try simp only [go_sem, simprocAttr, a0s, hd, hbk, hxc, hpk, hcl, hso, hfz, hwk, hen, hw, hO, hun, hOp, List.length_map, List.map_nil, List.length_nil])) | ((first | apply a0e | apply d7E | apply a0a) <;> intro h <;> (try simp only [go_sem, simprocAttr, h, a0s, hd, hbk, hxc, hpk, hcl, hso, hfz, hwk, hen, hw, hO, hun, hOp, List.length_map, List.map_nil, List.length_nil]))))
           rfl
   . simp only at h1 h2
     have hcl := c0J (Γ := Γ) k l [.var b.c, .var (O b b.now), .var [.fn (.fn 160) [] [] []]] 3 rfl (by omega) h2 h1
     have hso := hsort [.var b.c, .var (O b b.now), .var [.fn (.fn 160) [] [] []], .var (a1A l)] 4 3 l rfl (by decide) (by simp [go_sem, hO]) hpM rfl
     have hfz {t : List (Nat × V)} {x0 x1 x2 : Obj} (hi : get t 17 = .sc (.msl 3 0 l.length 0 2)) := b5p (t := t) (i := 17) (x0 := x0) (x1 := x1) (x2 := x2) (s := a1w l) hi hlen (by omega)
     have kSs : kS (a1w l) = .shared := by
       cases hs' : a1w l with
       | nil =>
         rw [hs'] at hlen
         exact absurd (List.length_eq_zero_iff.1 hlen.symm) h2
       | cons x s => rfl
     cases a with
     | none =>
       cases he : b.enough (a1M b.F (a1w l)) with
       | true =>
         rw [b6a he]
         rw [he] at hen
         simp only [a3L, Option.isSome_none, Option.isSome_some, kSs]
         (simp only [go_sem, simprocAttr, a0s, hxc, hpk, hcl, hso, hfz, hwk, hen, hw, hO, hun, hOp, List.length_map, List.map_nil, List.length_nil, a1j]; repeat' (first | ((first | refine brY ?_ | refine brN ?_ | refine brA ?_ | refine brD ?_ | refine brF ?_ | ((first | apply a0k | apply a0j); (. intro h; simp only [go_sem, simprocAttr, a0p h, a0s, hxc, hpk, hcl, hso, hfz, hwk, hen, hw, hO, hun, hOp, List.length_map, List.map_nil, List.length_nil, a1j]; exact rfl))); (try simp only [go_sem, simprocAttr, a0s, hxc, hpk, hcl, hso, hfz, hwk, hen, hw, hO, hun, hOp, List.length_map, List.map_nil, List.length_nil, a1j])) | ((first | apply a0e | apply d7E | apply a0a) <;> intro h <;> (try simp only [go_sem, simprocAttr, h, a0s, hxc, hpk, hcl, hso, hfz, hwk, hen, hw, hO, hun, hOp, List.length_map, List.map_nil, List.length_nil, a1j]))))
         rfl
       | false =>
         rw [b5Z he]
         rw [he] at hen
         simp only [a3L, Option.isSome_none, Option.isSome_some, kSs]
         (simp only [go_sem, simprocAttr, a0s, hxc, hpk, hcl, hso, hfz, hwk, hen, hw, hO, hun, hOp, List.length_map, List.map_nil, List.length_nil, a1j]; repeat' (first | ((first | refine brY ?_ | refine brN ?_ | refine brA ?_ | refine brD ?_ | refine brF ?_ | ((first | apply a0k | apply a0j); (. intro h; simp only [go_sem, simprocAttr, a0p h, a0s, hxc, hpk, hcl, hso, hfz, hwk, hen, hw, hO, hun, hOp, List.length_map, List.map_nil, List.length_nil, a1j]; exact rfl))); (try simp only [go_sem, simprocAttr, a0s, hxc, hpk, hcl, hso, hfz, hwk, hen, hw, hO, hun, hOp, List.length_map, List.map_nil, List.length_nil, a1j])) | ((first | apply a0e | apply d7E | apply a0a) <;> intro h <;> (try simp only [go_sem, simprocAttr, h, a0s, hxc, hpk, hcl, hso, hfz, hwk, hen, hw, hO, hun, hOp, List.length_map, List.map_nil, List.length_nil, a1j]))))
         rfl
     | some best =>
       have hb15 := hA15 best rfl
       by_cases hmore : best.length < l.length
       . have hd := hgt best
         rw [decide_eq_true hmore] at hd
         rw [b7O hmore]
         simp only [a3L, Option.isSome_none, Option.isSome_some, kSs]
         (simp only [go_sem, simprocAttr, a0s, hxc, hpk, hd, hw, hO, List.length_map, List.map_nil, List.length_nil]; repeat' (first | ((first | refine brY ?_ | refine brN ?_ | refine brA ?_ | refine brD ?_ | refine brF ?_ | ((first | apply a0k | apply a0j); (. intro h; simp only [go_sem, simprocAttr, a0p h, a0s, hxc, hpk, hd, hw, hO, List.length_map, List.map_nil, List.length_nil]; exact rfl))); (try simp only [go_sem, simprocAttr, a0s, hxc, hpk, hd, hw, hO, List.length_map, List.map_nil, List.length_nil])) | ((first | apply a0e | apply d7E | apply a0a) <;> intro h <;> (try simp only [go_sem, simprocAttr, h, a0s, hxc, hpk, hd, hw, hO, List.length_map, List.map_nil, List.length_nil]))))
         rfl
       . have hd := hgt best
         rw [decide_eq_false hmore] at hd
         have hbk := hbet .shared best hb15
         cases hbe : better (a1w l) best with
         | true =>
           cases he : b.enough (a1M b.F (a1w l)) with
           | true =>
             rw [b7P hmore hbe he]
             rw [he] at hen
             rw [hbe] at hbk
             simp only [a3L, Option.isSome_none, Option.isSome_some, kSs]
             (simp only [go_sem, simprocAttr, a0s, hd, hbk, hxc, hpk, hcl, hso, hfz, hwk, hen, hw, hO, hun, hOp, List.length_map, List.map_nil, List.length_nil, a1j]; repeat' (first | ((first | refine brY ?_ | refine brN ?_ | refine brA ?_ | refine brD ?_ | refine brF ?_ | ((first | apply a0k | apply a0j); (. intro h; simp only [go_sem, simprocAttr, a0p h, a0s, hd, hbk, hxc, hpk, hcl, hso, hfz, hwk, hen, hw, hO, hun, hOp, List.length_map, List.map_nil, List.length_nil, a1j]; exact rfl))); (try simp only [go_sem, simprocAttr, a0s, hd, hbk, hxc, hpk, hcl, hso, hfz, hwk, hen, hw, hO, hun, hOp, List.length_map, List.map_nil, List.length_nil, a1j])) | ((first | apply a0e | apply d7E | apply a0a) <;> intro h <;> (try simp only [go_sem, simprocAttr, h, a0s, hd, hbk, hxc, hpk, hcl, hso, hfz, hwk, hen, hw, hO, hun, hOp, List.length_map, List.map_nil, List.length_nil, a1j]))))
             rfl
           | false =>
             rw [b7M hmore he]
             rw [he] at hen
             rw [hbe] at hbk
             simp only [a3L, Option.isSome_none, Option.isSome_some, kSs]
             (simp only [go_sem, simprocAttr, a0s, hd, hbk, hxc, hpk, hcl, hso, hfz, hwk, hen, hw, hO, hun, hOp, List.length_map, List.map_nil, List.length_nil, a1j]; repeat' (first | ((first | refine brY ?_ | refine brN ?_ | refine brA ?_ | refine brD ?_ | refine brF ?_ | ((first | apply a0k | apply a0j); (. intro h; simp only [go_sem, simprocAttr, a0p h, a0s, hd, hbk, hxc, hpk, hcl, hso, hfz, hwk, hen, hw, hO, hun, hOp, List.length_map, List.map_nil, List.length_nil, a1j]; exact rfl))); (try simp only [go_sem, simprocAttr, a0s, hd, hbk, hxc, hpk, hcl, hso, hfz, hwk, hen, hw, hO, hun, hOp, List.length_map, List.map_nil, List.length_nil, a1j])) | ((first | apply a0e | apply d7E | apply a0a) <;> intro h <;> (try simp only [go_sem, simprocAttr, h, a0s, hd, hbk, hxc, hpk, hcl, hso, hfz, hwk, hen, hw, hO, hun, hOp, List.length_map, List.map_nil, List.length_nil, a1j]))))
             rfl
         | false =>
           rw [b7N hmore hbe]
           rw [hbe] at hbk
           simp only [a3L, Option.isSome_none, Option.isSome_some, kSs]
           (simp only [go_sem, simprocAttr, a0s, hd, hbk, hxc, hpk, hcl, hso, hfz, hwk, hen, hw, hO, hun, hOp, List.length_map, List.map_nil, List.length_nil, a1j]; repeat' (first | ((first | refine brY ?_ | refine brN ?_ | refine brA ?_ | refine brD ?_ | refine brF ?_ | ((first | apply a0k | apply a0j); (. intro h; simp only [go_sem, simprocAttr, a0p h, a0s, hd, hbk, hxc, hpk, hcl, hso, hfz, hwk, hen, hw, hO, hun, hOp, List.length_map, List.map_nil, List.length_nil, a1j]; exact rfl))); (try simp only [go_sem, simprocAttr, a0s, hd, hbk, hxc, hpk, hcl, hso, hfz, hwk, hen, hw, hO, hun, hOp, List.length_map, List.map_nil, List.length_nil, a1j])) | ((first | apply a0e | apply d7E | apply a0a) <;> intro h <;> (try simp only [go_sem, simprocAttr, h, a0s, hd, hbk, hxc, hpk, hcl, hso, hfz, hwk, hen, hw, hO, hun, hOp, List.length_map, List.map_nil, List.length_nil, a1j]))))
           rfl
 . simp only [List.take_length]
   (simp only [go_sem, simprocAttr, a0s]; repeat' (first | ((first | refine brY ?_ | refine brN ?_ | refine brA ?_ | refine brD ?_ | refine brF ?_ | ((first | apply a0k | apply a0j); (. intro h; simp only [go_sem, simprocAttr, a0p h, a0s]; exact rfl))); (try simp only [go_sem, simprocAttr, a0s])) | ((first | apply a0e | apply d7E | apply a0a) <;> intro h <;> (try simp only [go_sem, simprocAttr, h, a0s]))))
def Book.best (b : Book) : Option (List Rest) := b.looks (b.a0V b.singers.length)
def Book.plan (b : Book) : List Rest × Int := if b.err true = 0 then (match b.best with | some l => (l, 0) | none => ([], 4)) else ([], b.err true)
def b2o (b : Book) : SK := if b.err true = 0 then (match b.best with | some l => topK (kS l) | none => .nil) else .nil
theorem b9e {b : Book} (hs : Sane b) : (b.a0V b.singers.length).length <= 100000 /\ ∀ p ∈ b.a0V b.singers.length, p.2.length <= 15 := by
 have hs3 := hs.s3
 refine ⟨?_, fun p hp => ?_⟩
 . have h1 := a8h hs b.singers.length
   have h2 : 32 ^ b.singers.length <= 32 ^ 3 := Nat.pow_le_pow_right (by decide) hs3
   have : (32 : Nat) ^ 3 = 32768 := by decide
   omega
 . have := a7q hs _ p hp; omega
theorem b7k (b : Book) [hb : b.Fits] (M : Nat) (hsort : b2B Γ M) (hM : b.valid = true -> ∀ p ∈ b.a0V b.singers.length, p.2.length <= M) :
   K Γ (.fn 107) [.agg b.c] [] = some (.tup [.sc (.sl (b2o b) 2 (rl b.plan.1)), vi b.plan.2], []) := by
 obtain ⟨cs, ha, hlen, hp, hun, hO⟩ := a6O (Γ := Γ) b true
 have hu (m : Nat) : C.a0G m cs = true := a0C m _ hp
 by_cases he : b.err true = 0
 . obtain ⟨hv, -, hne⟩ := a5T he
   have hs := a2n.1 hv
   obtain rfl := hO he
   obtain ⟨hj1, hj2⟩ := b9e hs
   have hL0 {β : Type} (Q : Ex -> St -> Option β) := c0z (Γ := Γ) b hs hne Q
   have hL3 {β : Type} (Q : Ex -> St -> Option β) := c0C (Γ := Γ) b hs M hsort (kA b b.singers.length) (b.a0V b.singers.length) hj1 (b2f b _) hj2 (hM hv) Q
   change ∀ {β : Type} (Q : Ex -> St -> Option β), _ = Q (.exit 6) ⟨[(4, .sc (.ptr 1 0)), (13, .sc (a3L b.best)), (14, vb b.best.isSome), _, _, _, _, _], _⟩ at hL3
   rw [he] at ha
   simp only [Book.plan, b2o, if_pos he]
   cases hbe : b.best with
   | none =>
     simp only [hbe, a3L, Option.isSome_none] at hL3
     rw [K_fn P04.f107 _ _ rfl]
     simp only [go_sem, simprocAttr, a4U, ha, hu, hun, hp, hL0, hL3, List.length_map, List.map_nil]
   | some l =>
     simp only [hbe, a3L, Option.isSome_some] at hL3
     have hS := a6u 2 (kS l) (rl l) l.length (by simp)
     rw [K_fn P04.f107 _ _ rfl]
     simp only [go_sem, simprocAttr, a4U, ha, hu, hun, hp, hL0, hL3, hS, List.length_map]
 . have hd : decide (b.err true = 0) = false := decide_eq_false he
   simp only [Book.plan, b2o, if_neg he]
   rw [K_fn P04.f107 _ _ rfl]
   simp only [go_sem, simprocAttr, a4U, ha, hu, hun, hlen, hp, hd, List.map_nil]
end
end Go.Pm.St
namespace Go.Pm.St
open Ac
def chB (needs : Int) (k : SK) (l : List Sign) : Book := ⟨.full, [⟨10, 11⟩, ⟨8, 8⟩], ⟨2, 3⟩, ⟨4, 4⟩, ⟨3, 4⟩, .full, [⟨1, 1, 1⟩, ⟨0, 1, needs⟩, ⟨0, 1, 1⟩, ⟨2, 0, 1⟩], .nil, [], k, l⟩
def ownX : Book := chB 1 .nil []
def a7j : Book := chB 2 .nil []
def sg3 : Sign := ⟨0, 0, 3, 0⟩
def sg2 : Sign := ⟨1, 0, 2, 0⟩
def a5j : Book := chB 1 .full [sg3]
def a7e : Book := chB 1 .full [sg3, sg2]
instance fits_ch (needs : Int) (k : SK) : (chB needs k []).Fits := ⟨by simp [chB], by simp [chB], by simp [chB], by simp [chB]⟩
instance fits_own : ownX.Fits := fits_ch _ _
instance fits_great : a7j.Fits := fits_ch _ _
instance fits_tried : a5j.Fits := ⟨by simp [a5j, chB], by simp [a5j, chB], by simp [a5j, chB], by simp [a5j, chB]⟩
instance fits_torn : a7e.Fits := ⟨by simp [a7e, chB], by simp [a7e, chB], by simp [a7e, chB], by simp [a7e, chB]⟩
theorem b9q : ownX.plan = ([⟨0, 0⟩, ⟨1, 1⟩], 0) := by decide +kernel
theorem b6u : a7j.plan = ([⟨0, 0⟩, ⟨2, 1⟩], 0) := by decide +kernel
theorem c1h : ∀ p ∈ ownX.a0V ownX.singers.length, p.2.length <= 12 := by decide +kernel
theorem b7y : ∀ p ∈ a7j.a0V a7j.singers.length, p.2.length <= 12 := by decide +kernel
theorem a7k (x y : Rest) : a0c [1, 1] x.c y.c = some (decide (x = y)) := by
 rw [Rest.a0c]
 congr 1
 obtain ⟨a, b⟩ := x; obtain ⟨c, d⟩ := y
 by_cases h1 : a = c <;> by_cases h2 : b = d <;> simp [h1, h2]
section
variable {Γ : Env} [P04 Γ] [G04 Γ]
@[go_sem] theorem b4a (needs : Int) (k : SK) (l : List Sign) : K Γ (.fn 168) [vi needs, .sc (.sl k 4 (l.map Sign.c))] [] = some (.agg (chB needs k l).c, []) := by
 rw [K_fn P04.f168 _ _ rfl]
 simp only [go_sem, simprocAttr, a4s]
 rfl
@[go_sem] theorem c3v (needs : Int) (k : SK) : K Γ (.fn 168) [vi needs, .sc (.sl k 4 [])] [] = some (.agg (chB needs k []).c, []) := b4a needs k []
@[go_sem] theorem d1e : K Γ (.fn 134) [] [] = some (.agg ownX.c, []) := by
 rw [K_fn P04.f134 _ _ rfl]
 simp only [go_sem, simprocAttr, a4W]
 rfl
@[go_sem] theorem c9K : K Γ (.fn 140) [] [] = some (.agg a7j.c, []) := by
 rw [K_fn P04.f140 _ _ rfl]
 simp only [go_sem, simprocAttr, a4b]
 rfl
@[go_sem] theorem c9Z : K Γ (.fn 136) [] [] = some (.agg a5j.c, []) := by
 have h : K Γ (.fn 168) [vi 1, .sc (.sl .full 4 [[ci 0, ci 0, ci 3, ci 0]])] [] = some (.agg a5j.c, []) := b4a 1 .full [sg3]
 rw [K_fn P04.f136 _ _ rfl]
 simp only [go_sem, simprocAttr, a4e, h]
@[go_sem] theorem d0E : K Γ (.fn 142) [] [] = some (.agg a7e.c, []) := by
 have h : K Γ (.fn 168) [vi 1, .sc (.sl .full 4 [[ci 0, ci 0, ci 3, ci 0], [ci 1, ci 0, ci 2, ci 0]])] [] = some (.agg a7e.c, []) := b4a 1 .full [sg3, sg2]
 rw [K_fn P04.f142 _ _ rfl]
 simp only [go_sem, simprocAttr, a4z, h]
theorem c1Q (x : List C) : appended 2 (.sc (.sl .nil 2 [])) (.sc (.sl .full 2 [x])) = some (.own 2 [x]) := by simp [appended, elems, room]
theorem c1R (x y : List C) : appended 2 (.sc (.own 2 [x])) (.sc (.sl .full 2 [y])) = some (.own 2 [x, y]) := by simp [appended, elems, room]
theorem b4S (a b c d : Int) : K Γ (.fn 139) [.sc (.sl .full 1 [[ci a], [ci b], [ci c], [ci d]])] [] = some (.sc (.sl .shared 2 (rl [⟨a, b⟩, ⟨c, d⟩])), []) := by
 rw [K_fn P04.f139 _ _ rfl]
 simp only [go_sem, simprocAttr, a4c, a6l, a6k, a1J, c1Q, c1R]
 rfl
theorem b8g (k k' : SK) (l m : List Rest) (hl : l.length <= 1000) (hm : m.length <= 1000) : K Γ (.fn 109) [.sc (.sl k 2 (rl l)), .sc (.sl k' 2 (rl m))] [] = some (vb (decide (l = m)), []) := by
 rw [K_fn P04.f109 _ _ rfl]
 by_cases hlm : (l.length : Int) = m.length
 . have d1 := decide_eq_true hlm
   have hz : (l.zip m).length = l.length := by simp [List.length_zip]; omega
   simp only [go_sem, simprocAttr, a3x, d1, List.length_map]
   refine (b8u (fun i (a : Bool) => ⟨[(0, .sc (.sl k 2 (rl l))), (1, .sc (.sl k' 2 (rl m))), (5, vb a), (6, vi i)], []⟩) (l.zip m) (fun p => decide (p.1 = p.2))
     (fun i a => (.exit 0, ⟨[(0, .sc (.sl k 2 (rl l))), (1, .sc (.sl k' 2 (rl m))), (5, vb a), (6, vi i), (18, vb false)], []⟩)) rfl ?_ ?_ ?_ ?_)
   . intro i p hp
     obtain ⟨h1, h2⟩ := List.getElem?_zip_eq_some.1 hp
     have hil := (List.getElem?_eq_some_iff.1 h1).1
     have d2 := decide_eq_true (show (i : Int) < l.length by omega)
     have hi : IntKind.i64.wrap ((i : Int) + 1) = i + 1 := wrap_i64 (by omega) (by omega)
     (simp only [go_sem, simprocAttr, a1l, h1, h2, d2, hi, a7k, List.length_map]; repeat' (first | ((first | refine brY ?_ | refine brN ?_ | refine brA ?_ | refine brD ?_ | refine brF ?_ | ((first | apply a0k | apply a0j); (. intro h; simp only [go_sem, simprocAttr, a0p h, a1l, h1, h2, d2, hi, a7k, List.length_map]; exact rfl))); (try simp only [go_sem, simprocAttr, a1l, h1, h2, d2, hi, a7k, List.length_map])) | ((first | apply a0e | apply d7E | apply a0a) <;> intro h <;> (try simp only [go_sem, simprocAttr, h, a1l, h1, h2, d2, hi, a7k, List.length_map]))))
     rfl
   . intro i _
     (simp only [go_sem, simprocAttr, a1l]; repeat' (first | ((first | refine brY ?_ | refine brN ?_ | refine brA ?_ | refine brD ?_ | refine brF ?_ | ((first | apply a0k | apply a0j); (. intro h; simp only [go_sem, simprocAttr, a0p h, a1l]; exact rfl))); (try simp only [go_sem, simprocAttr, a1l])) | ((first | apply a0e | apply d7E | apply a0a) <;> intro h <;> (try simp only [go_sem, simprocAttr, h, a1l]))))
   . have d2 : decide (((l.zip m).length : Int) < l.length) = false := decide_eq_false (by omega)
     simp only [go_sem, simprocAttr, a1l, d2, List.length_map]
   . intro i
     have he : (l.zip m).all (fun p => decide (p.1 = p.2)) = decide (l = m) := by
       rw [Bool.eq_iff_iff, List.all_eq_true, decide_eq_true_eq]
       constructor
       . intro h
         apply List.ext_getElem?
         intro i
         by_cases hi : i < l.length
         . have hi' : i < m.length := by omega
           have := h (l[i], m[i]) (List.mem_of_getElem? (List.getElem?_zip_eq_some.2 ⟨List.getElem?_eq_getElem hi, List.getElem?_eq_getElem hi'⟩))
           rw [List.getElem?_eq_getElem hi, List.getElem?_eq_getElem hi']
           exact congrArg some (of_decide_eq_true this)
         . rw [List.getElem?_eq_none (by omega), List.getElem?_eq_none (by omega)]
       . rintro rfl p hp
         obtain ⟨i, hi⟩ := List.getElem?_of_mem hp
         obtain ⟨a1, a2⟩ := List.getElem?_zip_eq_some.1 hi
         rw [a1] at a2
         exact decide_eq_true (Option.some.inj a2)
     rw [he]
     (simp only [go_sem, simprocAttr]; repeat' (first | ((first | refine brY ?_ | refine brN ?_ | refine brA ?_ | refine brD ?_ | refine brF ?_ | ((first | apply a0k | apply a0j); (. intro h; simp only [go_sem, simprocAttr, a0p h]; exact rfl))); (try simp only [go_sem, simprocAttr])) | ((first | apply a0e | apply d7E | apply a0a) <;> intro h <;> (try simp only [go_sem, simprocAttr, h]))))
 . have d1 := decide_eq_false hlm
   have hne : decide (l = m) = false := decide_eq_false (fun e => hlm (by rw [e]))
   simp only [go_sem, simprocAttr, a3x, d1, hne, a6I, a1l, a1J, List.length_map]
/-! ### What the chapter's examples answer -/
theorem b8J : K Γ (.fn 135) [.agg ownX.c, vi 0, vi 3] [] = some (.tup [.agg [ci (-2), ci 5], vi 0], []) := by
 have e : ownX.left 0 3 = ((-2, 5), 0) := by decide +kernel
 rw [b7j, e]
theorem b8K : K Γ (.fn 135) [.agg a5j.c, vi 1, vi 0] [] = some (.tup [.agg [ci 1, ci 1], vi 0], []) := by
 have e : a5j.left 1 0 = ((1, 1), 0) := by decide +kernel
 rw [b7j, e]
theorem b8H : K Γ (.fn 137) [.agg a5j.c, vi 0] [] = some (.tup [.agg [ci 3, ci 3], vi 0], []) := by
 have e : a5j.costs 0 = ((3, 3), 0) := by decide +kernel
 rw [c0t, e]
theorem b7t : K Γ (.fn 138) [.agg ownX.c, vi 1] [] = some (.tup [vi 2, vi 0], []) := by
 have e : ownX.beyond 1 = (2, 0) := by decide +kernel
 rw [b8s, e]
theorem b8I : K Γ (.fn 101) [.agg ownX.c] [] = some (.tup [vi 2, vi 0, vi 0], []) := by
 have e : ownX.first = ((2, 0), 0) := by decide +kernel
 rw [c0x, e]
theorem c0M : K Γ (.fn 105) [.agg ownX.c, .sc (.sl .shared 2 (rl [⟨0, 0⟩, ⟨1, 1⟩]))] [] = some (.tup [vb true, vi 0], []) := by
 have e : ownX.safe [⟨0, 0⟩, ⟨1, 1⟩] = (true, 0) := by decide +kernel
 rw [c1N ownX .shared [⟨0, 0⟩, ⟨1, 1⟩] (by decide), e]
theorem b8L : K Γ (.fn 107) [.agg ownX.c] [] = some (.tup [.sc (.sl .full 2 (rl [⟨0, 0⟩, ⟨1, 1⟩])), vi 0], []) := by
 have e : b2o ownX = .full := by decide +kernel
 rw [b7k ownX 12 b6l (fun _ => c1h), b9q, e]
theorem b8M : K Γ (.fn 107) [.agg a7j.c] [] = some (.tup [.sc (.sl .full 2 (rl [⟨0, 0⟩, ⟨2, 1⟩])), vi 0], []) := by
 have e : b2o a7j = .full := by decide +kernel
 rw [b7k a7j 12 b6l (fun _ => b7y), b6u, e]
theorem c0L : K Γ (.fn 141) [.agg ownX.c, .agg [ci 1, ci 0, ci 3, ci 1]] [] = some (.tup [vb true, vi 0], []) := by
 have e : ownX.fits ⟨1, 0, 3, 1⟩ = (true, 0) := by decide +kernel
 have := c1M (Γ := Γ) ownX ⟨1, 0, 3, 1⟩
 rw [e] at this; exact this
theorem b8N : K Γ (.fn 143) [.agg a7e.c] [] = some (.tup [.sc (.sl .full 1 [[ci 0]]), vi 0], []) := by
 have e : a7e.wrong = ([0], 0) := by decide +kernel
 have e2 : b2A a7e = .full := by decide +kernel
 rw [c0E, e, e2]; rfl
theorem c1Z : K Γ (.fn 103) [.agg ownX.c, .sc (.sl .shared 2 (rl [⟨0, 0⟩, ⟨1, 1⟩]))] [] = some (.tup [vb true, vi 0], []) := by
 have e : (ownX.valid && ownX.a4k [⟨0, 0⟩, ⟨1, 1⟩]) = true := by decide +kernel
 have a : (if ownX.valid then (0 : Int) else 40) = 0 := by decide +kernel
 rw [c3l ownX .shared [⟨0, 0⟩, ⟨1, 1⟩] (by decide), e, a]
theorem c2r (k k' : SK) : K Γ (.fn 109) [.sc (.sl k 2 (rl [⟨0, 0⟩, ⟨1, 1⟩])), .sc (.sl k' 2 (rl [⟨0, 0⟩, ⟨1, 1⟩]))] [] = some (vb true, []) := by
 rw [b8g k k' _ _ (by decide) (by decide)]; rfl
theorem c2s (k k' : SK) : K Γ (.fn 109) [.sc (.sl k 2 (rl [⟨0, 0⟩, ⟨2, 1⟩])), .sc (.sl k' 2 (rl [⟨0, 0⟩, ⟨2, 1⟩]))] [] = some (vb true, []) := by
 rw [b8g k k' _ _ (by decide) (by decide)]; rfl
theorem b8G (k k' : SK) : K Γ (.fn 23) [.sc (.sl k 1 [[ci 0]]), .sc (.sl k' 1 [[ci 0]])] [] = some (vb true, []) := by
 have := c0w (Γ := Γ) k k' [0] [0] (by decide) (by decide)
 exact this
@[go_sem] theorem c8L : K Γ (.fn 110) [] [] = some (vb true, []) := by
 have h1 := c0M (Γ := Γ); have h2 := b8L (Γ := Γ); have h3 := b8M (Γ := Γ); have h4 := c1Z (Γ := Γ)
 have h5 := b4S (Γ := Γ) 0 0 1 1; have h6 := b4S (Γ := Γ) 0 0 2 1
 have h7 := c2r (Γ := Γ); have h8 := c2s (Γ := Γ)
 simp only [rl, List.map_cons, List.map_nil, Rest.c] at h1 h2 h3 h4 h5 h6 h7 h8
 rw [K_fn P04.f110 _ _ rfl]
 simp only [go_sem, simprocAttr, a3M, b8J, b8K, b8H, b7t, b8I, c0L, b8N, h1, h2, h3, h4, h5, h6, h7, h8, b8G, b4A]
end
end Go.Pm.St
namespace Go.Pm.St
open Ac
theorem b5r (l : List Rest) (i : Int) (d : Nat) : (l.any fun x => decide (x = ⟨(d : Int), i⟩)) = a2Y l i d := by
 unfold a2Y
 congr 1; funext x
 obtain ⟨a, b⟩ := x
 by_cases h1 : a = (d : Int) <;> by_cases h2 : b = i <;> simp [h1, h2]
theorem b4m {α : Type} (p : α -> Bool) (l : List α) : (a0z (fun _ x => p x) 0 l).isSome = l.any p := by
 cases h : a0z (fun _ x => p x) 0 l with
 | none =>
   rw [a2L] at h
   rw [Option.isSome_none, eq_comm, Bool.eq_false_iff]
   intro e
   obtain ⟨x, hx, hp⟩ := List.any_eq_true.1 e
   obtain ⟨i, hi⟩ := List.getElem?_of_mem hx
   rw [h i x hi] at hp; cases hp
 | some q =>
   obtain ⟨i, x⟩ := q
   obtain ⟨_, h2, h3, _⟩ := a3F h
   rw [Option.isSome_some, eq_comm, List.any_eq_true]
   exact ⟨x, List.mem_of_getElem? h2, h3⟩
section
variable {Γ : Env} [P04 Γ] [G04 Γ]
@[go_sem] theorem c9a (s : Span) : K Γ (.fn 49) [.agg s.c, vi 0, vi 30, vi 2] [] = some (vb (s.is 0 30 2), []) := b7i s _ _ _ (by decide) (by decide)
@[go_sem] theorem c9c (s : Span) : K Γ (.fn 49) [.agg [ci s.lo, ci s.hi], vi 0, vi 6, vi 1] [] = some (vb (s.is 0 6 1), []) := b7i s _ _ _ (by decide) (by decide)
end
end Go.Pm.St
namespace Go.Pm.St
open Ac
section
variable {Γ : Env} [P04 Γ] [G04 Γ]
theorem d5x (b : Book) [hb : b.Fits] (n : Int) : K Γ (.fn 157) [.agg b.c, vi n] [] = some (vb (b.a1f n), []) := by
 have h := hb.s
 have hw : IntKind.i64.wrap ((b.singers.length : Int) - 1) = b.singers.length - 1 := wrap_i64 (by omega) (by omega)
 rw [K_fn P04.f157 _ _ rfl]
 (simp only [go_sem, simprocAttr, d5c, hw, Book.a1f]; repeat' (first | ((first | refine brY ?_ | refine brN ?_ | refine brA ?_ | refine brD ?_ | refine brF ?_ | ((first | apply a0k | apply a0j); (. intro h; simp only [go_sem, simprocAttr, a0p h, d5c, hw, Book.a1f]; exact rfl))); (try simp only [go_sem, simprocAttr, d5c, hw, Book.a1f])) | ((first | apply a0e | apply d7E | apply a0a) <;> intro h <;> (try simp only [go_sem, simprocAttr, h, d5c, hw, Book.a1f]))))
theorem d5K (b : Book) [hb : b.Fits] (n : Int) : K Γ (.fn 156) [.agg b.c, vi n] [] = some (vb (b.a2O n), []) := by
 have h := hb.d
 have hw : IntKind.i64.wrap ((b.days.length : Int) - 1) = b.days.length - 1 := wrap_i64 (by omega) (by omega)
 rw [K_fn P04.f156 _ _ rfl]
 (simp only [go_sem, simprocAttr, d5e, hw, Book.a2O]; repeat' (first | ((first | refine brY ?_ | refine brN ?_ | refine brA ?_ | refine brD ?_ | refine brF ?_ | ((first | apply a0k | apply a0j); (. intro h; simp only [go_sem, simprocAttr, a0p h, d5e, hw, Book.a2O]; exact rfl))); (try simp only [go_sem, simprocAttr, d5e, hw, Book.a2O])) | ((first | apply a0e | apply d7E | apply a0a) <;> intro h <;> (try simp only [go_sem, simprocAttr, h, d5e, hw, Book.a2O]))))
theorem d6h (b : Book) [hb : b.Fits] (x : Sign) : K Γ (.fn 158) [.agg b.c, .agg x.c] [] = some (vb (b.a3z x), []) := by
 have h1 := d5x (Γ := Γ) b x.singer
 have h2 := d5K (Γ := Γ) b x.day
 cases k1 : b.a1f x.singer with
 | false => rw [k1] at h1; rw [K_fn P04.f158 _ _ rfl]; (simp only [go_sem, simprocAttr, d4G, h1, Book.a3z, k1, Bool.false_and]; repeat' (first | ((first | refine brY ?_ | refine brN ?_ | refine brA ?_ | refine brD ?_ | refine brF ?_ | ((first | apply a0k | apply a0j); (. intro h; simp only [go_sem, simprocAttr, a0p h, d4G, h1, Book.a3z, k1, Bool.false_and]; exact rfl))); (try simp only [go_sem, simprocAttr, d4G, h1, Book.a3z, k1, Bool.false_and])) | ((first | apply a0e | apply d7E | apply a0a) <;> intro h <;> (try simp only [go_sem, simprocAttr, h, d4G, h1, Book.a3z, k1, Bool.false_and]))))
 | true =>
   rw [k1] at h1
   cases k2 : b.a2O x.day with
   | false => rw [k2] at h2; rw [K_fn P04.f158 _ _ rfl]; (simp only [go_sem, simprocAttr, d4G, h1, h2, Book.a3z, k1, k2, Bool.false_and, Bool.and_false]; repeat' (first | ((first | refine brY ?_ | refine brN ?_ | refine brA ?_ | refine brD ?_ | refine brF ?_ | ((first | apply a0k | apply a0j); (. intro h; simp only [go_sem, simprocAttr, a0p h, d4G, h1, h2, Book.a3z, k1, k2, Bool.false_and, Bool.and_false]; exact rfl))); (try simp only [go_sem, simprocAttr, d4G, h1, h2, Book.a3z, k1, k2, Bool.false_and, Bool.and_false])) | ((first | apply a0e | apply d7E | apply a0a) <;> intro h <;> (try simp only [go_sem, simprocAttr, h, d4G, h1, h2, Book.a3z, k1, k2, Bool.false_and, Bool.and_false]))))
   | true =>
     rw [k2] at h2
     cases k3 : within x.left (-150) 30 with
     | false => rw [K_fn P04.f158 _ _ rfl]; (simp only [go_sem, simprocAttr, d4G, h1, h2, Book.a3z, k1, k2, k3, Bool.false_and, Bool.and_false]; repeat' (first | ((first | refine brY ?_ | refine brN ?_ | refine brA ?_ | refine brD ?_ | refine brF ?_ | ((first | apply a0k | apply a0j); (. intro h; simp only [go_sem, simprocAttr, a0p h, d4G, h1, h2, Book.a3z, k1, k2, k3, Bool.false_and, Bool.and_false]; exact rfl))); (try simp only [go_sem, simprocAttr, d4G, h1, h2, Book.a3z, k1, k2, k3, Bool.false_and, Bool.and_false])) | ((first | apply a0e | apply d7E | apply a0a) <;> intro h <;> (try simp only [go_sem, simprocAttr, h, d4G, h1, h2, Book.a3z, k1, k2, k3, Bool.false_and, Bool.and_false]))))
     | true => rw [K_fn P04.f158 _ _ rfl]; (simp only [go_sem, simprocAttr, d4G, h1, h2, Book.a3z, k1, k2, k3, Bool.true_and, Bool.and_true]; repeat' (first | ((first | refine brY ?_ | refine brN ?_ | refine brA ?_ | refine brD ?_ | refine brF ?_ | ((first | apply a0k | apply a0j); (. intro h; simp only [go_sem, simprocAttr, a0p h, d4G, h1, h2, Book.a3z, k1, k2, k3, Bool.true_and, Bool.and_true]; exact rfl))); (try simp only [go_sem, simprocAttr, d4G, h1, h2, Book.a3z, k1, k2, k3, Bool.true_and, Bool.and_true])) | ((first | apply a0e | apply d7E | apply a0a) <;> intro h <;> (try simp only [go_sem, simprocAttr, h, d4G, h1, h2, Book.a3z, k1, k2, k3, Bool.true_and, Bool.and_true]))))
theorem d6i (b : Book) [hb : b.Fits] (ok : Bool) {β : Type} {Q : Ex -> St -> Option β} {r : Option β}
   (hQ : ∀ i : Nat, Q (.exit 0) ⟨[(1, .sc (.ptr 0 0)), (3, vb (ok && b.singers.all (·.is 0 30 2))), (4, vi i), (39, vb false)], [.var b.c]⟩ = r) :
   E Γ d4B ⟨[(1, .sc (.ptr 0 0)), (3, vb ok), (4, vi 0)], [.var b.c]⟩ Q = r := by
 cases ok with
 | false => (simp only [go_sem, simprocAttr, d4B, d4x, a1J]; repeat' (first | ((first | refine brY ?_ | refine brN ?_ | refine brA ?_ | refine brD ?_ | refine brF ?_ | ((first | apply a0k | apply a0j); (. intro h; simp only [go_sem, simprocAttr, a0p h, d4B, d4x, a1J]; exact rfl))); (try simp only [go_sem, simprocAttr, d4B, d4x, a1J])) | ((first | apply a0e | apply d7E | apply a0a) <;> intro h <;> (try simp only [go_sem, simprocAttr, h, d4B, d4x, a1J])))); exact hQ 0
 | true =>
   refine c0u (fun i ok => ⟨[(1, .sc (.ptr 0 0)), (3, vb ok), (4, vi i)], [.var b.c]⟩) b.singers (·.is 0 30 2) (fun i ok => (.exit 0, ⟨[(1, .sc (.ptr 0 0)), (3, vb ok), (4, vi i), (39, vb false)], [.var b.c]⟩)) ?_ ?_ ?_ ?_
   . intro i x hx
     have hi := (List.getElem?_eq_some_iff.1 hx).1
     have hb1 := hb.s
     have hlt := decide_eq_true (show (i : Int) < b.singers.length by omega)
     have hiw : IntKind.i64.wrap ((i : Int) + 1) = i + 1 := wrap_i64 (by omega) (by omega)
     (simp only [go_sem, simprocAttr, d4x, hx, hlt, hiw]; repeat' (first | ((first | refine brY ?_ | refine brN ?_ | refine brA ?_ | refine brD ?_ | refine brF ?_ | ((first | apply a0k | apply a0j); (. intro h; simp only [go_sem, simprocAttr, a0p h, d4x, hx, hlt, hiw]; exact rfl))); (try simp only [go_sem, simprocAttr, d4x, hx, hlt, hiw])) | ((first | apply a0e | apply d7E | apply a0a) <;> intro h <;> (try simp only [go_sem, simprocAttr, h, d4x, hx, hlt, hiw]))))
     rfl
   . intro i hi
     (simp only [go_sem, simprocAttr, d4x]; repeat' (first | ((first | refine brY ?_ | refine brN ?_ | refine brA ?_ | refine brD ?_ | refine brF ?_ | ((first | apply a0k | apply a0j); (. intro h; simp only [go_sem, simprocAttr, a0p h, d4x]; exact rfl))); (try simp only [go_sem, simprocAttr, d4x])) | ((first | apply a0e | apply d7E | apply a0a) <;> intro h <;> (try simp only [go_sem, simprocAttr, h, d4x]))))
   . have hlt := decide_eq_false (show ¬ (b.singers.length : Int) < b.singers.length by omega)
     (simp only [go_sem, simprocAttr, d4x, hlt]; repeat' (first | ((first | refine brY ?_ | refine brN ?_ | refine brA ?_ | refine brD ?_ | refine brF ?_ | ((first | apply a0k | apply a0j); (. intro h; simp only [go_sem, simprocAttr, a0p h, d4x, hlt]; exact rfl))); (try simp only [go_sem, simprocAttr, d4x, hlt])) | ((first | apply a0e | apply d7E | apply a0a) <;> intro h <;> (try simp only [go_sem, simprocAttr, h, d4x, hlt]))))
   . intro i
     have := hQ i
     simpa using this
theorem d6j (b : Book) [hb : b.Fits] (ok : Bool) {β : Type} {Q : Ex -> St -> Option β} {r : Option β}
   (hQ : ∀ i : Nat, Q (.exit 2) ⟨[(1, .sc (.ptr 0 0)), (3, vb (ok && [b.c0, b.c1, b.c2].all (·.is 0 6 1))), (5, vi i), (52, vb false)], [.var b.c]⟩ = r) :
   E Γ d4C ⟨[(1, .sc (.ptr 0 0)), (3, vb ok), (5, vi 0)], [.var b.c]⟩ Q = r := by
 cases ok with
 | false => (simp only [go_sem, simprocAttr, d4C, d4y, a1J]; repeat' (first | ((first | refine brY ?_ | refine brN ?_ | refine brA ?_ | refine brD ?_ | refine brF ?_ | ((first | apply a0k | apply a0j); (. intro h; simp only [go_sem, simprocAttr, a0p h, d4C, d4y, a1J]; exact rfl))); (try simp only [go_sem, simprocAttr, d4C, d4y, a1J])) | ((first | apply a0e | apply d7E | apply a0a) <;> intro h <;> (try simp only [go_sem, simprocAttr, h, d4C, d4y, a1J])))); exact hQ 0
 | true =>
   refine c0u (fun i ok => ⟨[(1, .sc (.ptr 0 0)), (3, vb ok), (5, vi i)], [.var b.c]⟩) [b.c0, b.c1, b.c2] (·.is 0 6 1) (fun i ok => (.exit 2, ⟨[(1, .sc (.ptr 0 0)), (3, vb ok), (5, vi i), (52, vb false)], [.var b.c]⟩)) ?_ ?_ ?_ ?_
   . intro i x hx
     have hi := (List.getElem?_eq_some_iff.1 hx).1
     simp only [List.length_cons, List.length_nil] at hi
     have h2 : i = 0 \/ i = 1 \/ i = 2 := by omega
     rcases h2 with rfl | rfl | rfl <;>
     . simp at hx; subst hx
       (simp only [go_sem, simprocAttr, d4y]; repeat' (first | ((first | refine brY ?_ | refine brN ?_ | refine brA ?_ | refine brD ?_ | refine brF ?_ | ((first | apply a0k | apply a0j); (. intro h; simp only [go_sem, simprocAttr, a0p h, d4y]; exact rfl))); (try simp only [go_sem, simprocAttr, d4y])) | ((first | apply a0e | apply d7E | apply a0a) <;> intro h <;> (try simp only [go_sem, simprocAttr, h, d4y]))))
   . intro i hi
     (simp only [go_sem, simprocAttr, d4y]; repeat' (first | ((first | refine brY ?_ | refine brN ?_ | refine brA ?_ | refine brD ?_ | refine brF ?_ | ((first | apply a0k | apply a0j); (. intro h; simp only [go_sem, simprocAttr, a0p h, d4y]; exact rfl))); (try simp only [go_sem, simprocAttr, d4y])) | ((first | apply a0e | apply d7E | apply a0a) <;> intro h <;> (try simp only [go_sem, simprocAttr, h, d4y]))))
   . (simp only [go_sem, simprocAttr, d4y]; repeat' (first | ((first | refine brY ?_ | refine brN ?_ | refine brA ?_ | refine brD ?_ | refine brF ?_ | ((first | apply a0k | apply a0j); (. intro h; simp only [go_sem, simprocAttr, a0p h, d4y]; exact rfl))); (try simp only [go_sem, simprocAttr, d4y])) | ((first | apply a0e | apply d7E | apply a0a) <;> intro h <;> (try simp only [go_sem, simprocAttr, h, d4y]))))
   . intro i
     have := hQ i
     simpa using this
theorem d6k (b : Book) [hb : b.Fits] (ok : Bool) {β : Type} {Q : Ex -> St -> Option β} {r : Option β}
   (hQ : ∀ i : Nat, Q (.exit 4) ⟨[(1, .sc (.ptr 0 0)), (3, vb (ok && b.days.all Day.ok)), (6, vi i), (67, vb false)], [.var b.c]⟩ = r) :
   E Γ d4D ⟨[(1, .sc (.ptr 0 0)), (3, vb ok), (6, vi 0)], [.var b.c]⟩ Q = r := by
 cases ok with
 | false => (simp only [go_sem, simprocAttr, d4D, d4v, a1J]; repeat' (first | ((first | refine brY ?_ | refine brN ?_ | refine brA ?_ | refine brD ?_ | refine brF ?_ | ((first | apply a0k | apply a0j); (. intro h; simp only [go_sem, simprocAttr, a0p h, d4D, d4v, a1J]; exact rfl))); (try simp only [go_sem, simprocAttr, d4D, d4v, a1J])) | ((first | apply a0e | apply d7E | apply a0a) <;> intro h <;> (try simp only [go_sem, simprocAttr, h, d4D, d4v, a1J])))); exact hQ 0
 | true =>
   refine c0u (fun i ok => ⟨[(1, .sc (.ptr 0 0)), (3, vb ok), (6, vi i)], [.var b.c]⟩) b.days Day.ok (fun i ok => (.exit 4, ⟨[(1, .sc (.ptr 0 0)), (3, vb ok), (6, vi i), (67, vb false)], [.var b.c]⟩)) ?_ ?_ ?_ ?_
   . intro i x hx
     have hi := (List.getElem?_eq_some_iff.1 hx).1
     have hb1 := hb.d
     have hlt := decide_eq_true (show (i : Int) < b.days.length by omega)
     have hiw : IntKind.i64.wrap ((i : Int) + 1) = i + 1 := wrap_i64 (by omega) (by omega)
     cases h1 : within x.plain 0 2 with
     | false => (simp only [go_sem, simprocAttr, d4v, hx, hlt, hiw, h1, Day.ok, Bool.false_and]; repeat' (first | ((first | refine brY ?_ | refine brN ?_ | refine brA ?_ | refine brD ?_ | refine brF ?_ | ((first | apply a0k | apply a0j); (. intro h; simp only [go_sem, simprocAttr, a0p h, d4v, hx, hlt, hiw, h1, Day.ok, Bool.false_and]; exact rfl))); (try simp only [go_sem, simprocAttr, d4v, hx, hlt, hiw, h1, Day.ok, Bool.false_and])) | ((first | apply a0e | apply d7E | apply a0a) <;> intro h <;> (try simp only [go_sem, simprocAttr, h, d4v, hx, hlt, hiw, h1, Day.ok, Bool.false_and])))); rfl
     | true => cases h2 : within x.full 0 2 with
       | false => (simp only [go_sem, simprocAttr, d4v, hx, hlt, hiw, h1, h2, Day.ok, Bool.false_and]; repeat' (first | ((first | refine brY ?_ | refine brN ?_ | refine brA ?_ | refine brD ?_ | refine brF ?_ | ((first | apply a0k | apply a0j); (. intro h; simp only [go_sem, simprocAttr, a0p h, d4v, hx, hlt, hiw, h1, h2, Day.ok, Bool.false_and]; exact rfl))); (try simp only [go_sem, simprocAttr, d4v, hx, hlt, hiw, h1, h2, Day.ok, Bool.false_and])) | ((first | apply a0e | apply d7E | apply a0a) <;> intro h <;> (try simp only [go_sem, simprocAttr, h, d4v, hx, hlt, hiw, h1, h2, Day.ok, Bool.false_and])))); rfl
       | true => (simp only [go_sem, simprocAttr, d4v, hx, hlt, hiw, h1, h2, Day.ok, Bool.true_and]; repeat' (first | ((first | refine brY ?_ | refine brN ?_ | refine brA ?_ | refine brD ?_ | refine brF ?_ | ((first | apply a0k | apply a0j); (. intro h; simp only [go_sem, simprocAttr, a0p h, d4v, hx, hlt, hiw, h1, h2, Day.ok, Bool.true_and]; exact rfl))); (try simp only [go_sem, simprocAttr, d4v, hx, hlt, hiw, h1, h2, Day.ok, Bool.true_and])) | ((first | apply a0e | apply d7E | apply a0a) <;> intro h <;> (try simp only [go_sem, simprocAttr, h, d4v, hx, hlt, hiw, h1, h2, Day.ok, Bool.true_and])))); rfl
   . intro i hi
     (simp only [go_sem, simprocAttr, d4v]; repeat' (first | ((first | refine brY ?_ | refine brN ?_ | refine brA ?_ | refine brD ?_ | refine brF ?_ | ((first | apply a0k | apply a0j); (. intro h; simp only [go_sem, simprocAttr, a0p h, d4v]; exact rfl))); (try simp only [go_sem, simprocAttr, d4v])) | ((first | apply a0e | apply d7E | apply a0a) <;> intro h <;> (try simp only [go_sem, simprocAttr, h, d4v]))))
   . have hlt := decide_eq_false (show ¬ (b.days.length : Int) < b.days.length by omega)
     (simp only [go_sem, simprocAttr, d4v, hlt]; repeat' (first | ((first | refine brY ?_ | refine brN ?_ | refine brA ?_ | refine brD ?_ | refine brF ?_ | ((first | apply a0k | apply a0j); (. intro h; simp only [go_sem, simprocAttr, a0p h, d4v, hlt]; exact rfl))); (try simp only [go_sem, simprocAttr, d4v, hlt])) | ((first | apply a0e | apply d7E | apply a0a) <;> intro h <;> (try simp only [go_sem, simprocAttr, h, d4v, hlt]))))
   . intro i
     have := hQ i
     simpa using this
theorem d6l (b : Book) [hb : b.Fits] (ok : Bool) {β : Type} {Q : Ex -> St -> Option β} {r : Option β}
   (hQ : ∀ i : Nat, Q (.exit 6) ⟨[(1, .sc (.ptr 0 0)), (3, vb (ok && b.rests.all b.a6o)), (8, vi i), (95, vb false)], [.var b.c]⟩ = r) :
   E Γ d4E ⟨[(1, .sc (.ptr 0 0)), (3, vb ok), (8, vi 0)], [.var b.c]⟩ Q = r := by
 cases ok with
 | false => (simp only [go_sem, simprocAttr, d4E, d4w, a1J]; repeat' (first | ((first | refine brY ?_ | refine brN ?_ | refine brA ?_ | refine brD ?_ | refine brF ?_ | ((first | apply a0k | apply a0j); (. intro h; simp only [go_sem, simprocAttr, a0p h, d4E, d4w, a1J]; exact rfl))); (try simp only [go_sem, simprocAttr, d4E, d4w, a1J])) | ((first | apply a0e | apply d7E | apply a0a) <;> intro h <;> (try simp only [go_sem, simprocAttr, h, d4E, d4w, a1J])))); exact hQ 0
 | true =>
   refine c0u (fun i ok => ⟨[(1, .sc (.ptr 0 0)), (3, vb ok), (8, vi i)], [.var b.c]⟩) b.rests b.a6o (fun i ok => (.exit 6, ⟨[(1, .sc (.ptr 0 0)), (3, vb ok), (8, vi i), (95, vb false)], [.var b.c]⟩)) ?_ ?_ ?_ ?_
   . intro i x hx
     have hi := (List.getElem?_eq_some_iff.1 hx).1
     have hb1 := hb.r
     have hlt := decide_eq_true (show (i : Int) < b.rests.length by omega)
     have hiw : IntKind.i64.wrap ((i : Int) + 1) = i + 1 := wrap_i64 (by omega) (by omega)
     have k1 := d5K (Γ := Γ) b x.day
     have k2 := d5x (Γ := Γ) b x.singer
     cases h1 : b.a2O x.day with
     | false => rw [h1] at k1; (simp only [go_sem, simprocAttr, d4w, hx, hlt, hiw, k1, h1, Book.a6o, Bool.false_and]; repeat' (first | ((first | refine brY ?_ | refine brN ?_ | refine brA ?_ | refine brD ?_ | refine brF ?_ | ((first | apply a0k | apply a0j); (. intro h; simp only [go_sem, simprocAttr, a0p h, d4w, hx, hlt, hiw, k1, h1, Book.a6o, Bool.false_and]; exact rfl))); (try simp only [go_sem, simprocAttr, d4w, hx, hlt, hiw, k1, h1, Book.a6o, Bool.false_and])) | ((first | apply a0e | apply d7E | apply a0a) <;> intro h <;> (try simp only [go_sem, simprocAttr, h, d4w, hx, hlt, hiw, k1, h1, Book.a6o, Bool.false_and])))); rfl
     | true => rw [h1] at k1; (simp only [go_sem, simprocAttr, d4w, hx, hlt, hiw, k1, k2, h1, Book.a6o, Bool.true_and]; repeat' (first | ((first | refine brY ?_ | refine brN ?_ | refine brA ?_ | refine brD ?_ | refine brF ?_ | ((first | apply a0k | apply a0j); (. intro h; simp only [go_sem, simprocAttr, a0p h, d4w, hx, hlt, hiw, k1, k2, h1, Book.a6o, Bool.true_and]; exact rfl))); (try simp only [go_sem, simprocAttr, d4w, hx, hlt, hiw, k1, k2, h1, Book.a6o, Bool.true_and])) | ((first | apply a0e | apply d7E | apply a0a) <;> intro h <;> (try simp only [go_sem, simprocAttr, h, d4w, hx, hlt, hiw, k1, k2, h1, Book.a6o, Bool.true_and])))); rfl
   . intro i hi
     (simp only [go_sem, simprocAttr, d4w]; repeat' (first | ((first | refine brY ?_ | refine brN ?_ | refine brA ?_ | refine brD ?_ | refine brF ?_ | ((first | apply a0k | apply a0j); (. intro h; simp only [go_sem, simprocAttr, a0p h, d4w]; exact rfl))); (try simp only [go_sem, simprocAttr, d4w])) | ((first | apply a0e | apply d7E | apply a0a) <;> intro h <;> (try simp only [go_sem, simprocAttr, h, d4w]))))
   . have hlt := decide_eq_false (show ¬ (b.rests.length : Int) < b.rests.length by omega)
     (simp only [go_sem, simprocAttr, d4w, hlt]; repeat' (first | ((first | refine brY ?_ | refine brN ?_ | refine brA ?_ | refine brD ?_ | refine brF ?_ | ((first | apply a0k | apply a0j); (. intro h; simp only [go_sem, simprocAttr, a0p h, d4w, hlt]; exact rfl))); (try simp only [go_sem, simprocAttr, d4w, hlt])) | ((first | apply a0e | apply d7E | apply a0a) <;> intro h <;> (try simp only [go_sem, simprocAttr, h, d4w, hlt]))))
   . intro i
     have := hQ i
     simpa using this
theorem d6m (b : Book) [hb : b.Fits] (ok : Bool) {β : Type} {Q : Ex -> St -> Option β} {r : Option β}
   (hQ : ∀ i : Nat, Q (.exit 8) ⟨[(1, .sc (.ptr 0 0)), (3, vb (ok && b.signs.all b.a3z)), (9, vi i), (123, vb false)], [.var b.c]⟩ = r) :
   E Γ d4F ⟨[(1, .sc (.ptr 0 0)), (3, vb ok), (9, vi 0)], [.var b.c]⟩ Q = r := by
 cases ok with
 | false => (simp only [go_sem, simprocAttr, d4F, d4z, a1J]; repeat' (first | ((first | refine brY ?_ | refine brN ?_ | refine brA ?_ | refine brD ?_ | refine brF ?_ | ((first | apply a0k | apply a0j); (. intro h; simp only [go_sem, simprocAttr, a0p h, d4F, d4z, a1J]; exact rfl))); (try simp only [go_sem, simprocAttr, d4F, d4z, a1J])) | ((first | apply a0e | apply d7E | apply a0a) <;> intro h <;> (try simp only [go_sem, simprocAttr, h, d4F, d4z, a1J])))); exact hQ 0
 | true =>
   refine c0u (fun i ok => ⟨[(1, .sc (.ptr 0 0)), (3, vb ok), (9, vi i)], [.var b.c]⟩) b.signs b.a3z (fun i ok => (.exit 8, ⟨[(1, .sc (.ptr 0 0)), (3, vb ok), (9, vi i), (123, vb false)], [.var b.c]⟩)) ?_ ?_ ?_ ?_
   . intro i x hx
     have hi := (List.getElem?_eq_some_iff.1 hx).1
     have hb1 := hb.g
     have hlt := decide_eq_true (show (i : Int) < b.signs.length by omega)
     have hiw : IntKind.i64.wrap ((i : Int) + 1) = i + 1 := wrap_i64 (by omega) (by omega)
     have k1 := d6h (Γ := Γ) b x
     (simp only [go_sem, simprocAttr, d4z, hx, hlt, hiw, k1]; repeat' (first | ((first | refine brY ?_ | refine brN ?_ | refine brA ?_ | refine brD ?_ | refine brF ?_ | ((first | apply a0k | apply a0j); (. intro h; simp only [go_sem, simprocAttr, a0p h, d4z, hx, hlt, hiw, k1]; exact rfl))); (try simp only [go_sem, simprocAttr, d4z, hx, hlt, hiw, k1])) | ((first | apply a0e | apply d7E | apply a0a) <;> intro h <;> (try simp only [go_sem, simprocAttr, h, d4z, hx, hlt, hiw, k1]))))
     rfl
   . intro i hi
     (simp only [go_sem, simprocAttr, d4z]; repeat' (first | ((first | refine brY ?_ | refine brN ?_ | refine brA ?_ | refine brD ?_ | refine brF ?_ | ((first | apply a0k | apply a0j); (. intro h; simp only [go_sem, simprocAttr, a0p h, d4z]; exact rfl))); (try simp only [go_sem, simprocAttr, d4z])) | ((first | apply a0e | apply d7E | apply a0a) <;> intro h <;> (try simp only [go_sem, simprocAttr, h, d4z]))))
   . have hlt := decide_eq_false (show ¬ (b.signs.length : Int) < b.signs.length by omega)
     (simp only [go_sem, simprocAttr, d4z, hlt]; repeat' (first | ((first | refine brY ?_ | refine brN ?_ | refine brA ?_ | refine brD ?_ | refine brF ?_ | ((first | apply a0k | apply a0j); (. intro h; simp only [go_sem, simprocAttr, a0p h, d4z, hlt]; exact rfl))); (try simp only [go_sem, simprocAttr, d4z, hlt])) | ((first | apply a0e | apply d7E | apply a0a) <;> intro h <;> (try simp only [go_sem, simprocAttr, h, d4z, hlt]))))
   . intro i
     have := hQ i
     simpa using this
theorem d5B (b : Book) [hb : b.Fits] : K Γ (.fn 119) [.agg b.c] [] = some (vi (if b.valid then 0 else 40), []) := by
 have main (ok : Bool) (h : ok = (within b.singers.length 1 3 && within b.days.length 1 5 && decide ((b.rests.length : Int) <= 6) && decide ((b.signs.length : Int) <= 4))) :
     b.valid = (ok && b.singers.all (·.is 0 30 2) && [b.c0, b.c1, b.c2].all (·.is 0 6 1) && b.days.all Day.ok && b.rests.all b.a6o && b.signs.all b.a3z) := by
   rw [h]
   simp only [Book.valid, List.all_cons, List.all_nil, Bool.and_true]
   ac_rfl
 rw [K_fn P04.f119 _ _ rfl]
 cases h1 : within b.singers.length 1 3 with
 | false =>
   have hv := main false (by rw [h1]; rfl)
   simp only [Bool.false_and] at hv
   (simp only [go_sem, simprocAttr, d4H, h1, hv, d4B, d4x, d4C, d4y, d4D, d4v, d4E, d4w, d4F, d4z, a1J, Bool.false_eq_true]; repeat' (first | ((first | refine brY ?_ | refine brN ?_ | refine brA ?_ | refine brD ?_ | refine brF ?_ | ((first | apply a0k | apply a0j); (. intro h; simp only [go_sem, simprocAttr, a0p h, d4H, h1, hv, d4B, d4x, d4C, d4y, d4D, d4v, d4E, d4w, d4F, d4z, a1J, Bool.false_eq_true]; exact rfl))); (try simp only [go_sem, simprocAttr, d4H, h1, hv, d4B, d4x, d4C, d4y, d4D, d4v, d4E, d4w, d4F, d4z, a1J, Bool.false_eq_true])) | ((first | apply a0e | apply d7E | apply a0a) <;> intro h <;> (try simp only [go_sem, simprocAttr, h, d4H, h1, hv, d4B, d4x, d4C, d4y, d4D, d4v, d4E, d4w, d4F, d4z, a1J, Bool.false_eq_true]))))
 | true =>
   cases h2 : within b.days.length 1 5 with
   | false =>
     have hv := main false (by rw [h1, h2]; rfl)
     simp only [Bool.false_and] at hv
     (simp only [go_sem, simprocAttr, d4H, h1, h2, hv, d4B, d4x, d4C, d4y, d4D, d4v, d4E, d4w, d4F, d4z, a1J, Bool.false_eq_true]; repeat' (first | ((first | refine brY ?_ | refine brN ?_ | refine brA ?_ | refine brD ?_ | refine brF ?_ | ((first | apply a0k | apply a0j); (. intro h; simp only [go_sem, simprocAttr, a0p h, d4H, h1, h2, hv, d4B, d4x, d4C, d4y, d4D, d4v, d4E, d4w, d4F, d4z, a1J, Bool.false_eq_true]; exact rfl))); (try simp only [go_sem, simprocAttr, d4H, h1, h2, hv, d4B, d4x, d4C, d4y, d4D, d4v, d4E, d4w, d4F, d4z, a1J, Bool.false_eq_true])) | ((first | apply a0e | apply d7E | apply a0a) <;> intro h <;> (try simp only [go_sem, simprocAttr, h, d4H, h1, h2, hv, d4B, d4x, d4C, d4y, d4D, d4v, d4E, d4w, d4F, d4z, a1J, Bool.false_eq_true]))))
   | true =>
     cases h3 : decide ((b.rests.length : Int) <= 6) with
     | false =>
       have hv := main false (by rw [h1, h2, h3]; rfl)
       simp only [Bool.false_and] at hv
       (simp only [go_sem, simprocAttr, d4H, h1, h2, h3, hv, d4B, d4x, d4C, d4y, d4D, d4v, d4E, d4w, d4F, d4z, a1J, Bool.false_eq_true]; repeat' (first | ((first | refine brY ?_ | refine brN ?_ | refine brA ?_ | refine brD ?_ | refine brF ?_ | ((first | apply a0k | apply a0j); (. intro h; simp only [go_sem, simprocAttr, a0p h, d4H, h1, h2, h3, hv, d4B, d4x, d4C, d4y, d4D, d4v, d4E, d4w, d4F, d4z, a1J, Bool.false_eq_true]; exact rfl))); (try simp only [go_sem, simprocAttr, d4H, h1, h2, h3, hv, d4B, d4x, d4C, d4y, d4D, d4v, d4E, d4w, d4F, d4z, a1J, Bool.false_eq_true])) | ((first | apply a0e | apply d7E | apply a0a) <;> intro h <;> (try simp only [go_sem, simprocAttr, h, d4H, h1, h2, h3, hv, d4B, d4x, d4C, d4y, d4D, d4v, d4E, d4w, d4F, d4z, a1J, Bool.false_eq_true]))))
     | true =>
       have hv := main (decide ((b.signs.length : Int) <= 4)) (by rw [h1, h2, h3]; rfl)
       rw [hv]
       (simp only [go_sem, simprocAttr, d4H, h1, h2, h3]; repeat' (first | ((first | refine brY ?_ | refine brN ?_ | refine brA ?_ | refine brD ?_ | refine brF ?_ | ((first | apply a0k | apply a0j); (. intro h; simp only [go_sem, simprocAttr, a0p h, d4H, h1, h2, h3]; exact rfl))); (try simp only [go_sem, simprocAttr, d4H, h1, h2, h3])) | ((first | apply a0e | apply d7E | apply a0a) <;> intro h <;> (try simp only [go_sem, simprocAttr, h, d4H, h1, h2, h3]))))
       refine d6i b _ fun i => ?_
       (simp only [go_sem, simprocAttr]; repeat' (first | ((first | refine brY ?_ | refine brN ?_ | refine brA ?_ | refine brD ?_ | refine brF ?_ | ((first | apply a0k | apply a0j); (. intro h; simp only [go_sem, simprocAttr, a0p h]; exact rfl))); (try simp only [go_sem, simprocAttr])) | ((first | apply a0e | apply d7E | apply a0a) <;> intro h <;> (try simp only [go_sem, simprocAttr, h]))))
       refine d6j b _ fun i => ?_
       (simp only [go_sem, simprocAttr]; repeat' (first | ((first | refine brY ?_ | refine brN ?_ | refine brA ?_ | refine brD ?_ | refine brF ?_ | ((first | apply a0k | apply a0j); (. intro h; simp only [go_sem, simprocAttr, a0p h]; exact rfl))); (try simp only [go_sem, simprocAttr])) | ((first | apply a0e | apply d7E | apply a0a) <;> intro h <;> (try simp only [go_sem, simprocAttr, h]))))
       refine d6k b _ fun i => ?_
       (simp only [go_sem, simprocAttr]; repeat' (first | ((first | refine brY ?_ | refine brN ?_ | refine brA ?_ | refine brD ?_ | refine brF ?_ | ((first | apply a0k | apply a0j); (. intro h; simp only [go_sem, simprocAttr, a0p h]; exact rfl))); (try simp only [go_sem, simprocAttr])) | ((first | apply a0e | apply d7E | apply a0a) <;> intro h <;> (try simp only [go_sem, simprocAttr, h]))))
       refine d6l b _ fun i => ?_
       (simp only [go_sem, simprocAttr]; repeat' (first | ((first | refine brY ?_ | refine brN ?_ | refine brA ?_ | refine brD ?_ | refine brF ?_ | ((first | apply a0k | apply a0j); (. intro h; simp only [go_sem, simprocAttr, a0p h]; exact rfl))); (try simp only [go_sem, simprocAttr])) | ((first | apply a0e | apply d7E | apply a0a) <;> intro h <;> (try simp only [go_sem, simprocAttr, h]))))
       refine d6m b _ fun i => ?_
       (simp only [go_sem, simprocAttr]; repeat' (first | ((first | refine brY ?_ | refine brN ?_ | refine brA ?_ | refine brD ?_ | refine brF ?_ | ((first | apply a0k | apply a0j); (. intro h; simp only [go_sem, simprocAttr, a0p h]; exact rfl))); (try simp only [go_sem, simprocAttr])) | ((first | apply a0e | apply d7E | apply a0a) <;> intro h <;> (try simp only [go_sem, simprocAttr, h]))))
       all_goals (simp only [Bool.not_eq_true', Bool.not_eq_false'] at h; rw [h]; rfl)
end
end Go.Pm.St
