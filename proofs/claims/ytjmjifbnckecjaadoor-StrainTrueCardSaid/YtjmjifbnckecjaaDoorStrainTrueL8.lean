/- The statement StrainTrue, part 8. -/
import Derived.Test.YtjmjifbnckecjaaDoorStrainTrueL7
set_option linter.all false
set_option maxRecDepth 100000
namespace Go.Pm.St
open Ac
section
variable {Γ : Env} [P04 Γ] [G04 Γ]
abbrev tH (b : Book) (l : List Int) (n0 n1 lo hi : Int) : List Obj := [.var b.c, .var [ci n0, ci n1], .var (d8e b l), .var (b.d7S l).c, .var [ci lo, ci hi]]
theorem d8L (b : Book) (l : List Int) (n : Nat) : C.a0G n (d8e b l) = true := a0C n _ rfl
theorem d9V (b : Book) [hb : b.Fits] (hs : Sane b) (l : List Int) (n0 n1 lo hi : Int) (i : Nat) (bv be pe : Int) (kp : SK) (pl : List Rest) (ko : SK) (own : List Int) (ho : own.length = b.days.length)
   (h : ∀ (d : Nat) v, own[d]? = some v -> v < 0 -> be = 0 /\ ¬ (d : Int) < bv) {β : Type} (Q : Ex -> St -> Option β) :
   E Γ d8y ⟨[(3, .sc (.ptr 0 0)), (7, .sc (.ptr 2 0)), (8, .sc (.ptr 3 0)), (9, vi i), (17, vi bv), (18, vi be), (19, .sc (.sl kp 2 (rl pl))), (20, vi pe), (21, .sc (.sl ko 1 (li own))), (22, vi 0)], tH b l n0 n1 lo hi⟩ Q =
   Q (.exit 0) ⟨[(3, .sc (.ptr 0 0)), (7, .sc (.ptr 2 0)), (8, .sc (.ptr 3 0)), (9, vi i), (17, vi bv), (18, vi be), (19, .sc (.sl kp 2 (rl pl))), (20, vi pe), (21, .sc (.sl ko 1 (li own))), (22, vi b.days.length), (128, vb false)], tH b l n0 n1 lo hi⟩ := by
 have hd5 := hs.d5
 have hku := d8L b l
 refine a4q b.days.length (fun d (_ : Unit) => ⟨[(3, .sc (.ptr 0 0)), (7, .sc (.ptr 2 0)), (8, .sc (.ptr 3 0)), (9, vi i), (17, vi bv), (18, vi be), (19, .sc (.sl kp 2 (rl pl))), (20, vi pe), (21, .sc (.sl ko 1 (li own))), (22, vi d)], tH b l n0 n1 lo hi⟩) (fun _ _ => True)
   (fun _ => (.exit 0, ⟨[(3, .sc (.ptr 0 0)), (7, .sc (.ptr 2 0)), (8, .sc (.ptr 3 0)), (9, vi i), (17, vi bv), (18, vi be), (19, .sc (.sl kp 2 (rl pl))), (20, vi pe), (21, .sc (.sl ko 1 (li own))), (22, vi b.days.length), (128, vb false)], tH b l n0 n1 lo hi⟩)) () rfl trivial ?_ ?_ (fun _ _ => rfl)
 . intro d _ hd _
   refine ⟨(), trivial, ?_⟩
   obtain ⟨v, hv⟩ : ∃ v, own[d]? = some v := ⟨_, List.getElem?_eq_getElem (by omega)⟩
   have hlt := decide_eq_true (show (d : Int) < b.days.length by omega)
   have hiw : IntKind.i64.wrap ((d : Int) + 1) = d + 1 := wrap_i64 (by omega) (by omega)
   by_cases hn : v < 0
   . obtain ⟨e1, e2⟩ := h d v hv hn
     have d1 := decide_eq_true hn
     have d2 := decide_eq_true e1
     have d3 := decide_eq_false e2
     (simp only [go_sem, simprocAttr, d7U, hv, hlt, hiw, d1, d2, d3, hku, Option.map_some]; repeat' (first | ((first | refine brY ?_ | refine brN ?_ | refine brA ?_ | refine brD ?_ | refine brF ?_ | ((first | apply a0k | apply a0j); (. intro h; simp only [go_sem, simprocAttr, a0p h, d7U, hv, hlt, hiw, d1, d2, d3, hku, Option.map_some]; exact rfl))); (try simp only [go_sem, simprocAttr, d7U, hv, hlt, hiw, d1, d2, d3, hku, Option.map_some])) | ((first | apply a0e | apply d7E | apply a0a) <;> intro h <;> (try simp only [go_sem, simprocAttr, h, d7U, hv, hlt, hiw, d1, d2, d3, hku, Option.map_some]))))
     rfl
   . have d1 := decide_eq_false hn
     (simp only [go_sem, simprocAttr, d7U, hv, hlt, hiw, d1, hku, Option.map_some]; repeat' (first | ((first | refine brY ?_ | refine brN ?_ | refine brA ?_ | refine brD ?_ | refine brF ?_ | ((first | apply a0k | apply a0j); (. intro h; simp only [go_sem, simprocAttr, a0p h, d7U, hv, hlt, hiw, d1, hku, Option.map_some]; exact rfl))); (try simp only [go_sem, simprocAttr, d7U, hv, hlt, hiw, d1, hku, Option.map_some])) | ((first | apply a0e | apply d7E | apply a0a) <;> intro h <;> (try simp only [go_sem, simprocAttr, h, d7U, hv, hlt, hiw, d1, hku, Option.map_some]))))
     rfl
 . intro _ _
   have hlt := decide_eq_false (show ¬ (b.days.length : Int) < b.days.length by omega)
   (simp only [go_sem, simprocAttr, d7U, hlt]; repeat' (first | ((first | refine brY ?_ | refine brN ?_ | refine brA ?_ | refine brD ?_ | refine brF ?_ | ((first | apply a0k | apply a0j); (. intro h; simp only [go_sem, simprocAttr, a0p h, d7U, hlt]; exact rfl))); (try simp only [go_sem, simprocAttr, d7U, hlt])) | ((first | apply a0e | apply d7E | apply a0a) <;> intro h <;> (try simp only [go_sem, simprocAttr, h, d7U, hlt]))))
theorem d9W (b : Book) [hb : b.Fits] (hs : Sane b) (l : List Int) (n0 n1 lo hi : Int) (o : Nat) (hol : o <= b.days.length) (ko : SK) (own : List Int) (ho : own.length = b.days.length)
   (h : ∀ (d : Nat) v, o <= d -> own[d]? = some v -> 0 <= v) {β : Type} (Q : Ex -> St -> Option β) :
   E Γ d8z ⟨[(3, .sc (.ptr 0 0)), (21, .sc (.sl ko 1 (li own))), (26, vi o)], tH b l n0 n1 lo hi⟩ Q =
   Q (.exit 4) ⟨[(3, .sc (.ptr 0 0)), (21, .sc (.sl ko 1 (li own))), (26, vi b.days.length), (180, vb false)], tH b l n0 n1 lo hi⟩ := by
 have hd5 := hs.d5
 have hku := d8L b l
 refine a4q (b.days.length - o) (fun d (_ : Unit) => ⟨[(3, .sc (.ptr 0 0)), (21, .sc (.sl ko 1 (li own))), (26, vi ((o + d : Nat) : Int))], tH b l n0 n1 lo hi⟩) (fun _ _ => True)
   (fun _ => (.exit 4, ⟨[(3, .sc (.ptr 0 0)), (21, .sc (.sl ko 1 (li own))), (26, vi b.days.length), (180, vb false)], tH b l n0 n1 lo hi⟩)) () rfl trivial ?_ ?_ (fun _ _ => rfl)
 . intro d _ hd _
   refine ⟨(), trivial, ?_⟩
   obtain ⟨v, hv⟩ : ∃ v, own[o + d]? = some v := ⟨_, List.getElem?_eq_getElem (by omega)⟩
   have hlt := decide_eq_true (show ((o + d : Nat) : Int) < b.days.length by omega)
   have hiw : IntKind.i64.wrap (((o + d : Nat) : Int) + 1) = ((o + (d + 1) : Nat) : Int) := by rw [wrap_i64 (by omega) (by omega)]; omega
   have d1 : decide (v < 0) = false := decide_eq_false (by have := h _ v (by omega) hv; omega)
   (simp only [go_sem, simprocAttr, d7Y, hv, hlt, hiw, d1, hku, Option.map_some]; repeat' (first | ((first | refine brY ?_ | refine brN ?_ | refine brA ?_ | refine brD ?_ | refine brF ?_ | ((first | apply a0k | apply a0j); (. intro h; simp only [go_sem, simprocAttr, a0p h, d7Y, hv, hlt, hiw, d1, hku, Option.map_some]; exact rfl))); (try simp only [go_sem, simprocAttr, d7Y, hv, hlt, hiw, d1, hku, Option.map_some])) | ((first | apply a0e | apply d7E | apply a0a) <;> intro h <;> (try simp only [go_sem, simprocAttr, h, d7Y, hv, hlt, hiw, d1, hku, Option.map_some]))))
 . intro _ _
   have e : o + (b.days.length - o) = b.days.length := by omega
   have hlt := decide_eq_false (show ¬ (b.days.length : Int) < b.days.length by omega)
   simp only [e]
   (simp only [go_sem, simprocAttr, d7Y, hlt]; repeat' (first | ((first | refine brY ?_ | refine brN ?_ | refine brA ?_ | refine brD ?_ | refine brF ?_ | ((first | apply a0k | apply a0j); (. intro h; simp only [go_sem, simprocAttr, a0p h, d7Y, hlt]; exact rfl))); (try simp only [go_sem, simprocAttr, d7Y, hlt])) | ((first | apply a0e | apply d7E | apply a0a) <;> intro h <;> (try simp only [go_sem, simprocAttr, h, d7Y, hlt]))))
set_option maxHeartbeats 4000000 in
theorem d9j (b : Book) [hb : b.Fits] (k : SK) (l : List Int) (hl : l.length <= 9223372036854775807) (n0 n1 : Int) : K Γ (.fn 225) [.agg b.c, .sc (.sl k 1 (l.map fun x => [ci x])), .agg [ci n0, ci n1]] [] = some (vb true, []) := by
 cases hv : b.valid with
 | false =>
   rw [K_fn P04.f225 _ _ rfl]
   (simp only [go_sem, simprocAttr, d7T, hv]; repeat' (first | ((first | refine brY ?_ | refine brN ?_ | refine brA ?_ | refine brD ?_ | refine brF ?_ | ((first | apply a0k | apply a0j); (. intro h; simp only [go_sem, simprocAttr, a0p h, d7T, hv]; exact rfl))); (try simp only [go_sem, simprocAttr, d7T, hv])) | ((first | apply a0e | apply d7E | apply a0a) <;> intro h <;> (try simp only [go_sem, simprocAttr, h, d7T, hv]))))
 | true =>
   have hs := a2n.1 hv
   have sx := d8v hs l
   have vx := d9i hv l
   haveI fx := d9l hv l
   have nx := d8G hs l
   obtain ⟨i, hi, his⟩ := b5c n0 b.singers.length hs.s1
   obtain ⟨d, hd, hdd⟩ := b5c n1 b.days.length hs.d1
   have hs3 := hs.s3; have hd5 := hs.d5
   have hsl : (b.singers.length : Int) <= 1000000 := by omega
   have hdl : (b.days.length : Int) <= 1000000 := by omega
   have hku := d8L b l
   have hka : a0R (d8e b l) 0 4 = some (d8e b l) := rfl
   have hkl : (d8e b l).length = 4 := rfl
   have hks (z0 z1 z2 z3 : C) : a1H [z0, z1, z2, z3] 0 (d8e b l) = d8e b l := rfl
   have hkn : (d8e b l).map a0r = d8e b l := rfl
   have hkp : C.a0v (d8e b l) = true := rfl
   have hk0 : (d8e b l)[0]? = some (ci (b.d8f l).p) := rfl
   have hk1 : (d8e b l)[1]? = some (ci (b.d8f l).f) := rfl
   have hk2 : (d8e b l)[2]? = some (ci (b.d8f l).n) := rfl
   have T := d9X (Γ := Γ) b hs k l hl
   have R := d9y (Γ := Γ) b hs k l hl
   have hem : (b.d7S l).now.isEmpty = false := by cases h : (b.d7S l).now with | nil => exact absurd h nx | cons x y => rfl
   have W := c0E (Γ := Γ) (b.d7S l)
   rw [d9u vx nx] at W
   simp only [iC, List.map_nil] at W
   have L := left_ok vx nx (i := i) (d := d) his hdd
   have Be := b7m vx nx (i := i) his
   have c0 := d3M vx nx (k := 0) (by decide)
   have c1 := d3M vx nx (k := 1) (by decide)
   have c2 := d3M vx nx (k := 2) (by decide)
   have t0 := d8U hs l 0; have t1 := d8U hs l 1; have t2 := d8U hs l 2
   rw [Cost.at_0] at t0; rw [Cost.at_1] at t1; rw [Cost.at_2] at t2
   have lf := d9f (Γ := Γ) b hs l .nil [] (by simp) i his
   rw [d9d] at lf
   simp only [List.map_nil] at lf
   have hget := d8W b (b.d8f l) (b.tstr l i) (b.rest i) hdd
   have hr : (b.d7S l).rest i = b.rest i := rfl
   have hcov : within (a2B b.days (b.d8f l) (b.tstr l i) (b.rest i) d) ((b.d7S l).low i d ((b.d7S l).rest i)) ((b.d7S l).high i d ((b.d7S l).rest i)) = true := by
     rw [hr]; exact within_iff.2 (d8V hs l his d (b.rest i))
   have P := b7k (Γ := Γ) (b.d7S l)
   have he : (b.d7S l).err true = 0 := by rw [a5Z vx]; cases h : (b.d7S l).now <;> simp_all
   have hop := c0Z (Γ := Γ) (b.d7S l) sx
   obtain ⟨ho, hol⟩ := o_eq sx
   rw [ho] at hop
   have hover : ∀ o, (b.d7S l).over i ((b.d7S l).rest i) = o -> ∀ (t : Nat) v, (lfL b (b.d8f l) (b.tstr l i) (b.rest i) b.days.length)[t]? = some v -> v < 0 -> ∃ p : Nat, o = some p /\ p <= t := by
     rintro o rfl t v ht hv0
     have htl : t < b.days.length := by have := (List.getElem?_eq_some_iff.1 ht).1; rwa [d8N] at this
     rw [d8W b _ _ _ htl] at ht
     have h1 := (d8V hs l his t (b.rest i)).1
     rw [Option.some.inj ht] at h1
     cases hov : (b.d7S l).over i ((b.d7S l).rest i) with
     | none => have := d1K.1 hov t htl; rw [hr] at this; omega
     | some p =>
       refine ⟨p, rfl, ?_⟩
       have h2 := (d1s.1 hov).2.2 t
       rw [hr] at h2
       by_cases h : t < p
       . have := h2 h; omega
       . omega
   obtain ⟨ov, hov⟩ : ∃ o, (b.d7S l).over i ((b.d7S l).rest i) = o := ⟨_, rfl⟩
   have hov2 := hover ov hov
   rw [hov] at Be
   obtain ⟨bv, be, Be'⟩ : ∃ bv be : Int, (b.d7S l).beyond i = (bv, be) := ⟨_, _, rfl⟩
   rw [Be'] at Be
   have hbe : (be = 0 \/ be = 4) /\ ∀ (t : Nat) v, (lfL b (b.d8f l) (b.tstr l i) (b.rest i) b.days.length)[t]? = some v -> v < 0 -> be = 0 /\ ¬ (t : Int) < bv := by
     cases ov with
     | none => simp only [Prod.mk.injEq] at Be; exact ⟨.inr Be.2, fun t v h1 h2 => by obtain ⟨p, hp, -⟩ := hov2 t v h1 h2; cases hp⟩
     | some p => simp only [Prod.mk.injEq] at Be; exact ⟨.inl Be.2, fun t v h1 h2 => by obtain ⟨p', hp, hle⟩ := hov2 t v h1 h2; cases hp; omega⟩
   obtain ⟨hb04, hneg⟩ := hbe
   obtain ⟨lo, hlo⟩ : ∃ x, (b.d7S l).low i d ((b.d7S l).rest i) = x := ⟨_, rfl⟩
   obtain ⟨hi', hhi⟩ : ∃ x, (b.d7S l).high i d ((b.d7S l).rest i) = x := ⟨_, rfl⟩
   rw [hlo, hhi] at L hcov
   have L0 {β : Type} (pe : Int) (kp : SK) (pl : List Rest) (ko : SK) (Q : Ex -> St -> Option β) := d9V (Γ := Γ) b hs l n0 n1 lo hi' i bv be pe kp pl ko _ (d8N b _ _ _ _) hneg Q
   cases hbest : (b.d7S l).best with
   | none =>
     have e1 : (b.d7S l).plan = ([], 4) := by simp only [Book.plan, if_pos he, hbest]
     rw [e1] at P
     have L0n (ko : SK) {β : Type} (Q : Ex -> St -> Option β) := L0 (β := β) 4 (b2o (b.d7S l)) [] ko Q
     simp only [rl, List.map_nil] at P L0n
     rcases hb04 with rfl | rfl <;>
     . rw [K_fn P04.f225 _ _ rfl]
       (simp only [go_sem, simprocAttr, d7T, hv, T, R, hi, hd, hsl, hdl, vx, hem, W, L, Be', P, lf, hget, hcov, L0n, c0, c1, c2, t0, t1, t2, hku, hka, hkl, hks, hkn, hkp, hk0, hk1, hk2, d7Z, d7X, a1J, Option.map_some]; repeat' (first | ((first | refine brY ?_ | refine brN ?_ | refine brA ?_ | refine brD ?_ | refine brF ?_ | ((first | apply a0k | apply a0j); (. intro h; simp only [go_sem, simprocAttr, a0p h, d7T, hv, T, R, hi, hd, hsl, hdl, vx, hem, W, L, Be', P, lf, hget, hcov, L0n, c0, c1, c2, t0, t1, t2, hku, hka, hkl, hks, hkn, hkp, hk0, hk1, hk2, d7Z, d7X, a1J, Option.map_some]; exact rfl))); (try simp only [go_sem, simprocAttr, d7T, hv, T, R, hi, hd, hsl, hdl, vx, hem, W, L, Be', P, lf, hget, hcov, L0n, c0, c1, c2, t0, t1, t2, hku, hka, hkl, hks, hkn, hkp, hk0, hk1, hk2, d7Z, d7X, a1J, Option.map_some])) | ((first | apply a0e | apply d7E | apply a0a) <;> intro h <;> (try simp only [go_sem, simprocAttr, h, d7T, hv, T, R, hi, hd, hsl, hdl, vx, hem, W, L, Be', P, lf, hget, hcov, L0n, c0, c1, c2, t0, t1, t2, hku, hka, hkl, hks, hkn, hkp, hk0, hk1, hk2, d7Z, d7X, a1J, Option.map_some]))))
   | some s =>
     have e1 : (b.d7S l).plan = (s, 0) := by simp only [Book.plan, if_pos he, hbest]
     rw [e1] at P
     have hs15 : s.length <= 15 := by
       obtain ⟨p, hp, e⟩ := (d9g hbest).2.2
       rw [e, a8l]; exact (b9e sx).2 p hp
     have L0n (ko : SK) {β : Type} (Q : Ex -> St -> Option β) := L0 (β := β) 0 (b2o (b.d7S l)) s ko Q
     have lf2 := d9f (Γ := Γ) b hs l (b2o (b.d7S l)) s (by omega) i his
     have L2 (ko : SK) {β : Type} (Q : Ex -> St -> Option β) := d9W (Γ := Γ) b hs l n0 n1 lo hi' (b.d7S l).o hol ko (lfL b (b.d8f l) (b.tstr l i) (fun e : Nat => b.a5g s i e) b.days.length) (d8N b _ _ _ _) (fun t v h1 h2 => by
       have htl : t < b.days.length := by have := (List.getElem?_eq_some_iff.1 h2).1; rwa [d8N] at this
       rw [d8W b _ _ _ htl] at h2
       rw [← Option.some.inj h2]; exact d9B hs l hbest his h1 htl) Q
     simp only [rl] at P L0n
     rcases hb04 with rfl | rfl <;>
     . rw [K_fn P04.f225 _ _ rfl]
       (simp only [go_sem, simprocAttr, d7T, hv, T, R, hi, hd, hsl, hdl, vx, hem, W, L, Be', P, lf, lf2, hget, hcov, L0n, L2, hop, c0, c1, c2, t0, t1, t2, hku, hka, hkl, hks, hkn, hkp, hk0, hk1, hk2, d7Z, d7X, a1J, Option.map_some]; repeat' (first | ((first | refine brY ?_ | refine brN ?_ | refine brA ?_ | refine brD ?_ | refine brF ?_ | ((first | apply a0k | apply a0j); (. intro h; simp only [go_sem, simprocAttr, a0p h, d7T, hv, T, R, hi, hd, hsl, hdl, vx, hem, W, L, Be', P, lf, lf2, hget, hcov, L0n, L2, hop, c0, c1, c2, t0, t1, t2, hku, hka, hkl, hks, hkn, hkp, hk0, hk1, hk2, d7Z, d7X, a1J, Option.map_some]; exact rfl))); (try simp only [go_sem, simprocAttr, d7T, hv, T, R, hi, hd, hsl, hdl, vx, hem, W, L, Be', P, lf, lf2, hget, hcov, L0n, L2, hop, c0, c1, c2, t0, t1, t2, hku, hka, hkl, hks, hkn, hkp, hk0, hk1, hk2, d7Z, d7X, a1J, Option.map_some])) | ((first | apply a0e | apply d7E | apply a0a) <;> intro h <;> (try simp only [go_sem, simprocAttr, h, d7T, hv, T, R, hi, hd, hsl, hdl, vx, hem, W, L, Be', P, lf, lf2, hget, hcov, L0n, L2, hop, c0, c1, c2, t0, t1, t2, hku, hka, hkl, hks, hkn, hkp, hk0, hk1, hk2, d7Z, d7X, a1J, Option.map_some]))))
end
end Go.Pm.St
