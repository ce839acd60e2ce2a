/- The statement CandleShorts: whatever its arguments, the call returns true, and each argument reads as before. No condition beside the row's own. -/
import Derived.Test.YtdndhpoinffpbaaDoorCandleShortsL5
set_option linter.all false
namespace Go.Pm.Cd
open Ac
set_option maxRecDepth 100000
set_option linter.unusedSimpArgs false
set_option linter.unusedSectionVars false
set_option linter.unusedVariables false

def exc (b : Book) (but : Int) : List Int := bitsN but b.counts.length
theorem exc_contains (b : Book) (but : Int) {i : Nat} (hi : i < b.counts.length) : (exc b but).contains (i : Int) = hasBit but i := by
  cases h : hasBit but (i : Int) with
  | true =>
    rw [List.contains_iff_mem]
    simp only [exc, bitsN, List.mem_map, List.mem_filter, List.mem_range]
    exact ⟨i, ⟨hi, h⟩, rfl⟩
  | false =>
    rw [Bool.eq_false_iff]
    intro hc
    rw [List.contains_iff_mem] at hc
    simp only [exc, bitsN, List.mem_map, List.mem_filter, List.mem_range] at hc
    obtain ⟨j, ⟨-, hj⟩, e⟩ := hc
    have : j = i := by omega
    subst this
    rw [h] at hj; cases hj
theorem rightR_iff (b : Book) (k : Int) (l : List Int) (but : Int) : rightR b k l but = true ↔ ∀ (i : Nat) (x : Count), b.counts[i]? = some x → x.kind = k → hasBit but i = false → within (x.left - l.getD x.day.toNat 0) (-x.err) x.err = true := by
  simp only [rightR, Option.isNone_iff_eq_none]
  rw [findFrom_none]
  constructor
  · intro h i x hx hk hb
    have := h i x hx
    simp only [Nat.zero_add, hk, hb, decide_true, Bool.not_false, Bool.true_and, Bool.not_eq_false'] at this
    exact this
  · intro h i x hx
    simp only [Nat.zero_add]
    by_cases hk : x.kind = k
    · cases hb : hasBit but (i : Int) with
      | true => simp
      | false => simp only [hk, h i x hx hk hb, decide_true, Bool.not_false, Bool.not_true, Bool.and_false]
    · simp [hk]
theorem mem_rowN (b : Book) (k : Int) (dark : List Int) (but n : Int) (t : RT3) (hl : (b.life k).lo ≤ (b.life k).hi) : t ∈ rowN b k dark but n (lifeN b k) ↔ t.1 = dark ∧ t.2.1 = n ∧ (b.life k).has t.2.2 ∧ tOk b k dark but n t.2.2 = true := by
  simp only [rowN, List.mem_map, List.mem_filter, List.mem_range, lifeN]
  constructor
  · rintro ⟨i, ⟨hi, ht⟩, rfl⟩
    exact ⟨rfl, rfl, ⟨by simp only; omega, by simp only; omega⟩, ht⟩
  · rintro ⟨h1, h2, ⟨h3, h4⟩, h5⟩
    refine ⟨(t.2.2 - (b.life k).lo).toNat, ⟨by omega, ?_⟩, ?_⟩
    · have e : (b.life k).lo + ((t.2.2 - (b.life k).lo).toNat : Int) = t.2.2 := by omega
      rw [e]; exact h5
    · have e : (b.life k).lo + ((t.2.2 - (b.life k).lo).toNat : Int) = t.2.2 := by omega
      rw [e, ← h1, ← h2]
theorem mem_kindT {b : Book} (hv : b.sane = true) {k : Int} (hk : k = 0 ∨ k = 1) (dark : List Int) (but : Int) (t : RT3) : t ∈ kindT b k dark but ↔ t.1 = dark ∧ (b.stock k).has t.2.1 ∧ (b.life k).has t.2.2 ∧ tOk b k dark but t.2.1 t.2.2 = true := by
  have hsp := spans_k hv hk
  simp only [kindT, kindN, List.mem_flatMap, List.mem_range, stockN]
  constructor
  · rintro ⟨i, hi, ht⟩
    rw [mem_rowN _ _ _ _ _ _ (by omega)] at ht
    obtain ⟨h1, h2, h3, h4⟩ := ht
    rw [h2]
    exact ⟨h1, ⟨by omega, by omega⟩, h3, by rw [← h2] at h4 ⊢; exact h4⟩
  · rintro ⟨h1, ⟨h2, h3⟩, h4, h5⟩
    refine ⟨(t.2.1 - (b.stock k).lo).toNat, by omega, ?_⟩
    have e : (b.stock k).lo + ((t.2.1 - (b.stock k).lo).toNat : Int) = t.2.1 := by omega
    rw [e, mem_rowN _ _ _ _ _ _ (by omega)]
    exact ⟨h1, rfl, h4, h5⟩
theorem leftsR_getD (b : Book) (k n f : Int) (dark : List Int) {m d : Nat} (h : d < m) : (leftsR b k n f dark m).getD d 0 = b.runK k n f (dkOf dark) (d + 1) := by
  simp only [List.getD, leftsR_get b k n f dark h, Option.getD_some]
def darkOf (b : Book) (dk : Nat → Int) : List Int := (List.range b.days.length).map dk
theorem darkOf_get (b : Book) (dk : Nat → Int) {d : Nat} (h : d < b.days.length) : dkOf (darkOf b dk) d = dk d := by
  simp [dkOf, darkOf, List.getD, h]
theorem darkOf_of {b : Book} {d : List Int} (h : d.length = b.days.length) : darkOf b (dkOf d) = d := by
  apply List.ext_getElem?
  intro i
  by_cases hi : i < b.days.length
  · simp [darkOf, dkOf, List.getD, hi, h]
  · rw [List.getElem?_eq_none (by simp [darkOf]; omega), List.getElem?_eq_none (by omega)]

theorem mem_rT {b : Book} (hv : b.sane = true) {k : Int} (hk : k = 0 ∨ k = 1) (but : Int) (t : RT3) :
    t ∈ b.rT but k ↔ ∃ n f dk, Way b (exc b but) n f dk ∧ t = (darkOf b dk, n k, f k) := by
  have hvc := valid_counts hv
  have hcnt : ∀ (x : Count), x ∈ b.counts → (0 ≤ x.day ∧ x.day ≤ b.days.length - 1) ∧ (x.kind = 0 ∨ x.kind = 1) := fun x hx => by
    have := hvc x hx
    simp only [Book.isCount, Book.isDay, Bool.and_eq_true, within_iff] at this
    omega
  simp only [Book.rT, allT, List.mem_flatMap]
  constructor
  · rintro ⟨d, hd, ht⟩
    obtain ⟨d1, d2⟩ := darks_ok hd
    cases hb : bothB b but d with
    | false => rw [hb] at ht; simp at ht
    | true =>
      rw [hb, if_pos rfl] at ht
      simp only [bothB, Bool.and_eq_true, Bool.not_eq_true', List.isEmpty_eq_false_iff] at hb
      have pick : ∀ j : Int, j = 0 ∨ j = 1 → ∃ u, u ∈ kindT b j d but ∧ (j = k → u = t) := by
        intro j hj
        by_cases e : j = k
        · subst e; exact ⟨t, ht, fun _ => rfl⟩
        · rcases hj with rfl | rfl
          · obtain ⟨u, hu⟩ := List.exists_mem_of_ne_nil _ hb.1
            exact ⟨u, hu, fun h => absurd h e⟩
          · obtain ⟨u, hu⟩ := List.exists_mem_of_ne_nil _ hb.2
            exact ⟨u, hu, fun h => absurd h e⟩
      obtain ⟨u0, m0, e0⟩ := pick 0 (.inl rfl)
      obtain ⟨u1, m1, e1⟩ := pick 1 (.inr rfl)
      have q0 := (mem_kindT hv (.inl rfl) d but u0).1 m0
      have q1 := (mem_kindT hv (.inr rfl) d but u1).1 m1
      have q := (mem_kindT hv hk d but t).1 ht
      let n : Int → Int := fun j => if j = 0 then u0.2.1 else u1.2.1
      let f : Int → Int := fun j => if j = 0 then u0.2.2 else u1.2.2
      have sel : ∀ j, j = 0 ∨ j = 1 → (b.stock j).has (n j) ∧ (b.life j).has (f j) ∧ tOk b j d but (n j) (f j) = true := by
        rintro j (rfl | rfl)
        · exact ⟨q0.2.1, q0.2.2.1, q0.2.2.2⟩
        · exact ⟨q1.2.1, q1.2.2.1, q1.2.2.2⟩
      refine ⟨n, f, dkOf d, ⟨fun j hj => (sel j hj).1, fun j hj => (sel j hj).2.1, fun i x hx => ?_, fun i x hx hc => ?_⟩, ?_⟩
      · have hi := (List.getElem?_eq_some_iff.1 hx).1
        exact d2 i x _ hx (by simp only [dkOf, List.getD, List.getElem?_eq_getElem (show i < d.length by omega), Option.getD_some])
      · obtain ⟨c1, c2⟩ := hcnt x (List.mem_of_getElem? hx)
        rw [exc_contains b but (List.getElem?_eq_some_iff.1 hx).1] at hc
        have hr := (sel x.kind c2).2.2
        simp only [tOk] at hr
        have := (rightR_iff _ _ _ _).1 hr i x hx rfl hc
        rwa [leftsR_getD _ _ _ _ _ (by omega)] at this
      · rw [darkOf_of d1]
        rcases hk with rfl | rfl
        · have := e0 rfl
          subst this
          exact Prod.ext q.1 (Prod.ext rfl rfl)
        · have := e1 rfl
          subst this
          exact Prod.ext q.1 (Prod.ext rfl rfl)
  · rintro ⟨n, f, dk, w, rfl⟩
    have hd : darkOf b dk ∈ b.darks := by
      unfold Book.darks
      rw [darksF_mem _ _ _ (by simp)]
      refine ⟨darkOf b dk, by simp, by simp [darkOf], fun d x v hx hv => ?_⟩
      simp only [List.length_nil, Nat.zero_add] at hx
      have hi := (List.getElem?_eq_some_iff.1 hx).1
      simp only [darkOf, List.getElem?_map, List.getElem?_range hi, Option.map_some, Option.some.injEq] at hv
      subst hv
      exact w.dark d x hx
    have hin : ∀ j, j = 0 ∨ j = 1 → (darkOf b dk, n j, f j) ∈ kindT b j (darkOf b dk) but := by
      intro j hj
      rw [mem_kindT hv hj]
      refine ⟨rfl, w.stock j hj, w.life j hj, ?_⟩
      simp only [tOk]
      rw [rightR_iff]
      intro i x hx hkx hb
      obtain ⟨c1, c2⟩ := hcnt x (List.mem_of_getElem? hx)
      have := w.right i x hx (by rw [exc_contains b but (List.getElem?_eq_some_iff.1 hx).1]; exact hb)
      rw [leftsR_getD _ _ _ _ _ (by omega), runK_agree b j (n j) (f j) (dkOf (darkOf b dk)) dk _ (fun e he => darkOf_get b dk (by omega))]
      rwa [hkx] at this
    refine ⟨darkOf b dk, hd, ?_⟩
    have hb : bothB b but (darkOf b dk) = true := by
      simp only [bothB, Bool.and_eq_true, Bool.not_eq_true', List.isEmpty_eq_false_iff]
      exact ⟨List.ne_nil_of_mem (hin 0 (.inl rfl)), List.ne_nil_of_mem (hin 1 (.inr rfl))⟩
    rw [hb, if_pos rfl]
    exact hin k hk
theorem rT_ne {b : Book} (hv : b.sane = true) {k : Int} (hk : k = 0 ∨ k = 1) (but : Int) : b.rT but k ≠ [] ↔ b.truths (exc b but) ≠ [] := by
  rw [truths_ne hv]
  constructor
  · intro h
    obtain ⟨t, ht⟩ := List.exists_mem_of_ne_nil _ h
    obtain ⟨n, f, dk, w, -⟩ := (mem_rT hv hk but t).1 ht
    exact ⟨n, f, dk, w⟩
  · rintro ⟨n, f, dk, w⟩
    exact List.ne_nil_of_mem ((mem_rT hv hk but _).2 ⟨n, f, dk, w, rfl⟩)
theorem has_zero (n : Int) : hasBit 0 n = false := by
  have h2 : (0 : Int).fdiv (2 ^ n.toNat) = 0 := Int.zero_fdiv _
  have h3 : decide (wrapBits .i64 (BitVec.ofInt 64 0 &&& BitVec.ofInt 64 1) = 1) = false := by decide
  simp only [hasBit, h2, h3, Bool.and_false]
theorem exc_zero (b : Book) : exc b 0 = [] := by
  simp [exc, bitsN, has_zero]

def endsOf (l : List Int) : Int × Int := spanOf (fun t => t.getD 0 0) (l.map fun v => [v])
theorem endsOf_eq {l : List Int} (hl : l ≠ []) (S : Int × Int) (h1 : ∀ v, v ∈ l → S.1 ≤ v ∧ v ≤ S.2) (h2 : S.1 ∈ l) (h3 : S.2 ∈ l) : endsOf l = S := by
  have hm : ∀ v, v ∈ l → [v] ∈ l.map fun v => [v] := fun v hv => List.mem_map.2 ⟨v, hv, rfl⟩
  have hne : (l.map fun v => [v]) ≠ [] := by simpa using hl
  obtain ⟨t, ht, et⟩ := span_lo (fun t => t.getD 0 0) _ hne
  obtain ⟨u, hu, eu⟩ := span_hi (fun t => t.getD 0 0) _ hne
  obtain ⟨v, hv, rfl⟩ := List.mem_map.1 ht
  obtain ⟨w, hw, rfl⟩ := List.mem_map.1 hu
  have a1 := span_le (fun t => t.getD 0 0) _ (hm _ h2)
  have a2 := span_le (fun t => t.getD 0 0) _ (hm _ h3)
  have b1 := h1 v hv
  have b2 := h1 w hw
  have e1 : ([v] : List Int).getD 0 0 = v := rfl
  have e2 : ([w] : List Int).getD 0 0 = w := rfl
  have e3 : ([S.1] : List Int).getD 0 0 = S.1 := rfl
  have e4 : ([S.2] : List Int).getD 0 0 = S.2 := rfl
  rw [e1] at et
  rw [e2] at eu
  rw [e3] at a1
  rw [e4] at a2
  unfold endsOf
  exact Prod.ext (by omega) (by omega)
theorem ends_ways {b : Book} (hv : b.sane = true) {but : Int} {k : Int} (hk : k = 0 ∨ k = 1) (hne : b.truths (exc b but) ≠ []) (g : List Int → Int) (G : (Int → Int) → (Int → Int) → (Nat → Int) → Int) (hg : ∀ t n f dk, Says b n f dk t → g t = G n f dk)
    (h : RT3 → Int) (hh : ∀ n f dk, Way b (exc b but) n f dk → h (darkOf b dk, n k, f k) = G n f dk) : endsOf ((b.rT but k).map h) = spanOf g (b.truths (exc b but)) := by
  obtain ⟨p1, ⟨n1, f1, d1, w1, e1⟩, ⟨n2, f2, d2, w2, e2⟩⟩ := span_ways hv hne g G hg
  have hr := (rT_ne hv hk but).2 hne
  refine endsOf_eq (by simpa using hr) _ (fun v hv' => ?_) ?_ ?_
  · obtain ⟨t, ht, rfl⟩ := List.mem_map.1 hv'
    obtain ⟨n, f, dk, w, rfl⟩ := (mem_rT hv hk but t).1 ht
    rw [hh n f dk w]
    exact p1 n f dk w
  · rw [e1, ← hh n1 f1 d1 w1]
    exact List.mem_map.2 ⟨_, (mem_rT hv hk but _).2 ⟨_, _, _, w1, rfl⟩, rfl⟩
  · rw [e2, ← hh n2 f2 d2 w2]
    exact List.mem_map.2 ⟨_, (mem_rT hv hk but _).2 ⟨_, _, _, w2, rfl⟩, rfl⟩
def hLeft (b : Book) (k day : Int) (t : RT3) : Int := b.runK k t.2.1 t.2.2 (dkOf t.1) (day.toNat + 1)
theorem left_eq {b : Book} (hv : b.sane = true) {but : Int} {k day : Int} (hk : k = 0 ∨ k = 1) (hne : b.truths (exc b but) ≠ []) (hd : 0 ≤ day) (hd' : day < b.days.length) : endsOf ((b.rT but k).map (hLeft b k day)) = spanOf (tLeft k day) (b.truths (exc b but)) :=
  ends_ways hv hk hne (tLeft k day) (fun n f dk => b.runK k (n k) (f k) dk (day.toNat + 1)) (fun _ _ _ _ hs => hs.left k hk day hd hd') (hLeft b k day) (fun n f dk w => by
    simp only [hLeft]
    exact runK_agree b k (n k) (f k) _ _ _ (fun e he => darkOf_get b dk (by omega)))
theorem rT_ok {b : Book} (hv : b.sane = true) {k : Int} (hk : k = 0 ∨ k = 1) {but : Int} {t : RT3} (ht : t ∈ b.rT but k) : t.1.length = b.days.length ∧ DarkOk b t.1 ∧ (0 ≤ t.2.1 ∧ t.2.1 ≤ 60) ∧ (1 ≤ t.2.2 ∧ t.2.2 ≤ 6) := by
  obtain ⟨n, f, dk, w, rfl⟩ := (mem_rT hv hk but t).1 ht
  have hsp := spans_k hv hk
  have h1 := w.stock k hk
  have h2 := w.life k hk
  have a1 := h1.1; have a2 := h1.2; have a3 := h2.1; have a4 := h2.2
  refine ⟨by simp [darkOf], fun d x v hx hv => ?_, by simp only; omega, by simp only; omega⟩
  have hi := (List.getElem?_eq_some_iff.1 hx).1
  simp only [darkOf, List.getElem?_map, List.getElem?_range hi, Option.map_some, Option.some.injEq] at hv
  subst hv
  exact w.dark d x hx
end Go.Pm.Cd

namespace Go.Pm.Cd
open Ac
set_option maxRecDepth 100000
set_option linter.unusedSimpArgs false
set_option linter.unusedSectionVars false
set_option linter.unusedVariables false

def foldE (x : Int) (l : List Int) : Int × Int := l.foldl (fun a v => (min a.1 v, max a.2 v)) (x, x)
theorem foldE_snoc (x : Int) (l : List Int) (v : Int) : foldE x (l ++ [v]) = (min (foldE x l).1 v, max (foldE x l).2 v) := by simp [foldE]
theorem endsOf_fold (x : Int) (l : List Int) : endsOf (x :: l) = foldE x (x :: l) := by
  simp only [endsOf, spanOf, List.map_cons, foldE]
  have : ([x] : List Int) :: l.map (fun v => [v]) = (x :: l).map (fun v => [v]) := rfl
  rw [this, List.foldl_map]
  rfl

section
variable {Γ : Env} [P06 Γ] [G06 Γ]
theorem ends_k (k : SK) (l : List Int) (hl : l ≠ []) (hr : l.length ≤ 1000000) : K Γ (.fn 59) [.sc (.sl k 1 (l.map fun x => [ci x]))] [] = some (.agg [ci (endsOf l).1, ci (endsOf l).2], []) := by
  cases l with
  | nil => exact absurd rfl hl
  | cons x l =>
    rw [endsOf_fold]
    obtain ⟨L, hL⟩ : ∃ L, x :: l = L := ⟨_, rfl⟩
    have h0 : L[0]? = some x := by rw [← hL]; rfl
    have hlen : 0 < L.length := by rw [← hL]; simp
    rw [hL] at hr ⊢
    have h00 : L[(0 : Int).toNat]? = some x := h0
    have hLp {β : Type} (z : Obj) (hz : z.under 2 = true) (Q : Ex → St → Option β) : E Γ decaniref06_ends_L0 ⟨[(0, .sc (.sl k 1 (L.map fun x => [ci x]))), (2, .sc (.ptr 0 0)), (3, .sc (.ptr 1 0)), (4, vi 0)], [z, .var [ci x, ci x]]⟩ Q =
        Q (.exit 0) ⟨[(0, .sc (.sl k 1 (L.map fun x => [ci x]))), (2, .sc (.ptr 0 0)), (3, .sc (.ptr 1 0)), (4, vi L.length), (12, vb false)], [z, .var [ci (foldE x L).1, ci (foldE x L).2]]⟩ := by
      refine E_countS L.length (fun i (_ : Unit) => ⟨[(0, .sc (.sl k 1 (L.map fun x => [ci x]))), (2, .sc (.ptr 0 0)), (3, .sc (.ptr 1 0)), (4, vi i)], [z, .var [ci (foldE x (L.take i)).1, ci (foldE x (L.take i)).2]]⟩) (fun _ _ => True)
        (fun _ => (.exit 0, ⟨[(0, .sc (.sl k 1 (L.map fun x => [ci x]))), (2, .sc (.ptr 0 0)), (3, .sc (.ptr 1 0)), (4, vi L.length), (12, vb false)], [z, .var [ci (foldE x L).1, ci (foldE x L).2]]⟩)) () rfl trivial ?_ ?_ ?_
      · intro i _ hi _
        refine ⟨(), trivial, ?_⟩
        obtain ⟨v, hv⟩ : ∃ v, L[i]? = some v := ⟨_, List.getElem?_eq_getElem hi⟩
        have hlt := decide_eq_true (show (i : Int) < L.length by omega)
        have hiw : IntKind.i64.wrap ((i : Int) + 1) = i + 1 := wrap_i64 (by omega) (by omega)
        have ht : L.take (i + 1) = L.take i ++ [v] := by rw [List.take_succ, hv]; rfl
        rw [ht, foldE_snoc]
        (simp only [go_sem, simprocAttr, decaniref06_ends_B0, hv, hlt, hiw, hz]; repeat' (first | ((first | (refine br_yes (by omega) ?_) | (refine br_no (by omega) ?_) | (apply br_all; (· simp only [Bool.and_eq_true, decide_eq_true_eq]; omega)) | (apply br_free; (· simp [go_sem, Pm.acc, Acc.free, refsOf, offOf, keyEq, tagEq, cellsEq, cellEq]; done)) | ((first | apply br_mergeT | apply br_mergeF); (· intro h; simp only [go_sem, simprocAttr, sel_of h, decaniref06_ends_B0, hv, hlt, hiw, hz]; exact rfl))); (try simp only [go_sem, simprocAttr, decaniref06_ends_B0, hv, hlt, hiw, hz])) | ((first | apply onGuard_sel | (apply pickV_split; apply br_split) | apply br_split) <;> intro h <;> (try simp only [go_sem, simprocAttr, h, decaniref06_ends_B0, hv, hlt, hiw, hz]))))
        rfl
      · intro _ _
        have hlt := decide_eq_false (show ¬ (L.length : Int) < L.length by omega)
        rw [List.take_length]
        (simp only [go_sem, simprocAttr, decaniref06_ends_B0, hlt]; repeat' (first | ((first | (refine br_yes (by omega) ?_) | (refine br_no (by omega) ?_) | (apply br_all; (· simp only [Bool.and_eq_true, decide_eq_true_eq]; omega)) | (apply br_free; (· simp [go_sem, Pm.acc, Acc.free, refsOf, offOf, keyEq, tagEq, cellsEq, cellEq]; done)) | ((first | apply br_mergeT | apply br_mergeF); (· intro h; simp only [go_sem, simprocAttr, sel_of h, decaniref06_ends_B0, hlt]; exact rfl))); (try simp only [go_sem, simprocAttr, decaniref06_ends_B0, hlt])) | ((first | apply onGuard_sel | (apply pickV_split; apply br_split) | apply br_split) <;> intro h <;> (try simp only [go_sem, simprocAttr, h, decaniref06_ends_B0, hlt]))))
      · intro _ _
        rfl
    rw [K_fn P06.f59 _ _ rfl]
    (simp only [go_sem, simprocAttr, decaniref06_ends, h0, h00, hLp]; repeat' (first | ((first | (refine br_yes (by omega) ?_) | (refine br_no (by omega) ?_) | (apply br_all; (· simp only [Bool.and_eq_true, decide_eq_true_eq]; omega)) | (apply br_free; (· simp [go_sem, Pm.acc, Acc.free, refsOf, offOf, keyEq, tagEq, cellsEq, cellEq]; done)) | ((first | apply br_mergeT | apply br_mergeF); (· intro h; simp only [go_sem, simprocAttr, sel_of h, decaniref06_ends, h0, h00, hLp]; exact rfl))); (try simp only [go_sem, simprocAttr, decaniref06_ends, h0, h00, hLp])) | ((first | apply onGuard_sel | (apply pickV_split; apply br_split) | apply br_split) <;> intro h <;> (try simp only [go_sem, simprocAttr, h, decaniref06_ends, h0, h00, hLp]))))

theorem rleft_k (b : Book) [hb : b.Fits] (hv : b.sane = true) {k : Int} (hk : k = 0 ∨ k = 1) (kl : SK) (L : List RT3) (hne : L ≠ []) (hll : L.length ≤ 10000) (hL : ∀ t, t ∈ L → t.1.length = b.days.length ∧ DarkOk b t.1 ∧ (0 ≤ t.2.1 ∧ t.2.1 ≤ 60) ∧ (1 ≤ t.2.2 ∧ t.2.2 ≤ 6)) (day : Int) (hd : 0 ≤ day) (hd' : day < b.days.length) :
    K Γ (.fn 56) [.agg b.c, vi k, .sc (.sl kl 3 (L.map encT)), vi day] [] = some (.agg [ci (endsOf (L.map (hLeft b k day))).1, ci (endsOf (L.map (hLeft b k day))).2], []) := by
  have hLp {β : Type} (z : Obj) (hz : z.under 2 = true) (Q : Ex → St → Option β) : E Γ decaniref06_left_L0 ⟨[(1, vi k), (2, .sc (.sl kl 3 (L.map encT))), (3, vi day), (4, .sc (.ptr 0 0)), (8, .sc (.ptr 1 0)), (9, .sc (.sl .full 1 [])), (10, vi 0)], [.var b.c, z]⟩ Q =
      Q (.exit 0) ⟨[(1, vi k), (2, .sc (.sl kl 3 (L.map encT))), (3, vi day), (4, .sc (.ptr 0 0)), (8, .sc (.ptr 1 0)), (9, .sc (ownF 1 ((L.map (hLeft b k day)).map fun x => [ci x]))), (10, vi L.length), (15, vb false)], [.var b.c, z]⟩ := by
    refine E_countS L.length (fun i (_ : Unit) => ⟨[(1, vi k), (2, .sc (.sl kl 3 (L.map encT))), (3, vi day), (4, .sc (.ptr 0 0)), (8, .sc (.ptr 1 0)), (9, .sc (ownF 1 (((L.take i).map (hLeft b k day)).map fun x => [ci x]))), (10, vi i)], [.var b.c, z]⟩) (fun _ _ => True)
      (fun _ => (.exit 0, ⟨[(1, vi k), (2, .sc (.sl kl 3 (L.map encT))), (3, vi day), (4, .sc (.ptr 0 0)), (8, .sc (.ptr 1 0)), (9, .sc (ownF 1 ((L.map (hLeft b k day)).map fun x => [ci x]))), (10, vi L.length), (15, vb false)], [.var b.c, z]⟩)) () rfl trivial ?_ ?_ ?_
    · intro i _ hi _
      refine ⟨(), trivial, ?_⟩
      obtain ⟨t, ht⟩ : ∃ t, L[i]? = some t := ⟨_, List.getElem?_eq_getElem hi⟩
      obtain ⟨t1, t2, t3, t4⟩ := hL t (List.mem_of_getElem? ht)
      have hlt := decide_eq_true (show (i : Int) < L.length by omega)
      have hiw : IntKind.i64.wrap ((i : Int) + 1) = i + 1 := wrap_i64 (by omega) (by omega)
      have htk : L.take (i + 1) = L.take i ++ [t] := by rw [List.take_succ, ht]; rfl
      have hlf := rlefts_k (Γ := Γ) b hv k t.2.2 t.2.1 .shared t.1 t1 t2 hk t3 t4
      have hg := leftsR_get b k t.2.1 t.2.2 t.1 (m := b.days.length) (d := day.toNat) (by omega)
      have hA := appended_ownF 1 .full (((L.take i).map (hLeft b k day)).map fun x => [ci x]) [ci (hLeft b k day t)] (by simp only [List.length_map, List.length_take, room]; omega)
      have he : encT t = [.sl .shared 1 (t.1.map fun x => [ci x]), ci t.2.1, ci t.2.2] := rfl
      have hh : b.runK k t.2.1 t.2.2 (dkOf t.1) (day.toNat + 1) = hLeft b k day t := rfl
      rw [hh] at hg
      rw [htk, List.map_append, List.map_append, List.map_cons, List.map_nil, List.map_cons, List.map_nil, ownF_app]
      (simp only [go_sem, simprocAttr, decaniref06_left_B0, ht, he, hlt, hiw, hlf, hg, hA, hz]; repeat' (first | ((first | (refine br_yes (by omega) ?_) | (refine br_no (by omega) ?_) | (apply br_all; (· simp only [Bool.and_eq_true, decide_eq_true_eq]; omega)) | (apply br_free; (· simp [go_sem, Pm.acc, Acc.free, refsOf, offOf, keyEq, tagEq, cellsEq, cellEq]; done)) | ((first | apply br_mergeT | apply br_mergeF); (· intro h; simp only [go_sem, simprocAttr, sel_of h, decaniref06_left_B0, ht, he, hlt, hiw, hlf, hg, hA, hz]; exact rfl))); (try simp only [go_sem, simprocAttr, decaniref06_left_B0, ht, he, hlt, hiw, hlf, hg, hA, hz])) | ((first | apply onGuard_sel | (apply pickV_split; apply br_split) | apply br_split) <;> intro h <;> (try simp only [go_sem, simprocAttr, h, decaniref06_left_B0, ht, he, hlt, hiw, hlf, hg, hA, hz]))))
      rfl
    · intro _ _
      have hlt := decide_eq_false (show ¬ (L.length : Int) < L.length by omega)
      rw [List.take_length]
      (simp only [go_sem, simprocAttr, decaniref06_left_B0, hlt]; repeat' (first | ((first | (refine br_yes (by omega) ?_) | (refine br_no (by omega) ?_) | (apply br_all; (· simp only [Bool.and_eq_true, decide_eq_true_eq]; omega)) | (apply br_free; (· simp [go_sem, Pm.acc, Acc.free, refsOf, offOf, keyEq, tagEq, cellsEq, cellEq]; done)) | ((first | apply br_mergeT | apply br_mergeF); (· intro h; simp only [go_sem, simprocAttr, sel_of h, decaniref06_left_B0, hlt]; exact rfl))); (try simp only [go_sem, simprocAttr, decaniref06_left_B0, hlt])) | ((first | apply onGuard_sel | (apply pickV_split; apply br_split) | apply br_split) <;> intro h <;> (try simp only [go_sem, simprocAttr, h, decaniref06_left_B0, hlt]))))
    · intro _ _
      rfl
  have hE := ends_k (Γ := Γ) (kF L) (L.map (hLeft b k day)) (by simpa using hne) (by rw [List.length_map]; omega)
  rw [K_fn P06.f56 _ _ rfl]
  (simp only [go_sem, simprocAttr, decaniref06_left, hLp, unown_ownF, kF_map, hE]; repeat' (first | ((first | (refine br_yes (by omega) ?_) | (refine br_no (by omega) ?_) | (apply br_all; (· simp only [Bool.and_eq_true, decide_eq_true_eq]; omega)) | (apply br_free; (· simp [go_sem, Pm.acc, Acc.free, refsOf, offOf, keyEq, tagEq, cellsEq, cellEq]; done)) | ((first | apply br_mergeT | apply br_mergeF); (· intro h; simp only [go_sem, simprocAttr, sel_of h, decaniref06_left, hLp, unown_ownF, kF_map, hE]; exact rfl))); (try simp only [go_sem, simprocAttr, decaniref06_left, hLp, unown_ownF, kF_map, hE])) | ((first | apply onGuard_sel | (apply pickV_split; apply br_split) | apply br_split) <;> intro h <;> (try simp only [go_sem, simprocAttr, h, decaniref06_left, hLp, unown_ownF, kF_map, hE]))))

def tC (b : Book) (k : Int) : C := .sl (kS (b.rT 0 k)) 3 ((b.rT 0 k).map encT)
theorem rT_len {b : Book} (hv : b.sane = true) {k : Int} (hk : k = 0 ∨ k = 1) (but : Int) : (b.rT but k).length ≤ 1458 := by
  have h1 := allT_len hv hk but b.darks
  have h2 := darksF_len hv b.days.length []
  have hvd := valid_days hv
  have h3 : (3 : Nat) ^ b.days.length ≤ 243 := Nat.le_trans (Nat.pow_le_pow_right (by decide) hvd.2.1) (by decide)
  have h4 : b.darks.length ≤ 243 := Nat.le_trans h2 h3
  have h5 : b.darks.length * 6 ≤ 243 * 6 := Nat.mul_le_mul_right _ h4
  unfold Book.rT
  omega
theorem rT_0 {b : Book} (hv : b.sane = true) {k : Int} (hk : k = 0 ∨ k = 1) : b.rT 0 k ≠ [] ↔ b.truths [] ≠ [] := by
  have := rT_ne hv hk 0
  rwa [exc_zero] at this

theorem rasked_bad (b : Book) [hb : b.Fits] (hv : b.valid = false) (is : Bool) : K Γ (.fn 55) [.agg b.c, vb is] [] = some (.tup [.agg [.sl .nil 3 [], .sl .nil 3 []], vi 60], []) := by
  rw [K_fn P06.f55 _ _ rfl]
  (simp only [go_sem, simprocAttr, decaniref06_asked, hv, Bool.false_eq_true]; repeat' (first | ((first | (refine br_yes (by omega) ?_) | (refine br_no (by omega) ?_) | (apply br_all; (· simp only [Bool.and_eq_true, decide_eq_true_eq]; omega)) | (apply br_free; (· simp [go_sem, Pm.acc, Acc.free, refsOf, offOf, keyEq, tagEq, cellsEq, cellEq]; done)) | ((first | apply br_mergeT | apply br_mergeF); (· intro h; simp only [go_sem, simprocAttr, sel_of h, decaniref06_asked, hv, Bool.false_eq_true]; exact rfl))); (try simp only [go_sem, simprocAttr, decaniref06_asked, hv, Bool.false_eq_true])) | ((first | apply onGuard_sel | (apply pickV_split; apply br_split) | apply br_split) <;> intro h <;> (try simp only [go_sem, simprocAttr, h, decaniref06_asked, hv, Bool.false_eq_true]))))
theorem rasked_ask (b : Book) [hb : b.Fits] (hv : b.valid = true) : K Γ (.fn 55) [.agg b.c, vb false] [] = some (.tup [.agg [.sl .nil 3 [], .sl .nil 3 []], vi 61], []) := by
  rw [K_fn P06.f55 _ _ rfl]
  (simp only [go_sem, simprocAttr, decaniref06_asked, hv]; repeat' (first | ((first | (refine br_yes (by omega) ?_) | (refine br_no (by omega) ?_) | (apply br_all; (· simp only [Bool.and_eq_true, decide_eq_true_eq]; omega)) | (apply br_free; (· simp [go_sem, Pm.acc, Acc.free, refsOf, offOf, keyEq, tagEq, cellsEq, cellEq]; done)) | ((first | apply br_mergeT | apply br_mergeF); (· intro h; simp only [go_sem, simprocAttr, sel_of h, decaniref06_asked, hv]; exact rfl))); (try simp only [go_sem, simprocAttr, decaniref06_asked, hv])) | ((first | apply onGuard_sel | (apply pickV_split; apply br_split) | apply br_split) <;> intro h <;> (try simp only [go_sem, simprocAttr, h, decaniref06_asked, hv]))))
theorem rasked_no (b : Book) [hb : b.Fits] (hv : b.valid = true) (ht : b.truths [] = []) : K Γ (.fn 55) [.agg b.c, vb true] [] = some (.tup [.agg [tC b 0, tC b 1], vi 62], []) := by
  have hs := sane_of_valid hv
  have hT := rtruths_k (Γ := Γ) b hs 0
  have h0 : b.rT 0 0 = [] := by
    by_cases e : b.rT 0 0 = []
    · exact e
    · exact absurd ht ((rT_0 hs (.inl rfl)).1 e)
  have hd : decide (((b.rT 0 0).length : Int) = 0) = true := by rw [h0]; rfl
  rw [K_fn P06.f55 _ _ rfl]
  (simp only [go_sem, simprocAttr, decaniref06_asked, hv, hT, hd, tC]; repeat' (first | ((first | (refine br_yes (by omega) ?_) | (refine br_no (by omega) ?_) | (apply br_all; (· simp only [Bool.and_eq_true, decide_eq_true_eq]; omega)) | (apply br_free; (· simp [go_sem, Pm.acc, Acc.free, refsOf, offOf, keyEq, tagEq, cellsEq, cellEq]; done)) | ((first | apply br_mergeT | apply br_mergeF); (· intro h; simp only [go_sem, simprocAttr, sel_of h, decaniref06_asked, hv, hT, hd, tC]; exact rfl))); (try simp only [go_sem, simprocAttr, decaniref06_asked, hv, hT, hd, tC])) | ((first | apply onGuard_sel | (apply pickV_split; apply br_split) | apply br_split) <;> intro h <;> (try simp only [go_sem, simprocAttr, h, decaniref06_asked, hv, hT, hd, tC]))))
theorem rasked_ok (b : Book) [hb : b.Fits] (hv : b.valid = true) (ht : b.truths [] ≠ []) : K Γ (.fn 55) [.agg b.c, vb true] [] = some (.tup [.agg [tC b 0, tC b 1], vi 0], []) := by
  have hs := sane_of_valid hv
  have hT := rtruths_k (Γ := Γ) b hs 0
  have h0 := (rT_0 hs (.inl rfl)).2 ht
  have hd : decide (((b.rT 0 0).length : Int) = 0) = false := decide_eq_false (fun e => h0 (List.length_eq_zero_iff.1 (by omega)))
  rw [K_fn P06.f55 _ _ rfl]
  (simp only [go_sem, simprocAttr, decaniref06_asked, hv, hT, hd, tC]; repeat' (first | ((first | (refine br_yes (by omega) ?_) | (refine br_no (by omega) ?_) | (apply br_all; (· simp only [Bool.and_eq_true, decide_eq_true_eq]; omega)) | (apply br_free; (· simp [go_sem, Pm.acc, Acc.free, refsOf, offOf, keyEq, tagEq, cellsEq, cellEq]; done)) | ((first | apply br_mergeT | apply br_mergeF); (· intro h; simp only [go_sem, simprocAttr, sel_of h, decaniref06_asked, hv, hT, hd, tC]; exact rfl))); (try simp only [go_sem, simprocAttr, decaniref06_asked, hv, hT, hd, tC])) | ((first | apply onGuard_sel | (apply pickV_split; apply br_split) | apply br_split) <;> intro h <;> (try simp only [go_sem, simprocAttr, h, decaniref06_asked, hv, hT, hd, tC]))))

theorem rleft_ok (b : Book) [hb : b.Fits] (hv : b.valid = true) (ht : b.truths [] ≠ []) {k : Int} (hk : k = 0 ∨ k = 1) (day : Int) (hd : 0 ≤ day) (hd' : day < b.days.length) :
    K Γ (.fn 56) [.agg b.c, vi k, .sc (tC b k), vi day] [] = some (.agg [ci (spanOf (tLeft k day) (b.truths [])).1, ci (spanOf (tLeft k day) (b.truths [])).2], []) := by
  have hs := sane_of_valid hv
  have := rleft_k (Γ := Γ) b hs hk (kS (b.rT 0 k)) (b.rT 0 k) ((rT_0 hs hk).2 ht) (by have := rT_len hs hk 0; omega) (fun t h => rT_ok hs hk h) day hd hd'
  have he := left_eq hs (but := 0) hk (by rw [exc_zero]; exact ht) hd hd'
  rw [he, exc_zero] at this
  exact this

end
end Go.Pm.Cd

namespace Go.Pm.Cd
open Ac
set_option maxRecDepth 100000
set_option linter.unusedSimpArgs false
set_option linter.unusedSectionVars false
set_option linter.unusedVariables false

section
variable {Γ : Env} [P06 Γ] [G06 Γ]
end
end Go.Pm.Cd

namespace Go.Pm.Cd
open Ac
set_option maxRecDepth 100000
set_option linter.unusedSimpArgs false
set_option linter.unusedSectionVars false
set_option linter.unusedVariables false
def foOf (o : Option (Nat × Day)) : Int × Int := match o with | some (i, _) => ((i : Int), 0) | none => (0, 4)
theorem firstOn_foOf (b : Book) (q : Nat → Bool) (o : Option (Nat × Day)) (h : findFrom (fun i _ => q i) 0 b.days = o) : b.firstOn q = foOf o := by subst h; rfl
section
variable {Γ : Env} [P06 Γ] [G06 Γ]
theorem tC_un (b : Book) (k : Int) : unown (tC b k) = tC b k := rfl
theorem tC_pure (b : Book) (k : Int) : (tC b k).pure = true := rfl
theorem tC_under (b : Book) (k : Int) (n : Nat) : (tC b k).under n = true := rfl

@[go_sem] theorem rShort_k (b : Book) [hb : b.Fits] (kind : Int) : K Γ (.fn 14) [.agg b.c, vi kind] [] = some (.tup [vi (b.short kind).1, vi (b.short kind).2], []) := by
  rw [K_fn P06.f14 _ _ rfl]
  simp only [isKind, Book.askE, Book.short]
  rcases Bool.eq_false_or_eq_true b.valid with hv | hv
  rotate_left
  · have hA (is : Bool) := rasked_bad (Γ := Γ) b hv is
    (simp only [go_sem, simprocAttr, decaniref06_Short, hA, hv, Bool.false_eq_true]; repeat' (first | ((first | (refine br_yes (by omega) ?_) | (refine br_no (by omega) ?_) | (apply br_all; (· simp only [Bool.and_eq_true, decide_eq_true_eq]; omega)) | (apply br_free; (· simp [go_sem, Pm.acc, Acc.free, refsOf, offOf, keyEq, tagEq, cellsEq, cellEq]; done)) | ((first | apply br_mergeT | apply br_mergeF); (· intro h; simp only [go_sem, simprocAttr, sel_of h, decaniref06_Short, hA, hv, Bool.false_eq_true]; exact rfl))); (try simp only [go_sem, simprocAttr, decaniref06_Short, hA, hv, Bool.false_eq_true])) | ((first | apply onGuard_sel | (apply pickV_split; apply br_split) | apply br_split) <;> intro h <;> (try simp only [go_sem, simprocAttr, h, decaniref06_Short, hA, hv, Bool.false_eq_true]))))
  · have hA := rasked_ask (Γ := Γ) b hv
    rcases Bool.eq_false_or_eq_true (within kind 0 1) with hk | hk
    rotate_left
    · (simp only [go_sem, simprocAttr, decaniref06_Short, hA, hv, hk, Bool.false_eq_true]; repeat' (first | ((first | (refine br_yes (by omega) ?_) | (refine br_no (by omega) ?_) | (apply br_all; (· simp only [Bool.and_eq_true, decide_eq_true_eq]; omega)) | (apply br_free; (· simp [go_sem, Pm.acc, Acc.free, refsOf, offOf, keyEq, tagEq, cellsEq, cellEq]; done)) | ((first | apply br_mergeT | apply br_mergeF); (· intro h; simp only [go_sem, simprocAttr, sel_of h, decaniref06_Short, hA, hv, hk, Bool.false_eq_true]; exact rfl))); (try simp only [go_sem, simprocAttr, decaniref06_Short, hA, hv, hk, Bool.false_eq_true])) | ((first | apply onGuard_sel | (apply pickV_split; apply br_split) | apply br_split) <;> intro h <;> (try simp only [go_sem, simprocAttr, h, decaniref06_Short, hA, hv, hk, Bool.false_eq_true]))))
    · by_cases ht : b.truths [] = []
      · have hN := rasked_no (Γ := Γ) b hv ht
        (simp only [go_sem, simprocAttr, decaniref06_Short, hN, hv, hk, ht]; repeat' (first | ((first | (refine br_yes (by omega) ?_) | (refine br_no (by omega) ?_) | (apply br_all; (· simp only [Bool.and_eq_true, decide_eq_true_eq]; omega)) | (apply br_free; (· simp [go_sem, Pm.acc, Acc.free, refsOf, offOf, keyEq, tagEq, cellsEq, cellEq]; done)) | ((first | apply br_mergeT | apply br_mergeF); (· intro h; simp only [go_sem, simprocAttr, sel_of h, decaniref06_Short, hN, hv, hk, ht]; exact rfl))); (try simp only [go_sem, simprocAttr, decaniref06_Short, hN, hv, hk, ht])) | ((first | apply onGuard_sel | (apply pickV_split; apply br_split) | apply br_split) <;> intro h <;> (try simp only [go_sem, simprocAttr, h, decaniref06_Short, hN, hv, hk, ht]))))
      · have hN := rasked_ok (Γ := Γ) b hv ht
        have hk' := (within_iff _ _ _).1 hk
        have hkc : kind = 0 ∨ kind = 1 := by omega
        have hvd := valid_days (sane_of_valid hv)
        let q : Nat → Bool := fun i => decide ((spanOf (tLeft kind i) (b.truths [])).1 < 0)
        have hL {β : Type} (Q : Ex → St → Option β) : E Γ decaniref06_Short_L0 ⟨[(1, vi kind), (2, .sc (.ptr 0 0)), (6, .sc (.ptr 1 0)), (8, vi 0)], [.var b.c, .var [tC b 0, tC b 1]]⟩ Q =
            match findFrom (fun i _ => q i) 0 b.days with
            | some (i, _) => Q .ret ⟨[(4, vi i), (5, vi 0)], [.var b.c, .var [tC b 0, tC b 1]]⟩
            | none => Q (.exit 0) ⟨[(1, vi kind), (2, .sc (.ptr 0 0)), (6, .sc (.ptr 1 0)), (8, vi b.days.length), (23, vb false)], [.var b.c, .var [tC b 0, tC b 1]]⟩ := by
          refine (E_find (fun i => ⟨[(1, vi kind), (2, .sc (.ptr 0 0)), (6, .sc (.ptr 1 0)), (8, vi i)], [.var b.c, .var [tC b 0, tC b 1]]⟩) b.days (fun i _ => q i)
            (fun i x => (.ret, ⟨[(4, vi i), (5, vi 0)], [.var b.c, .var [tC b 0, tC b 1]]⟩))
            (.exit 0, ⟨[(1, vi kind), (2, .sc (.ptr 0 0)), (6, .sc (.ptr 1 0)), (8, vi b.days.length), (23, vb false)], [.var b.c, .var [tC b 0, tC b 1]]⟩) Q ?_ ?_ ?_).trans ?_
          · intro i x hx hqi
            have hil := (List.getElem?_eq_some_iff.1 hx).1
            have hlt := decide_eq_true (show (i : Int) < b.days.length by omega)
            have hiw : IntKind.i64.wrap ((i : Int) + 1) = i + 1 := wrap_i64 (by omega) (by omega)
            have hS := rleft_ok (Γ := Γ) b hv ht hkc i (by omega) (by omega)
            have hqi' : decide ((spanOf (tLeft kind i) (b.truths [])).1 < 0) = false := hqi
            rcases hkc with rfl | rfl
            · (simp only [go_sem, simprocAttr, decaniref06_Short_B0, hlt, hiw, hS, hqi', tC_un, tC_under, tC_pure]; repeat' (first | ((first | (refine br_yes (by omega) ?_) | (refine br_no (by omega) ?_) | (apply br_all; (· simp only [Bool.and_eq_true, decide_eq_true_eq]; omega)) | (apply br_free; (· simp [go_sem, Pm.acc, Acc.free, refsOf, offOf, keyEq, tagEq, cellsEq, cellEq]; done)) | ((first | apply br_mergeT | apply br_mergeF); (· intro h; simp only [go_sem, simprocAttr, sel_of h, decaniref06_Short_B0, hlt, hiw, hS, hqi', tC_un, tC_under, tC_pure]; exact rfl))); (try simp only [go_sem, simprocAttr, decaniref06_Short_B0, hlt, hiw, hS, hqi', tC_un, tC_under, tC_pure])) | ((first | apply onGuard_sel | (apply pickV_split; apply br_split) | apply br_split) <;> intro h <;> (try simp only [go_sem, simprocAttr, h, decaniref06_Short_B0, hlt, hiw, hS, hqi', tC_un, tC_under, tC_pure]))))
              rfl
            · (simp only [go_sem, simprocAttr, decaniref06_Short_B0, hlt, hiw, hS, hqi', tC_un, tC_under, tC_pure]; repeat' (first | ((first | (refine br_yes (by omega) ?_) | (refine br_no (by omega) ?_) | (apply br_all; (· simp only [Bool.and_eq_true, decide_eq_true_eq]; omega)) | (apply br_free; (· simp [go_sem, Pm.acc, Acc.free, refsOf, offOf, keyEq, tagEq, cellsEq, cellEq]; done)) | ((first | apply br_mergeT | apply br_mergeF); (· intro h; simp only [go_sem, simprocAttr, sel_of h, decaniref06_Short_B0, hlt, hiw, hS, hqi', tC_un, tC_under, tC_pure]; exact rfl))); (try simp only [go_sem, simprocAttr, decaniref06_Short_B0, hlt, hiw, hS, hqi', tC_un, tC_under, tC_pure])) | ((first | apply onGuard_sel | (apply pickV_split; apply br_split) | apply br_split) <;> intro h <;> (try simp only [go_sem, simprocAttr, h, decaniref06_Short_B0, hlt, hiw, hS, hqi', tC_un, tC_under, tC_pure]))))
              rfl
          · intro i x hx hqi
            have hil := (List.getElem?_eq_some_iff.1 hx).1
            have hlt := decide_eq_true (show (i : Int) < b.days.length by omega)
            have hS := rleft_ok (Γ := Γ) b hv ht hkc i (by omega) (by omega)
            have hqi' : decide ((spanOf (tLeft kind i) (b.truths [])).1 < 0) = true := hqi
            rcases hkc with rfl | rfl
            · (simp only [go_sem, simprocAttr, decaniref06_Short_B0, hlt, hS, hqi', tC_un, tC_under, tC_pure]; repeat' (first | ((first | (refine br_yes (by omega) ?_) | (refine br_no (by omega) ?_) | (apply br_all; (· simp only [Bool.and_eq_true, decide_eq_true_eq]; omega)) | (apply br_free; (· simp [go_sem, Pm.acc, Acc.free, refsOf, offOf, keyEq, tagEq, cellsEq, cellEq]; done)) | ((first | apply br_mergeT | apply br_mergeF); (· intro h; simp only [go_sem, simprocAttr, sel_of h, decaniref06_Short_B0, hlt, hS, hqi', tC_un, tC_under, tC_pure]; exact rfl))); (try simp only [go_sem, simprocAttr, decaniref06_Short_B0, hlt, hS, hqi', tC_un, tC_under, tC_pure])) | ((first | apply onGuard_sel | (apply pickV_split; apply br_split) | apply br_split) <;> intro h <;> (try simp only [go_sem, simprocAttr, h, decaniref06_Short_B0, hlt, hS, hqi', tC_un, tC_under, tC_pure]))))
            · (simp only [go_sem, simprocAttr, decaniref06_Short_B0, hlt, hS, hqi', tC_un, tC_under, tC_pure]; repeat' (first | ((first | (refine br_yes (by omega) ?_) | (refine br_no (by omega) ?_) | (apply br_all; (· simp only [Bool.and_eq_true, decide_eq_true_eq]; omega)) | (apply br_free; (· simp [go_sem, Pm.acc, Acc.free, refsOf, offOf, keyEq, tagEq, cellsEq, cellEq]; done)) | ((first | apply br_mergeT | apply br_mergeF); (· intro h; simp only [go_sem, simprocAttr, sel_of h, decaniref06_Short_B0, hlt, hS, hqi', tC_un, tC_under, tC_pure]; exact rfl))); (try simp only [go_sem, simprocAttr, decaniref06_Short_B0, hlt, hS, hqi', tC_un, tC_under, tC_pure])) | ((first | apply onGuard_sel | (apply pickV_split; apply br_split) | apply br_split) <;> intro h <;> (try simp only [go_sem, simprocAttr, h, decaniref06_Short_B0, hlt, hS, hqi', tC_un, tC_under, tC_pure]))))
          · have hlt := decide_eq_false (show ¬ (b.days.length : Int) < b.days.length by omega)
            (simp only [go_sem, simprocAttr, decaniref06_Short_B0, hlt]; repeat' (first | ((first | (refine br_yes (by omega) ?_) | (refine br_no (by omega) ?_) | (apply br_all; (· simp only [Bool.and_eq_true, decide_eq_true_eq]; omega)) | (apply br_free; (· simp [go_sem, Pm.acc, Acc.free, refsOf, offOf, keyEq, tagEq, cellsEq, cellEq]; done)) | ((first | apply br_mergeT | apply br_mergeF); (· intro h; simp only [go_sem, simprocAttr, sel_of h, decaniref06_Short_B0, hlt]; exact rfl))); (try simp only [go_sem, simprocAttr, decaniref06_Short_B0, hlt])) | ((first | apply onGuard_sel | (apply pickV_split; apply br_split) | apply br_split) <;> intro h <;> (try simp only [go_sem, simprocAttr, h, decaniref06_Short_B0, hlt]))))
          · cases findFrom (fun i _ => q i) 0 b.days <;> rfl
        obtain ⟨o, ho⟩ : ∃ o, findFrom (fun i _ => q i) 0 b.days = o := ⟨_, rfl⟩
        have hfo : b.firstOn (fun i => decide ((spanOf (tLeft kind i) (b.truths [])).1 < 0)) = foOf o := firstOn_foOf b q o ho
        rw [hfo]
        simp only [ho] at hL
        cases o with
        | none => (simp only [go_sem, simprocAttr, decaniref06_Short, hN, hv, hk, ht, hL, tC_un, tC_under, tC_pure, foOf]; repeat' (first | ((first | (refine br_yes (by omega) ?_) | (refine br_no (by omega) ?_) | (apply br_all; (· simp only [Bool.and_eq_true, decide_eq_true_eq]; omega)) | (apply br_free; (· simp [go_sem, Pm.acc, Acc.free, refsOf, offOf, keyEq, tagEq, cellsEq, cellEq]; done)) | ((first | apply br_mergeT | apply br_mergeF); (· intro h; simp only [go_sem, simprocAttr, sel_of h, decaniref06_Short, hN, hv, hk, ht, hL, tC_un, tC_under, tC_pure, foOf]; exact rfl))); (try simp only [go_sem, simprocAttr, decaniref06_Short, hN, hv, hk, ht, hL, tC_un, tC_under, tC_pure, foOf])) | ((first | apply onGuard_sel | (apply pickV_split; apply br_split) | apply br_split) <;> intro h <;> (try simp only [go_sem, simprocAttr, h, decaniref06_Short, hN, hv, hk, ht, hL, tC_un, tC_under, tC_pure, foOf]))))
        | some p => (simp only [go_sem, simprocAttr, decaniref06_Short, hN, hv, hk, ht, hL, tC_un, tC_under, tC_pure, foOf]; repeat' (first | ((first | (refine br_yes (by omega) ?_) | (refine br_no (by omega) ?_) | (apply br_all; (· simp only [Bool.and_eq_true, decide_eq_true_eq]; omega)) | (apply br_free; (· simp [go_sem, Pm.acc, Acc.free, refsOf, offOf, keyEq, tagEq, cellsEq, cellEq]; done)) | ((first | apply br_mergeT | apply br_mergeF); (· intro h; simp only [go_sem, simprocAttr, sel_of h, decaniref06_Short, hN, hv, hk, ht, hL, tC_un, tC_under, tC_pure, foOf]; exact rfl))); (try simp only [go_sem, simprocAttr, decaniref06_Short, hN, hv, hk, ht, hL, tC_un, tC_under, tC_pure, foOf])) | ((first | apply onGuard_sel | (apply pickV_split; apply br_split) | apply br_split) <;> intro h <;> (try simp only [go_sem, simprocAttr, h, decaniref06_Short, hN, hv, hk, ht, hL, tC_un, tC_under, tC_pure, foOf]))))

@[go_sem] theorem rSurely_k (b : Book) [hb : b.Fits] (kind : Int) : K Γ (.fn 16) [.agg b.c, vi kind] [] = some (.tup [vi (b.surely kind).1, vi (b.surely kind).2], []) := by
  rw [K_fn P06.f16 _ _ rfl]
  simp only [isKind, Book.askE, Book.surely]
  rcases Bool.eq_false_or_eq_true b.valid with hv | hv
  rotate_left
  · have hA (is : Bool) := rasked_bad (Γ := Γ) b hv is
    (simp only [go_sem, simprocAttr, decaniref06_Surely, hA, hv, Bool.false_eq_true]; repeat' (first | ((first | (refine br_yes (by omega) ?_) | (refine br_no (by omega) ?_) | (apply br_all; (· simp only [Bool.and_eq_true, decide_eq_true_eq]; omega)) | (apply br_free; (· simp [go_sem, Pm.acc, Acc.free, refsOf, offOf, keyEq, tagEq, cellsEq, cellEq]; done)) | ((first | apply br_mergeT | apply br_mergeF); (· intro h; simp only [go_sem, simprocAttr, sel_of h, decaniref06_Surely, hA, hv, Bool.false_eq_true]; exact rfl))); (try simp only [go_sem, simprocAttr, decaniref06_Surely, hA, hv, Bool.false_eq_true])) | ((first | apply onGuard_sel | (apply pickV_split; apply br_split) | apply br_split) <;> intro h <;> (try simp only [go_sem, simprocAttr, h, decaniref06_Surely, hA, hv, Bool.false_eq_true]))))
  · have hA := rasked_ask (Γ := Γ) b hv
    rcases Bool.eq_false_or_eq_true (within kind 0 1) with hk | hk
    rotate_left
    · (simp only [go_sem, simprocAttr, decaniref06_Surely, hA, hv, hk, Bool.false_eq_true]; repeat' (first | ((first | (refine br_yes (by omega) ?_) | (refine br_no (by omega) ?_) | (apply br_all; (· simp only [Bool.and_eq_true, decide_eq_true_eq]; omega)) | (apply br_free; (· simp [go_sem, Pm.acc, Acc.free, refsOf, offOf, keyEq, tagEq, cellsEq, cellEq]; done)) | ((first | apply br_mergeT | apply br_mergeF); (· intro h; simp only [go_sem, simprocAttr, sel_of h, decaniref06_Surely, hA, hv, hk, Bool.false_eq_true]; exact rfl))); (try simp only [go_sem, simprocAttr, decaniref06_Surely, hA, hv, hk, Bool.false_eq_true])) | ((first | apply onGuard_sel | (apply pickV_split; apply br_split) | apply br_split) <;> intro h <;> (try simp only [go_sem, simprocAttr, h, decaniref06_Surely, hA, hv, hk, Bool.false_eq_true]))))
    · by_cases ht : b.truths [] = []
      · have hN := rasked_no (Γ := Γ) b hv ht
        (simp only [go_sem, simprocAttr, decaniref06_Surely, hN, hv, hk, ht]; repeat' (first | ((first | (refine br_yes (by omega) ?_) | (refine br_no (by omega) ?_) | (apply br_all; (· simp only [Bool.and_eq_true, decide_eq_true_eq]; omega)) | (apply br_free; (· simp [go_sem, Pm.acc, Acc.free, refsOf, offOf, keyEq, tagEq, cellsEq, cellEq]; done)) | ((first | apply br_mergeT | apply br_mergeF); (· intro h; simp only [go_sem, simprocAttr, sel_of h, decaniref06_Surely, hN, hv, hk, ht]; exact rfl))); (try simp only [go_sem, simprocAttr, decaniref06_Surely, hN, hv, hk, ht])) | ((first | apply onGuard_sel | (apply pickV_split; apply br_split) | apply br_split) <;> intro h <;> (try simp only [go_sem, simprocAttr, h, decaniref06_Surely, hN, hv, hk, ht]))))
      · have hN := rasked_ok (Γ := Γ) b hv ht
        have hk' := (within_iff _ _ _).1 hk
        have hkc : kind = 0 ∨ kind = 1 := by omega
        have hvd := valid_days (sane_of_valid hv)
        let q : Nat → Bool := fun i => decide ((spanOf (tLeft kind i) (b.truths [])).2 < 0)
        have hL {β : Type} (Q : Ex → St → Option β) : E Γ decaniref06_Surely_L0 ⟨[(1, vi kind), (2, .sc (.ptr 0 0)), (6, .sc (.ptr 1 0)), (8, vi 0)], [.var b.c, .var [tC b 0, tC b 1]]⟩ Q =
            match findFrom (fun i _ => q i) 0 b.days with
            | some (i, _) => Q .ret ⟨[(4, vi i), (5, vi 0)], [.var b.c, .var [tC b 0, tC b 1]]⟩
            | none => Q (.exit 0) ⟨[(1, vi kind), (2, .sc (.ptr 0 0)), (6, .sc (.ptr 1 0)), (8, vi b.days.length), (23, vb false)], [.var b.c, .var [tC b 0, tC b 1]]⟩ := by
          refine (E_find (fun i => ⟨[(1, vi kind), (2, .sc (.ptr 0 0)), (6, .sc (.ptr 1 0)), (8, vi i)], [.var b.c, .var [tC b 0, tC b 1]]⟩) b.days (fun i _ => q i)
            (fun i x => (.ret, ⟨[(4, vi i), (5, vi 0)], [.var b.c, .var [tC b 0, tC b 1]]⟩))
            (.exit 0, ⟨[(1, vi kind), (2, .sc (.ptr 0 0)), (6, .sc (.ptr 1 0)), (8, vi b.days.length), (23, vb false)], [.var b.c, .var [tC b 0, tC b 1]]⟩) Q ?_ ?_ ?_).trans ?_
          · intro i x hx hqi
            have hil := (List.getElem?_eq_some_iff.1 hx).1
            have hlt := decide_eq_true (show (i : Int) < b.days.length by omega)
            have hiw : IntKind.i64.wrap ((i : Int) + 1) = i + 1 := wrap_i64 (by omega) (by omega)
            have hS := rleft_ok (Γ := Γ) b hv ht hkc i (by omega) (by omega)
            have hqi' : decide ((spanOf (tLeft kind i) (b.truths [])).2 < 0) = false := hqi
            rcases hkc with rfl | rfl
            · (simp only [go_sem, simprocAttr, decaniref06_Surely_B0, hlt, hiw, hS, hqi', tC_un, tC_under, tC_pure]; repeat' (first | ((first | (refine br_yes (by omega) ?_) | (refine br_no (by omega) ?_) | (apply br_all; (· simp only [Bool.and_eq_true, decide_eq_true_eq]; omega)) | (apply br_free; (· simp [go_sem, Pm.acc, Acc.free, refsOf, offOf, keyEq, tagEq, cellsEq, cellEq]; done)) | ((first | apply br_mergeT | apply br_mergeF); (· intro h; simp only [go_sem, simprocAttr, sel_of h, decaniref06_Surely_B0, hlt, hiw, hS, hqi', tC_un, tC_under, tC_pure]; exact rfl))); (try simp only [go_sem, simprocAttr, decaniref06_Surely_B0, hlt, hiw, hS, hqi', tC_un, tC_under, tC_pure])) | ((first | apply onGuard_sel | (apply pickV_split; apply br_split) | apply br_split) <;> intro h <;> (try simp only [go_sem, simprocAttr, h, decaniref06_Surely_B0, hlt, hiw, hS, hqi', tC_un, tC_under, tC_pure]))))
              rfl
            · (simp only [go_sem, simprocAttr, decaniref06_Surely_B0, hlt, hiw, hS, hqi', tC_un, tC_under, tC_pure]; repeat' (first | ((first | (refine br_yes (by omega) ?_) | (refine br_no (by omega) ?_) | (apply br_all; (· simp only [Bool.and_eq_true, decide_eq_true_eq]; omega)) | (apply br_free; (· simp [go_sem, Pm.acc, Acc.free, refsOf, offOf, keyEq, tagEq, cellsEq, cellEq]; done)) | ((first | apply br_mergeT | apply br_mergeF); (· intro h; simp only [go_sem, simprocAttr, sel_of h, decaniref06_Surely_B0, hlt, hiw, hS, hqi', tC_un, tC_under, tC_pure]; exact rfl))); (try simp only [go_sem, simprocAttr, decaniref06_Surely_B0, hlt, hiw, hS, hqi', tC_un, tC_under, tC_pure])) | ((first | apply onGuard_sel | (apply pickV_split; apply br_split) | apply br_split) <;> intro h <;> (try simp only [go_sem, simprocAttr, h, decaniref06_Surely_B0, hlt, hiw, hS, hqi', tC_un, tC_under, tC_pure]))))
              rfl
          · intro i x hx hqi
            have hil := (List.getElem?_eq_some_iff.1 hx).1
            have hlt := decide_eq_true (show (i : Int) < b.days.length by omega)
            have hS := rleft_ok (Γ := Γ) b hv ht hkc i (by omega) (by omega)
            have hqi' : decide ((spanOf (tLeft kind i) (b.truths [])).2 < 0) = true := hqi
            rcases hkc with rfl | rfl
            · (simp only [go_sem, simprocAttr, decaniref06_Surely_B0, hlt, hS, hqi', tC_un, tC_under, tC_pure]; repeat' (first | ((first | (refine br_yes (by omega) ?_) | (refine br_no (by omega) ?_) | (apply br_all; (· simp only [Bool.and_eq_true, decide_eq_true_eq]; omega)) | (apply br_free; (· simp [go_sem, Pm.acc, Acc.free, refsOf, offOf, keyEq, tagEq, cellsEq, cellEq]; done)) | ((first | apply br_mergeT | apply br_mergeF); (· intro h; simp only [go_sem, simprocAttr, sel_of h, decaniref06_Surely_B0, hlt, hS, hqi', tC_un, tC_under, tC_pure]; exact rfl))); (try simp only [go_sem, simprocAttr, decaniref06_Surely_B0, hlt, hS, hqi', tC_un, tC_under, tC_pure])) | ((first | apply onGuard_sel | (apply pickV_split; apply br_split) | apply br_split) <;> intro h <;> (try simp only [go_sem, simprocAttr, h, decaniref06_Surely_B0, hlt, hS, hqi', tC_un, tC_under, tC_pure]))))
            · (simp only [go_sem, simprocAttr, decaniref06_Surely_B0, hlt, hS, hqi', tC_un, tC_under, tC_pure]; repeat' (first | ((first | (refine br_yes (by omega) ?_) | (refine br_no (by omega) ?_) | (apply br_all; (· simp only [Bool.and_eq_true, decide_eq_true_eq]; omega)) | (apply br_free; (· simp [go_sem, Pm.acc, Acc.free, refsOf, offOf, keyEq, tagEq, cellsEq, cellEq]; done)) | ((first | apply br_mergeT | apply br_mergeF); (· intro h; simp only [go_sem, simprocAttr, sel_of h, decaniref06_Surely_B0, hlt, hS, hqi', tC_un, tC_under, tC_pure]; exact rfl))); (try simp only [go_sem, simprocAttr, decaniref06_Surely_B0, hlt, hS, hqi', tC_un, tC_under, tC_pure])) | ((first | apply onGuard_sel | (apply pickV_split; apply br_split) | apply br_split) <;> intro h <;> (try simp only [go_sem, simprocAttr, h, decaniref06_Surely_B0, hlt, hS, hqi', tC_un, tC_under, tC_pure]))))
          · have hlt := decide_eq_false (show ¬ (b.days.length : Int) < b.days.length by omega)
            (simp only [go_sem, simprocAttr, decaniref06_Surely_B0, hlt]; repeat' (first | ((first | (refine br_yes (by omega) ?_) | (refine br_no (by omega) ?_) | (apply br_all; (· simp only [Bool.and_eq_true, decide_eq_true_eq]; omega)) | (apply br_free; (· simp [go_sem, Pm.acc, Acc.free, refsOf, offOf, keyEq, tagEq, cellsEq, cellEq]; done)) | ((first | apply br_mergeT | apply br_mergeF); (· intro h; simp only [go_sem, simprocAttr, sel_of h, decaniref06_Surely_B0, hlt]; exact rfl))); (try simp only [go_sem, simprocAttr, decaniref06_Surely_B0, hlt])) | ((first | apply onGuard_sel | (apply pickV_split; apply br_split) | apply br_split) <;> intro h <;> (try simp only [go_sem, simprocAttr, h, decaniref06_Surely_B0, hlt]))))
          · cases findFrom (fun i _ => q i) 0 b.days <;> rfl
        obtain ⟨o, ho⟩ : ∃ o, findFrom (fun i _ => q i) 0 b.days = o := ⟨_, rfl⟩
        have hfo : b.firstOn (fun i => decide ((spanOf (tLeft kind i) (b.truths [])).2 < 0)) = foOf o := firstOn_foOf b q o ho
        rw [hfo]
        simp only [ho] at hL
        cases o with
        | none => (simp only [go_sem, simprocAttr, decaniref06_Surely, hN, hv, hk, ht, hL, tC_un, tC_under, tC_pure, foOf]; repeat' (first | ((first | (refine br_yes (by omega) ?_) | (refine br_no (by omega) ?_) | (apply br_all; (· simp only [Bool.and_eq_true, decide_eq_true_eq]; omega)) | (apply br_free; (· simp [go_sem, Pm.acc, Acc.free, refsOf, offOf, keyEq, tagEq, cellsEq, cellEq]; done)) | ((first | apply br_mergeT | apply br_mergeF); (· intro h; simp only [go_sem, simprocAttr, sel_of h, decaniref06_Surely, hN, hv, hk, ht, hL, tC_un, tC_under, tC_pure, foOf]; exact rfl))); (try simp only [go_sem, simprocAttr, decaniref06_Surely, hN, hv, hk, ht, hL, tC_un, tC_under, tC_pure, foOf])) | ((first | apply onGuard_sel | (apply pickV_split; apply br_split) | apply br_split) <;> intro h <;> (try simp only [go_sem, simprocAttr, h, decaniref06_Surely, hN, hv, hk, ht, hL, tC_un, tC_under, tC_pure, foOf]))))
        | some p => (simp only [go_sem, simprocAttr, decaniref06_Surely, hN, hv, hk, ht, hL, tC_un, tC_under, tC_pure, foOf]; repeat' (first | ((first | (refine br_yes (by omega) ?_) | (refine br_no (by omega) ?_) | (apply br_all; (· simp only [Bool.and_eq_true, decide_eq_true_eq]; omega)) | (apply br_free; (· simp [go_sem, Pm.acc, Acc.free, refsOf, offOf, keyEq, tagEq, cellsEq, cellEq]; done)) | ((first | apply br_mergeT | apply br_mergeF); (· intro h; simp only [go_sem, simprocAttr, sel_of h, decaniref06_Surely, hN, hv, hk, ht, hL, tC_un, tC_under, tC_pure, foOf]; exact rfl))); (try simp only [go_sem, simprocAttr, decaniref06_Surely, hN, hv, hk, ht, hL, tC_un, tC_under, tC_pure, foOf])) | ((first | apply onGuard_sel | (apply pickV_split; apply br_split) | apply br_split) <;> intro h <;> (try simp only [go_sem, simprocAttr, h, decaniref06_Surely, hN, hv, hk, ht, hL, tC_un, tC_under, tC_pure, foOf]))))

@[go_sem] theorem rBuy_k (b : Book) [hb : b.Fits] (kind day : Int) : K Γ (.fn 18) [.agg b.c, vi kind, vi day] [] = some (.tup [vi (b.buy kind day).1, vi (b.buy kind day).2], []) := by
  rw [K_fn P06.f18 _ _ rfl]
  simp only [isKind, Book.isDay, Book.askE, Book.buy]
  rcases Bool.eq_false_or_eq_true b.valid with hv | hv
  rotate_left
  · have hA (is : Bool) := rasked_bad (Γ := Γ) b hv is
    (simp only [go_sem, simprocAttr, decaniref06_Buy, hA, hv, Bool.false_eq_true]; repeat' (first | ((first | (refine br_yes (by omega) ?_) | (refine br_no (by omega) ?_) | (apply br_all; (· simp only [Bool.and_eq_true, decide_eq_true_eq]; omega)) | (apply br_free; (· simp [go_sem, Pm.acc, Acc.free, refsOf, offOf, keyEq, tagEq, cellsEq, cellEq]; done)) | ((first | apply br_mergeT | apply br_mergeF); (· intro h; simp only [go_sem, simprocAttr, sel_of h, decaniref06_Buy, hA, hv, Bool.false_eq_true]; exact rfl))); (try simp only [go_sem, simprocAttr, decaniref06_Buy, hA, hv, Bool.false_eq_true])) | ((first | apply onGuard_sel | (apply pickV_split; apply br_split) | apply br_split) <;> intro h <;> (try simp only [go_sem, simprocAttr, h, decaniref06_Buy, hA, hv, Bool.false_eq_true]))))
  · have hA := rasked_ask (Γ := Γ) b hv
    rcases Bool.eq_false_or_eq_true (within kind 0 1) with hk | hk
    rotate_left
    · (simp only [go_sem, simprocAttr, decaniref06_Buy, hA, hv, hk, Bool.false_and, Bool.false_eq_true]; repeat' (first | ((first | (refine br_yes (by omega) ?_) | (refine br_no (by omega) ?_) | (apply br_all; (· simp only [Bool.and_eq_true, decide_eq_true_eq]; omega)) | (apply br_free; (· simp [go_sem, Pm.acc, Acc.free, refsOf, offOf, keyEq, tagEq, cellsEq, cellEq]; done)) | ((first | apply br_mergeT | apply br_mergeF); (· intro h; simp only [go_sem, simprocAttr, sel_of h, decaniref06_Buy, hA, hv, hk, Bool.false_and, Bool.false_eq_true]; exact rfl))); (try simp only [go_sem, simprocAttr, decaniref06_Buy, hA, hv, hk, Bool.false_and, Bool.false_eq_true])) | ((first | apply onGuard_sel | (apply pickV_split; apply br_split) | apply br_split) <;> intro h <;> (try simp only [go_sem, simprocAttr, h, decaniref06_Buy, hA, hv, hk, Bool.false_and, Bool.false_eq_true]))))
    · rcases Bool.eq_false_or_eq_true (within day 0 (b.days.length - 1)) with hd | hd
      rotate_left
      · (simp only [go_sem, simprocAttr, decaniref06_Buy, hA, hv, hk, hd, Bool.false_eq_true]; repeat' (first | ((first | (refine br_yes (by omega) ?_) | (refine br_no (by omega) ?_) | (apply br_all; (· simp only [Bool.and_eq_true, decide_eq_true_eq]; omega)) | (apply br_free; (· simp [go_sem, Pm.acc, Acc.free, refsOf, offOf, keyEq, tagEq, cellsEq, cellEq]; done)) | ((first | apply br_mergeT | apply br_mergeF); (· intro h; simp only [go_sem, simprocAttr, sel_of h, decaniref06_Buy, hA, hv, hk, hd, Bool.false_eq_true]; exact rfl))); (try simp only [go_sem, simprocAttr, decaniref06_Buy, hA, hv, hk, hd, Bool.false_eq_true])) | ((first | apply onGuard_sel | (apply pickV_split; apply br_split) | apply br_split) <;> intro h <;> (try simp only [go_sem, simprocAttr, h, decaniref06_Buy, hA, hv, hk, hd, Bool.false_eq_true]))))
      · have hk' := (within_iff _ _ _).1 hk
        have hd' := (within_iff _ _ _).1 hd
        by_cases ht : b.truths [] = []
        · have hN := rasked_no (Γ := Γ) b hv ht
          (simp only [go_sem, simprocAttr, decaniref06_Buy, hN, hv, hk, hd, ht]; repeat' (first | ((first | (refine br_yes (by omega) ?_) | (refine br_no (by omega) ?_) | (apply br_all; (· simp only [Bool.and_eq_true, decide_eq_true_eq]; omega)) | (apply br_free; (· simp [go_sem, Pm.acc, Acc.free, refsOf, offOf, keyEq, tagEq, cellsEq, cellEq]; done)) | ((first | apply br_mergeT | apply br_mergeF); (· intro h; simp only [go_sem, simprocAttr, sel_of h, decaniref06_Buy, hN, hv, hk, hd, ht]; exact rfl))); (try simp only [go_sem, simprocAttr, decaniref06_Buy, hN, hv, hk, hd, ht])) | ((first | apply onGuard_sel | (apply pickV_split; apply br_split) | apply br_split) <;> intro h <;> (try simp only [go_sem, simprocAttr, h, decaniref06_Buy, hN, hv, hk, hd, ht]))))
        · have hN := rasked_ok (Γ := Γ) b hv ht
          have hs := sane_of_valid hv
          have hkc : kind = 0 ∨ kind = 1 := by omega
          have hvd := valid_days hs
          have hL {β : Type} (Q : Ex → St → Option β) : E Γ decaniref06_Buy_L0 ⟨[(1, vi kind), (3, .sc (.ptr 0 0)), (8, .sc (.ptr 1 0)), (10, vi 0), (11, vi day)], [.var b.c, .var [tC b 0, tC b 1]]⟩ Q =
              Q (.exit 0) ⟨[(1, vi kind), (3, .sc (.ptr 0 0)), (8, .sc (.ptr 1 0)), (10, vi (b.buyN kind day (b.days.length - day).toNat)), (11, vi b.days.length), (32, vb false)], [.var b.c, .var [tC b 0, tC b 1]]⟩ := by
            refine E_countS (b.days.length - day).toNat (fun i (_ : Unit) => ⟨[(1, vi kind), (3, .sc (.ptr 0 0)), (8, .sc (.ptr 1 0)), (10, vi (b.buyN kind day i)), (11, vi (day + (i : Nat)))], [.var b.c, .var [tC b 0, tC b 1]]⟩) (fun _ _ => True)
              (fun _ => (.exit 0, ⟨[(1, vi kind), (3, .sc (.ptr 0 0)), (8, .sc (.ptr 1 0)), (10, vi (b.buyN kind day (b.days.length - day).toNat)), (11, vi b.days.length), (32, vb false)], [.var b.c, .var [tC b 0, tC b 1]]⟩)) () ?_ trivial ?_ ?_ ?_
            · simp [Book.buyN]
            · intro i _ hi _
              refine ⟨(), trivial, ?_⟩
              have hlt := decide_eq_true (show day + (i : Int) < b.days.length by omega)
              have hS := rleft_ok (Γ := Γ) b hv ht hkc (day + (i : Int)) (by omega) (by omega)
              have hB := span_bound hs ht kind (day + (i : Nat)) (by omega) (by omega)
              have hiw : IntKind.i64.wrap (day + (i : Int) + 1) = day + (i + 1 : Nat) := by rw [wrap_i64 (by omega) (by omega)]; omega
              have hnw : IntKind.i64.wrap (0 - (spanOf (tLeft kind (day + (i : Nat))) (b.truths [])).1) = -(spanOf (tLeft kind (day + (i : Nat))) (b.truths [])).1 := by rw [wrap_i64 (by omega) (by omega)]; omega
              have hNs : b.buyN kind day (i + 1) = max (b.buyN kind day i) (-(spanOf (tLeft kind (day + (i : Nat))) (b.truths [])).1) := by simp [Book.buyN, List.range_succ]
              rw [hNs]
              rcases hkc with rfl | rfl
              · (simp only [go_sem, simprocAttr, decaniref06_Buy_B0, hlt, hiw, hS, hnw, tC_un, tC_under, tC_pure]; repeat' (first | ((first | (refine br_yes (by omega) ?_) | (refine br_no (by omega) ?_) | (apply br_all; (· simp only [Bool.and_eq_true, decide_eq_true_eq]; omega)) | (apply br_free; (· simp [go_sem, Pm.acc, Acc.free, refsOf, offOf, keyEq, tagEq, cellsEq, cellEq]; done)) | ((first | apply br_mergeT | apply br_mergeF); (· intro h; simp only [go_sem, simprocAttr, sel_of h, decaniref06_Buy_B0, hlt, hiw, hS, hnw, tC_un, tC_under, tC_pure]; exact rfl))); (try simp only [go_sem, simprocAttr, decaniref06_Buy_B0, hlt, hiw, hS, hnw, tC_un, tC_under, tC_pure])) | ((first | apply onGuard_sel | (apply pickV_split; apply br_split) | apply br_split) <;> intro h <;> (try simp only [go_sem, simprocAttr, h, decaniref06_Buy_B0, hlt, hiw, hS, hnw, tC_un, tC_under, tC_pure]))))
              · (simp only [go_sem, simprocAttr, decaniref06_Buy_B0, hlt, hiw, hS, hnw, tC_un, tC_under, tC_pure]; repeat' (first | ((first | (refine br_yes (by omega) ?_) | (refine br_no (by omega) ?_) | (apply br_all; (· simp only [Bool.and_eq_true, decide_eq_true_eq]; omega)) | (apply br_free; (· simp [go_sem, Pm.acc, Acc.free, refsOf, offOf, keyEq, tagEq, cellsEq, cellEq]; done)) | ((first | apply br_mergeT | apply br_mergeF); (· intro h; simp only [go_sem, simprocAttr, sel_of h, decaniref06_Buy_B0, hlt, hiw, hS, hnw, tC_un, tC_under, tC_pure]; exact rfl))); (try simp only [go_sem, simprocAttr, decaniref06_Buy_B0, hlt, hiw, hS, hnw, tC_un, tC_under, tC_pure])) | ((first | apply onGuard_sel | (apply pickV_split; apply br_split) | apply br_split) <;> intro h <;> (try simp only [go_sem, simprocAttr, h, decaniref06_Buy_B0, hlt, hiw, hS, hnw, tC_un, tC_under, tC_pure]))))
            · intro _ _
              have hm : day + ((b.days.length - day).toNat : Int) = b.days.length := by omega
              have hlt := decide_eq_false (show ¬ (b.days.length : Int) < b.days.length by omega)
              simp only [hm]
              (simp only [go_sem, simprocAttr, decaniref06_Buy_B0, hlt]; repeat' (first | ((first | (refine br_yes (by omega) ?_) | (refine br_no (by omega) ?_) | (apply br_all; (· simp only [Bool.and_eq_true, decide_eq_true_eq]; omega)) | (apply br_free; (· simp [go_sem, Pm.acc, Acc.free, refsOf, offOf, keyEq, tagEq, cellsEq, cellEq]; done)) | ((first | apply br_mergeT | apply br_mergeF); (· intro h; simp only [go_sem, simprocAttr, sel_of h, decaniref06_Buy_B0, hlt]; exact rfl))); (try simp only [go_sem, simprocAttr, decaniref06_Buy_B0, hlt])) | ((first | apply onGuard_sel | (apply pickV_split; apply br_split) | apply br_split) <;> intro h <;> (try simp only [go_sem, simprocAttr, h, decaniref06_Buy_B0, hlt]))))
            · intro _ _
              rfl
          (simp only [go_sem, simprocAttr, decaniref06_Buy, hN, hv, hk, hd, ht, hL, tC_un, tC_under, tC_pure]; repeat' (first | ((first | (refine br_yes (by omega) ?_) | (refine br_no (by omega) ?_) | (apply br_all; (· simp only [Bool.and_eq_true, decide_eq_true_eq]; omega)) | (apply br_free; (· simp [go_sem, Pm.acc, Acc.free, refsOf, offOf, keyEq, tagEq, cellsEq, cellEq]; done)) | ((first | apply br_mergeT | apply br_mergeF); (· intro h; simp only [go_sem, simprocAttr, sel_of h, decaniref06_Buy, hN, hv, hk, hd, ht, hL, tC_un, tC_under, tC_pure]; exact rfl))); (try simp only [go_sem, simprocAttr, decaniref06_Buy, hN, hv, hk, hd, ht, hL, tC_un, tC_under, tC_pure])) | ((first | apply onGuard_sel | (apply pickV_split; apply br_split) | apply br_split) <;> intro h <;> (try simp only [go_sem, simprocAttr, h, decaniref06_Buy, hN, hv, hk, hd, ht, hL, tC_un, tC_under, tC_pure]))))

end
end Go.Pm.Cd

namespace Go.Pm.Cd
open Ac
set_option maxRecDepth 100000
set_option linter.unusedSimpArgs false
section
variable {Γ : Env} [P06 Γ] [G06 Γ]
theorem CandleShorts_k (b : Book) [hb : b.Fits] (n0 n1 : Int) : K Γ (.fn 88) [.agg b.c, .agg [ci n0, ci n1]] [] = some (vb true, []) := by
  rw [K_fn P06.f88 _ _ rfl]
  (simp only [go_sem, simprocAttr, decanilaw06_CandleShorts, eq_self, decide_true, beq_self_eq_true]; repeat' (first | ((first | (refine br_yes (by omega) ?_) | (refine br_no (by omega) ?_) | (apply br_all; (· simp only [Bool.and_eq_true, decide_eq_true_eq]; omega)) | (apply br_free; (· simp [go_sem, Pm.acc, Acc.free, refsOf, offOf, keyEq, tagEq, cellsEq, cellEq]; done)) | ((first | apply br_mergeT | apply br_mergeF); (· intro h; simp only [go_sem, simprocAttr, sel_of h, decanilaw06_CandleShorts, eq_self, decide_true, beq_self_eq_true]; exact rfl))); (try simp only [go_sem, simprocAttr, decanilaw06_CandleShorts, eq_self, decide_true, beq_self_eq_true])) | ((first | apply onGuard_sel | (apply pickV_split; apply br_split) | apply br_split) <;> intro h <;> (try simp only [go_sem, simprocAttr, h, decanilaw06_CandleShorts, eq_self, decide_true, beq_self_eq_true]))))
end
end Go.Pm.Cd

namespace Go.Proofs.YtdndhpoinffpbaaDoor
open Go Go.Pm Go.Pm.Cd Go.ChangeShapes Go.WideShapes Go.ChangeAt Go.RowKit
set_option maxRecDepth 100000

theorem lifted (os : Os) (started : os.Started) (H : Type) (enc : TypeId × Value → H) :
    ReturnsInHanded {} Tryd.checked os 4 .any (fun w args => (Rows.candleShortsSpec.pre enc Tryd.prog Tryd.f4 [] false w args ∧ laidMetH Tryd.prog laidL w) ∧ sizedMet enc Tryd.prog Tryd.f4 (OpenSpec.ofChange Rows.candleShortsSpec) false w args)
      (Rows.candleShortsSpec.post enc Tryd.prog Tryd.f4 false true false false) := by
  refine returnsInHanded_of_change_and (C := Tryd.checked) (X := fun w _ => laidMetH Tryd.prog laidL w) (fun _ _ _ hh h => h.of_heap hh) own started (by kernel_rfl) Tryd.func4
    (ChangeSpec.witness_shaped (enc := enc) (C := Tryd.checked) (os := os) (X := fun w _ => laidMetH Tryd.prog laidL w) false (World.doorLaid Tryd.prog 600 os) #[.agg #[.int .i64 0, .int .i64 0, .int .i64 0, .int .i64 0, .int .i64 0, .int .i64 0, .int .i64 0, .int .i64 0, .slice none 0 0, .slice none 0 0, .slice none 0 0], .agg #[.int .i64 0, .int .i64 0]] 8 rfl (World.shaped_of_RefB (by kernel_rfl) (by kernel_rfl)) (by kernel_rfl) (by kernel_rfl) (by kernel_rfl) (door_met os _)) ?_
  intro W base args ds gs before hval hW _ _ hL _
  refine law_contract (S := S1) (G := G1) (id := 88) (tb := 4) (base := base) seat_ok 8 [bookT, (T.st [i1, i1])] (by kernel_rfl) (by kernel_rfl) laidOut (by kernel_rfl) (by kernel_rfl) rfl ?_ ?_ hval hW (globs hL)
  · intro ds hd
    match ds, hd with
    | [d0, d1], _ => rfl
  · show ∀ vs, HasVs [bookT, (T.st [i1, i1])] vs → K Γ1 (.fn 88) vs [] = some (.sc (.bool true), [])
    intro vs hvs
    simp only [HasVs] at hvs
    obtain ⟨v0, r0, rfl, h0, v1, r1, rfl, h1, rfl⟩ := hvs
    obtain ⟨b, rfl, hb⟩ := book_of _ h0
    haveI := hb
    obtain ⟨n0, n1, rfl⟩ := ints2_of _ h1
    exact CandleShorts_k (Γ := Γ1) b n0 n1

theorem row_holds : Rows.CandleShortsSaid :=
  OpenClaim.holds_of_wide 4 Tryd.f4 rfl rfl rfl rfl rfl rfl rfl ⟨rfl, rfl, rfl, rfl, rfl⟩ rfl rfl rfl rfl rfl (by kernel_rfl) Tryd.func4 (by kernel_rfl)
    (of_decide_eq_true (by kernel_rfl)) (by unfold Func.isWrapper; first | (rw [if_pos (by decide +kernel)]; kernel_rfl) | (rw [if_neg (by decide +kernel)]; exact ⟨rfl, rfl⟩))
    (fun os started H enc _ => lifted os started H enc)

theorem candleShorts_card_holds : Rows.CandleShortsCardSaid :=
  Claim7.holds_tied_plain_at .later [] [.data, .funcs] true (true, "60d50f35f64f42411113777cba31078ec0ca6d528e83348940a62dd418a71482") false
    row_holds (fun _ h => by cases h) (by kernel_rfl) (fun _ h => by cases h) candleShorts_row_tie rfl ⟨rfl, rfl⟩ (by kernel_rfl) rfl
    (fun f fn hf hfn => by
      obtain rfl : f = 4 := Option.some.inj ((show Tryd.prog.funcNamed "decani/decanilaw06.CandleShorts" = some 4 by kernel_rfl).symm.trans hf) |>.symm
      obtain rfl : fn = Tryd.f4 := (Option.some.inj (Tryd.func4.symm.trans hfn)).symm
      exact ⟨by kernel_rfl, fun j t ht => by
        have hp : Tryd.f4.params = #[29, 30] := by kernel_rfl
        rw [hp] at ht
        have hm : t ∈ ([29, 30] : List TypeId) := by simpa using Array.mem_of_getElem? ht
        have hall : (([29, 30] : List TypeId).all fun u => !Tryd.prog.wantsStandIn u) = true := by kernel_rfl
        exact (show Tryd.prog.wantsStandIn t = false by simpa using List.all_eq_true.1 hall t hm)⟩)
    (by kernel_rfl)
#print axioms candleShorts_card_holds
end Go.Proofs.YtdndhpoinffpbaaDoor
