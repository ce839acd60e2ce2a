/- The statement CandleLefts: whatever its arguments, the call returns true, and each argument reads as before. No condition beside the row's own. -/
import Derived.Test.YtdndhpoinffpbaaDoorCandleLeftsL5
set_option linter.all false
namespace Go.Pm.Cd
open Ac
set_option maxRecDepth 100000
set_option linter.unusedSimpArgs false
set_option linter.unusedSectionVars false
set_option linter.unusedVariables false

def dkC (s : List Int) : List C := [.sl .shared 1 (s.map fun x => [ci x])]
def Book.darksF (b : Book) : Nat → List Int → List (List Int)
  | 0, s => [s]
  | j + 1, s => match b.days[s.length]? with
    | some x => (List.range (x.dark.hi - x.dark.lo + 1).toNat).flatMap fun (i : Nat) => b.darksF j (s ++ [x.dark.lo + (i : Int)])
    | none => []
theorem darksF_len {b : Book} (hv : b.sane = true) : ∀ (j : Nat) (s : List Int), (b.darksF j s).length ≤ 3 ^ j
  | 0, s => by simp [Book.darksF]
  | j + 1, s => by
    simp only [Book.darksF]
    cases hx : b.days[s.length]? with
    | none => simp
    | some x =>
      have hxd := (valid_day hv hx).2.1
      refine Nat.le_trans (flatMap_length_le _ (3 ^ j) _ (fun i _ => darksF_len hv j _)) ?_
      rw [List.length_range, Nat.pow_succ, Nat.mul_comm (3 ^ j) 3]
      exact Nat.mul_le_mul_right _ (by omega)
theorem darksF_mem {b : Book} : ∀ (j : Nat) (s t : List Int), s.length + j = b.days.length → (t ∈ b.darksF j s ↔ ∃ u, t = s ++ u ∧ u.length = j ∧ ∀ (d : Nat) (x : Day) (v : Int), b.days[s.length + d]? = some x → u[d]? = some v → x.dark.has v)
  | 0, s, t, h => by
    simp only [Book.darksF, List.mem_singleton]
    constructor
    · rintro rfl; exact ⟨[], by simp, rfl, fun d x v _ hv => by simp at hv⟩
    · rintro ⟨u, rfl, hu, -⟩; rw [List.length_eq_zero_iff.1 hu, List.append_nil]
  | j + 1, s, t, h => by
    obtain ⟨x, hx⟩ : ∃ x, b.days[s.length]? = some x := ⟨_, List.getElem?_eq_getElem (by omega)⟩
    simp only [Book.darksF, hx, List.mem_flatMap, List.mem_range]
    constructor
    · rintro ⟨i, hi, ht⟩
      rw [darksF_mem j _ t (by simp; omega)] at ht
      obtain ⟨u, rfl, hu, hall⟩ := ht
      refine ⟨(x.dark.lo + (i : Int)) :: u, by simp, by simp [hu], ?_⟩
      intro d y v hy hv
      cases d with
      | zero =>
        simp only [Nat.add_zero] at hy
        simp only [List.getElem?_cons_zero, Option.some.injEq] at hv
        rw [hx] at hy; cases hy; subst hv
        exact ⟨by omega, by omega⟩
      | succ d =>
        refine hall d y v ?_ (by simpa using hv)
        rw [List.length_append, List.length_singleton, ← hy]; congr 1; omega
    · rintro ⟨u, rfl, hu, hall⟩
      cases u with
      | nil => simp at hu
      | cons v u =>
        have h0 := hall 0 x v (by simpa using hx) rfl
        have h1 := h0.1; have h2 := h0.2
        refine ⟨(v - x.dark.lo).toNat, by omega, ?_⟩
        have e : x.dark.lo + ((v - x.dark.lo).toNat : Int) = v := by omega
        rw [e, darksF_mem j _ _ (by simp; omega)]
        refine ⟨u, by simp, by simpa using hu, fun d y w hy hw => hall (d + 1) y w ?_ (by simpa using hw)⟩
        rw [List.length_append, List.length_singleton] at hy
        rw [← hy]; congr 1; omega
def dkK (b : Book) (j : Nat) (s : List Int) : SK := if j = 0 then .full else kS (b.darksF j s)

section
variable {Γ : Env} [P06 Γ] [G06 Γ]
theorem rdarks_k (b : Book) [hb : b.Fits] (hv : b.sane = true) : ∀ (j : Nat) (s : List Int) (k : SK), s.length + j = b.days.length → (j = 0 → k = .shared) →
    K Γ (.fn 71) [.agg b.c, .sc (.sl k 1 (s.map fun x => [ci x]))] [] = some (.sc (.sl (dkK b j s) 1 ((b.darksF j s).map dkC)), [])
  | 0, s, k, h, hk => by
    have hvd := valid_days hv
    have d1 : decide ((s.length : Int) = b.days.length) = true := decide_eq_true (by omega)
    have hk' := hk rfl
    subst hk'
    rw [K_fn P06.f71 _ _ rfl]
    (simp only [go_sem, simprocAttr, decaniref06_darks, d1, Book.darksF, dkK, dkC, List.map_cons, List.map_nil]; repeat' (first | ((first | (refine br_yes (by omega) ?_) | (refine br_no (by omega) ?_) | (apply br_all; (· simp only [Bool.and_eq_true, decide_eq_true_eq]; omega)) | (apply br_free; (· simp [go_sem, Pm.acc, Acc.free, refsOf, offOf, keyEq, tagEq, cellsEq, cellEq]; done)) | ((first | apply br_mergeT | apply br_mergeF); (· intro h; simp only [go_sem, simprocAttr, sel_of h, decaniref06_darks, d1, Book.darksF, dkK, dkC, List.map_cons, List.map_nil]; exact rfl))); (try simp only [go_sem, simprocAttr, decaniref06_darks, d1, Book.darksF, dkK, dkC, List.map_cons, List.map_nil])) | ((first | apply onGuard_sel | (apply pickV_split; apply br_split) | apply br_split) <;> intro h <;> (try simp only [go_sem, simprocAttr, h, decaniref06_darks, d1, Book.darksF, dkK, dkC, List.map_cons, List.map_nil]))))
  | j + 1, s, k, h, hk => by
    have hvd := valid_days hv
    have d1 : decide ((s.length : Int) = b.days.length) = false := decide_eq_false (by omega)
    obtain ⟨x, hx⟩ : ∃ x, b.days[s.length]? = some x := ⟨_, List.getElem?_eq_getElem (by omega)⟩
    have hvx := (valid_day hv hx).2.1
    have hj5 : j < 5 := by omega
    have h243 : (3 : Nat) ^ j ≤ 81 := by
      have : j = 0 ∨ j = 1 ∨ j = 2 ∨ j = 3 ∨ j = 4 := by omega
      rcases this with e | e | e | e | e <;> rw [e] <;> decide
    let F : Nat → List (List Int) := fun i => (List.range i).flatMap fun (i : Nat) => b.darksF j (s ++ [x.dark.lo + (i : Int)])
    have hF (i : Nat) : F (i + 1) = F i ++ b.darksF j (s ++ [x.dark.lo + (i : Int)]) := by simp only [F, List.range_succ, List.flatMap_append, List.flatMap_cons, List.flatMap_nil, List.append_nil]
    have hFl (i : Nat) (hi : i ≤ 3) : (F i).length ≤ 243 := by
      refine Nat.le_trans (flatMap_length_le _ (3 ^ j) _ (fun i _ => darksF_len hv j _)) ?_
      rw [List.length_range]
      exact Nat.le_trans (Nat.mul_le_mul hi h243) (by decide)
    have hL {β : Type} (Q : Ex → St → Option β) : E Γ decaniref06_darks_L0 ⟨[(1, .sc (.sl k 1 (s.map fun x => [ci x]))), (2, .sc (.ptr 0 0)), (5, .sc (.sl .nil 1 [])), (6, .sc (.ptr 1 0)), (7, vi x.dark.lo)], [.var b.c, .var [ci x.dark.lo, ci x.dark.hi]]⟩ Q =
        Q (.exit 0) ⟨[(1, .sc (.sl k 1 (s.map fun x => [ci x]))), (2, .sc (.ptr 0 0)), (5, .sc (ownC 1 ((b.darksF (j + 1) s).map dkC))), (6, .sc (.ptr 1 0)), (7, vi (x.dark.hi + 1)), (28, vb false)], [.var b.c, .var [ci x.dark.lo, ci x.dark.hi]]⟩ := by
      have hfin : b.darksF (j + 1) s = F (x.dark.hi - x.dark.lo + 1).toNat := by simp only [Book.darksF, hx, F]
      rw [hfin]
      refine E_countS (x.dark.hi - x.dark.lo + 1).toNat (fun i (_ : Unit) => ⟨[(1, .sc (.sl k 1 (s.map fun x => [ci x]))), (2, .sc (.ptr 0 0)), (5, .sc (ownC 1 ((F i).map dkC))), (6, .sc (.ptr 1 0)), (7, vi (x.dark.lo + (i : Nat)))], [.var b.c, .var [ci x.dark.lo, ci x.dark.hi]]⟩) (fun _ _ => True)
        (fun _ => (.exit 0, ⟨[(1, .sc (.sl k 1 (s.map fun x => [ci x]))), (2, .sc (.ptr 0 0)), (5, .sc (ownC 1 ((F (x.dark.hi - x.dark.lo + 1).toNat).map dkC))), (6, .sc (.ptr 1 0)), (7, vi (x.dark.hi + 1)), (28, vb false)], [.var b.c, .var [ci x.dark.lo, ci x.dark.hi]]⟩)) () ?_ trivial ?_ ?_ ?_
      · simp [F, ownC]
      · intro i _ hi _
        refine ⟨(), trivial, ?_⟩
        have hlt := decide_eq_true (show x.dark.lo + (i : Int) ≤ x.dark.hi by omega)
        have hiw : IntKind.i64.wrap (x.dark.lo + (i : Int) + 1) = x.dark.lo + (i + 1 : Nat) := by rw [wrap_i64 (by omega) (by omega)]; omega
        have hW := With_k (Γ := Γ) k s (x.dark.lo + (i : Int)) (by omega)
        have ih := rdarks_k b hv j (s ++ [x.dark.lo + (i : Int)]) .shared (by simp; omega) (fun _ => rfl)
        have hl1 := hFl i (by omega)
        have hl2 := darksF_len hv j (s ++ [x.dark.lo + (i : Int)])
        have hA := appended_ownC_app 1 ((F i).map dkC) ((b.darksF j (s ++ [x.dark.lo + (i : Int)])).map dkC) (dkK b j (s ++ [x.dark.lo + (i : Int)])) (by simp only [List.length_map, room]; omega)
        rw [hF, List.map_append]
        (simp only [go_sem, simprocAttr, decaniref06_darks_B0, hlt, hiw, hW, ih, hA]; repeat' (first | ((first | (refine br_yes (by omega) ?_) | (refine br_no (by omega) ?_) | (apply br_all; (· simp only [Bool.and_eq_true, decide_eq_true_eq]; omega)) | (apply br_free; (· simp [go_sem, Pm.acc, Acc.free, refsOf, offOf, keyEq, tagEq, cellsEq, cellEq]; done)) | ((first | apply br_mergeT | apply br_mergeF); (· intro h; simp only [go_sem, simprocAttr, sel_of h, decaniref06_darks_B0, hlt, hiw, hW, ih, hA]; exact rfl))); (try simp only [go_sem, simprocAttr, decaniref06_darks_B0, hlt, hiw, hW, ih, hA])) | ((first | apply onGuard_sel | (apply pickV_split; apply br_split) | apply br_split) <;> intro h <;> (try simp only [go_sem, simprocAttr, h, decaniref06_darks_B0, hlt, hiw, hW, ih, hA]))))
      · intro _ _
        have hm : x.dark.lo + ((x.dark.hi - x.dark.lo + 1).toNat : Int) = x.dark.hi + 1 := by omega
        have hlt := decide_eq_false (show ¬ x.dark.hi + 1 ≤ x.dark.hi by omega)
        simp only [hm]
        (simp only [go_sem, simprocAttr, decaniref06_darks_B0, hlt]; repeat' (first | ((first | (refine br_yes (by omega) ?_) | (refine br_no (by omega) ?_) | (apply br_all; (· simp only [Bool.and_eq_true, decide_eq_true_eq]; omega)) | (apply br_free; (· simp [go_sem, Pm.acc, Acc.free, refsOf, offOf, keyEq, tagEq, cellsEq, cellEq]; done)) | ((first | apply br_mergeT | apply br_mergeF); (· intro h; simp only [go_sem, simprocAttr, sel_of h, decaniref06_darks_B0, hlt]; exact rfl))); (try simp only [go_sem, simprocAttr, decaniref06_darks_B0, hlt])) | ((first | apply onGuard_sel | (apply pickV_split; apply br_split) | apply br_split) <;> intro h <;> (try simp only [go_sem, simprocAttr, h, decaniref06_darks_B0, hlt]))))
      · intro _ _
        rfl
    have hkk : dkK b (j + 1) s = kS (b.darksF (j + 1) s) := by simp [dkK]
    rw [hkk]
    rw [K_fn P06.f71 _ _ rfl]
    (simp only [go_sem, simprocAttr, decaniref06_darks, d1, hx, hL, unown_ownC_kS, kS_map]; repeat' (first | ((first | (refine br_yes (by omega) ?_) | (refine br_no (by omega) ?_) | (apply br_all; (· simp only [Bool.and_eq_true, decide_eq_true_eq]; omega)) | (apply br_free; (· simp [go_sem, Pm.acc, Acc.free, refsOf, offOf, keyEq, tagEq, cellsEq, cellEq]; done)) | ((first | apply br_mergeT | apply br_mergeF); (· intro h; simp only [go_sem, simprocAttr, sel_of h, decaniref06_darks, d1, hx, hL, unown_ownC_kS, kS_map]; exact rfl))); (try simp only [go_sem, simprocAttr, decaniref06_darks, d1, hx, hL, unown_ownC_kS, kS_map])) | ((first | apply onGuard_sel | (apply pickV_split; apply br_split) | apply br_split) <;> intro h <;> (try simp only [go_sem, simprocAttr, h, decaniref06_darks, d1, hx, hL, unown_ownC_kS, kS_map]))))

/-! ### The truths of a kind -/
def tOk (b : Book) (k : Int) (dark : List Int) (but n f : Int) : Bool := rightR b k (leftsR b k n f dark b.days.length) but
abbrev RT3 := List Int × Int × Int
def encT (t : RT3) : List C := [.sl .shared 1 (t.1.map fun x => [ci x]), ci t.2.1, ci t.2.2]
def rowN (b : Book) (k : Int) (dark : List Int) (but n : Int) (j : Nat) : List RT3 := ((List.range j).filter fun (i : Nat) => tOk b k dark but n ((b.life k).lo + (i : Int))).map fun (i : Nat) => (dark, n, (b.life k).lo + (i : Int))
def lifeN (b : Book) (k : Int) : Nat := ((b.life k).hi - (b.life k).lo + 1).toNat
def stockN (b : Book) (k : Int) : Nat := ((b.stock k).hi - (b.stock k).lo + 1).toNat
def kindN (b : Book) (k : Int) (dark : List Int) (but : Int) (i : Nat) : List RT3 := (List.range i).flatMap fun (i : Nat) => rowN b k dark but ((b.stock k).lo + (i : Int)) (lifeN b k)
def kindT (b : Book) (k : Int) (dark : List Int) (but : Int) : List RT3 := kindN b k dark but (stockN b k)
theorem rowN_succ (b : Book) (k : Int) (dark : List Int) (but n : Int) (j : Nat) : rowN b k dark but n (j + 1) = if tOk b k dark but n ((b.life k).lo + (j : Int)) then rowN b k dark but n j ++ [(dark, n, (b.life k).lo + (j : Int))] else rowN b k dark but n j := by
  simp only [rowN, List.range_succ, List.filter_append, List.map_append]
  cases h : tOk b k dark but n ((b.life k).lo + (j : Int)) <;> simp [h]
theorem kindN_succ (b : Book) (k : Int) (dark : List Int) (but : Int) (i : Nat) : kindN b k dark but (i + 1) = kindN b k dark but i ++ rowN b k dark but ((b.stock k).lo + (i : Int)) (lifeN b k) := by
  simp only [kindN, List.range_succ, List.flatMap_append, List.flatMap_cons, List.flatMap_nil, List.append_nil]
theorem rowN_len (b : Book) (k : Int) (dark : List Int) (but n : Int) (j : Nat) : (rowN b k dark but n j).length ≤ j := by
  simp only [rowN, List.length_map]
  exact Nat.le_trans (List.length_filter_le _ _) (by simp)
theorem kindN_len (b : Book) (k : Int) (dark : List Int) (but : Int) (i : Nat) : (kindN b k dark but i).length ≤ i * lifeN b k := by
  refine Nat.le_trans (flatMap_length_le _ (lifeN b k) _ (fun i _ => rowN_len ..)) ?_
  rw [List.length_range]; exact Nat.le_refl _
theorem spans_k {b : Book} (hv : b.sane = true) {k : Int} (hk : k = 0 ∨ k = 1) : (0 ≤ (b.stock k).lo ∧ (b.stock k).lo ≤ (b.stock k).hi ∧ (b.stock k).hi ≤ 60 ∧ (b.stock k).hi - (b.stock k).lo ≤ 2) ∧ (1 ≤ (b.life k).lo ∧ (b.life k).lo ≤ (b.life k).hi ∧ (b.life k).hi ≤ 6 ∧ (b.life k).hi - (b.life k).lo ≤ 1) := by
  have := valid_spans hv
  rcases hk with rfl | rfl
  · exact ⟨this.1, this.2.1⟩
  · exact ⟨this.2.2.1, this.2.2.2⟩

theorem rkind_L1 (b : Book) [hb : b.Fits] (hv : b.sane = true) {k : Int} (hk : k = 0 ∨ k = 1) (dark : List Int) (hdl : dark.length = b.days.length) (hdk : DarkOk b dark) (but n : Int) (hn : 0 ≤ n ∧ n ≤ 60) (L : List RT3) (hL : L.length ≤ 100) {β : Type} (Q : Ex → St → Option β) :
    E Γ decaniref06_kind_L1 ⟨[(1, vi k), (2, .sc (.sl .shared 1 (dark.map fun x => [ci x]))), (3, vi but), (4, .sc (.ptr 0 0)), (9, .sc (ownC 3 (L.map encT))), (10, vi n), (11, vi (b.life k).lo)], [.var b.c]⟩ Q =
      Q (.exit 2) ⟨[(1, vi k), (2, .sc (.sl .shared 1 (dark.map fun x => [ci x]))), (3, vi but), (4, .sc (.ptr 0 0)), (9, .sc (ownC 3 ((L ++ rowN b k dark but n (lifeN b k)).map encT))), (10, vi n), (11, vi ((b.life k).hi + 1)), (38, vb false)], [.var b.c]⟩ := by
  have hsp := spans_k hv hk
  have hvd := valid_days hv
  refine E_countS (lifeN b k) (fun i (_ : Unit) => ⟨[(1, vi k), (2, .sc (.sl .shared 1 (dark.map fun x => [ci x]))), (3, vi but), (4, .sc (.ptr 0 0)), (9, .sc (ownC 3 ((L ++ rowN b k dark but n i).map encT))), (10, vi n), (11, vi ((b.life k).lo + (i : Nat)))], [.var b.c]⟩) (fun _ _ => True)
    (fun _ => (.exit 2, ⟨[(1, vi k), (2, .sc (.sl .shared 1 (dark.map fun x => [ci x]))), (3, vi but), (4, .sc (.ptr 0 0)), (9, .sc (ownC 3 ((L ++ rowN b k dark but n (lifeN b k)).map encT))), (10, vi n), (11, vi ((b.life k).hi + 1)), (38, vb false)], [.var b.c]⟩)) () ?_ trivial ?_ ?_ ?_
  · simp [rowN]
  · intro i _ hi _
    refine ⟨(), trivial, ?_⟩
    simp only [lifeN] at hi
    have hlt := decide_eq_true (show (b.life k).lo + (i : Int) ≤ (b.life k).hi by omega)
    have hiw : IntKind.i64.wrap ((b.life k).lo + (i : Int) + 1) = (b.life k).lo + (i + 1 : Nat) := by rw [wrap_i64 (by omega) (by omega)]; omega
    have hlf := rlefts_k (Γ := Γ) b hv k ((b.life k).lo + (i : Int)) n .shared dark hdl hdk hk hn (by omega)
    have hd6 := darkOk_6 hv hdk (by omega)
    have hrt := rright_k (Γ := Γ) b hv k (kF (leftsR b k n ((b.life k).lo + (i : Int)) dark b.days.length)) (leftsR b k n ((b.life k).lo + (i : Int)) dark b.days.length) (leftsR_len ..) (fun v hv' => by
      simp only [leftsR, List.mem_map, List.mem_range] at hv'
      obtain ⟨d, hd, rfl⟩ := hv'
      have := runK_bound hv (dk := dkOf dark) hk hn (show 1 ≤ (b.life k).lo + (i : Int) ∧ (b.life k).lo + (i : Int) ≤ 6 by omega) hd6 (d + 1)
      omega) but
    have hrl := rowN_len b k dark but n i
    have hA := appended_ownC 3 ((L ++ rowN b k dark but n i).map encT) .full (encT (dark, n, (b.life k).lo + (i : Int))) (by simp only [List.length_map, List.length_append, room]; omega)
    rw [rowN_succ]
    obtain ⟨v, hvv⟩ : ∃ v, tOk b k dark but n ((b.life k).lo + (i : Int)) = v := ⟨_, rfl⟩
    have hrt2 := hvv
    simp only [tOk] at hrt2
    rw [hrt2] at hrt
    rw [hvv]
    cases v with
    | true =>
      rw [if_pos rfl, ← List.append_assoc, List.map_append (l₁ := L ++ rowN b k dark but n i), List.map_cons, List.map_nil]
      simp only [encT] at hA ⊢
      rcases hk with rfl | rfl
      · simp only [Book.life, reduceIte] at hlt hiw hlf hrt hA ⊢
        (simp only [go_sem, simprocAttr, decaniref06_kind_B1, hlt, hiw, hlf, hrt, hA]; repeat' (first | ((first | (refine br_yes (by omega) ?_) | (refine br_no (by omega) ?_) | (apply br_all; (· simp only [Bool.and_eq_true, decide_eq_true_eq]; omega)) | (apply br_free; (· simp [go_sem, Pm.acc, Acc.free, refsOf, offOf, keyEq, tagEq, cellsEq, cellEq]; done)) | ((first | apply br_mergeT | apply br_mergeF); (· intro h; simp only [go_sem, simprocAttr, sel_of h, decaniref06_kind_B1, hlt, hiw, hlf, hrt, hA]; exact rfl))); (try simp only [go_sem, simprocAttr, decaniref06_kind_B1, hlt, hiw, hlf, hrt, hA])) | ((first | apply onGuard_sel | (apply pickV_split; apply br_split) | apply br_split) <;> intro h <;> (try simp only [go_sem, simprocAttr, h, decaniref06_kind_B1, hlt, hiw, hlf, hrt, hA]))))
      · simp only [Book.life, reduceIte, Int.reduceEq] at hlt hiw hlf hrt hA ⊢
        (simp only [go_sem, simprocAttr, decaniref06_kind_B1, hlt, hiw, hlf, hrt, hA]; repeat' (first | ((first | (refine br_yes (by omega) ?_) | (refine br_no (by omega) ?_) | (apply br_all; (· simp only [Bool.and_eq_true, decide_eq_true_eq]; omega)) | (apply br_free; (· simp [go_sem, Pm.acc, Acc.free, refsOf, offOf, keyEq, tagEq, cellsEq, cellEq]; done)) | ((first | apply br_mergeT | apply br_mergeF); (· intro h; simp only [go_sem, simprocAttr, sel_of h, decaniref06_kind_B1, hlt, hiw, hlf, hrt, hA]; exact rfl))); (try simp only [go_sem, simprocAttr, decaniref06_kind_B1, hlt, hiw, hlf, hrt, hA])) | ((first | apply onGuard_sel | (apply pickV_split; apply br_split) | apply br_split) <;> intro h <;> (try simp only [go_sem, simprocAttr, h, decaniref06_kind_B1, hlt, hiw, hlf, hrt, hA]))))
    | false =>
      rw [if_neg (by decide)]
      rcases hk with rfl | rfl
      · simp only [Book.life, reduceIte] at hlt hiw hlf hrt ⊢
        (simp only [go_sem, simprocAttr, decaniref06_kind_B1, hlt, hiw, hlf, hrt]; repeat' (first | ((first | (refine br_yes (by omega) ?_) | (refine br_no (by omega) ?_) | (apply br_all; (· simp only [Bool.and_eq_true, decide_eq_true_eq]; omega)) | (apply br_free; (· simp [go_sem, Pm.acc, Acc.free, refsOf, offOf, keyEq, tagEq, cellsEq, cellEq]; done)) | ((first | apply br_mergeT | apply br_mergeF); (· intro h; simp only [go_sem, simprocAttr, sel_of h, decaniref06_kind_B1, hlt, hiw, hlf, hrt]; exact rfl))); (try simp only [go_sem, simprocAttr, decaniref06_kind_B1, hlt, hiw, hlf, hrt])) | ((first | apply onGuard_sel | (apply pickV_split; apply br_split) | apply br_split) <;> intro h <;> (try simp only [go_sem, simprocAttr, h, decaniref06_kind_B1, hlt, hiw, hlf, hrt]))))
      · simp only [Book.life, reduceIte, Int.reduceEq] at hlt hiw hlf hrt ⊢
        (simp only [go_sem, simprocAttr, decaniref06_kind_B1, hlt, hiw, hlf, hrt]; repeat' (first | ((first | (refine br_yes (by omega) ?_) | (refine br_no (by omega) ?_) | (apply br_all; (· simp only [Bool.and_eq_true, decide_eq_true_eq]; omega)) | (apply br_free; (· simp [go_sem, Pm.acc, Acc.free, refsOf, offOf, keyEq, tagEq, cellsEq, cellEq]; done)) | ((first | apply br_mergeT | apply br_mergeF); (· intro h; simp only [go_sem, simprocAttr, sel_of h, decaniref06_kind_B1, hlt, hiw, hlf, hrt]; exact rfl))); (try simp only [go_sem, simprocAttr, decaniref06_kind_B1, hlt, hiw, hlf, hrt])) | ((first | apply onGuard_sel | (apply pickV_split; apply br_split) | apply br_split) <;> intro h <;> (try simp only [go_sem, simprocAttr, h, decaniref06_kind_B1, hlt, hiw, hlf, hrt]))))
  · intro _ _
    have hm : (b.life k).lo + ((lifeN b k : Nat) : Int) = (b.life k).hi + 1 := by simp only [lifeN]; omega
    have hlt := decide_eq_false (show ¬ (b.life k).hi + 1 ≤ (b.life k).hi by omega)
    simp only [hm]
    rcases hk with rfl | rfl
    · simp only [Book.life, reduceIte] at hlt ⊢
      (simp only [go_sem, simprocAttr, decaniref06_kind_B1, hlt]; repeat' (first | ((first | (refine br_yes (by omega) ?_) | (refine br_no (by omega) ?_) | (apply br_all; (· simp only [Bool.and_eq_true, decide_eq_true_eq]; omega)) | (apply br_free; (· simp [go_sem, Pm.acc, Acc.free, refsOf, offOf, keyEq, tagEq, cellsEq, cellEq]; done)) | ((first | apply br_mergeT | apply br_mergeF); (· intro h; simp only [go_sem, simprocAttr, sel_of h, decaniref06_kind_B1, hlt]; exact rfl))); (try simp only [go_sem, simprocAttr, decaniref06_kind_B1, hlt])) | ((first | apply onGuard_sel | (apply pickV_split; apply br_split) | apply br_split) <;> intro h <;> (try simp only [go_sem, simprocAttr, h, decaniref06_kind_B1, hlt]))))
    · simp only [Book.life, reduceIte, Int.reduceEq] at hlt ⊢
      (simp only [go_sem, simprocAttr, decaniref06_kind_B1, hlt]; repeat' (first | ((first | (refine br_yes (by omega) ?_) | (refine br_no (by omega) ?_) | (apply br_all; (· simp only [Bool.and_eq_true, decide_eq_true_eq]; omega)) | (apply br_free; (· simp [go_sem, Pm.acc, Acc.free, refsOf, offOf, keyEq, tagEq, cellsEq, cellEq]; done)) | ((first | apply br_mergeT | apply br_mergeF); (· intro h; simp only [go_sem, simprocAttr, sel_of h, decaniref06_kind_B1, hlt]; exact rfl))); (try simp only [go_sem, simprocAttr, decaniref06_kind_B1, hlt])) | ((first | apply onGuard_sel | (apply pickV_split; apply br_split) | apply br_split) <;> intro h <;> (try simp only [go_sem, simprocAttr, h, decaniref06_kind_B1, hlt]))))
  · intro _ _
    rfl

theorem rkind_L0 (b : Book) [hb : b.Fits] (hv : b.sane = true) {k : Int} (hk : k = 0 ∨ k = 1) (dark : List Int) (hdl : dark.length = b.days.length) (hdk : DarkOk b dark) (but : Int) {β : Type} (Q : Ex → St → Option β) :
    E Γ decaniref06_kind_L0 ⟨[(1, vi k), (2, .sc (.sl .shared 1 (dark.map fun x => [ci x]))), (3, vi but), (4, .sc (.ptr 0 0)), (9, .sc (.sl .nil 3 [])), (10, vi (b.stock k).lo)], [.var b.c]⟩ Q =
      Q (.exit 0) ⟨[(1, vi k), (2, .sc (.sl .shared 1 (dark.map fun x => [ci x]))), (3, vi but), (4, .sc (.ptr 0 0)), (9, .sc (ownC 3 ((kindT b k dark but).map encT))), (10, vi ((b.stock k).hi + 1)), (24, vb false)], [.var b.c]⟩ := by
  have hsp := spans_k hv hk
  have hvd := valid_days hv
  refine E_countS (stockN b k) (fun i (_ : Unit) => ⟨[(1, vi k), (2, .sc (.sl .shared 1 (dark.map fun x => [ci x]))), (3, vi but), (4, .sc (.ptr 0 0)), (9, .sc (ownC 3 ((kindN b k dark but i).map encT))), (10, vi ((b.stock k).lo + (i : Nat)))], [.var b.c]⟩) (fun _ _ => True)
    (fun _ => (.exit 0, ⟨[(1, vi k), (2, .sc (.sl .shared 1 (dark.map fun x => [ci x]))), (3, vi but), (4, .sc (.ptr 0 0)), (9, .sc (ownC 3 ((kindT b k dark but).map encT))), (10, vi ((b.stock k).hi + 1)), (24, vb false)], [.var b.c]⟩)) () ?_ trivial ?_ ?_ ?_
  · simp [kindN, ownC]
  · intro i _ hi _
    refine ⟨(), trivial, ?_⟩
    simp only [stockN] at hi
    have hlt := decide_eq_true (show (b.stock k).lo + (i : Int) ≤ (b.stock k).hi by omega)
    have hiw : IntKind.i64.wrap ((b.stock k).lo + (i : Int) + 1) = (b.stock k).lo + (i + 1 : Nat) := by rw [wrap_i64 (by omega) (by omega)]; omega
    have hkl := kindN_len b k dark but i
    have hl2 : lifeN b k ≤ 2 := by simp only [lifeN]; omega
    have hkl2 : (kindN b k dark but i).length ≤ 100 := by
      have : i * lifeN b k ≤ 3 * 2 := Nat.mul_le_mul (by omega) hl2
      omega
    have hL1 {β : Type} (Q : Ex → St → Option β) := rkind_L1 (Γ := Γ) b hv hk dark hdl hdk but ((b.stock k).lo + (i : Int)) (by omega) (kindN b k dark but i) hkl2 Q
    rw [kindN_succ]
    rcases hk with rfl | rfl
    · simp only [Book.stock, Book.life, reduceIte] at hlt hiw hL1 ⊢
      (simp only [go_sem, simprocAttr, decaniref06_kind_B0, hlt, hiw, hL1]; repeat' (first | ((first | (refine br_yes (by omega) ?_) | (refine br_no (by omega) ?_) | (apply br_all; (· simp only [Bool.and_eq_true, decide_eq_true_eq]; omega)) | (apply br_free; (· simp [go_sem, Pm.acc, Acc.free, refsOf, offOf, keyEq, tagEq, cellsEq, cellEq]; done)) | ((first | apply br_mergeT | apply br_mergeF); (· intro h; simp only [go_sem, simprocAttr, sel_of h, decaniref06_kind_B0, hlt, hiw, hL1]; exact rfl))); (try simp only [go_sem, simprocAttr, decaniref06_kind_B0, hlt, hiw, hL1])) | ((first | apply onGuard_sel | (apply pickV_split; apply br_split) | apply br_split) <;> intro h <;> (try simp only [go_sem, simprocAttr, h, decaniref06_kind_B0, hlt, hiw, hL1]))))
    · simp only [Book.stock, Book.life, reduceIte, Int.reduceEq] at hlt hiw hL1 ⊢
      (simp only [go_sem, simprocAttr, decaniref06_kind_B0, hlt, hiw, hL1]; repeat' (first | ((first | (refine br_yes (by omega) ?_) | (refine br_no (by omega) ?_) | (apply br_all; (· simp only [Bool.and_eq_true, decide_eq_true_eq]; omega)) | (apply br_free; (· simp [go_sem, Pm.acc, Acc.free, refsOf, offOf, keyEq, tagEq, cellsEq, cellEq]; done)) | ((first | apply br_mergeT | apply br_mergeF); (· intro h; simp only [go_sem, simprocAttr, sel_of h, decaniref06_kind_B0, hlt, hiw, hL1]; exact rfl))); (try simp only [go_sem, simprocAttr, decaniref06_kind_B0, hlt, hiw, hL1])) | ((first | apply onGuard_sel | (apply pickV_split; apply br_split) | apply br_split) <;> intro h <;> (try simp only [go_sem, simprocAttr, h, decaniref06_kind_B0, hlt, hiw, hL1]))))
  · intro _ _
    have hm : (b.stock k).lo + ((stockN b k : Nat) : Int) = (b.stock k).hi + 1 := by simp only [stockN]; omega
    have hlt := decide_eq_false (show ¬ (b.stock k).hi + 1 ≤ (b.stock k).hi by omega)
    simp only [hm, kindT]
    rcases hk with rfl | rfl
    · simp only [Book.stock, reduceIte] at hlt ⊢
      (simp only [go_sem, simprocAttr, decaniref06_kind_B0, hlt]; repeat' (first | ((first | (refine br_yes (by omega) ?_) | (refine br_no (by omega) ?_) | (apply br_all; (· simp only [Bool.and_eq_true, decide_eq_true_eq]; omega)) | (apply br_free; (· simp [go_sem, Pm.acc, Acc.free, refsOf, offOf, keyEq, tagEq, cellsEq, cellEq]; done)) | ((first | apply br_mergeT | apply br_mergeF); (· intro h; simp only [go_sem, simprocAttr, sel_of h, decaniref06_kind_B0, hlt]; exact rfl))); (try simp only [go_sem, simprocAttr, decaniref06_kind_B0, hlt])) | ((first | apply onGuard_sel | (apply pickV_split; apply br_split) | apply br_split) <;> intro h <;> (try simp only [go_sem, simprocAttr, h, decaniref06_kind_B0, hlt]))))
    · simp only [Book.stock, reduceIte, Int.reduceEq] at hlt ⊢
      (simp only [go_sem, simprocAttr, decaniref06_kind_B0, hlt]; repeat' (first | ((first | (refine br_yes (by omega) ?_) | (refine br_no (by omega) ?_) | (apply br_all; (· simp only [Bool.and_eq_true, decide_eq_true_eq]; omega)) | (apply br_free; (· simp [go_sem, Pm.acc, Acc.free, refsOf, offOf, keyEq, tagEq, cellsEq, cellEq]; done)) | ((first | apply br_mergeT | apply br_mergeF); (· intro h; simp only [go_sem, simprocAttr, sel_of h, decaniref06_kind_B0, hlt]; exact rfl))); (try simp only [go_sem, simprocAttr, decaniref06_kind_B0, hlt])) | ((first | apply onGuard_sel | (apply pickV_split; apply br_split) | apply br_split) <;> intro h <;> (try simp only [go_sem, simprocAttr, h, decaniref06_kind_B0, hlt]))))
  · intro _ _
    rfl

theorem rkind_k (b : Book) [hb : b.Fits] (hv : b.sane = true) {k : Int} (hk : k = 0 ∨ k = 1) (dark : List Int) (hdl : dark.length = b.days.length) (hdk : DarkOk b dark) (but : Int) :
    K Γ (.fn 72) [.agg b.c, vi k, .sc (.sl .shared 1 (dark.map fun x => [ci x])), vi but] [] = some (.sc (.sl (kS (kindT b k dark but)) 3 ((kindT b k dark but).map encT)), []) := by
  have hL {β : Type} (Q : Ex → St → Option β) := rkind_L0 (Γ := Γ) b hv hk dark hdl hdk but Q
  rw [K_fn P06.f72 _ _ rfl]
  rcases hk with rfl | rfl
  · simp only [Book.stock, reduceIte] at hL
    (simp only [go_sem, simprocAttr, decaniref06_kind, hL, unown_ownC_kS, kS_map]; repeat' (first | ((first | (refine br_yes (by omega) ?_) | (refine br_no (by omega) ?_) | (apply br_all; (· simp only [Bool.and_eq_true, decide_eq_true_eq]; omega)) | (apply br_free; (· simp [go_sem, Pm.acc, Acc.free, refsOf, offOf, keyEq, tagEq, cellsEq, cellEq]; done)) | ((first | apply br_mergeT | apply br_mergeF); (· intro h; simp only [go_sem, simprocAttr, sel_of h, decaniref06_kind, hL, unown_ownC_kS, kS_map]; exact rfl))); (try simp only [go_sem, simprocAttr, decaniref06_kind, hL, unown_ownC_kS, kS_map])) | ((first | apply onGuard_sel | (apply pickV_split; apply br_split) | apply br_split) <;> intro h <;> (try simp only [go_sem, simprocAttr, h, decaniref06_kind, hL, unown_ownC_kS, kS_map]))))
  · simp only [Book.stock, reduceIte, Int.reduceEq] at hL
    (simp only [go_sem, simprocAttr, decaniref06_kind, hL, unown_ownC_kS, kS_map]; repeat' (first | ((first | (refine br_yes (by omega) ?_) | (refine br_no (by omega) ?_) | (apply br_all; (· simp only [Bool.and_eq_true, decide_eq_true_eq]; omega)) | (apply br_free; (· simp [go_sem, Pm.acc, Acc.free, refsOf, offOf, keyEq, tagEq, cellsEq, cellEq]; done)) | ((first | apply br_mergeT | apply br_mergeF); (· intro h; simp only [go_sem, simprocAttr, sel_of h, decaniref06_kind, hL, unown_ownC_kS, kS_map]; exact rfl))); (try simp only [go_sem, simprocAttr, decaniref06_kind, hL, unown_ownC_kS, kS_map])) | ((first | apply onGuard_sel | (apply pickV_split; apply br_split) | apply br_split) <;> intro h <;> (try simp only [go_sem, simprocAttr, h, decaniref06_kind, hL, unown_ownC_kS, kS_map]))))

def bothB (b : Book) (but : Int) (d : List Int) : Bool := !(kindT b 0 d but).isEmpty && !(kindT b 1 d but).isEmpty
def allT (b : Book) (k but : Int) (ds : List (List Int)) : List RT3 := ds.flatMap fun d => if bothB b but d then kindT b k d but else []
theorem allT_snoc (b : Book) (k but : Int) (ds : List (List Int)) (d : List Int) : allT b k but (ds ++ [d]) = allT b k but ds ++ if bothB b but d then kindT b k d but else [] := by
  simp only [allT, List.flatMap_append, List.flatMap_cons, List.flatMap_nil, List.append_nil]
theorem kindT_len {b : Book} (hv : b.sane = true) {k : Int} (hk : k = 0 ∨ k = 1) (dark : List Int) (but : Int) : (kindT b k dark but).length ≤ 6 := by
  have hsp := spans_k hv hk
  refine Nat.le_trans (kindN_len ..) ?_
  exact Nat.le_trans (Nat.mul_le_mul (show stockN b k ≤ 3 by simp only [stockN]; omega) (show lifeN b k ≤ 2 by simp only [lifeN]; omega)) (by decide)
theorem allT_len {b : Book} (hv : b.sane = true) {k : Int} (hk : k = 0 ∨ k = 1) (but : Int) (ds : List (List Int)) : (allT b k but ds).length ≤ ds.length * 6 := by
  refine flatMap_length_le _ 6 _ (fun d _ => ?_)
  split
  · exact kindT_len hv hk d but
  · simp
def Book.darks (b : Book) : List (List Int) := b.darksF b.days.length []
theorem darks_ok {b : Book} {d : List Int} (h : d ∈ b.darks) : d.length = b.days.length ∧ DarkOk b d := by
  unfold Book.darks at h
  rw [darksF_mem _ _ _ (by simp)] at h
  obtain ⟨u, rfl, hu, hall⟩ := h
  refine ⟨by simpa using hu, fun i x v hx hv => hall i x v (by simpa using hx) (by simpa using hv)⟩

theorem rtruths_L0 (b : Book) [hb : b.Fits] (hv : b.sane = true) (but : Int) (z : Obj) (hz : z.under 3 = true) (kd : SK) {β : Type} (Q : Ex → St → Option β) :
    E Γ decaniref06_truths_L0 ⟨[(1, vi but), (2, .sc (.ptr 0 0)), (4, .sc (.ptr 1 0)), (5, .sc (.ptr 2 0)), (6, .sc (.sl kd 1 (b.darks.map dkC))), (7, vi 0)], [.var b.c, z, .var [.sl .nil 3 [], .sl .nil 3 []]]⟩ Q =
      Q (.exit 0) ⟨[(1, vi but), (2, .sc (.ptr 0 0)), (4, .sc (.ptr 1 0)), (5, .sc (.ptr 2 0)), (6, .sc (.sl kd 1 (b.darks.map dkC))), (7, vi b.darks.length), (15, vb false)], [.var b.c, z, .var [ownC 3 ((allT b 0 but b.darks).map encT), ownC 3 ((allT b 1 but b.darks).map encT)]]⟩ := by
  have hdl : b.darks.length ≤ 243 := by
    have := darksF_len hv b.days.length []
    have hvd := valid_days hv
    refine Nat.le_trans this ?_
    exact Nat.le_trans (Nat.pow_le_pow_right (by decide) hvd.2.1) (by decide)
  refine E_countS b.darks.length (fun i (_ : Unit) => ⟨[(1, vi but), (2, .sc (.ptr 0 0)), (4, .sc (.ptr 1 0)), (5, .sc (.ptr 2 0)), (6, .sc (.sl kd 1 (b.darks.map dkC))), (7, vi i)], [.var b.c, z, .var [ownC 3 ((allT b 0 but (b.darks.take i)).map encT), ownC 3 ((allT b 1 but (b.darks.take i)).map encT)]]⟩) (fun _ _ => True)
    (fun _ => (.exit 0, ⟨[(1, vi but), (2, .sc (.ptr 0 0)), (4, .sc (.ptr 1 0)), (5, .sc (.ptr 2 0)), (6, .sc (.sl kd 1 (b.darks.map dkC))), (7, vi b.darks.length), (15, vb false)], [.var b.c, z, .var [ownC 3 ((allT b 0 but b.darks).map encT), ownC 3 ((allT b 1 but b.darks).map encT)]]⟩)) () rfl trivial ?_ ?_ ?_
  · intro i _ hi _
    refine ⟨(), trivial, ?_⟩
    obtain ⟨d, hd⟩ : ∃ d, b.darks[i]? = some d := ⟨_, List.getElem?_eq_getElem hi⟩
    obtain ⟨d1, d2⟩ := darks_ok (List.mem_of_getElem? hd)
    have hlt := decide_eq_true (show (i : Int) < b.darks.length by omega)
    have hiw : IntKind.i64.wrap ((i : Int) + 1) = i + 1 := wrap_i64 (by omega) (by omega)
    have hk0 := rkind_k (Γ := Γ) b hv (.inl rfl) d d1 d2 but
    have hk1 := rkind_k (Γ := Γ) b hv (.inr rfl) d d1 d2 but
    have ht : b.darks.take (i + 1) = b.darks.take i ++ [d] := by rw [List.take_succ, hd]; rfl
    have l0 := allT_len hv (.inl rfl) but (b.darks.take i)
    have l1 := allT_len hv (.inr rfl) but (b.darks.take i)
    have l2 := kindT_len hv (.inl rfl) d but
    have l3 := kindT_len hv (.inr rfl) d but
    have lt : (b.darks.take i).length ≤ 243 := by rw [List.length_take]; omega
    have hA0 := appended_ownC_app 3 ((allT b 0 but (b.darks.take i)).map encT) ((kindT b 0 d but).map encT) (kS (kindT b 0 d but)) (by simp only [List.length_map, room]; omega)
    have hA1 := appended_ownC_app 3 ((allT b 1 but (b.darks.take i)).map encT) ((kindT b 1 d but).map encT) (kS (kindT b 1 d but)) (by simp only [List.length_map, room]; omega)
    have hdc : dkC d = [.sl .shared 1 (d.map fun x => [ci x])] := rfl
    rw [ht, allT_snoc, allT_snoc]
    have e0 : decide ((0 : Int) < ((kindT b 0 d but).length : Int)) = !(kindT b 0 d but).isEmpty := by
      cases kindT b 0 d but with
      | nil => rfl
      | cons x l => simp
    have e1 : decide ((0 : Int) < ((kindT b 1 d but).length : Int)) = !(kindT b 1 d but).isEmpty := by
      cases kindT b 1 d but with
      | nil => rfl
      | cons x l => simp
    cases h0 : (kindT b 0 d but).isEmpty with
    | true =>
      have hb0 : bothB b but d = false := by simp [bothB, h0]
      rw [h0] at e0
      rw [hb0]
      simp only [Bool.false_eq_true, if_false, List.append_nil]
      (simp only [go_sem, simprocAttr, decaniref06_truths_B0, hd, hdc, hlt, hiw, hk0, hk1, e0, hz]; repeat' (first | ((first | (refine br_yes (by omega) ?_) | (refine br_no (by omega) ?_) | (apply br_all; (· simp only [Bool.and_eq_true, decide_eq_true_eq]; omega)) | (apply br_free; (· simp [go_sem, Pm.acc, Acc.free, refsOf, offOf, keyEq, tagEq, cellsEq, cellEq]; done)) | ((first | apply br_mergeT | apply br_mergeF); (· intro h; simp only [go_sem, simprocAttr, sel_of h, decaniref06_truths_B0, hd, hdc, hlt, hiw, hk0, hk1, e0, hz]; exact rfl))); (try simp only [go_sem, simprocAttr, decaniref06_truths_B0, hd, hdc, hlt, hiw, hk0, hk1, e0, hz])) | ((first | apply onGuard_sel | (apply pickV_split; apply br_split) | apply br_split) <;> intro h <;> (try simp only [go_sem, simprocAttr, h, decaniref06_truths_B0, hd, hdc, hlt, hiw, hk0, hk1, e0, hz]))))
      all_goals rfl
    | false =>
      rw [h0] at e0
      cases h1 : (kindT b 1 d but).isEmpty with
      | true =>
        have hb0 : bothB b but d = false := by simp [bothB, h1]
        rw [h1] at e1
        rw [hb0]
        simp only [Bool.false_eq_true, if_false, List.append_nil]
        (simp only [go_sem, simprocAttr, decaniref06_truths_B0, hd, hdc, hlt, hiw, hk0, hk1, e0, e1, hz]; repeat' (first | ((first | (refine br_yes (by omega) ?_) | (refine br_no (by omega) ?_) | (apply br_all; (· simp only [Bool.and_eq_true, decide_eq_true_eq]; omega)) | (apply br_free; (· simp [go_sem, Pm.acc, Acc.free, refsOf, offOf, keyEq, tagEq, cellsEq, cellEq]; done)) | ((first | apply br_mergeT | apply br_mergeF); (· intro h; simp only [go_sem, simprocAttr, sel_of h, decaniref06_truths_B0, hd, hdc, hlt, hiw, hk0, hk1, e0, e1, hz]; exact rfl))); (try simp only [go_sem, simprocAttr, decaniref06_truths_B0, hd, hdc, hlt, hiw, hk0, hk1, e0, e1, hz])) | ((first | apply onGuard_sel | (apply pickV_split; apply br_split) | apply br_split) <;> intro h <;> (try simp only [go_sem, simprocAttr, h, decaniref06_truths_B0, hd, hdc, hlt, hiw, hk0, hk1, e0, e1, hz]))))
        rfl
      | false =>
        have hb0 : bothB b but d = true := by simp [bothB, h0, h1]
        rw [h1] at e1
        rw [hb0]
        simp only [if_true, List.map_append]
        (simp only [go_sem, simprocAttr, decaniref06_truths_B0, hd, hdc, hlt, hiw, hk0, hk1, e0, e1, hA0, hA1, hz]; repeat' (first | ((first | (refine br_yes (by omega) ?_) | (refine br_no (by omega) ?_) | (apply br_all; (· simp only [Bool.and_eq_true, decide_eq_true_eq]; omega)) | (apply br_free; (· simp [go_sem, Pm.acc, Acc.free, refsOf, offOf, keyEq, tagEq, cellsEq, cellEq]; done)) | ((first | apply br_mergeT | apply br_mergeF); (· intro h; simp only [go_sem, simprocAttr, sel_of h, decaniref06_truths_B0, hd, hdc, hlt, hiw, hk0, hk1, e0, e1, hA0, hA1, hz]; exact rfl))); (try simp only [go_sem, simprocAttr, decaniref06_truths_B0, hd, hdc, hlt, hiw, hk0, hk1, e0, e1, hA0, hA1, hz])) | ((first | apply onGuard_sel | (apply pickV_split; apply br_split) | apply br_split) <;> intro h <;> (try simp only [go_sem, simprocAttr, h, decaniref06_truths_B0, hd, hdc, hlt, hiw, hk0, hk1, e0, e1, hA0, hA1, hz]))))
        rfl
  · intro _ _
    have hlt := decide_eq_false (show ¬ (b.darks.length : Int) < b.darks.length by omega)
    rw [List.take_length]
    (simp only [go_sem, simprocAttr, decaniref06_truths_B0, hlt]; repeat' (first | ((first | (refine br_yes (by omega) ?_) | (refine br_no (by omega) ?_) | (apply br_all; (· simp only [Bool.and_eq_true, decide_eq_true_eq]; omega)) | (apply br_free; (· simp [go_sem, Pm.acc, Acc.free, refsOf, offOf, keyEq, tagEq, cellsEq, cellEq]; done)) | ((first | apply br_mergeT | apply br_mergeF); (· intro h; simp only [go_sem, simprocAttr, sel_of h, decaniref06_truths_B0, hlt]; exact rfl))); (try simp only [go_sem, simprocAttr, decaniref06_truths_B0, hlt])) | ((first | apply onGuard_sel | (apply pickV_split; apply br_split) | apply br_split) <;> intro h <;> (try simp only [go_sem, simprocAttr, h, decaniref06_truths_B0, hlt]))))
  · intro _ _
    rfl
def Book.rT (b : Book) (but k : Int) : List RT3 := allT b k but b.darks
theorem rtruths_k (b : Book) [hb : b.Fits] (hv : b.sane = true) (but : Int) :
    K Γ (.fn 43) [.agg b.c, vi but] [] = some (.agg [.sl (kS (b.rT but 0)) 3 ((b.rT but 0).map encT), .sl (kS (b.rT but 1)) 3 ((b.rT but 1).map encT)], []) := by
  have hD := rdarks_k (Γ := Γ) b hv b.days.length [] .nil (by simp) (fun h => by have := valid_days hv; omega)
  simp only [List.map_nil] at hD
  have hL {β : Type} (z : Obj) (hz : z.under 3 = true) (kd : SK) (Q : Ex → St → Option β) := rtruths_L0 (Γ := Γ) b hv but z hz kd Q
  simp only [Book.darks] at hL
  rw [K_fn P06.f43 _ _ rfl]
  (simp only [go_sem, simprocAttr, decaniref06_truths, hD, hL, unown_ownC_kS, kS_map, Book.rT, Book.darks]; repeat' (first | ((first | (refine br_yes (by omega) ?_) | (refine br_no (by omega) ?_) | (apply br_all; (· simp only [Bool.and_eq_true, decide_eq_true_eq]; omega)) | (apply br_free; (· simp [go_sem, Pm.acc, Acc.free, refsOf, offOf, keyEq, tagEq, cellsEq, cellEq]; done)) | ((first | apply br_mergeT | apply br_mergeF); (· intro h; simp only [go_sem, simprocAttr, sel_of h, decaniref06_truths, hD, hL, unown_ownC_kS, kS_map, Book.rT, Book.darks]; exact rfl))); (try simp only [go_sem, simprocAttr, decaniref06_truths, hD, hL, unown_ownC_kS, kS_map, Book.rT, Book.darks])) | ((first | apply onGuard_sel | (apply pickV_split; apply br_split) | apply br_split) <;> intro h <;> (try simp only [go_sem, simprocAttr, h, decaniref06_truths, hD, hL, unown_ownC_kS, kS_map, Book.rT, Book.darks]))))
end
end Go.Pm.Cd

namespace Go.Pm.Cd
open Ac
set_option maxRecDepth 100000
set_option linter.unusedSimpArgs false
set_option linter.unusedSectionVars false
set_option linter.unusedVariables false

def exc (b : Book) (but : Int) : List Int := bitsN but b.counts.length
theorem exc_contains (b : Book) (but : Int) {i : Nat} (hi : i < b.counts.length) : (exc b but).contains (i : Int) = hasBit but i := by
  cases h : hasBit but (i : Int) with
  | true =>
    rw [List.contains_iff_mem]
    simp only [exc, bitsN, List.mem_map, List.mem_filter, List.mem_range]
    exact ⟨i, ⟨hi, h⟩, rfl⟩
  | false =>
    rw [Bool.eq_false_iff]
    intro hc
    rw [List.contains_iff_mem] at hc
    simp only [exc, bitsN, List.mem_map, List.mem_filter, List.mem_range] at hc
    obtain ⟨j, ⟨-, hj⟩, e⟩ := hc
    have : j = i := by omega
    subst this
    rw [h] at hj; cases hj
theorem rightR_iff (b : Book) (k : Int) (l : List Int) (but : Int) : rightR b k l but = true ↔ ∀ (i : Nat) (x : Count), b.counts[i]? = some x → x.kind = k → hasBit but i = false → within (x.left - l.getD x.day.toNat 0) (-x.err) x.err = true := by
  simp only [rightR, Option.isNone_iff_eq_none]
  rw [findFrom_none]
  constructor
  · intro h i x hx hk hb
    have := h i x hx
    simp only [Nat.zero_add, hk, hb, decide_true, Bool.not_false, Bool.true_and, Bool.not_eq_false'] at this
    exact this
  · intro h i x hx
    simp only [Nat.zero_add]
    by_cases hk : x.kind = k
    · cases hb : hasBit but (i : Int) with
      | true => simp
      | false => simp only [hk, h i x hx hk hb, decide_true, Bool.not_false, Bool.not_true, Bool.and_false]
    · simp [hk]
theorem mem_rowN (b : Book) (k : Int) (dark : List Int) (but n : Int) (t : RT3) (hl : (b.life k).lo ≤ (b.life k).hi) : t ∈ rowN b k dark but n (lifeN b k) ↔ t.1 = dark ∧ t.2.1 = n ∧ (b.life k).has t.2.2 ∧ tOk b k dark but n t.2.2 = true := by
  simp only [rowN, List.mem_map, List.mem_filter, List.mem_range, lifeN]
  constructor
  · rintro ⟨i, ⟨hi, ht⟩, rfl⟩
    exact ⟨rfl, rfl, ⟨by simp only; omega, by simp only; omega⟩, ht⟩
  · rintro ⟨h1, h2, ⟨h3, h4⟩, h5⟩
    refine ⟨(t.2.2 - (b.life k).lo).toNat, ⟨by omega, ?_⟩, ?_⟩
    · have e : (b.life k).lo + ((t.2.2 - (b.life k).lo).toNat : Int) = t.2.2 := by omega
      rw [e]; exact h5
    · have e : (b.life k).lo + ((t.2.2 - (b.life k).lo).toNat : Int) = t.2.2 := by omega
      rw [e, ← h1, ← h2]
theorem mem_kindT {b : Book} (hv : b.sane = true) {k : Int} (hk : k = 0 ∨ k = 1) (dark : List Int) (but : Int) (t : RT3) : t ∈ kindT b k dark but ↔ t.1 = dark ∧ (b.stock k).has t.2.1 ∧ (b.life k).has t.2.2 ∧ tOk b k dark but t.2.1 t.2.2 = true := by
  have hsp := spans_k hv hk
  simp only [kindT, kindN, List.mem_flatMap, List.mem_range, stockN]
  constructor
  · rintro ⟨i, hi, ht⟩
    rw [mem_rowN _ _ _ _ _ _ (by omega)] at ht
    obtain ⟨h1, h2, h3, h4⟩ := ht
    rw [h2]
    exact ⟨h1, ⟨by omega, by omega⟩, h3, by rw [← h2] at h4 ⊢; exact h4⟩
  · rintro ⟨h1, ⟨h2, h3⟩, h4, h5⟩
    refine ⟨(t.2.1 - (b.stock k).lo).toNat, by omega, ?_⟩
    have e : (b.stock k).lo + ((t.2.1 - (b.stock k).lo).toNat : Int) = t.2.1 := by omega
    rw [e, mem_rowN _ _ _ _ _ _ (by omega)]
    exact ⟨h1, rfl, h4, h5⟩
theorem leftsR_getD (b : Book) (k n f : Int) (dark : List Int) {m d : Nat} (h : d < m) : (leftsR b k n f dark m).getD d 0 = b.runK k n f (dkOf dark) (d + 1) := by
  simp only [List.getD, leftsR_get b k n f dark h, Option.getD_some]
def darkOf (b : Book) (dk : Nat → Int) : List Int := (List.range b.days.length).map dk
theorem darkOf_get (b : Book) (dk : Nat → Int) {d : Nat} (h : d < b.days.length) : dkOf (darkOf b dk) d = dk d := by
  simp [dkOf, darkOf, List.getD, h]
theorem darkOf_of {b : Book} {d : List Int} (h : d.length = b.days.length) : darkOf b (dkOf d) = d := by
  apply List.ext_getElem?
  intro i
  by_cases hi : i < b.days.length
  · simp [darkOf, dkOf, List.getD, hi, h]
  · rw [List.getElem?_eq_none (by simp [darkOf]; omega), List.getElem?_eq_none (by omega)]

theorem mem_rT {b : Book} (hv : b.sane = true) {k : Int} (hk : k = 0 ∨ k = 1) (but : Int) (t : RT3) :
    t ∈ b.rT but k ↔ ∃ n f dk, Way b (exc b but) n f dk ∧ t = (darkOf b dk, n k, f k) := by
  have hvc := valid_counts hv
  have hcnt : ∀ (x : Count), x ∈ b.counts → (0 ≤ x.day ∧ x.day ≤ b.days.length - 1) ∧ (x.kind = 0 ∨ x.kind = 1) := fun x hx => by
    have := hvc x hx
    simp only [Book.isCount, Book.isDay, Bool.and_eq_true, within_iff] at this
    omega
  simp only [Book.rT, allT, List.mem_flatMap]
  constructor
  · rintro ⟨d, hd, ht⟩
    obtain ⟨d1, d2⟩ := darks_ok hd
    cases hb : bothB b but d with
    | false => rw [hb] at ht; simp at ht
    | true =>
      rw [hb, if_pos rfl] at ht
      simp only [bothB, Bool.and_eq_true, Bool.not_eq_true', List.isEmpty_eq_false_iff] at hb
      have pick : ∀ j : Int, j = 0 ∨ j = 1 → ∃ u, u ∈ kindT b j d but ∧ (j = k → u = t) := by
        intro j hj
        by_cases e : j = k
        · subst e; exact ⟨t, ht, fun _ => rfl⟩
        · rcases hj with rfl | rfl
          · obtain ⟨u, hu⟩ := List.exists_mem_of_ne_nil _ hb.1
            exact ⟨u, hu, fun h => absurd h e⟩
          · obtain ⟨u, hu⟩ := List.exists_mem_of_ne_nil _ hb.2
            exact ⟨u, hu, fun h => absurd h e⟩
      obtain ⟨u0, m0, e0⟩ := pick 0 (.inl rfl)
      obtain ⟨u1, m1, e1⟩ := pick 1 (.inr rfl)
      have q0 := (mem_kindT hv (.inl rfl) d but u0).1 m0
      have q1 := (mem_kindT hv (.inr rfl) d but u1).1 m1
      have q := (mem_kindT hv hk d but t).1 ht
      let n : Int → Int := fun j => if j = 0 then u0.2.1 else u1.2.1
      let f : Int → Int := fun j => if j = 0 then u0.2.2 else u1.2.2
      have sel : ∀ j, j = 0 ∨ j = 1 → (b.stock j).has (n j) ∧ (b.life j).has (f j) ∧ tOk b j d but (n j) (f j) = true := by
        rintro j (rfl | rfl)
        · exact ⟨q0.2.1, q0.2.2.1, q0.2.2.2⟩
        · exact ⟨q1.2.1, q1.2.2.1, q1.2.2.2⟩
      refine ⟨n, f, dkOf d, ⟨fun j hj => (sel j hj).1, fun j hj => (sel j hj).2.1, fun i x hx => ?_, fun i x hx hc => ?_⟩, ?_⟩
      · have hi := (List.getElem?_eq_some_iff.1 hx).1
        exact d2 i x _ hx (by simp only [dkOf, List.getD, List.getElem?_eq_getElem (show i < d.length by omega), Option.getD_some])
      · obtain ⟨c1, c2⟩ := hcnt x (List.mem_of_getElem? hx)
        rw [exc_contains b but (List.getElem?_eq_some_iff.1 hx).1] at hc
        have hr := (sel x.kind c2).2.2
        simp only [tOk] at hr
        have := (rightR_iff _ _ _ _).1 hr i x hx rfl hc
        rwa [leftsR_getD _ _ _ _ _ (by omega)] at this
      · rw [darkOf_of d1]
        rcases hk with rfl | rfl
        · have := e0 rfl
          subst this
          exact Prod.ext q.1 (Prod.ext rfl rfl)
        · have := e1 rfl
          subst this
          exact Prod.ext q.1 (Prod.ext rfl rfl)
  · rintro ⟨n, f, dk, w, rfl⟩
    have hd : darkOf b dk ∈ b.darks := by
      unfold Book.darks
      rw [darksF_mem _ _ _ (by simp)]
      refine ⟨darkOf b dk, by simp, by simp [darkOf], fun d x v hx hv => ?_⟩
      simp only [List.length_nil, Nat.zero_add] at hx
      have hi := (List.getElem?_eq_some_iff.1 hx).1
      simp only [darkOf, List.getElem?_map, List.getElem?_range hi, Option.map_some, Option.some.injEq] at hv
      subst hv
      exact w.dark d x hx
    have hin : ∀ j, j = 0 ∨ j = 1 → (darkOf b dk, n j, f j) ∈ kindT b j (darkOf b dk) but := by
      intro j hj
      rw [mem_kindT hv hj]
      refine ⟨rfl, w.stock j hj, w.life j hj, ?_⟩
      simp only [tOk]
      rw [rightR_iff]
      intro i x hx hkx hb
      obtain ⟨c1, c2⟩ := hcnt x (List.mem_of_getElem? hx)
      have := w.right i x hx (by rw [exc_contains b but (List.getElem?_eq_some_iff.1 hx).1]; exact hb)
      rw [leftsR_getD _ _ _ _ _ (by omega), runK_agree b j (n j) (f j) (dkOf (darkOf b dk)) dk _ (fun e he => darkOf_get b dk (by omega))]
      rwa [hkx] at this
    refine ⟨darkOf b dk, hd, ?_⟩
    have hb : bothB b but (darkOf b dk) = true := by
      simp only [bothB, Bool.and_eq_true, Bool.not_eq_true', List.isEmpty_eq_false_iff]
      exact ⟨List.ne_nil_of_mem (hin 0 (.inl rfl)), List.ne_nil_of_mem (hin 1 (.inr rfl))⟩
    rw [hb, if_pos rfl]
    exact hin k hk
theorem rT_ne {b : Book} (hv : b.sane = true) {k : Int} (hk : k = 0 ∨ k = 1) (but : Int) : b.rT but k ≠ [] ↔ b.truths (exc b but) ≠ [] := by
  rw [truths_ne hv]
  constructor
  · intro h
    obtain ⟨t, ht⟩ := List.exists_mem_of_ne_nil _ h
    obtain ⟨n, f, dk, w, -⟩ := (mem_rT hv hk but t).1 ht
    exact ⟨n, f, dk, w⟩
  · rintro ⟨n, f, dk, w⟩
    exact List.ne_nil_of_mem ((mem_rT hv hk but _).2 ⟨n, f, dk, w, rfl⟩)
theorem has_zero (n : Int) : hasBit 0 n = false := by
  have h2 : (0 : Int).fdiv (2 ^ n.toNat) = 0 := Int.zero_fdiv _
  have h3 : decide (wrapBits .i64 (BitVec.ofInt 64 0 &&& BitVec.ofInt 64 1) = 1) = false := by decide
  simp only [hasBit, h2, h3, Bool.and_false]
theorem exc_zero (b : Book) : exc b 0 = [] := by
  simp [exc, bitsN, has_zero]

def endsOf (l : List Int) : Int × Int := spanOf (fun t => t.getD 0 0) (l.map fun v => [v])
theorem endsOf_eq {l : List Int} (hl : l ≠ []) (S : Int × Int) (h1 : ∀ v, v ∈ l → S.1 ≤ v ∧ v ≤ S.2) (h2 : S.1 ∈ l) (h3 : S.2 ∈ l) : endsOf l = S := by
  have hm : ∀ v, v ∈ l → [v] ∈ l.map fun v => [v] := fun v hv => List.mem_map.2 ⟨v, hv, rfl⟩
  have hne : (l.map fun v => [v]) ≠ [] := by simpa using hl
  obtain ⟨t, ht, et⟩ := span_lo (fun t => t.getD 0 0) _ hne
  obtain ⟨u, hu, eu⟩ := span_hi (fun t => t.getD 0 0) _ hne
  obtain ⟨v, hv, rfl⟩ := List.mem_map.1 ht
  obtain ⟨w, hw, rfl⟩ := List.mem_map.1 hu
  have a1 := span_le (fun t => t.getD 0 0) _ (hm _ h2)
  have a2 := span_le (fun t => t.getD 0 0) _ (hm _ h3)
  have b1 := h1 v hv
  have b2 := h1 w hw
  have e1 : ([v] : List Int).getD 0 0 = v := rfl
  have e2 : ([w] : List Int).getD 0 0 = w := rfl
  have e3 : ([S.1] : List Int).getD 0 0 = S.1 := rfl
  have e4 : ([S.2] : List Int).getD 0 0 = S.2 := rfl
  rw [e1] at et
  rw [e2] at eu
  rw [e3] at a1
  rw [e4] at a2
  unfold endsOf
  exact Prod.ext (by omega) (by omega)
theorem ends_ways {b : Book} (hv : b.sane = true) {but : Int} {k : Int} (hk : k = 0 ∨ k = 1) (hne : b.truths (exc b but) ≠ []) (g : List Int → Int) (G : (Int → Int) → (Int → Int) → (Nat → Int) → Int) (hg : ∀ t n f dk, Says b n f dk t → g t = G n f dk)
    (h : RT3 → Int) (hh : ∀ n f dk, Way b (exc b but) n f dk → h (darkOf b dk, n k, f k) = G n f dk) : endsOf ((b.rT but k).map h) = spanOf g (b.truths (exc b but)) := by
  obtain ⟨p1, ⟨n1, f1, d1, w1, e1⟩, ⟨n2, f2, d2, w2, e2⟩⟩ := span_ways hv hne g G hg
  have hr := (rT_ne hv hk but).2 hne
  refine endsOf_eq (by simpa using hr) _ (fun v hv' => ?_) ?_ ?_
  · obtain ⟨t, ht, rfl⟩ := List.mem_map.1 hv'
    obtain ⟨n, f, dk, w, rfl⟩ := (mem_rT hv hk but t).1 ht
    rw [hh n f dk w]
    exact p1 n f dk w
  · rw [e1, ← hh n1 f1 d1 w1]
    exact List.mem_map.2 ⟨_, (mem_rT hv hk but _).2 ⟨_, _, _, w1, rfl⟩, rfl⟩
  · rw [e2, ← hh n2 f2 d2 w2]
    exact List.mem_map.2 ⟨_, (mem_rT hv hk but _).2 ⟨_, _, _, w2, rfl⟩, rfl⟩
def hLeft (b : Book) (k day : Int) (t : RT3) : Int := b.runK k t.2.1 t.2.2 (dkOf t.1) (day.toNat + 1)
theorem left_eq {b : Book} (hv : b.sane = true) {but : Int} {k day : Int} (hk : k = 0 ∨ k = 1) (hne : b.truths (exc b but) ≠ []) (hd : 0 ≤ day) (hd' : day < b.days.length) : endsOf ((b.rT but k).map (hLeft b k day)) = spanOf (tLeft k day) (b.truths (exc b but)) :=
  ends_ways hv hk hne (tLeft k day) (fun n f dk => b.runK k (n k) (f k) dk (day.toNat + 1)) (fun _ _ _ _ hs => hs.left k hk day hd hd') (hLeft b k day) (fun n f dk w => by
    simp only [hLeft]
    exact runK_agree b k (n k) (f k) _ _ _ (fun e he => darkOf_get b dk (by omega)))
theorem life_eq {b : Book} (hv : b.sane = true) {but : Int} {k : Int} (hk : k = 0 ∨ k = 1) (hne : b.truths (exc b but) ≠ []) : endsOf ((b.rT but k).map fun t => t.2.2) = spanOf (tLife k) (b.truths (exc b but)) :=
  ends_ways hv hk hne (tLife k) (fun n f dk => f k) (fun _ _ _ _ hs => hs.life k hk) _ (fun n f dk w => rfl)
theorem dark_eq {b : Book} (hv : b.sane = true) {but : Int} {day : Int} (hne : b.truths (exc b but) ≠ []) (hd : 0 ≤ day) (hd' : day < b.days.length) : endsOf ((b.rT but 0).map fun t => dkOf t.1 day.toNat) = spanOf (tDark day) (b.truths (exc b but)) :=
  ends_ways hv (.inl rfl) hne (tDark day) (fun n f dk => dk day.toNat) (fun _ _ _ _ hs => hs.dark day hd hd') _ (fun n f dk w => darkOf_get b dk (by omega))
theorem rT_ok {b : Book} (hv : b.sane = true) {k : Int} (hk : k = 0 ∨ k = 1) {but : Int} {t : RT3} (ht : t ∈ b.rT but k) : t.1.length = b.days.length ∧ DarkOk b t.1 ∧ (0 ≤ t.2.1 ∧ t.2.1 ≤ 60) ∧ (1 ≤ t.2.2 ∧ t.2.2 ≤ 6) := by
  obtain ⟨n, f, dk, w, rfl⟩ := (mem_rT hv hk but t).1 ht
  have hsp := spans_k hv hk
  have h1 := w.stock k hk
  have h2 := w.life k hk
  have a1 := h1.1; have a2 := h1.2; have a3 := h2.1; have a4 := h2.2
  refine ⟨by simp [darkOf], fun d x v hx hv => ?_, by simp only; omega, by simp only; omega⟩
  have hi := (List.getElem?_eq_some_iff.1 hx).1
  simp only [darkOf, List.getElem?_map, List.getElem?_range hi, Option.map_some, Option.some.injEq] at hv
  subst hv
  exact w.dark d x hx
end Go.Pm.Cd

namespace Go.Pm.Cd
open Ac
set_option maxRecDepth 100000
set_option linter.unusedSimpArgs false
set_option linter.unusedSectionVars false
set_option linter.unusedVariables false

def foldE (x : Int) (l : List Int) : Int × Int := l.foldl (fun a v => (min a.1 v, max a.2 v)) (x, x)
theorem foldE_snoc (x : Int) (l : List Int) (v : Int) : foldE x (l ++ [v]) = (min (foldE x l).1 v, max (foldE x l).2 v) := by simp [foldE]
theorem endsOf_fold (x : Int) (l : List Int) : endsOf (x :: l) = foldE x (x :: l) := by
  simp only [endsOf, spanOf, List.map_cons, foldE]
  have : ([x] : List Int) :: l.map (fun v => [v]) = (x :: l).map (fun v => [v]) := rfl
  rw [this, List.foldl_map]
  rfl

section
variable {Γ : Env} [P06 Γ] [G06 Γ]
theorem ends_k (k : SK) (l : List Int) (hl : l ≠ []) (hr : l.length ≤ 1000000) : K Γ (.fn 59) [.sc (.sl k 1 (l.map fun x => [ci x]))] [] = some (.agg [ci (endsOf l).1, ci (endsOf l).2], []) := by
  cases l with
  | nil => exact absurd rfl hl
  | cons x l =>
    rw [endsOf_fold]
    obtain ⟨L, hL⟩ : ∃ L, x :: l = L := ⟨_, rfl⟩
    have h0 : L[0]? = some x := by rw [← hL]; rfl
    have hlen : 0 < L.length := by rw [← hL]; simp
    rw [hL] at hr ⊢
    have h00 : L[(0 : Int).toNat]? = some x := h0
    have hLp {β : Type} (z : Obj) (hz : z.under 2 = true) (Q : Ex → St → Option β) : E Γ decaniref06_ends_L0 ⟨[(0, .sc (.sl k 1 (L.map fun x => [ci x]))), (2, .sc (.ptr 0 0)), (3, .sc (.ptr 1 0)), (4, vi 0)], [z, .var [ci x, ci x]]⟩ Q =
        Q (.exit 0) ⟨[(0, .sc (.sl k 1 (L.map fun x => [ci x]))), (2, .sc (.ptr 0 0)), (3, .sc (.ptr 1 0)), (4, vi L.length), (12, vb false)], [z, .var [ci (foldE x L).1, ci (foldE x L).2]]⟩ := by
      refine E_countS L.length (fun i (_ : Unit) => ⟨[(0, .sc (.sl k 1 (L.map fun x => [ci x]))), (2, .sc (.ptr 0 0)), (3, .sc (.ptr 1 0)), (4, vi i)], [z, .var [ci (foldE x (L.take i)).1, ci (foldE x (L.take i)).2]]⟩) (fun _ _ => True)
        (fun _ => (.exit 0, ⟨[(0, .sc (.sl k 1 (L.map fun x => [ci x]))), (2, .sc (.ptr 0 0)), (3, .sc (.ptr 1 0)), (4, vi L.length), (12, vb false)], [z, .var [ci (foldE x L).1, ci (foldE x L).2]]⟩)) () rfl trivial ?_ ?_ ?_
      · intro i _ hi _
        refine ⟨(), trivial, ?_⟩
        obtain ⟨v, hv⟩ : ∃ v, L[i]? = some v := ⟨_, List.getElem?_eq_getElem hi⟩
        have hlt := decide_eq_true (show (i : Int) < L.length by omega)
        have hiw : IntKind.i64.wrap ((i : Int) + 1) = i + 1 := wrap_i64 (by omega) (by omega)
        have ht : L.take (i + 1) = L.take i ++ [v] := by rw [List.take_succ, hv]; rfl
        rw [ht, foldE_snoc]
        (simp only [go_sem, simprocAttr, decaniref06_ends_B0, hv, hlt, hiw, hz]; repeat' (first | ((first | (refine br_yes (by omega) ?_) | (refine br_no (by omega) ?_) | (apply br_all; (· simp only [Bool.and_eq_true, decide_eq_true_eq]; omega)) | (apply br_free; (· simp [go_sem, Pm.acc, Acc.free, refsOf, offOf, keyEq, tagEq, cellsEq, cellEq]; done)) | ((first | apply br_mergeT | apply br_mergeF); (· intro h; simp only [go_sem, simprocAttr, sel_of h, decaniref06_ends_B0, hv, hlt, hiw, hz]; exact rfl))); (try simp only [go_sem, simprocAttr, decaniref06_ends_B0, hv, hlt, hiw, hz])) | ((first | apply onGuard_sel | (apply pickV_split; apply br_split) | apply br_split) <;> intro h <;> (try simp only [go_sem, simprocAttr, h, decaniref06_ends_B0, hv, hlt, hiw, hz]))))
        rfl
      · intro _ _
        have hlt := decide_eq_false (show ¬ (L.length : Int) < L.length by omega)
        rw [List.take_length]
        (simp only [go_sem, simprocAttr, decaniref06_ends_B0, hlt]; repeat' (first | ((first | (refine br_yes (by omega) ?_) | (refine br_no (by omega) ?_) | (apply br_all; (· simp only [Bool.and_eq_true, decide_eq_true_eq]; omega)) | (apply br_free; (· simp [go_sem, Pm.acc, Acc.free, refsOf, offOf, keyEq, tagEq, cellsEq, cellEq]; done)) | ((first | apply br_mergeT | apply br_mergeF); (· intro h; simp only [go_sem, simprocAttr, sel_of h, decaniref06_ends_B0, hlt]; exact rfl))); (try simp only [go_sem, simprocAttr, decaniref06_ends_B0, hlt])) | ((first | apply onGuard_sel | (apply pickV_split; apply br_split) | apply br_split) <;> intro h <;> (try simp only [go_sem, simprocAttr, h, decaniref06_ends_B0, hlt]))))
      · intro _ _
        rfl
    rw [K_fn P06.f59 _ _ rfl]
    (simp only [go_sem, simprocAttr, decaniref06_ends, h0, h00, hLp]; repeat' (first | ((first | (refine br_yes (by omega) ?_) | (refine br_no (by omega) ?_) | (apply br_all; (· simp only [Bool.and_eq_true, decide_eq_true_eq]; omega)) | (apply br_free; (· simp [go_sem, Pm.acc, Acc.free, refsOf, offOf, keyEq, tagEq, cellsEq, cellEq]; done)) | ((first | apply br_mergeT | apply br_mergeF); (· intro h; simp only [go_sem, simprocAttr, sel_of h, decaniref06_ends, h0, h00, hLp]; exact rfl))); (try simp only [go_sem, simprocAttr, decaniref06_ends, h0, h00, hLp])) | ((first | apply onGuard_sel | (apply pickV_split; apply br_split) | apply br_split) <;> intro h <;> (try simp only [go_sem, simprocAttr, h, decaniref06_ends, h0, h00, hLp]))))

theorem rleft_k (b : Book) [hb : b.Fits] (hv : b.sane = true) {k : Int} (hk : k = 0 ∨ k = 1) (kl : SK) (L : List RT3) (hne : L ≠ []) (hll : L.length ≤ 10000) (hL : ∀ t, t ∈ L → t.1.length = b.days.length ∧ DarkOk b t.1 ∧ (0 ≤ t.2.1 ∧ t.2.1 ≤ 60) ∧ (1 ≤ t.2.2 ∧ t.2.2 ≤ 6)) (day : Int) (hd : 0 ≤ day) (hd' : day < b.days.length) :
    K Γ (.fn 56) [.agg b.c, vi k, .sc (.sl kl 3 (L.map encT)), vi day] [] = some (.agg [ci (endsOf (L.map (hLeft b k day))).1, ci (endsOf (L.map (hLeft b k day))).2], []) := by
  have hLp {β : Type} (z : Obj) (hz : z.under 2 = true) (Q : Ex → St → Option β) : E Γ decaniref06_left_L0 ⟨[(1, vi k), (2, .sc (.sl kl 3 (L.map encT))), (3, vi day), (4, .sc (.ptr 0 0)), (8, .sc (.ptr 1 0)), (9, .sc (.sl .full 1 [])), (10, vi 0)], [.var b.c, z]⟩ Q =
      Q (.exit 0) ⟨[(1, vi k), (2, .sc (.sl kl 3 (L.map encT))), (3, vi day), (4, .sc (.ptr 0 0)), (8, .sc (.ptr 1 0)), (9, .sc (ownF 1 ((L.map (hLeft b k day)).map fun x => [ci x]))), (10, vi L.length), (15, vb false)], [.var b.c, z]⟩ := by
    refine E_countS L.length (fun i (_ : Unit) => ⟨[(1, vi k), (2, .sc (.sl kl 3 (L.map encT))), (3, vi day), (4, .sc (.ptr 0 0)), (8, .sc (.ptr 1 0)), (9, .sc (ownF 1 (((L.take i).map (hLeft b k day)).map fun x => [ci x]))), (10, vi i)], [.var b.c, z]⟩) (fun _ _ => True)
      (fun _ => (.exit 0, ⟨[(1, vi k), (2, .sc (.sl kl 3 (L.map encT))), (3, vi day), (4, .sc (.ptr 0 0)), (8, .sc (.ptr 1 0)), (9, .sc (ownF 1 ((L.map (hLeft b k day)).map fun x => [ci x]))), (10, vi L.length), (15, vb false)], [.var b.c, z]⟩)) () rfl trivial ?_ ?_ ?_
    · intro i _ hi _
      refine ⟨(), trivial, ?_⟩
      obtain ⟨t, ht⟩ : ∃ t, L[i]? = some t := ⟨_, List.getElem?_eq_getElem hi⟩
      obtain ⟨t1, t2, t3, t4⟩ := hL t (List.mem_of_getElem? ht)
      have hlt := decide_eq_true (show (i : Int) < L.length by omega)
      have hiw : IntKind.i64.wrap ((i : Int) + 1) = i + 1 := wrap_i64 (by omega) (by omega)
      have htk : L.take (i + 1) = L.take i ++ [t] := by rw [List.take_succ, ht]; rfl
      have hlf := rlefts_k (Γ := Γ) b hv k t.2.2 t.2.1 .shared t.1 t1 t2 hk t3 t4
      have hg := leftsR_get b k t.2.1 t.2.2 t.1 (m := b.days.length) (d := day.toNat) (by omega)
      have hA := appended_ownF 1 .full (((L.take i).map (hLeft b k day)).map fun x => [ci x]) [ci (hLeft b k day t)] (by simp only [List.length_map, List.length_take, room]; omega)
      have he : encT t = [.sl .shared 1 (t.1.map fun x => [ci x]), ci t.2.1, ci t.2.2] := rfl
      have hh : b.runK k t.2.1 t.2.2 (dkOf t.1) (day.toNat + 1) = hLeft b k day t := rfl
      rw [hh] at hg
      rw [htk, List.map_append, List.map_append, List.map_cons, List.map_nil, List.map_cons, List.map_nil, ownF_app]
      (simp only [go_sem, simprocAttr, decaniref06_left_B0, ht, he, hlt, hiw, hlf, hg, hA, hz]; repeat' (first | ((first | (refine br_yes (by omega) ?_) | (refine br_no (by omega) ?_) | (apply br_all; (· simp only [Bool.and_eq_true, decide_eq_true_eq]; omega)) | (apply br_free; (· simp [go_sem, Pm.acc, Acc.free, refsOf, offOf, keyEq, tagEq, cellsEq, cellEq]; done)) | ((first | apply br_mergeT | apply br_mergeF); (· intro h; simp only [go_sem, simprocAttr, sel_of h, decaniref06_left_B0, ht, he, hlt, hiw, hlf, hg, hA, hz]; exact rfl))); (try simp only [go_sem, simprocAttr, decaniref06_left_B0, ht, he, hlt, hiw, hlf, hg, hA, hz])) | ((first | apply onGuard_sel | (apply pickV_split; apply br_split) | apply br_split) <;> intro h <;> (try simp only [go_sem, simprocAttr, h, decaniref06_left_B0, ht, he, hlt, hiw, hlf, hg, hA, hz]))))
      rfl
    · intro _ _
      have hlt := decide_eq_false (show ¬ (L.length : Int) < L.length by omega)
      rw [List.take_length]
      (simp only [go_sem, simprocAttr, decaniref06_left_B0, hlt]; repeat' (first | ((first | (refine br_yes (by omega) ?_) | (refine br_no (by omega) ?_) | (apply br_all; (· simp only [Bool.and_eq_true, decide_eq_true_eq]; omega)) | (apply br_free; (· simp [go_sem, Pm.acc, Acc.free, refsOf, offOf, keyEq, tagEq, cellsEq, cellEq]; done)) | ((first | apply br_mergeT | apply br_mergeF); (· intro h; simp only [go_sem, simprocAttr, sel_of h, decaniref06_left_B0, hlt]; exact rfl))); (try simp only [go_sem, simprocAttr, decaniref06_left_B0, hlt])) | ((first | apply onGuard_sel | (apply pickV_split; apply br_split) | apply br_split) <;> intro h <;> (try simp only [go_sem, simprocAttr, h, decaniref06_left_B0, hlt]))))
    · intro _ _
      rfl
  have hE := ends_k (Γ := Γ) (kF L) (L.map (hLeft b k day)) (by simpa using hne) (by rw [List.length_map]; omega)
  rw [K_fn P06.f56 _ _ rfl]
  (simp only [go_sem, simprocAttr, decaniref06_left, hLp, unown_ownF, kF_map, hE]; repeat' (first | ((first | (refine br_yes (by omega) ?_) | (refine br_no (by omega) ?_) | (apply br_all; (· simp only [Bool.and_eq_true, decide_eq_true_eq]; omega)) | (apply br_free; (· simp [go_sem, Pm.acc, Acc.free, refsOf, offOf, keyEq, tagEq, cellsEq, cellEq]; done)) | ((first | apply br_mergeT | apply br_mergeF); (· intro h; simp only [go_sem, simprocAttr, sel_of h, decaniref06_left, hLp, unown_ownF, kF_map, hE]; exact rfl))); (try simp only [go_sem, simprocAttr, decaniref06_left, hLp, unown_ownF, kF_map, hE])) | ((first | apply onGuard_sel | (apply pickV_split; apply br_split) | apply br_split) <;> intro h <;> (try simp only [go_sem, simprocAttr, h, decaniref06_left, hLp, unown_ownF, kF_map, hE]))))

def tC (b : Book) (k : Int) : C := .sl (kS (b.rT 0 k)) 3 ((b.rT 0 k).map encT)
theorem rT_len {b : Book} (hv : b.sane = true) {k : Int} (hk : k = 0 ∨ k = 1) (but : Int) : (b.rT but k).length ≤ 1458 := by
  have h1 := allT_len hv hk but b.darks
  have h2 := darksF_len hv b.days.length []
  have hvd := valid_days hv
  have h3 : (3 : Nat) ^ b.days.length ≤ 243 := Nat.le_trans (Nat.pow_le_pow_right (by decide) hvd.2.1) (by decide)
  have h4 : b.darks.length ≤ 243 := Nat.le_trans h2 h3
  have h5 : b.darks.length * 6 ≤ 243 * 6 := Nat.mul_le_mul_right _ h4
  unfold Book.rT
  omega
theorem rT_0 {b : Book} (hv : b.sane = true) {k : Int} (hk : k = 0 ∨ k = 1) : b.rT 0 k ≠ [] ↔ b.truths [] ≠ [] := by
  have := rT_ne hv hk 0
  rwa [exc_zero] at this

theorem rasked_bad (b : Book) [hb : b.Fits] (hv : b.valid = false) (is : Bool) : K Γ (.fn 55) [.agg b.c, vb is] [] = some (.tup [.agg [.sl .nil 3 [], .sl .nil 3 []], vi 60], []) := by
  rw [K_fn P06.f55 _ _ rfl]
  (simp only [go_sem, simprocAttr, decaniref06_asked, hv, Bool.false_eq_true]; repeat' (first | ((first | (refine br_yes (by omega) ?_) | (refine br_no (by omega) ?_) | (apply br_all; (· simp only [Bool.and_eq_true, decide_eq_true_eq]; omega)) | (apply br_free; (· simp [go_sem, Pm.acc, Acc.free, refsOf, offOf, keyEq, tagEq, cellsEq, cellEq]; done)) | ((first | apply br_mergeT | apply br_mergeF); (· intro h; simp only [go_sem, simprocAttr, sel_of h, decaniref06_asked, hv, Bool.false_eq_true]; exact rfl))); (try simp only [go_sem, simprocAttr, decaniref06_asked, hv, Bool.false_eq_true])) | ((first | apply onGuard_sel | (apply pickV_split; apply br_split) | apply br_split) <;> intro h <;> (try simp only [go_sem, simprocAttr, h, decaniref06_asked, hv, Bool.false_eq_true]))))
theorem rasked_ask (b : Book) [hb : b.Fits] (hv : b.valid = true) : K Γ (.fn 55) [.agg b.c, vb false] [] = some (.tup [.agg [.sl .nil 3 [], .sl .nil 3 []], vi 61], []) := by
  rw [K_fn P06.f55 _ _ rfl]
  (simp only [go_sem, simprocAttr, decaniref06_asked, hv]; repeat' (first | ((first | (refine br_yes (by omega) ?_) | (refine br_no (by omega) ?_) | (apply br_all; (· simp only [Bool.and_eq_true, decide_eq_true_eq]; omega)) | (apply br_free; (· simp [go_sem, Pm.acc, Acc.free, refsOf, offOf, keyEq, tagEq, cellsEq, cellEq]; done)) | ((first | apply br_mergeT | apply br_mergeF); (· intro h; simp only [go_sem, simprocAttr, sel_of h, decaniref06_asked, hv]; exact rfl))); (try simp only [go_sem, simprocAttr, decaniref06_asked, hv])) | ((first | apply onGuard_sel | (apply pickV_split; apply br_split) | apply br_split) <;> intro h <;> (try simp only [go_sem, simprocAttr, h, decaniref06_asked, hv]))))
theorem rasked_no (b : Book) [hb : b.Fits] (hv : b.valid = true) (ht : b.truths [] = []) : K Γ (.fn 55) [.agg b.c, vb true] [] = some (.tup [.agg [tC b 0, tC b 1], vi 62], []) := by
  have hs := sane_of_valid hv
  have hT := rtruths_k (Γ := Γ) b hs 0
  have h0 : b.rT 0 0 = [] := by
    by_cases e : b.rT 0 0 = []
    · exact e
    · exact absurd ht ((rT_0 hs (.inl rfl)).1 e)
  have hd : decide (((b.rT 0 0).length : Int) = 0) = true := by rw [h0]; rfl
  rw [K_fn P06.f55 _ _ rfl]
  (simp only [go_sem, simprocAttr, decaniref06_asked, hv, hT, hd, tC]; repeat' (first | ((first | (refine br_yes (by omega) ?_) | (refine br_no (by omega) ?_) | (apply br_all; (· simp only [Bool.and_eq_true, decide_eq_true_eq]; omega)) | (apply br_free; (· simp [go_sem, Pm.acc, Acc.free, refsOf, offOf, keyEq, tagEq, cellsEq, cellEq]; done)) | ((first | apply br_mergeT | apply br_mergeF); (· intro h; simp only [go_sem, simprocAttr, sel_of h, decaniref06_asked, hv, hT, hd, tC]; exact rfl))); (try simp only [go_sem, simprocAttr, decaniref06_asked, hv, hT, hd, tC])) | ((first | apply onGuard_sel | (apply pickV_split; apply br_split) | apply br_split) <;> intro h <;> (try simp only [go_sem, simprocAttr, h, decaniref06_asked, hv, hT, hd, tC]))))
theorem rasked_ok (b : Book) [hb : b.Fits] (hv : b.valid = true) (ht : b.truths [] ≠ []) : K Γ (.fn 55) [.agg b.c, vb true] [] = some (.tup [.agg [tC b 0, tC b 1], vi 0], []) := by
  have hs := sane_of_valid hv
  have hT := rtruths_k (Γ := Γ) b hs 0
  have h0 := (rT_0 hs (.inl rfl)).2 ht
  have hd : decide (((b.rT 0 0).length : Int) = 0) = false := decide_eq_false (fun e => h0 (List.length_eq_zero_iff.1 (by omega)))
  rw [K_fn P06.f55 _ _ rfl]
  (simp only [go_sem, simprocAttr, decaniref06_asked, hv, hT, hd, tC]; repeat' (first | ((first | (refine br_yes (by omega) ?_) | (refine br_no (by omega) ?_) | (apply br_all; (· simp only [Bool.and_eq_true, decide_eq_true_eq]; omega)) | (apply br_free; (· simp [go_sem, Pm.acc, Acc.free, refsOf, offOf, keyEq, tagEq, cellsEq, cellEq]; done)) | ((first | apply br_mergeT | apply br_mergeF); (· intro h; simp only [go_sem, simprocAttr, sel_of h, decaniref06_asked, hv, hT, hd, tC]; exact rfl))); (try simp only [go_sem, simprocAttr, decaniref06_asked, hv, hT, hd, tC])) | ((first | apply onGuard_sel | (apply pickV_split; apply br_split) | apply br_split) <;> intro h <;> (try simp only [go_sem, simprocAttr, h, decaniref06_asked, hv, hT, hd, tC]))))

@[go_sem] theorem rRight_k (b : Book) [hb : b.Fits] : K Γ (.fn 3) [.agg b.c] [] = some (.tup [vb (b.valid && decide (b.truths [] ≠ [])), vi (if b.valid then 0 else 60)], []) := by
  rw [K_fn P06.f3 _ _ rfl]
  cases hv : b.valid with
  | false => (simp only [go_sem, simprocAttr, decaniref06_Right, hv, Bool.false_and, Bool.false_eq_true]; repeat' (first | ((first | (refine br_yes (by omega) ?_) | (refine br_no (by omega) ?_) | (apply br_all; (· simp only [Bool.and_eq_true, decide_eq_true_eq]; omega)) | (apply br_free; (· simp [go_sem, Pm.acc, Acc.free, refsOf, offOf, keyEq, tagEq, cellsEq, cellEq]; done)) | ((first | apply br_mergeT | apply br_mergeF); (· intro h; simp only [go_sem, simprocAttr, sel_of h, decaniref06_Right, hv, Bool.false_and, Bool.false_eq_true]; exact rfl))); (try simp only [go_sem, simprocAttr, decaniref06_Right, hv, Bool.false_and, Bool.false_eq_true])) | ((first | apply onGuard_sel | (apply pickV_split; apply br_split) | apply br_split) <;> intro h <;> (try simp only [go_sem, simprocAttr, h, decaniref06_Right, hv, Bool.false_and, Bool.false_eq_true]))))
  | true =>
    have hs := sane_of_valid hv
    have hT := rtruths_k (Γ := Γ) b hs 0
    have hd : decide ((0 : Int) < ((b.rT 0 0).length : Int)) = decide (b.truths [] ≠ []) := by
      rw [decide_eq_decide, ← rT_0 hs (.inl rfl)]
      constructor
      · intro h e; rw [e] at h; simp at h
      · intro h
        have : (b.rT 0 0).length ≠ 0 := fun e => h (List.length_eq_zero_iff.1 e)
        omega
    (simp only [go_sem, simprocAttr, decaniref06_Right, hv, hT, hd]; repeat' (first | ((first | (refine br_yes (by omega) ?_) | (refine br_no (by omega) ?_) | (apply br_all; (· simp only [Bool.and_eq_true, decide_eq_true_eq]; omega)) | (apply br_free; (· simp [go_sem, Pm.acc, Acc.free, refsOf, offOf, keyEq, tagEq, cellsEq, cellEq]; done)) | ((first | apply br_mergeT | apply br_mergeF); (· intro h; simp only [go_sem, simprocAttr, sel_of h, decaniref06_Right, hv, hT, hd]; exact rfl))); (try simp only [go_sem, simprocAttr, decaniref06_Right, hv, hT, hd])) | ((first | apply onGuard_sel | (apply pickV_split; apply br_split) | apply br_split) <;> intro h <;> (try simp only [go_sem, simprocAttr, h, decaniref06_Right, hv, hT, hd]))))

theorem rleft_ok (b : Book) [hb : b.Fits] (hv : b.valid = true) (ht : b.truths [] ≠ []) {k : Int} (hk : k = 0 ∨ k = 1) (day : Int) (hd : 0 ≤ day) (hd' : day < b.days.length) :
    K Γ (.fn 56) [.agg b.c, vi k, .sc (tC b k), vi day] [] = some (.agg [ci (spanOf (tLeft k day) (b.truths [])).1, ci (spanOf (tLeft k day) (b.truths [])).2], []) := by
  have hs := sane_of_valid hv
  have := rleft_k (Γ := Γ) b hs hk (kS (b.rT 0 k)) (b.rT 0 k) ((rT_0 hs hk).2 ht) (by have := rT_len hs hk 0; omega) (fun t h => rT_ok hs hk h) day hd hd'
  have he := left_eq hs (but := 0) hk (by rw [exc_zero]; exact ht) hd hd'
  rw [he, exc_zero] at this
  exact this

@[go_sem] theorem rLeft_k (b : Book) [hb : b.Fits] (kind day : Int) : K Γ (.fn 7) [.agg b.c, vi kind, vi day] [] =
    some (.tup [.agg [ci (told (b.askE (isKind kind && b.isDay day)) (spanOf (tLeft kind day) (b.truths []))).1, ci (told (b.askE (isKind kind && b.isDay day)) (spanOf (tLeft kind day) (b.truths []))).2], vi (b.askE (isKind kind && b.isDay day))], []) := by
  rw [K_fn P06.f7 _ _ rfl]
  simp only [isKind, Book.isDay, Book.askE]
  cases hv : b.valid with
  | false =>
    have hA (is : Bool) := rasked_bad (Γ := Γ) b hv is
    (simp only [go_sem, simprocAttr, decaniref06_Left, hA, told]; repeat' (first | ((first | (refine br_yes (by omega) ?_) | (refine br_no (by omega) ?_) | (apply br_all; (· simp only [Bool.and_eq_true, decide_eq_true_eq]; omega)) | (apply br_free; (· simp [go_sem, Pm.acc, Acc.free, refsOf, offOf, keyEq, tagEq, cellsEq, cellEq]; done)) | ((first | apply br_mergeT | apply br_mergeF); (· intro h; simp only [go_sem, simprocAttr, sel_of h, decaniref06_Left, hA, told]; exact rfl))); (try simp only [go_sem, simprocAttr, decaniref06_Left, hA, told])) | ((first | apply onGuard_sel | (apply pickV_split; apply br_split) | apply br_split) <;> intro h <;> (try simp only [go_sem, simprocAttr, h, decaniref06_Left, hA, told]))))
  | true =>
    have hA := rasked_ask (Γ := Γ) b hv
    rcases Bool.eq_false_or_eq_true (within kind 0 1) with hk | hk
    rotate_left
    · (simp only [go_sem, simprocAttr, decaniref06_Left, hA, hk, told, Bool.false_and, Bool.false_eq_true]; repeat' (first | ((first | (refine br_yes (by omega) ?_) | (refine br_no (by omega) ?_) | (apply br_all; (· simp only [Bool.and_eq_true, decide_eq_true_eq]; omega)) | (apply br_free; (· simp [go_sem, Pm.acc, Acc.free, refsOf, offOf, keyEq, tagEq, cellsEq, cellEq]; done)) | ((first | apply br_mergeT | apply br_mergeF); (· intro h; simp only [go_sem, simprocAttr, sel_of h, decaniref06_Left, hA, hk, told, Bool.false_and, Bool.false_eq_true]; exact rfl))); (try simp only [go_sem, simprocAttr, decaniref06_Left, hA, hk, told, Bool.false_and, Bool.false_eq_true])) | ((first | apply onGuard_sel | (apply pickV_split; apply br_split) | apply br_split) <;> intro h <;> (try simp only [go_sem, simprocAttr, h, decaniref06_Left, hA, hk, told, Bool.false_and, Bool.false_eq_true]))))
    · rcases Bool.eq_false_or_eq_true (within day 0 (b.days.length - 1)) with hd | hd
      rotate_left
      · (simp only [go_sem, simprocAttr, decaniref06_Left, hA, hk, hd, told, Bool.false_eq_true]; repeat' (first | ((first | (refine br_yes (by omega) ?_) | (refine br_no (by omega) ?_) | (apply br_all; (· simp only [Bool.and_eq_true, decide_eq_true_eq]; omega)) | (apply br_free; (· simp [go_sem, Pm.acc, Acc.free, refsOf, offOf, keyEq, tagEq, cellsEq, cellEq]; done)) | ((first | apply br_mergeT | apply br_mergeF); (· intro h; simp only [go_sem, simprocAttr, sel_of h, decaniref06_Left, hA, hk, hd, told, Bool.false_eq_true]; exact rfl))); (try simp only [go_sem, simprocAttr, decaniref06_Left, hA, hk, hd, told, Bool.false_eq_true])) | ((first | apply onGuard_sel | (apply pickV_split; apply br_split) | apply br_split) <;> intro h <;> (try simp only [go_sem, simprocAttr, h, decaniref06_Left, hA, hk, hd, told, Bool.false_eq_true]))))
      · have hk' := (within_iff _ _ _).1 hk
        have hd' := (within_iff _ _ _).1 hd
        by_cases ht : b.truths [] = []
        · have hN := rasked_no (Γ := Γ) b hv ht
          (simp only [go_sem, simprocAttr, decaniref06_Left, hN, hk, hd, told, ht]; repeat' (first | ((first | (refine br_yes (by omega) ?_) | (refine br_no (by omega) ?_) | (apply br_all; (· simp only [Bool.and_eq_true, decide_eq_true_eq]; omega)) | (apply br_free; (· simp [go_sem, Pm.acc, Acc.free, refsOf, offOf, keyEq, tagEq, cellsEq, cellEq]; done)) | ((first | apply br_mergeT | apply br_mergeF); (· intro h; simp only [go_sem, simprocAttr, sel_of h, decaniref06_Left, hN, hk, hd, told, ht]; exact rfl))); (try simp only [go_sem, simprocAttr, decaniref06_Left, hN, hk, hd, told, ht])) | ((first | apply onGuard_sel | (apply pickV_split; apply br_split) | apply br_split) <;> intro h <;> (try simp only [go_sem, simprocAttr, h, decaniref06_Left, hN, hk, hd, told, ht]))))
        · have hN := rasked_ok (Γ := Γ) b hv ht
          have hkc : kind = 0 ∨ kind = 1 := by omega
          have hS := rleft_ok (Γ := Γ) b hv ht hkc day hd'.1 (by omega)
          simp only [tC] at hN hS
          rcases hkc with rfl | rfl
          · (simp only [go_sem, simprocAttr, decaniref06_Left, hN, hk, hd, told, ht, hS]; repeat' (first | ((first | (refine br_yes (by omega) ?_) | (refine br_no (by omega) ?_) | (apply br_all; (· simp only [Bool.and_eq_true, decide_eq_true_eq]; omega)) | (apply br_free; (· simp [go_sem, Pm.acc, Acc.free, refsOf, offOf, keyEq, tagEq, cellsEq, cellEq]; done)) | ((first | apply br_mergeT | apply br_mergeF); (· intro h; simp only [go_sem, simprocAttr, sel_of h, decaniref06_Left, hN, hk, hd, told, ht, hS]; exact rfl))); (try simp only [go_sem, simprocAttr, decaniref06_Left, hN, hk, hd, told, ht, hS])) | ((first | apply onGuard_sel | (apply pickV_split; apply br_split) | apply br_split) <;> intro h <;> (try simp only [go_sem, simprocAttr, h, decaniref06_Left, hN, hk, hd, told, ht, hS]))))
          · (simp only [go_sem, simprocAttr, decaniref06_Left, hN, hk, hd, told, ht, hS]; repeat' (first | ((first | (refine br_yes (by omega) ?_) | (refine br_no (by omega) ?_) | (apply br_all; (· simp only [Bool.and_eq_true, decide_eq_true_eq]; omega)) | (apply br_free; (· simp [go_sem, Pm.acc, Acc.free, refsOf, offOf, keyEq, tagEq, cellsEq, cellEq]; done)) | ((first | apply br_mergeT | apply br_mergeF); (· intro h; simp only [go_sem, simprocAttr, sel_of h, decaniref06_Left, hN, hk, hd, told, ht, hS]; exact rfl))); (try simp only [go_sem, simprocAttr, decaniref06_Left, hN, hk, hd, told, ht, hS])) | ((first | apply onGuard_sel | (apply pickV_split; apply br_split) | apply br_split) <;> intro h <;> (try simp only [go_sem, simprocAttr, h, decaniref06_Left, hN, hk, hd, told, ht, hS]))))

@[go_sem] theorem rLife_k (b : Book) [hb : b.Fits] (kind : Int) : K Γ (.fn 9) [.agg b.c, vi kind] [] =
    some (.tup [.agg [ci (told (b.askE (isKind kind)) (spanOf (tLife kind) (b.truths []))).1, ci (told (b.askE (isKind kind)) (spanOf (tLife kind) (b.truths []))).2], vi (b.askE (isKind kind))], []) := by
  rw [K_fn P06.f9 _ _ rfl]
  simp only [isKind, Book.isDay, Book.askE]
  cases hv : b.valid with
  | false =>
    have hA (is : Bool) := rasked_bad (Γ := Γ) b hv is
    (simp only [go_sem, simprocAttr, decaniref06_Life, hA, told]; repeat' (first | ((first | (refine br_yes (by omega) ?_) | (refine br_no (by omega) ?_) | (apply br_all; (· simp only [Bool.and_eq_true, decide_eq_true_eq]; omega)) | (apply br_free; (· simp [go_sem, Pm.acc, Acc.free, refsOf, offOf, keyEq, tagEq, cellsEq, cellEq]; done)) | ((first | apply br_mergeT | apply br_mergeF); (· intro h; simp only [go_sem, simprocAttr, sel_of h, decaniref06_Life, hA, told]; exact rfl))); (try simp only [go_sem, simprocAttr, decaniref06_Life, hA, told])) | ((first | apply onGuard_sel | (apply pickV_split; apply br_split) | apply br_split) <;> intro h <;> (try simp only [go_sem, simprocAttr, h, decaniref06_Life, hA, told]))))
  | true =>
    have hA := rasked_ask (Γ := Γ) b hv
    rcases Bool.eq_false_or_eq_true (within kind 0 1) with hk | hk
    rotate_left
    · (simp only [go_sem, simprocAttr, decaniref06_Life, hA, hk, told, Bool.false_and, Bool.false_eq_true]; repeat' (first | ((first | (refine br_yes (by omega) ?_) | (refine br_no (by omega) ?_) | (apply br_all; (· simp only [Bool.and_eq_true, decide_eq_true_eq]; omega)) | (apply br_free; (· simp [go_sem, Pm.acc, Acc.free, refsOf, offOf, keyEq, tagEq, cellsEq, cellEq]; done)) | ((first | apply br_mergeT | apply br_mergeF); (· intro h; simp only [go_sem, simprocAttr, sel_of h, decaniref06_Life, hA, hk, told, Bool.false_and, Bool.false_eq_true]; exact rfl))); (try simp only [go_sem, simprocAttr, decaniref06_Life, hA, hk, told, Bool.false_and, Bool.false_eq_true])) | ((first | apply onGuard_sel | (apply pickV_split; apply br_split) | apply br_split) <;> intro h <;> (try simp only [go_sem, simprocAttr, h, decaniref06_Life, hA, hk, told, Bool.false_and, Bool.false_eq_true]))))
    · have hk' := (within_iff _ _ _).1 hk
      by_cases ht : b.truths [] = []
      · have hN := rasked_no (Γ := Γ) b hv ht
        (simp only [go_sem, simprocAttr, decaniref06_Life, hN, hk, told, ht]; repeat' (first | ((first | (refine br_yes (by omega) ?_) | (refine br_no (by omega) ?_) | (apply br_all; (· simp only [Bool.and_eq_true, decide_eq_true_eq]; omega)) | (apply br_free; (· simp [go_sem, Pm.acc, Acc.free, refsOf, offOf, keyEq, tagEq, cellsEq, cellEq]; done)) | ((first | apply br_mergeT | apply br_mergeF); (· intro h; simp only [go_sem, simprocAttr, sel_of h, decaniref06_Life, hN, hk, told, ht]; exact rfl))); (try simp only [go_sem, simprocAttr, decaniref06_Life, hN, hk, told, ht])) | ((first | apply onGuard_sel | (apply pickV_split; apply br_split) | apply br_split) <;> intro h <;> (try simp only [go_sem, simprocAttr, h, decaniref06_Life, hN, hk, told, ht]))))
      · have hN := rasked_ok (Γ := Γ) b hv ht
        have hs := sane_of_valid hv
        have hkc : kind = 0 ∨ kind = 1 := by omega
        obtain ⟨L, hLe⟩ : ∃ L, b.rT 0 kind = L := ⟨_, rfl⟩
        have hlen := rT_len hs hkc 0
        have hne := (rT_0 hs hkc).2 ht
        rw [hLe] at hlen hne
        have hkd : kind.toNat = 0 ∧ kind = 0 ∨ kind.toNat = 1 ∧ kind = 1 := by omega
        have hE := ends_k (Γ := Γ) (kF L) (L.map fun t => t.2.2) (by simpa using hne) (by rw [List.length_map]; omega)
        have he := life_eq hs (but := 0) hkc (by rw [exc_zero]; exact ht)
        rw [exc_zero, hLe] at he
        rw [he] at hE
        obtain ⟨c0, hc0⟩ : ∃ c, tC b 0 = c := ⟨_, rfl⟩
        obtain ⟨c1, hc1⟩ : ∃ c, tC b 1 = c := ⟨_, rfl⟩
        have hsel : ([c0, c1] : List C)[kind.toNat]? = some (.sl (kS L) 3 (L.map encT)) := by
          rcases hkc with rfl | rfl
          · rw [← hc0]; simp only [tC, hLe]; rfl
          · rw [← hc1]; simp only [tC, hLe]; rfl
        have hu : ∀ n, C.underL n [c0, c1] = true := fun n => by rw [← hc0, ← hc1]; simp [tC, C.underL, C.under]
        have hkb : decide (0 ≤ kind ∧ kind < 2) = true := decide_eq_true (by omega)
        have hLp {β : Type} (z z2 : Obj) (hz : z.under 3 = true) (hz2 : z2.under 3 = true) (Q : Ex → St → Option β) : E Γ decaniref06_Life_L0 ⟨[(1, vi kind), (4, .sc (.ptr 1 0)), (6, .sc (.ptr 2 0)), (8, .sc (.sl .full 1 [])), (9, vi 0)], [z, z2, .var [c0, c1]]⟩ Q =
            Q (.exit 0) ⟨[(1, vi kind), (4, .sc (.ptr 1 0)), (6, .sc (.ptr 2 0)), (8, .sc (ownF 1 ((L.map fun t => t.2.2).map fun x => [ci x]))), (9, vi L.length), (27, vb false)], [z, z2, .var [c0, c1]]⟩ := by
          refine E_countS L.length (fun i (_ : Unit) => ⟨[(1, vi kind), (4, .sc (.ptr 1 0)), (6, .sc (.ptr 2 0)), (8, .sc (ownF 1 (((L.take i).map fun t => t.2.2).map fun x => [ci x]))), (9, vi i)], [z, z2, .var [c0, c1]]⟩) (fun _ _ => True)
            (fun _ => (.exit 0, ⟨[(1, vi kind), (4, .sc (.ptr 1 0)), (6, .sc (.ptr 2 0)), (8, .sc (ownF 1 ((L.map fun t => t.2.2).map fun x => [ci x]))), (9, vi L.length), (27, vb false)], [z, z2, .var [c0, c1]]⟩)) () rfl trivial ?_ ?_ ?_
          · intro i _ hi _
            refine ⟨(), trivial, ?_⟩
            obtain ⟨t, htt⟩ : ∃ t, L[i]? = some t := ⟨_, List.getElem?_eq_getElem hi⟩
            have hlt := decide_eq_true (show (i : Int) < L.length by omega)
            have hiw : IntKind.i64.wrap ((i : Int) + 1) = i + 1 := wrap_i64 (by omega) (by omega)
            have htk : L.take (i + 1) = L.take i ++ [t] := by rw [List.take_succ, htt]; rfl
            have hA := appended_ownF 1 .full (((L.take i).map fun t => t.2.2).map fun x => [ci x]) [ci t.2.2] (by simp only [List.length_map, List.length_take, room]; omega)
            have hen : encT t = [.sl .shared 1 (t.1.map fun x => [ci x]), ci t.2.1, ci t.2.2] := rfl
            rw [htk, List.map_append, List.map_append, List.map_cons, List.map_nil, List.map_cons, List.map_nil, ownF_app]
            (simp only [go_sem, simprocAttr, decaniref06_Life_B0, hkb, hsel, hu, htt, hen, hlt, hiw, hA, hz, hz2]; repeat' (first | ((first | (refine br_yes (by omega) ?_) | (refine br_no (by omega) ?_) | (apply br_all; (· simp only [Bool.and_eq_true, decide_eq_true_eq]; omega)) | (apply br_free; (· simp [go_sem, Pm.acc, Acc.free, refsOf, offOf, keyEq, tagEq, cellsEq, cellEq]; done)) | ((first | apply br_mergeT | apply br_mergeF); (· intro h; simp only [go_sem, simprocAttr, sel_of h, decaniref06_Life_B0, hkb, hsel, hu, htt, hen, hlt, hiw, hA, hz, hz2]; exact rfl))); (try simp only [go_sem, simprocAttr, decaniref06_Life_B0, hkb, hsel, hu, htt, hen, hlt, hiw, hA, hz, hz2])) | ((first | apply onGuard_sel | (apply pickV_split; apply br_split) | apply br_split) <;> intro h <;> (try simp only [go_sem, simprocAttr, h, decaniref06_Life_B0, hkb, hsel, hu, htt, hen, hlt, hiw, hA, hz, hz2]))))
            rfl
          · intro _ _
            have hlt := decide_eq_false (show ¬ (L.length : Int) < L.length by omega)
            rw [List.take_length]
            (simp only [go_sem, simprocAttr, decaniref06_Life_B0, hkb, hsel, hlt]; repeat' (first | ((first | (refine br_yes (by omega) ?_) | (refine br_no (by omega) ?_) | (apply br_all; (· simp only [Bool.and_eq_true, decide_eq_true_eq]; omega)) | (apply br_free; (· simp [go_sem, Pm.acc, Acc.free, refsOf, offOf, keyEq, tagEq, cellsEq, cellEq]; done)) | ((first | apply br_mergeT | apply br_mergeF); (· intro h; simp only [go_sem, simprocAttr, sel_of h, decaniref06_Life_B0, hkb, hsel, hlt]; exact rfl))); (try simp only [go_sem, simprocAttr, decaniref06_Life_B0, hkb, hsel, hlt])) | ((first | apply onGuard_sel | (apply pickV_split; apply br_split) | apply br_split) <;> intro h <;> (try simp only [go_sem, simprocAttr, h, decaniref06_Life_B0, hkb, hsel, hlt]))))
          · intro _ _
            rfl
        rw [hc0, hc1] at hN
        have hp0 : c0.pure = true ∧ unown c0 = c0 := by rw [← hc0]; exact ⟨rfl, rfl⟩
        have hp1 : c1.pure = true ∧ unown c1 = c1 := by rw [← hc1]; exact ⟨rfl, rfl⟩
        (simp only [go_sem, simprocAttr, decaniref06_Life, hN, hk, told, ht, hLp, unown_ownF, kF_map, hE, hp0.1, hp0.2, hp1.1, hp1.2, hu]; repeat' (first | ((first | (refine br_yes (by omega) ?_) | (refine br_no (by omega) ?_) | (apply br_all; (· simp only [Bool.and_eq_true, decide_eq_true_eq]; omega)) | (apply br_free; (· simp [go_sem, Pm.acc, Acc.free, refsOf, offOf, keyEq, tagEq, cellsEq, cellEq]; done)) | ((first | apply br_mergeT | apply br_mergeF); (· intro h; simp only [go_sem, simprocAttr, sel_of h, decaniref06_Life, hN, hk, told, ht, hLp, unown_ownF, kF_map, hE, hp0.1, hp0.2, hp1.1, hp1.2, hu]; exact rfl))); (try simp only [go_sem, simprocAttr, decaniref06_Life, hN, hk, told, ht, hLp, unown_ownF, kF_map, hE, hp0.1, hp0.2, hp1.1, hp1.2, hu])) | ((first | apply onGuard_sel | (apply pickV_split; apply br_split) | apply br_split) <;> intro h <;> (try simp only [go_sem, simprocAttr, h, decaniref06_Life, hN, hk, told, ht, hLp, unown_ownF, kF_map, hE, hp0.1, hp0.2, hp1.1, hp1.2, hu]))))

@[go_sem] theorem rDark_k (b : Book) [hb : b.Fits] (day : Int) : K Γ (.fn 11) [.agg b.c, vi day] [] =
    some (.tup [.agg [ci (told (b.askE (b.isDay day)) (spanOf (tDark day) (b.truths []))).1, ci (told (b.askE (b.isDay day)) (spanOf (tDark day) (b.truths []))).2], vi (b.askE (b.isDay day))], []) := by
  rw [K_fn P06.f11 _ _ rfl]
  simp only [isKind, Book.isDay, Book.askE]
  cases hv : b.valid with
  | false =>
    have hA (is : Bool) := rasked_bad (Γ := Γ) b hv is
    (simp only [go_sem, simprocAttr, decaniref06_Dark, hA, told]; repeat' (first | ((first | (refine br_yes (by omega) ?_) | (refine br_no (by omega) ?_) | (apply br_all; (· simp only [Bool.and_eq_true, decide_eq_true_eq]; omega)) | (apply br_free; (· simp [go_sem, Pm.acc, Acc.free, refsOf, offOf, keyEq, tagEq, cellsEq, cellEq]; done)) | ((first | apply br_mergeT | apply br_mergeF); (· intro h; simp only [go_sem, simprocAttr, sel_of h, decaniref06_Dark, hA, told]; exact rfl))); (try simp only [go_sem, simprocAttr, decaniref06_Dark, hA, told])) | ((first | apply onGuard_sel | (apply pickV_split; apply br_split) | apply br_split) <;> intro h <;> (try simp only [go_sem, simprocAttr, h, decaniref06_Dark, hA, told]))))
  | true =>
    have hA := rasked_ask (Γ := Γ) b hv
    rcases Bool.eq_false_or_eq_true (within day 0 (b.days.length - 1)) with hk | hk
    rotate_left
    · (simp only [go_sem, simprocAttr, decaniref06_Dark, hA, hk, told, Bool.false_and, Bool.false_eq_true]; repeat' (first | ((first | (refine br_yes (by omega) ?_) | (refine br_no (by omega) ?_) | (apply br_all; (· simp only [Bool.and_eq_true, decide_eq_true_eq]; omega)) | (apply br_free; (· simp [go_sem, Pm.acc, Acc.free, refsOf, offOf, keyEq, tagEq, cellsEq, cellEq]; done)) | ((first | apply br_mergeT | apply br_mergeF); (· intro h; simp only [go_sem, simprocAttr, sel_of h, decaniref06_Dark, hA, hk, told, Bool.false_and, Bool.false_eq_true]; exact rfl))); (try simp only [go_sem, simprocAttr, decaniref06_Dark, hA, hk, told, Bool.false_and, Bool.false_eq_true])) | ((first | apply onGuard_sel | (apply pickV_split; apply br_split) | apply br_split) <;> intro h <;> (try simp only [go_sem, simprocAttr, h, decaniref06_Dark, hA, hk, told, Bool.false_and, Bool.false_eq_true]))))
    · have hd' := (within_iff _ _ _).1 hk
      by_cases ht : b.truths [] = []
      · have hN := rasked_no (Γ := Γ) b hv ht
        (simp only [go_sem, simprocAttr, decaniref06_Dark, hN, hk, told, ht]; repeat' (first | ((first | (refine br_yes (by omega) ?_) | (refine br_no (by omega) ?_) | (apply br_all; (· simp only [Bool.and_eq_true, decide_eq_true_eq]; omega)) | (apply br_free; (· simp [go_sem, Pm.acc, Acc.free, refsOf, offOf, keyEq, tagEq, cellsEq, cellEq]; done)) | ((first | apply br_mergeT | apply br_mergeF); (· intro h; simp only [go_sem, simprocAttr, sel_of h, decaniref06_Dark, hN, hk, told, ht]; exact rfl))); (try simp only [go_sem, simprocAttr, decaniref06_Dark, hN, hk, told, ht])) | ((first | apply onGuard_sel | (apply pickV_split; apply br_split) | apply br_split) <;> intro h <;> (try simp only [go_sem, simprocAttr, h, decaniref06_Dark, hN, hk, told, ht]))))
      · have hN := rasked_ok (Γ := Γ) b hv ht
        have hs := sane_of_valid hv
        obtain ⟨L, hLe⟩ : ∃ L, b.rT 0 0 = L := ⟨_, rfl⟩
        have hlen := rT_len hs (.inl rfl) 0
        have hne := (rT_0 hs (.inl rfl)).2 ht
        rw [hLe] at hlen hne
        have hE := ends_k (Γ := Γ) (kF L) (L.map fun t => dkOf t.1 day.toNat) (by simpa using hne) (by rw [List.length_map]; omega)
        have he := dark_eq hs (but := 0) (day := day) (by rw [exc_zero]; exact ht) hd'.1 (by omega)
        rw [exc_zero, hLe] at he
        rw [he] at hE
        have hall : ∀ t, t ∈ L → t.1.length = b.days.length := fun t h => (rT_ok hs (.inl rfl) (by rw [hLe]; exact h)).1
        obtain ⟨c1, hc1⟩ : ∃ c, tC b 1 = c := ⟨_, rfl⟩
        have hu : ∀ n, C.under n c1 = true := fun n => by rw [← hc1]; rfl
        have hLp {β : Type} (z z2 : Obj) (hz : z.under 3 = true) (hz2 : z2.under 3 = true) (Q : Ex → St → Option β) : E Γ decaniref06_Dark_L0 ⟨[(1, vi day), (4, .sc (.ptr 1 0)), (6, .sc (.ptr 2 0)), (8, .sc (.sl .full 1 [])), (9, vi 0)], [z, z2, .var [.sl (kS L) 3 (L.map encT), c1]]⟩ Q =
            Q (.exit 0) ⟨[(1, vi day), (4, .sc (.ptr 1 0)), (6, .sc (.ptr 2 0)), (8, .sc (ownF 1 ((L.map fun t => dkOf t.1 day.toNat).map fun x => [ci x]))), (9, vi L.length), (27, vb false)], [z, z2, .var [.sl (kS L) 3 (L.map encT), c1]]⟩ := by
          refine E_countS L.length (fun i (_ : Unit) => ⟨[(1, vi day), (4, .sc (.ptr 1 0)), (6, .sc (.ptr 2 0)), (8, .sc (ownF 1 (((L.take i).map fun t => dkOf t.1 day.toNat).map fun x => [ci x]))), (9, vi i)], [z, z2, .var [.sl (kS L) 3 (L.map encT), c1]]⟩) (fun _ _ => True)
            (fun _ => (.exit 0, ⟨[(1, vi day), (4, .sc (.ptr 1 0)), (6, .sc (.ptr 2 0)), (8, .sc (ownF 1 ((L.map fun t => dkOf t.1 day.toNat).map fun x => [ci x]))), (9, vi L.length), (27, vb false)], [z, z2, .var [.sl (kS L) 3 (L.map encT), c1]]⟩)) () rfl trivial ?_ ?_ ?_
          · intro i _ hi _
            refine ⟨(), trivial, ?_⟩
            obtain ⟨t, htt⟩ : ∃ t, L[i]? = some t := ⟨_, List.getElem?_eq_getElem hi⟩
            have htl := hall t (List.mem_of_getElem? htt)
            have hlt := decide_eq_true (show (i : Int) < L.length by omega)
            have hiw : IntKind.i64.wrap ((i : Int) + 1) = i + 1 := wrap_i64 (by omega) (by omega)
            have htk : L.take (i + 1) = L.take i ++ [t] := by rw [List.take_succ, htt]; rfl
            have hg : t.1[day.toNat]? = some (dkOf t.1 day.toNat) := by simp only [dkOf, List.getD, List.getElem?_eq_getElem (show day.toNat < t.1.length by omega), Option.getD_some]
            have hA := appended_ownF 1 .full (((L.take i).map fun t => dkOf t.1 day.toNat).map fun x => [ci x]) [ci (dkOf t.1 day.toNat)] (by simp only [List.length_map, List.length_take, room]; omega)
            have hen : encT t = [.sl .shared 1 (t.1.map fun x => [ci x]), ci t.2.1, ci t.2.2] := rfl
            rw [htk, List.map_append, List.map_append, List.map_cons, List.map_nil, List.map_cons, List.map_nil, ownF_app]
            (simp only [go_sem, simprocAttr, decaniref06_Dark_B0, hu, htt, hen, hg, hlt, hiw, hA, hz, hz2]; repeat' (first | ((first | (refine br_yes (by omega) ?_) | (refine br_no (by omega) ?_) | (apply br_all; (· simp only [Bool.and_eq_true, decide_eq_true_eq]; omega)) | (apply br_free; (· simp [go_sem, Pm.acc, Acc.free, refsOf, offOf, keyEq, tagEq, cellsEq, cellEq]; done)) | ((first | apply br_mergeT | apply br_mergeF); (· intro h; simp only [go_sem, simprocAttr, sel_of h, decaniref06_Dark_B0, hu, htt, hen, hg, hlt, hiw, hA, hz, hz2]; exact rfl))); (try simp only [go_sem, simprocAttr, decaniref06_Dark_B0, hu, htt, hen, hg, hlt, hiw, hA, hz, hz2])) | ((first | apply onGuard_sel | (apply pickV_split; apply br_split) | apply br_split) <;> intro h <;> (try simp only [go_sem, simprocAttr, h, decaniref06_Dark_B0, hu, htt, hen, hg, hlt, hiw, hA, hz, hz2]))))
            rfl
          · intro _ _
            have hlt := decide_eq_false (show ¬ (L.length : Int) < L.length by omega)
            rw [List.take_length]
            (simp only [go_sem, simprocAttr, decaniref06_Dark_B0, hlt]; repeat' (first | ((first | (refine br_yes (by omega) ?_) | (refine br_no (by omega) ?_) | (apply br_all; (· simp only [Bool.and_eq_true, decide_eq_true_eq]; omega)) | (apply br_free; (· simp [go_sem, Pm.acc, Acc.free, refsOf, offOf, keyEq, tagEq, cellsEq, cellEq]; done)) | ((first | apply br_mergeT | apply br_mergeF); (· intro h; simp only [go_sem, simprocAttr, sel_of h, decaniref06_Dark_B0, hlt]; exact rfl))); (try simp only [go_sem, simprocAttr, decaniref06_Dark_B0, hlt])) | ((first | apply onGuard_sel | (apply pickV_split; apply br_split) | apply br_split) <;> intro h <;> (try simp only [go_sem, simprocAttr, h, decaniref06_Dark_B0, hlt]))))
          · intro _ _
            rfl
        rw [hc1] at hN
        simp only [tC, hLe] at hN
        have hp1 : c1.pure = true ∧ unown c1 = c1 := by rw [← hc1]; exact ⟨rfl, rfl⟩
        (simp only [go_sem, simprocAttr, decaniref06_Dark, hN, hk, told, ht, hLp, unown_ownF, kF_map, hE, hp1.1, hp1.2, hu]; repeat' (first | ((first | (refine br_yes (by omega) ?_) | (refine br_no (by omega) ?_) | (apply br_all; (· simp only [Bool.and_eq_true, decide_eq_true_eq]; omega)) | (apply br_free; (· simp [go_sem, Pm.acc, Acc.free, refsOf, offOf, keyEq, tagEq, cellsEq, cellEq]; done)) | ((first | apply br_mergeT | apply br_mergeF); (· intro h; simp only [go_sem, simprocAttr, sel_of h, decaniref06_Dark, hN, hk, told, ht, hLp, unown_ownF, kF_map, hE, hp1.1, hp1.2, hu]; exact rfl))); (try simp only [go_sem, simprocAttr, decaniref06_Dark, hN, hk, told, ht, hLp, unown_ownF, kF_map, hE, hp1.1, hp1.2, hu])) | ((first | apply onGuard_sel | (apply pickV_split; apply br_split) | apply br_split) <;> intro h <;> (try simp only [go_sem, simprocAttr, h, decaniref06_Dark, hN, hk, told, ht, hLp, unown_ownF, kF_map, hE, hp1.1, hp1.2, hu]))))
end
end Go.Pm.Cd

namespace Go.Pm.Cd
open Ac
set_option maxRecDepth 100000
set_option linter.unusedSimpArgs false
section
variable {Γ : Env} [P06 Γ] [G06 Γ]
theorem CandleLefts_k (b : Book) [hb : b.Fits] (n0 n1 : Int) : K Γ (.fn 87) [.agg b.c, .agg [ci n0, ci n1]] [] = some (vb true, []) := by
  rw [K_fn P06.f87 _ _ rfl]
  (simp only [go_sem, simprocAttr, decanilaw06_CandleLefts, eq_self, decide_true, beq_self_eq_true]; repeat' (first | ((first | (refine br_yes (by omega) ?_) | (refine br_no (by omega) ?_) | (apply br_all; (· simp only [Bool.and_eq_true, decide_eq_true_eq]; omega)) | (apply br_free; (· simp [go_sem, Pm.acc, Acc.free, refsOf, offOf, keyEq, tagEq, cellsEq, cellEq]; done)) | ((first | apply br_mergeT | apply br_mergeF); (· intro h; simp only [go_sem, simprocAttr, sel_of h, decanilaw06_CandleLefts, eq_self, decide_true, beq_self_eq_true]; exact rfl))); (try simp only [go_sem, simprocAttr, decanilaw06_CandleLefts, eq_self, decide_true, beq_self_eq_true])) | ((first | apply onGuard_sel | (apply pickV_split; apply br_split) | apply br_split) <;> intro h <;> (try simp only [go_sem, simprocAttr, h, decanilaw06_CandleLefts, eq_self, decide_true, beq_self_eq_true]))))
end
end Go.Pm.Cd

namespace Go.Proofs.YtdndhpoinffpbaaDoor
open Go Go.Pm Go.Pm.Cd Go.ChangeShapes Go.WideShapes Go.ChangeAt Go.RowKit
set_option maxRecDepth 100000

theorem lifted (os : Os) (started : os.Started) (H : Type) (enc : TypeId × Value → H) :
    ReturnsInHanded {} Tryd.checked os 3 .any (fun w args => (Rows.candleLeftsSpec.pre enc Tryd.prog Tryd.f3 [] false w args ∧ laidMetH Tryd.prog laidL w) ∧ sizedMet enc Tryd.prog Tryd.f3 (OpenSpec.ofChange Rows.candleLeftsSpec) false w args)
      (Rows.candleLeftsSpec.post enc Tryd.prog Tryd.f3 false true false false) := by
  refine returnsInHanded_of_change_and (C := Tryd.checked) (X := fun w _ => laidMetH Tryd.prog laidL w) (fun _ _ _ hh h => h.of_heap hh) own started (by kernel_rfl) Tryd.func3
    (ChangeSpec.witness_shaped (enc := enc) (C := Tryd.checked) (os := os) (X := fun w _ => laidMetH Tryd.prog laidL w) false (World.doorLaid Tryd.prog 600 os) #[.agg #[.int .i64 0, .int .i64 0, .int .i64 0, .int .i64 0, .int .i64 0, .int .i64 0, .int .i64 0, .int .i64 0, .slice none 0 0, .slice none 0 0, .slice none 0 0], .agg #[.int .i64 0, .int .i64 0]] 8 rfl (World.shaped_of_RefB (by kernel_rfl) (by kernel_rfl)) (by kernel_rfl) (by kernel_rfl) (by kernel_rfl) (door_met os _)) ?_
  intro W base args ds gs before hval hW _ _ hL _
  refine law_contract (S := S1) (G := G1) (id := 87) (tb := 4) (base := base) seat_ok 8 [bookT, (T.st [i1, i1])] (by kernel_rfl) (by kernel_rfl) laidOut (by kernel_rfl) (by kernel_rfl) rfl ?_ ?_ hval hW (globs hL)
  · intro ds hd
    match ds, hd with
    | [d0, d1], _ => rfl
  · show ∀ vs, HasVs [bookT, (T.st [i1, i1])] vs → K Γ1 (.fn 87) vs [] = some (.sc (.bool true), [])
    intro vs hvs
    simp only [HasVs] at hvs
    obtain ⟨v0, r0, rfl, h0, v1, r1, rfl, h1, rfl⟩ := hvs
    obtain ⟨b, rfl, hb⟩ := book_of _ h0
    haveI := hb
    obtain ⟨n0, n1, rfl⟩ := ints2_of _ h1
    exact CandleLefts_k (Γ := Γ1) b n0 n1

theorem row_holds : Rows.CandleLeftsSaid :=
  OpenClaim.holds_of_wide 3 Tryd.f3 rfl rfl rfl rfl rfl rfl rfl ⟨rfl, rfl, rfl, rfl, rfl⟩ rfl rfl rfl rfl rfl (by kernel_rfl) Tryd.func3 (by kernel_rfl)
    (of_decide_eq_true (by kernel_rfl)) (by unfold Func.isWrapper; first | (rw [if_pos (by decide +kernel)]; kernel_rfl) | (rw [if_neg (by decide +kernel)]; exact ⟨rfl, rfl⟩))
    (fun os started H enc _ => lifted os started H enc)

theorem candleLefts_card_holds : Rows.CandleLeftsCardSaid :=
  Claim7.holds_tied_plain_at .later [] [.data, .funcs] true (true, "60d50f35f64f42411113777cba31078ec0ca6d528e83348940a62dd418a71482") false
    row_holds (fun _ h => by cases h) (by kernel_rfl) (fun _ h => by cases h) candleLefts_row_tie rfl ⟨rfl, rfl⟩ (by kernel_rfl) rfl
    (fun f fn hf hfn => by
      obtain rfl : f = 3 := Option.some.inj ((show Tryd.prog.funcNamed "decani/decanilaw06.CandleLefts" = some 3 by kernel_rfl).symm.trans hf) |>.symm
      obtain rfl : fn = Tryd.f3 := (Option.some.inj (Tryd.func3.symm.trans hfn)).symm
      exact ⟨by kernel_rfl, fun j t ht => by
        have hp : Tryd.f3.params = #[29, 30] := by kernel_rfl
        rw [hp] at ht
        have hm : t ∈ ([29, 30] : List TypeId) := by simpa using Array.mem_of_getElem? ht
        have hall : (([29, 30] : List TypeId).all fun u => !Tryd.prog.wantsStandIn u) = true := by kernel_rfl
        exact (show Tryd.prog.wantsStandIn t = false by simpa using List.all_eq_true.1 hall t hm)⟩)
    (by kernel_rfl)
#print axioms candleLefts_card_holds
end Go.Proofs.YtdndhpoinffpbaaDoor
