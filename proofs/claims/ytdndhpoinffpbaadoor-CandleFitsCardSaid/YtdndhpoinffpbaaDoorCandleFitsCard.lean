/- The statement CandleFits: whatever its arguments, the call returns true, and each argument reads as before. No condition beside the row's own. -/
import Derived.Test.YtdndhpoinffpbaaDoorCandleFitsL5
set_option linter.all false
namespace Go.Pm.Cd
open Ac
set_option maxRecDepth 100000
set_option linter.unusedSimpArgs false
set_option linter.unusedSectionVars false
set_option linter.unusedVariables false

def dkC (s : List Int) : List C := [.sl .shared 1 (s.map fun x => [ci x])]
def Book.darksF (b : Book) : Nat → List Int → List (List Int)
  | 0, s => [s]
  | j + 1, s => match b.days[s.length]? with
    | some x => (List.range (x.dark.hi - x.dark.lo + 1).toNat).flatMap fun (i : Nat) => b.darksF j (s ++ [x.dark.lo + (i : Int)])
    | none => []
theorem darksF_len {b : Book} (hv : b.sane = true) : ∀ (j : Nat) (s : List Int), (b.darksF j s).length ≤ 3 ^ j
  | 0, s => by simp [Book.darksF]
  | j + 1, s => by
    simp only [Book.darksF]
    cases hx : b.days[s.length]? with
    | none => simp
    | some x =>
      have hxd := (valid_day hv hx).2.1
      refine Nat.le_trans (flatMap_length_le _ (3 ^ j) _ (fun i _ => darksF_len hv j _)) ?_
      rw [List.length_range, Nat.pow_succ, Nat.mul_comm (3 ^ j) 3]
      exact Nat.mul_le_mul_right _ (by omega)
theorem darksF_mem {b : Book} : ∀ (j : Nat) (s t : List Int), s.length + j = b.days.length → (t ∈ b.darksF j s ↔ ∃ u, t = s ++ u ∧ u.length = j ∧ ∀ (d : Nat) (x : Day) (v : Int), b.days[s.length + d]? = some x → u[d]? = some v → x.dark.has v)
  | 0, s, t, h => by
    simp only [Book.darksF, List.mem_singleton]
    constructor
    · rintro rfl; exact ⟨[], by simp, rfl, fun d x v _ hv => by simp at hv⟩
    · rintro ⟨u, rfl, hu, -⟩; rw [List.length_eq_zero_iff.1 hu, List.append_nil]
  | j + 1, s, t, h => by
    obtain ⟨x, hx⟩ : ∃ x, b.days[s.length]? = some x := ⟨_, List.getElem?_eq_getElem (by omega)⟩
    simp only [Book.darksF, hx, List.mem_flatMap, List.mem_range]
    constructor
    · rintro ⟨i, hi, ht⟩
      rw [darksF_mem j _ t (by simp; omega)] at ht
      obtain ⟨u, rfl, hu, hall⟩ := ht
      refine ⟨(x.dark.lo + (i : Int)) :: u, by simp, by simp [hu], ?_⟩
      intro d y v hy hv
      cases d with
      | zero =>
        simp only [Nat.add_zero] at hy
        simp only [List.getElem?_cons_zero, Option.some.injEq] at hv
        rw [hx] at hy; cases hy; subst hv
        exact ⟨by omega, by omega⟩
      | succ d =>
        refine hall d y v ?_ (by simpa using hv)
        rw [List.length_append, List.length_singleton, ← hy]; congr 1; omega
    · rintro ⟨u, rfl, hu, hall⟩
      cases u with
      | nil => simp at hu
      | cons v u =>
        have h0 := hall 0 x v (by simpa using hx) rfl
        have h1 := h0.1; have h2 := h0.2
        refine ⟨(v - x.dark.lo).toNat, by omega, ?_⟩
        have e : x.dark.lo + ((v - x.dark.lo).toNat : Int) = v := by omega
        rw [e, darksF_mem j _ _ (by simp; omega)]
        refine ⟨u, by simp, by simpa using hu, fun d y w hy hw => hall (d + 1) y w ?_ (by simpa using hw)⟩
        rw [List.length_append, List.length_singleton] at hy
        rw [← hy]; congr 1; omega
def dkK (b : Book) (j : Nat) (s : List Int) : SK := if j = 0 then .full else kS (b.darksF j s)

section
variable {Γ : Env} [P06 Γ] [G06 Γ]
theorem rdarks_k (b : Book) [hb : b.Fits] (hv : b.sane = true) : ∀ (j : Nat) (s : List Int) (k : SK), s.length + j = b.days.length → (j = 0 → k = .shared) →
    K Γ (.fn 71) [.agg b.c, .sc (.sl k 1 (s.map fun x => [ci x]))] [] = some (.sc (.sl (dkK b j s) 1 ((b.darksF j s).map dkC)), [])
  | 0, s, k, h, hk => by
    have hvd := valid_days hv
    have d1 : decide ((s.length : Int) = b.days.length) = true := decide_eq_true (by omega)
    have hk' := hk rfl
    subst hk'
    rw [K_fn P06.f71 _ _ rfl]
    (simp only [go_sem, simprocAttr, decaniref06_darks, d1, Book.darksF, dkK, dkC, List.map_cons, List.map_nil]; repeat' (first | ((first | (refine br_yes (by omega) ?_) | (refine br_no (by omega) ?_) | (apply br_all; (· simp only [Bool.and_eq_true, decide_eq_true_eq]; omega)) | (apply br_free; (· simp [go_sem, Pm.acc, Acc.free, refsOf, offOf, keyEq, tagEq, cellsEq, cellEq]; done)) | ((first | apply br_mergeT | apply br_mergeF); (· intro h; simp only [go_sem, simprocAttr, sel_of h, decaniref06_darks, d1, Book.darksF, dkK, dkC, List.map_cons, List.map_nil]; exact rfl))); (try simp only [go_sem, simprocAttr, decaniref06_darks, d1, Book.darksF, dkK, dkC, List.map_cons, List.map_nil])) | ((first | apply onGuard_sel | (apply pickV_split; apply br_split) | apply br_split) <;> intro h <;> (try simp only [go_sem, simprocAttr, h, decaniref06_darks, d1, Book.darksF, dkK, dkC, List.map_cons, List.map_nil]))))
  | j + 1, s, k, h, hk => by
    have hvd := valid_days hv
    have d1 : decide ((s.length : Int) = b.days.length) = false := decide_eq_false (by omega)
    obtain ⟨x, hx⟩ : ∃ x, b.days[s.length]? = some x := ⟨_, List.getElem?_eq_getElem (by omega)⟩
    have hvx := (valid_day hv hx).2.1
    have hj5 : j < 5 := by omega
    have h243 : (3 : Nat) ^ j ≤ 81 := by
      have : j = 0 ∨ j = 1 ∨ j = 2 ∨ j = 3 ∨ j = 4 := by omega
      rcases this with e | e | e | e | e <;> rw [e] <;> decide
    let F : Nat → List (List Int) := fun i => (List.range i).flatMap fun (i : Nat) => b.darksF j (s ++ [x.dark.lo + (i : Int)])
    have hF (i : Nat) : F (i + 1) = F i ++ b.darksF j (s ++ [x.dark.lo + (i : Int)]) := by simp only [F, List.range_succ, List.flatMap_append, List.flatMap_cons, List.flatMap_nil, List.append_nil]
    have hFl (i : Nat) (hi : i ≤ 3) : (F i).length ≤ 243 := by
      refine Nat.le_trans (flatMap_length_le _ (3 ^ j) _ (fun i _ => darksF_len hv j _)) ?_
      rw [List.length_range]
      exact Nat.le_trans (Nat.mul_le_mul hi h243) (by decide)
    have hL {β : Type} (Q : Ex → St → Option β) : E Γ decaniref06_darks_L0 ⟨[(1, .sc (.sl k 1 (s.map fun x => [ci x]))), (2, .sc (.ptr 0 0)), (5, .sc (.sl .nil 1 [])), (6, .sc (.ptr 1 0)), (7, vi x.dark.lo)], [.var b.c, .var [ci x.dark.lo, ci x.dark.hi]]⟩ Q =
        Q (.exit 0) ⟨[(1, .sc (.sl k 1 (s.map fun x => [ci x]))), (2, .sc (.ptr 0 0)), (5, .sc (ownC 1 ((b.darksF (j + 1) s).map dkC))), (6, .sc (.ptr 1 0)), (7, vi (x.dark.hi + 1)), (28, vb false)], [.var b.c, .var [ci x.dark.lo, ci x.dark.hi]]⟩ := by
      have hfin : b.darksF (j + 1) s = F (x.dark.hi - x.dark.lo + 1).toNat := by simp only [Book.darksF, hx, F]
      rw [hfin]
      refine E_countS (x.dark.hi - x.dark.lo + 1).toNat (fun i (_ : Unit) => ⟨[(1, .sc (.sl k 1 (s.map fun x => [ci x]))), (2, .sc (.ptr 0 0)), (5, .sc (ownC 1 ((F i).map dkC))), (6, .sc (.ptr 1 0)), (7, vi (x.dark.lo + (i : Nat)))], [.var b.c, .var [ci x.dark.lo, ci x.dark.hi]]⟩) (fun _ _ => True)
        (fun _ => (.exit 0, ⟨[(1, .sc (.sl k 1 (s.map fun x => [ci x]))), (2, .sc (.ptr 0 0)), (5, .sc (ownC 1 ((F (x.dark.hi - x.dark.lo + 1).toNat).map dkC))), (6, .sc (.ptr 1 0)), (7, vi (x.dark.hi + 1)), (28, vb false)], [.var b.c, .var [ci x.dark.lo, ci x.dark.hi]]⟩)) () ?_ trivial ?_ ?_ ?_
      · simp [F, ownC]
      · intro i _ hi _
        refine ⟨(), trivial, ?_⟩
        have hlt := decide_eq_true (show x.dark.lo + (i : Int) ≤ x.dark.hi by omega)
        have hiw : IntKind.i64.wrap (x.dark.lo + (i : Int) + 1) = x.dark.lo + (i + 1 : Nat) := by rw [wrap_i64 (by omega) (by omega)]; omega
        have hW := With_k (Γ := Γ) k s (x.dark.lo + (i : Int)) (by omega)
        have ih := rdarks_k b hv j (s ++ [x.dark.lo + (i : Int)]) .shared (by simp; omega) (fun _ => rfl)
        have hl1 := hFl i (by omega)
        have hl2 := darksF_len hv j (s ++ [x.dark.lo + (i : Int)])
        have hA := appended_ownC_app 1 ((F i).map dkC) ((b.darksF j (s ++ [x.dark.lo + (i : Int)])).map dkC) (dkK b j (s ++ [x.dark.lo + (i : Int)])) (by simp only [List.length_map, room]; omega)
        rw [hF, List.map_append]
        (simp only [go_sem, simprocAttr, decaniref06_darks_B0, hlt, hiw, hW, ih, hA]; repeat' (first | ((first | (refine br_yes (by omega) ?_) | (refine br_no (by omega) ?_) | (apply br_all; (· simp only [Bool.and_eq_true, decide_eq_true_eq]; omega)) | (apply br_free; (· simp [go_sem, Pm.acc, Acc.free, refsOf, offOf, keyEq, tagEq, cellsEq, cellEq]; done)) | ((first | apply br_mergeT | apply br_mergeF); (· intro h; simp only [go_sem, simprocAttr, sel_of h, decaniref06_darks_B0, hlt, hiw, hW, ih, hA]; exact rfl))); (try simp only [go_sem, simprocAttr, decaniref06_darks_B0, hlt, hiw, hW, ih, hA])) | ((first | apply onGuard_sel | (apply pickV_split; apply br_split) | apply br_split) <;> intro h <;> (try simp only [go_sem, simprocAttr, h, decaniref06_darks_B0, hlt, hiw, hW, ih, hA]))))
      · intro _ _
        have hm : x.dark.lo + ((x.dark.hi - x.dark.lo + 1).toNat : Int) = x.dark.hi + 1 := by omega
        have hlt := decide_eq_false (show ¬ x.dark.hi + 1 ≤ x.dark.hi by omega)
        simp only [hm]
        (simp only [go_sem, simprocAttr, decaniref06_darks_B0, hlt]; repeat' (first | ((first | (refine br_yes (by omega) ?_) | (refine br_no (by omega) ?_) | (apply br_all; (· simp only [Bool.and_eq_true, decide_eq_true_eq]; omega)) | (apply br_free; (· simp [go_sem, Pm.acc, Acc.free, refsOf, offOf, keyEq, tagEq, cellsEq, cellEq]; done)) | ((first | apply br_mergeT | apply br_mergeF); (· intro h; simp only [go_sem, simprocAttr, sel_of h, decaniref06_darks_B0, hlt]; exact rfl))); (try simp only [go_sem, simprocAttr, decaniref06_darks_B0, hlt])) | ((first | apply onGuard_sel | (apply pickV_split; apply br_split) | apply br_split) <;> intro h <;> (try simp only [go_sem, simprocAttr, h, decaniref06_darks_B0, hlt]))))
      · intro _ _
        rfl
    have hkk : dkK b (j + 1) s = kS (b.darksF (j + 1) s) := by simp [dkK]
    rw [hkk]
    rw [K_fn P06.f71 _ _ rfl]
    (simp only [go_sem, simprocAttr, decaniref06_darks, d1, hx, hL, unown_ownC_kS, kS_map]; repeat' (first | ((first | (refine br_yes (by omega) ?_) | (refine br_no (by omega) ?_) | (apply br_all; (· simp only [Bool.and_eq_true, decide_eq_true_eq]; omega)) | (apply br_free; (· simp [go_sem, Pm.acc, Acc.free, refsOf, offOf, keyEq, tagEq, cellsEq, cellEq]; done)) | ((first | apply br_mergeT | apply br_mergeF); (· intro h; simp only [go_sem, simprocAttr, sel_of h, decaniref06_darks, d1, hx, hL, unown_ownC_kS, kS_map]; exact rfl))); (try simp only [go_sem, simprocAttr, decaniref06_darks, d1, hx, hL, unown_ownC_kS, kS_map])) | ((first | apply onGuard_sel | (apply pickV_split; apply br_split) | apply br_split) <;> intro h <;> (try simp only [go_sem, simprocAttr, h, decaniref06_darks, d1, hx, hL, unown_ownC_kS, kS_map]))))

/-! ### The truths of a kind -/
def tOk (b : Book) (k : Int) (dark : List Int) (but n f : Int) : Bool := rightR b k (leftsR b k n f dark b.days.length) but
abbrev RT3 := List Int × Int × Int
def encT (t : RT3) : List C := [.sl .shared 1 (t.1.map fun x => [ci x]), ci t.2.1, ci t.2.2]
def rowN (b : Book) (k : Int) (dark : List Int) (but n : Int) (j : Nat) : List RT3 := ((List.range j).filter fun (i : Nat) => tOk b k dark but n ((b.life k).lo + (i : Int))).map fun (i : Nat) => (dark, n, (b.life k).lo + (i : Int))
def lifeN (b : Book) (k : Int) : Nat := ((b.life k).hi - (b.life k).lo + 1).toNat
def stockN (b : Book) (k : Int) : Nat := ((b.stock k).hi - (b.stock k).lo + 1).toNat
def kindN (b : Book) (k : Int) (dark : List Int) (but : Int) (i : Nat) : List RT3 := (List.range i).flatMap fun (i : Nat) => rowN b k dark but ((b.stock k).lo + (i : Int)) (lifeN b k)
def kindT (b : Book) (k : Int) (dark : List Int) (but : Int) : List RT3 := kindN b k dark but (stockN b k)
theorem rowN_succ (b : Book) (k : Int) (dark : List Int) (but n : Int) (j : Nat) : rowN b k dark but n (j + 1) = if tOk b k dark but n ((b.life k).lo + (j : Int)) then rowN b k dark but n j ++ [(dark, n, (b.life k).lo + (j : Int))] else rowN b k dark but n j := by
  simp only [rowN, List.range_succ, List.filter_append, List.map_append]
  cases h : tOk b k dark but n ((b.life k).lo + (j : Int)) <;> simp [h]
theorem kindN_succ (b : Book) (k : Int) (dark : List Int) (but : Int) (i : Nat) : kindN b k dark but (i + 1) = kindN b k dark but i ++ rowN b k dark but ((b.stock k).lo + (i : Int)) (lifeN b k) := by
  simp only [kindN, List.range_succ, List.flatMap_append, List.flatMap_cons, List.flatMap_nil, List.append_nil]
theorem rowN_len (b : Book) (k : Int) (dark : List Int) (but n : Int) (j : Nat) : (rowN b k dark but n j).length ≤ j := by
  simp only [rowN, List.length_map]
  exact Nat.le_trans (List.length_filter_le _ _) (by simp)
theorem kindN_len (b : Book) (k : Int) (dark : List Int) (but : Int) (i : Nat) : (kindN b k dark but i).length ≤ i * lifeN b k := by
  refine Nat.le_trans (flatMap_length_le _ (lifeN b k) _ (fun i _ => rowN_len ..)) ?_
  rw [List.length_range]; exact Nat.le_refl _
theorem spans_k {b : Book} (hv : b.sane = true) {k : Int} (hk : k = 0 ∨ k = 1) : (0 ≤ (b.stock k).lo ∧ (b.stock k).lo ≤ (b.stock k).hi ∧ (b.stock k).hi ≤ 60 ∧ (b.stock k).hi - (b.stock k).lo ≤ 2) ∧ (1 ≤ (b.life k).lo ∧ (b.life k).lo ≤ (b.life k).hi ∧ (b.life k).hi ≤ 6 ∧ (b.life k).hi - (b.life k).lo ≤ 1) := by
  have := valid_spans hv
  rcases hk with rfl | rfl
  · exact ⟨this.1, this.2.1⟩
  · exact ⟨this.2.2.1, this.2.2.2⟩

theorem rkind_L1 (b : Book) [hb : b.Fits] (hv : b.sane = true) {k : Int} (hk : k = 0 ∨ k = 1) (dark : List Int) (hdl : dark.length = b.days.length) (hdk : DarkOk b dark) (but n : Int) (hn : 0 ≤ n ∧ n ≤ 60) (L : List RT3) (hL : L.length ≤ 100) {β : Type} (Q : Ex → St → Option β) :
    E Γ decaniref06_kind_L1 ⟨[(1, vi k), (2, .sc (.sl .shared 1 (dark.map fun x => [ci x]))), (3, vi but), (4, .sc (.ptr 0 0)), (9, .sc (ownC 3 (L.map encT))), (10, vi n), (11, vi (b.life k).lo)], [.var b.c]⟩ Q =
      Q (.exit 2) ⟨[(1, vi k), (2, .sc (.sl .shared 1 (dark.map fun x => [ci x]))), (3, vi but), (4, .sc (.ptr 0 0)), (9, .sc (ownC 3 ((L ++ rowN b k dark but n (lifeN b k)).map encT))), (10, vi n), (11, vi ((b.life k).hi + 1)), (38, vb false)], [.var b.c]⟩ := by
  have hsp := spans_k hv hk
  have hvd := valid_days hv
  refine E_countS (lifeN b k) (fun i (_ : Unit) => ⟨[(1, vi k), (2, .sc (.sl .shared 1 (dark.map fun x => [ci x]))), (3, vi but), (4, .sc (.ptr 0 0)), (9, .sc (ownC 3 ((L ++ rowN b k dark but n i).map encT))), (10, vi n), (11, vi ((b.life k).lo + (i : Nat)))], [.var b.c]⟩) (fun _ _ => True)
    (fun _ => (.exit 2, ⟨[(1, vi k), (2, .sc (.sl .shared 1 (dark.map fun x => [ci x]))), (3, vi but), (4, .sc (.ptr 0 0)), (9, .sc (ownC 3 ((L ++ rowN b k dark but n (lifeN b k)).map encT))), (10, vi n), (11, vi ((b.life k).hi + 1)), (38, vb false)], [.var b.c]⟩)) () ?_ trivial ?_ ?_ ?_
  · simp [rowN]
  · intro i _ hi _
    refine ⟨(), trivial, ?_⟩
    simp only [lifeN] at hi
    have hlt := decide_eq_true (show (b.life k).lo + (i : Int) ≤ (b.life k).hi by omega)
    have hiw : IntKind.i64.wrap ((b.life k).lo + (i : Int) + 1) = (b.life k).lo + (i + 1 : Nat) := by rw [wrap_i64 (by omega) (by omega)]; omega
    have hlf := rlefts_k (Γ := Γ) b hv k ((b.life k).lo + (i : Int)) n .shared dark hdl hdk hk hn (by omega)
    have hd6 := darkOk_6 hv hdk (by omega)
    have hrt := rright_k (Γ := Γ) b hv k (kF (leftsR b k n ((b.life k).lo + (i : Int)) dark b.days.length)) (leftsR b k n ((b.life k).lo + (i : Int)) dark b.days.length) (leftsR_len ..) (fun v hv' => by
      simp only [leftsR, List.mem_map, List.mem_range] at hv'
      obtain ⟨d, hd, rfl⟩ := hv'
      have := runK_bound hv (dk := dkOf dark) hk hn (show 1 ≤ (b.life k).lo + (i : Int) ∧ (b.life k).lo + (i : Int) ≤ 6 by omega) hd6 (d + 1)
      omega) but
    have hrl := rowN_len b k dark but n i
    have hA := appended_ownC 3 ((L ++ rowN b k dark but n i).map encT) .full (encT (dark, n, (b.life k).lo + (i : Int))) (by simp only [List.length_map, List.length_append, room]; omega)
    rw [rowN_succ]
    obtain ⟨v, hvv⟩ : ∃ v, tOk b k dark but n ((b.life k).lo + (i : Int)) = v := ⟨_, rfl⟩
    have hrt2 := hvv
    simp only [tOk] at hrt2
    rw [hrt2] at hrt
    rw [hvv]
    cases v with
    | true =>
      rw [if_pos rfl, ← List.append_assoc, List.map_append (l₁ := L ++ rowN b k dark but n i), List.map_cons, List.map_nil]
      simp only [encT] at hA ⊢
      rcases hk with rfl | rfl
      · simp only [Book.life, reduceIte] at hlt hiw hlf hrt hA ⊢
        (simp only [go_sem, simprocAttr, decaniref06_kind_B1, hlt, hiw, hlf, hrt, hA]; repeat' (first | ((first | (refine br_yes (by omega) ?_) | (refine br_no (by omega) ?_) | (apply br_all; (· simp only [Bool.and_eq_true, decide_eq_true_eq]; omega)) | (apply br_free; (· simp [go_sem, Pm.acc, Acc.free, refsOf, offOf, keyEq, tagEq, cellsEq, cellEq]; done)) | ((first | apply br_mergeT | apply br_mergeF); (· intro h; simp only [go_sem, simprocAttr, sel_of h, decaniref06_kind_B1, hlt, hiw, hlf, hrt, hA]; exact rfl))); (try simp only [go_sem, simprocAttr, decaniref06_kind_B1, hlt, hiw, hlf, hrt, hA])) | ((first | apply onGuard_sel | (apply pickV_split; apply br_split) | apply br_split) <;> intro h <;> (try simp only [go_sem, simprocAttr, h, decaniref06_kind_B1, hlt, hiw, hlf, hrt, hA]))))
      · simp only [Book.life, reduceIte, Int.reduceEq] at hlt hiw hlf hrt hA ⊢
        (simp only [go_sem, simprocAttr, decaniref06_kind_B1, hlt, hiw, hlf, hrt, hA]; repeat' (first | ((first | (refine br_yes (by omega) ?_) | (refine br_no (by omega) ?_) | (apply br_all; (· simp only [Bool.and_eq_true, decide_eq_true_eq]; omega)) | (apply br_free; (· simp [go_sem, Pm.acc, Acc.free, refsOf, offOf, keyEq, tagEq, cellsEq, cellEq]; done)) | ((first | apply br_mergeT | apply br_mergeF); (· intro h; simp only [go_sem, simprocAttr, sel_of h, decaniref06_kind_B1, hlt, hiw, hlf, hrt, hA]; exact rfl))); (try simp only [go_sem, simprocAttr, decaniref06_kind_B1, hlt, hiw, hlf, hrt, hA])) | ((first | apply onGuard_sel | (apply pickV_split; apply br_split) | apply br_split) <;> intro h <;> (try simp only [go_sem, simprocAttr, h, decaniref06_kind_B1, hlt, hiw, hlf, hrt, hA]))))
    | false =>
      rw [if_neg (by decide)]
      rcases hk with rfl | rfl
      · simp only [Book.life, reduceIte] at hlt hiw hlf hrt ⊢
        (simp only [go_sem, simprocAttr, decaniref06_kind_B1, hlt, hiw, hlf, hrt]; repeat' (first | ((first | (refine br_yes (by omega) ?_) | (refine br_no (by omega) ?_) | (apply br_all; (· simp only [Bool.and_eq_true, decide_eq_true_eq]; omega)) | (apply br_free; (· simp [go_sem, Pm.acc, Acc.free, refsOf, offOf, keyEq, tagEq, cellsEq, cellEq]; done)) | ((first | apply br_mergeT | apply br_mergeF); (· intro h; simp only [go_sem, simprocAttr, sel_of h, decaniref06_kind_B1, hlt, hiw, hlf, hrt]; exact rfl))); (try simp only [go_sem, simprocAttr, decaniref06_kind_B1, hlt, hiw, hlf, hrt])) | ((first | apply onGuard_sel | (apply pickV_split; apply br_split) | apply br_split) <;> intro h <;> (try simp only [go_sem, simprocAttr, h, decaniref06_kind_B1, hlt, hiw, hlf, hrt]))))
      · simp only [Book.life, reduceIte, Int.reduceEq] at hlt hiw hlf hrt ⊢
        (simp only [go_sem, simprocAttr, decaniref06_kind_B1, hlt, hiw, hlf, hrt]; repeat' (first | ((first | (refine br_yes (by omega) ?_) | (refine br_no (by omega) ?_) | (apply br_all; (· simp only [Bool.and_eq_true, decide_eq_true_eq]; omega)) | (apply br_free; (· simp [go_sem, Pm.acc, Acc.free, refsOf, offOf, keyEq, tagEq, cellsEq, cellEq]; done)) | ((first | apply br_mergeT | apply br_mergeF); (· intro h; simp only [go_sem, simprocAttr, sel_of h, decaniref06_kind_B1, hlt, hiw, hlf, hrt]; exact rfl))); (try simp only [go_sem, simprocAttr, decaniref06_kind_B1, hlt, hiw, hlf, hrt])) | ((first | apply onGuard_sel | (apply pickV_split; apply br_split) | apply br_split) <;> intro h <;> (try simp only [go_sem, simprocAttr, h, decaniref06_kind_B1, hlt, hiw, hlf, hrt]))))
  · intro _ _
    have hm : (b.life k).lo + ((lifeN b k : Nat) : Int) = (b.life k).hi + 1 := by simp only [lifeN]; omega
    have hlt := decide_eq_false (show ¬ (b.life k).hi + 1 ≤ (b.life k).hi by omega)
    simp only [hm]
    rcases hk with rfl | rfl
    · simp only [Book.life, reduceIte] at hlt ⊢
      (simp only [go_sem, simprocAttr, decaniref06_kind_B1, hlt]; repeat' (first | ((first | (refine br_yes (by omega) ?_) | (refine br_no (by omega) ?_) | (apply br_all; (· simp only [Bool.and_eq_true, decide_eq_true_eq]; omega)) | (apply br_free; (· simp [go_sem, Pm.acc, Acc.free, refsOf, offOf, keyEq, tagEq, cellsEq, cellEq]; done)) | ((first | apply br_mergeT | apply br_mergeF); (· intro h; simp only [go_sem, simprocAttr, sel_of h, decaniref06_kind_B1, hlt]; exact rfl))); (try simp only [go_sem, simprocAttr, decaniref06_kind_B1, hlt])) | ((first | apply onGuard_sel | (apply pickV_split; apply br_split) | apply br_split) <;> intro h <;> (try simp only [go_sem, simprocAttr, h, decaniref06_kind_B1, hlt]))))
    · simp only [Book.life, reduceIte, Int.reduceEq] at hlt ⊢
      (simp only [go_sem, simprocAttr, decaniref06_kind_B1, hlt]; repeat' (first | ((first | (refine br_yes (by omega) ?_) | (refine br_no (by omega) ?_) | (apply br_all; (· simp only [Bool.and_eq_true, decide_eq_true_eq]; omega)) | (apply br_free; (· simp [go_sem, Pm.acc, Acc.free, refsOf, offOf, keyEq, tagEq, cellsEq, cellEq]; done)) | ((first | apply br_mergeT | apply br_mergeF); (· intro h; simp only [go_sem, simprocAttr, sel_of h, decaniref06_kind_B1, hlt]; exact rfl))); (try simp only [go_sem, simprocAttr, decaniref06_kind_B1, hlt])) | ((first | apply onGuard_sel | (apply pickV_split; apply br_split) | apply br_split) <;> intro h <;> (try simp only [go_sem, simprocAttr, h, decaniref06_kind_B1, hlt]))))
  · intro _ _
    rfl

theorem rkind_L0 (b : Book) [hb : b.Fits] (hv : b.sane = true) {k : Int} (hk : k = 0 ∨ k = 1) (dark : List Int) (hdl : dark.length = b.days.length) (hdk : DarkOk b dark) (but : Int) {β : Type} (Q : Ex → St → Option β) :
    E Γ decaniref06_kind_L0 ⟨[(1, vi k), (2, .sc (.sl .shared 1 (dark.map fun x => [ci x]))), (3, vi but), (4, .sc (.ptr 0 0)), (9, .sc (.sl .nil 3 [])), (10, vi (b.stock k).lo)], [.var b.c]⟩ Q =
      Q (.exit 0) ⟨[(1, vi k), (2, .sc (.sl .shared 1 (dark.map fun x => [ci x]))), (3, vi but), (4, .sc (.ptr 0 0)), (9, .sc (ownC 3 ((kindT b k dark but).map encT))), (10, vi ((b.stock k).hi + 1)), (24, vb false)], [.var b.c]⟩ := by
  have hsp := spans_k hv hk
  have hvd := valid_days hv
  refine E_countS (stockN b k) (fun i (_ : Unit) => ⟨[(1, vi k), (2, .sc (.sl .shared 1 (dark.map fun x => [ci x]))), (3, vi but), (4, .sc (.ptr 0 0)), (9, .sc (ownC 3 ((kindN b k dark but i).map encT))), (10, vi ((b.stock k).lo + (i : Nat)))], [.var b.c]⟩) (fun _ _ => True)
    (fun _ => (.exit 0, ⟨[(1, vi k), (2, .sc (.sl .shared 1 (dark.map fun x => [ci x]))), (3, vi but), (4, .sc (.ptr 0 0)), (9, .sc (ownC 3 ((kindT b k dark but).map encT))), (10, vi ((b.stock k).hi + 1)), (24, vb false)], [.var b.c]⟩)) () ?_ trivial ?_ ?_ ?_
  · simp [kindN, ownC]
  · intro i _ hi _
    refine ⟨(), trivial, ?_⟩
    simp only [stockN] at hi
    have hlt := decide_eq_true (show (b.stock k).lo + (i : Int) ≤ (b.stock k).hi by omega)
    have hiw : IntKind.i64.wrap ((b.stock k).lo + (i : Int) + 1) = (b.stock k).lo + (i + 1 : Nat) := by rw [wrap_i64 (by omega) (by omega)]; omega
    have hkl := kindN_len b k dark but i
    have hl2 : lifeN b k ≤ 2 := by simp only [lifeN]; omega
    have hkl2 : (kindN b k dark but i).length ≤ 100 := by
      have : i * lifeN b k ≤ 3 * 2 := Nat.mul_le_mul (by omega) hl2
      omega
    have hL1 {β : Type} (Q : Ex → St → Option β) := rkind_L1 (Γ := Γ) b hv hk dark hdl hdk but ((b.stock k).lo + (i : Int)) (by omega) (kindN b k dark but i) hkl2 Q
    rw [kindN_succ]
    rcases hk with rfl | rfl
    · simp only [Book.stock, Book.life, reduceIte] at hlt hiw hL1 ⊢
      (simp only [go_sem, simprocAttr, decaniref06_kind_B0, hlt, hiw, hL1]; repeat' (first | ((first | (refine br_yes (by omega) ?_) | (refine br_no (by omega) ?_) | (apply br_all; (· simp only [Bool.and_eq_true, decide_eq_true_eq]; omega)) | (apply br_free; (· simp [go_sem, Pm.acc, Acc.free, refsOf, offOf, keyEq, tagEq, cellsEq, cellEq]; done)) | ((first | apply br_mergeT | apply br_mergeF); (· intro h; simp only [go_sem, simprocAttr, sel_of h, decaniref06_kind_B0, hlt, hiw, hL1]; exact rfl))); (try simp only [go_sem, simprocAttr, decaniref06_kind_B0, hlt, hiw, hL1])) | ((first | apply onGuard_sel | (apply pickV_split; apply br_split) | apply br_split) <;> intro h <;> (try simp only [go_sem, simprocAttr, h, decaniref06_kind_B0, hlt, hiw, hL1]))))
    · simp only [Book.stock, Book.life, reduceIte, Int.reduceEq] at hlt hiw hL1 ⊢
      (simp only [go_sem, simprocAttr, decaniref06_kind_B0, hlt, hiw, hL1]; repeat' (first | ((first | (refine br_yes (by omega) ?_) | (refine br_no (by omega) ?_) | (apply br_all; (· simp only [Bool.and_eq_true, decide_eq_true_eq]; omega)) | (apply br_free; (· simp [go_sem, Pm.acc, Acc.free, refsOf, offOf, keyEq, tagEq, cellsEq, cellEq]; done)) | ((first | apply br_mergeT | apply br_mergeF); (· intro h; simp only [go_sem, simprocAttr, sel_of h, decaniref06_kind_B0, hlt, hiw, hL1]; exact rfl))); (try simp only [go_sem, simprocAttr, decaniref06_kind_B0, hlt, hiw, hL1])) | ((first | apply onGuard_sel | (apply pickV_split; apply br_split) | apply br_split) <;> intro h <;> (try simp only [go_sem, simprocAttr, h, decaniref06_kind_B0, hlt, hiw, hL1]))))
  · intro _ _
    have hm : (b.stock k).lo + ((stockN b k : Nat) : Int) = (b.stock k).hi + 1 := by simp only [stockN]; omega
    have hlt := decide_eq_false (show ¬ (b.stock k).hi + 1 ≤ (b.stock k).hi by omega)
    simp only [hm, kindT]
    rcases hk with rfl | rfl
    · simp only [Book.stock, reduceIte] at hlt ⊢
      (simp only [go_sem, simprocAttr, decaniref06_kind_B0, hlt]; repeat' (first | ((first | (refine br_yes (by omega) ?_) | (refine br_no (by omega) ?_) | (apply br_all; (· simp only [Bool.and_eq_true, decide_eq_true_eq]; omega)) | (apply br_free; (· simp [go_sem, Pm.acc, Acc.free, refsOf, offOf, keyEq, tagEq, cellsEq, cellEq]; done)) | ((first | apply br_mergeT | apply br_mergeF); (· intro h; simp only [go_sem, simprocAttr, sel_of h, decaniref06_kind_B0, hlt]; exact rfl))); (try simp only [go_sem, simprocAttr, decaniref06_kind_B0, hlt])) | ((first | apply onGuard_sel | (apply pickV_split; apply br_split) | apply br_split) <;> intro h <;> (try simp only [go_sem, simprocAttr, h, decaniref06_kind_B0, hlt]))))
    · simp only [Book.stock, reduceIte, Int.reduceEq] at hlt ⊢
      (simp only [go_sem, simprocAttr, decaniref06_kind_B0, hlt]; repeat' (first | ((first | (refine br_yes (by omega) ?_) | (refine br_no (by omega) ?_) | (apply br_all; (· simp only [Bool.and_eq_true, decide_eq_true_eq]; omega)) | (apply br_free; (· simp [go_sem, Pm.acc, Acc.free, refsOf, offOf, keyEq, tagEq, cellsEq, cellEq]; done)) | ((first | apply br_mergeT | apply br_mergeF); (· intro h; simp only [go_sem, simprocAttr, sel_of h, decaniref06_kind_B0, hlt]; exact rfl))); (try simp only [go_sem, simprocAttr, decaniref06_kind_B0, hlt])) | ((first | apply onGuard_sel | (apply pickV_split; apply br_split) | apply br_split) <;> intro h <;> (try simp only [go_sem, simprocAttr, h, decaniref06_kind_B0, hlt]))))
  · intro _ _
    rfl

theorem rkind_k (b : Book) [hb : b.Fits] (hv : b.sane = true) {k : Int} (hk : k = 0 ∨ k = 1) (dark : List Int) (hdl : dark.length = b.days.length) (hdk : DarkOk b dark) (but : Int) :
    K Γ (.fn 72) [.agg b.c, vi k, .sc (.sl .shared 1 (dark.map fun x => [ci x])), vi but] [] = some (.sc (.sl (kS (kindT b k dark but)) 3 ((kindT b k dark but).map encT)), []) := by
  have hL {β : Type} (Q : Ex → St → Option β) := rkind_L0 (Γ := Γ) b hv hk dark hdl hdk but Q
  rw [K_fn P06.f72 _ _ rfl]
  rcases hk with rfl | rfl
  · simp only [Book.stock, reduceIte] at hL
    (simp only [go_sem, simprocAttr, decaniref06_kind, hL, unown_ownC_kS, kS_map]; repeat' (first | ((first | (refine br_yes (by omega) ?_) | (refine br_no (by omega) ?_) | (apply br_all; (· simp only [Bool.and_eq_true, decide_eq_true_eq]; omega)) | (apply br_free; (· simp [go_sem, Pm.acc, Acc.free, refsOf, offOf, keyEq, tagEq, cellsEq, cellEq]; done)) | ((first | apply br_mergeT | apply br_mergeF); (· intro h; simp only [go_sem, simprocAttr, sel_of h, decaniref06_kind, hL, unown_ownC_kS, kS_map]; exact rfl))); (try simp only [go_sem, simprocAttr, decaniref06_kind, hL, unown_ownC_kS, kS_map])) | ((first | apply onGuard_sel | (apply pickV_split; apply br_split) | apply br_split) <;> intro h <;> (try simp only [go_sem, simprocAttr, h, decaniref06_kind, hL, unown_ownC_kS, kS_map]))))
  · simp only [Book.stock, reduceIte, Int.reduceEq] at hL
    (simp only [go_sem, simprocAttr, decaniref06_kind, hL, unown_ownC_kS, kS_map]; repeat' (first | ((first | (refine br_yes (by omega) ?_) | (refine br_no (by omega) ?_) | (apply br_all; (· simp only [Bool.and_eq_true, decide_eq_true_eq]; omega)) | (apply br_free; (· simp [go_sem, Pm.acc, Acc.free, refsOf, offOf, keyEq, tagEq, cellsEq, cellEq]; done)) | ((first | apply br_mergeT | apply br_mergeF); (· intro h; simp only [go_sem, simprocAttr, sel_of h, decaniref06_kind, hL, unown_ownC_kS, kS_map]; exact rfl))); (try simp only [go_sem, simprocAttr, decaniref06_kind, hL, unown_ownC_kS, kS_map])) | ((first | apply onGuard_sel | (apply pickV_split; apply br_split) | apply br_split) <;> intro h <;> (try simp only [go_sem, simprocAttr, h, decaniref06_kind, hL, unown_ownC_kS, kS_map]))))

def bothB (b : Book) (but : Int) (d : List Int) : Bool := !(kindT b 0 d but).isEmpty && !(kindT b 1 d but).isEmpty
def allT (b : Book) (k but : Int) (ds : List (List Int)) : List RT3 := ds.flatMap fun d => if bothB b but d then kindT b k d but else []
theorem allT_snoc (b : Book) (k but : Int) (ds : List (List Int)) (d : List Int) : allT b k but (ds ++ [d]) = allT b k but ds ++ if bothB b but d then kindT b k d but else [] := by
  simp only [allT, List.flatMap_append, List.flatMap_cons, List.flatMap_nil, List.append_nil]
theorem kindT_len {b : Book} (hv : b.sane = true) {k : Int} (hk : k = 0 ∨ k = 1) (dark : List Int) (but : Int) : (kindT b k dark but).length ≤ 6 := by
  have hsp := spans_k hv hk
  refine Nat.le_trans (kindN_len ..) ?_
  exact Nat.le_trans (Nat.mul_le_mul (show stockN b k ≤ 3 by simp only [stockN]; omega) (show lifeN b k ≤ 2 by simp only [lifeN]; omega)) (by decide)
theorem allT_len {b : Book} (hv : b.sane = true) {k : Int} (hk : k = 0 ∨ k = 1) (but : Int) (ds : List (List Int)) : (allT b k but ds).length ≤ ds.length * 6 := by
  refine flatMap_length_le _ 6 _ (fun d _ => ?_)
  split
  · exact kindT_len hv hk d but
  · simp
def Book.darks (b : Book) : List (List Int) := b.darksF b.days.length []
theorem darks_ok {b : Book} {d : List Int} (h : d ∈ b.darks) : d.length = b.days.length ∧ DarkOk b d := by
  unfold Book.darks at h
  rw [darksF_mem _ _ _ (by simp)] at h
  obtain ⟨u, rfl, hu, hall⟩ := h
  refine ⟨by simpa using hu, fun i x v hx hv => hall i x v (by simpa using hx) (by simpa using hv)⟩

theorem rtruths_L0 (b : Book) [hb : b.Fits] (hv : b.sane = true) (but : Int) (z : Obj) (hz : z.under 3 = true) (kd : SK) {β : Type} (Q : Ex → St → Option β) :
    E Γ decaniref06_truths_L0 ⟨[(1, vi but), (2, .sc (.ptr 0 0)), (4, .sc (.ptr 1 0)), (5, .sc (.ptr 2 0)), (6, .sc (.sl kd 1 (b.darks.map dkC))), (7, vi 0)], [.var b.c, z, .var [.sl .nil 3 [], .sl .nil 3 []]]⟩ Q =
      Q (.exit 0) ⟨[(1, vi but), (2, .sc (.ptr 0 0)), (4, .sc (.ptr 1 0)), (5, .sc (.ptr 2 0)), (6, .sc (.sl kd 1 (b.darks.map dkC))), (7, vi b.darks.length), (15, vb false)], [.var b.c, z, .var [ownC 3 ((allT b 0 but b.darks).map encT), ownC 3 ((allT b 1 but b.darks).map encT)]]⟩ := by
  have hdl : b.darks.length ≤ 243 := by
    have := darksF_len hv b.days.length []
    have hvd := valid_days hv
    refine Nat.le_trans this ?_
    exact Nat.le_trans (Nat.pow_le_pow_right (by decide) hvd.2.1) (by decide)
  refine E_countS b.darks.length (fun i (_ : Unit) => ⟨[(1, vi but), (2, .sc (.ptr 0 0)), (4, .sc (.ptr 1 0)), (5, .sc (.ptr 2 0)), (6, .sc (.sl kd 1 (b.darks.map dkC))), (7, vi i)], [.var b.c, z, .var [ownC 3 ((allT b 0 but (b.darks.take i)).map encT), ownC 3 ((allT b 1 but (b.darks.take i)).map encT)]]⟩) (fun _ _ => True)
    (fun _ => (.exit 0, ⟨[(1, vi but), (2, .sc (.ptr 0 0)), (4, .sc (.ptr 1 0)), (5, .sc (.ptr 2 0)), (6, .sc (.sl kd 1 (b.darks.map dkC))), (7, vi b.darks.length), (15, vb false)], [.var b.c, z, .var [ownC 3 ((allT b 0 but b.darks).map encT), ownC 3 ((allT b 1 but b.darks).map encT)]]⟩)) () rfl trivial ?_ ?_ ?_
  · intro i _ hi _
    refine ⟨(), trivial, ?_⟩
    obtain ⟨d, hd⟩ : ∃ d, b.darks[i]? = some d := ⟨_, List.getElem?_eq_getElem hi⟩
    obtain ⟨d1, d2⟩ := darks_ok (List.mem_of_getElem? hd)
    have hlt := decide_eq_true (show (i : Int) < b.darks.length by omega)
    have hiw : IntKind.i64.wrap ((i : Int) + 1) = i + 1 := wrap_i64 (by omega) (by omega)
    have hk0 := rkind_k (Γ := Γ) b hv (.inl rfl) d d1 d2 but
    have hk1 := rkind_k (Γ := Γ) b hv (.inr rfl) d d1 d2 but
    have ht : b.darks.take (i + 1) = b.darks.take i ++ [d] := by rw [List.take_succ, hd]; rfl
    have l0 := allT_len hv (.inl rfl) but (b.darks.take i)
    have l1 := allT_len hv (.inr rfl) but (b.darks.take i)
    have l2 := kindT_len hv (.inl rfl) d but
    have l3 := kindT_len hv (.inr rfl) d but
    have lt : (b.darks.take i).length ≤ 243 := by rw [List.length_take]; omega
    have hA0 := appended_ownC_app 3 ((allT b 0 but (b.darks.take i)).map encT) ((kindT b 0 d but).map encT) (kS (kindT b 0 d but)) (by simp only [List.length_map, room]; omega)
    have hA1 := appended_ownC_app 3 ((allT b 1 but (b.darks.take i)).map encT) ((kindT b 1 d but).map encT) (kS (kindT b 1 d but)) (by simp only [List.length_map, room]; omega)
    have hdc : dkC d = [.sl .shared 1 (d.map fun x => [ci x])] := rfl
    rw [ht, allT_snoc, allT_snoc]
    have e0 : decide ((0 : Int) < ((kindT b 0 d but).length : Int)) = !(kindT b 0 d but).isEmpty := by
      cases kindT b 0 d but with
      | nil => rfl
      | cons x l => simp
    have e1 : decide ((0 : Int) < ((kindT b 1 d but).length : Int)) = !(kindT b 1 d but).isEmpty := by
      cases kindT b 1 d but with
      | nil => rfl
      | cons x l => simp
    cases h0 : (kindT b 0 d but).isEmpty with
    | true =>
      have hb0 : bothB b but d = false := by simp [bothB, h0]
      rw [h0] at e0
      rw [hb0]
      simp only [Bool.false_eq_true, if_false, List.append_nil]
      (simp only [go_sem, simprocAttr, decaniref06_truths_B0, hd, hdc, hlt, hiw, hk0, hk1, e0, hz]; repeat' (first | ((first | (refine br_yes (by omega) ?_) | (refine br_no (by omega) ?_) | (apply br_all; (· simp only [Bool.and_eq_true, decide_eq_true_eq]; omega)) | (apply br_free; (· simp [go_sem, Pm.acc, Acc.free, refsOf, offOf, keyEq, tagEq, cellsEq, cellEq]; done)) | ((first | apply br_mergeT | apply br_mergeF); (· intro h; simp only [go_sem, simprocAttr, sel_of h, decaniref06_truths_B0, hd, hdc, hlt, hiw, hk0, hk1, e0, hz]; exact rfl))); (try simp only [go_sem, simprocAttr, decaniref06_truths_B0, hd, hdc, hlt, hiw, hk0, hk1, e0, hz])) | ((first | apply onGuard_sel | (apply pickV_split; apply br_split) | apply br_split) <;> intro h <;> (try simp only [go_sem, simprocAttr, h, decaniref06_truths_B0, hd, hdc, hlt, hiw, hk0, hk1, e0, hz]))))
      all_goals rfl
    | false =>
      rw [h0] at e0
      cases h1 : (kindT b 1 d but).isEmpty with
      | true =>
        have hb0 : bothB b but d = false := by simp [bothB, h1]
        rw [h1] at e1
        rw [hb0]
        simp only [Bool.false_eq_true, if_false, List.append_nil]
        (simp only [go_sem, simprocAttr, decaniref06_truths_B0, hd, hdc, hlt, hiw, hk0, hk1, e0, e1, hz]; repeat' (first | ((first | (refine br_yes (by omega) ?_) | (refine br_no (by omega) ?_) | (apply br_all; (· simp only [Bool.and_eq_true, decide_eq_true_eq]; omega)) | (apply br_free; (· simp [go_sem, Pm.acc, Acc.free, refsOf, offOf, keyEq, tagEq, cellsEq, cellEq]; done)) | ((first | apply br_mergeT | apply br_mergeF); (· intro h; simp only [go_sem, simprocAttr, sel_of h, decaniref06_truths_B0, hd, hdc, hlt, hiw, hk0, hk1, e0, e1, hz]; exact rfl))); (try simp only [go_sem, simprocAttr, decaniref06_truths_B0, hd, hdc, hlt, hiw, hk0, hk1, e0, e1, hz])) | ((first | apply onGuard_sel | (apply pickV_split; apply br_split) | apply br_split) <;> intro h <;> (try simp only [go_sem, simprocAttr, h, decaniref06_truths_B0, hd, hdc, hlt, hiw, hk0, hk1, e0, e1, hz]))))
        rfl
      | false =>
        have hb0 : bothB b but d = true := by simp [bothB, h0, h1]
        rw [h1] at e1
        rw [hb0]
        simp only [if_true, List.map_append]
        (simp only [go_sem, simprocAttr, decaniref06_truths_B0, hd, hdc, hlt, hiw, hk0, hk1, e0, e1, hA0, hA1, hz]; repeat' (first | ((first | (refine br_yes (by omega) ?_) | (refine br_no (by omega) ?_) | (apply br_all; (· simp only [Bool.and_eq_true, decide_eq_true_eq]; omega)) | (apply br_free; (· simp [go_sem, Pm.acc, Acc.free, refsOf, offOf, keyEq, tagEq, cellsEq, cellEq]; done)) | ((first | apply br_mergeT | apply br_mergeF); (· intro h; simp only [go_sem, simprocAttr, sel_of h, decaniref06_truths_B0, hd, hdc, hlt, hiw, hk0, hk1, e0, e1, hA0, hA1, hz]; exact rfl))); (try simp only [go_sem, simprocAttr, decaniref06_truths_B0, hd, hdc, hlt, hiw, hk0, hk1, e0, e1, hA0, hA1, hz])) | ((first | apply onGuard_sel | (apply pickV_split; apply br_split) | apply br_split) <;> intro h <;> (try simp only [go_sem, simprocAttr, h, decaniref06_truths_B0, hd, hdc, hlt, hiw, hk0, hk1, e0, e1, hA0, hA1, hz]))))
        rfl
  · intro _ _
    have hlt := decide_eq_false (show ¬ (b.darks.length : Int) < b.darks.length by omega)
    rw [List.take_length]
    (simp only [go_sem, simprocAttr, decaniref06_truths_B0, hlt]; repeat' (first | ((first | (refine br_yes (by omega) ?_) | (refine br_no (by omega) ?_) | (apply br_all; (· simp only [Bool.and_eq_true, decide_eq_true_eq]; omega)) | (apply br_free; (· simp [go_sem, Pm.acc, Acc.free, refsOf, offOf, keyEq, tagEq, cellsEq, cellEq]; done)) | ((first | apply br_mergeT | apply br_mergeF); (· intro h; simp only [go_sem, simprocAttr, sel_of h, decaniref06_truths_B0, hlt]; exact rfl))); (try simp only [go_sem, simprocAttr, decaniref06_truths_B0, hlt])) | ((first | apply onGuard_sel | (apply pickV_split; apply br_split) | apply br_split) <;> intro h <;> (try simp only [go_sem, simprocAttr, h, decaniref06_truths_B0, hlt]))))
  · intro _ _
    rfl
def Book.rT (b : Book) (but k : Int) : List RT3 := allT b k but b.darks
theorem rtruths_k (b : Book) [hb : b.Fits] (hv : b.sane = true) (but : Int) :
    K Γ (.fn 43) [.agg b.c, vi but] [] = some (.agg [.sl (kS (b.rT but 0)) 3 ((b.rT but 0).map encT), .sl (kS (b.rT but 1)) 3 ((b.rT but 1).map encT)], []) := by
  have hD := rdarks_k (Γ := Γ) b hv b.days.length [] .nil (by simp) (fun h => by have := valid_days hv; omega)
  simp only [List.map_nil] at hD
  have hL {β : Type} (z : Obj) (hz : z.under 3 = true) (kd : SK) (Q : Ex → St → Option β) := rtruths_L0 (Γ := Γ) b hv but z hz kd Q
  simp only [Book.darks] at hL
  rw [K_fn P06.f43 _ _ rfl]
  (simp only [go_sem, simprocAttr, decaniref06_truths, hD, hL, unown_ownC_kS, kS_map, Book.rT, Book.darks]; repeat' (first | ((first | (refine br_yes (by omega) ?_) | (refine br_no (by omega) ?_) | (apply br_all; (· simp only [Bool.and_eq_true, decide_eq_true_eq]; omega)) | (apply br_free; (· simp [go_sem, Pm.acc, Acc.free, refsOf, offOf, keyEq, tagEq, cellsEq, cellEq]; done)) | ((first | apply br_mergeT | apply br_mergeF); (· intro h; simp only [go_sem, simprocAttr, sel_of h, decaniref06_truths, hD, hL, unown_ownC_kS, kS_map, Book.rT, Book.darks]; exact rfl))); (try simp only [go_sem, simprocAttr, decaniref06_truths, hD, hL, unown_ownC_kS, kS_map, Book.rT, Book.darks])) | ((first | apply onGuard_sel | (apply pickV_split; apply br_split) | apply br_split) <;> intro h <;> (try simp only [go_sem, simprocAttr, h, decaniref06_truths, hD, hL, unown_ownC_kS, kS_map, Book.rT, Book.darks]))))
end
end Go.Pm.Cd

namespace Go.Pm.Cd
open Ac
set_option maxRecDepth 100000
set_option linter.unusedSimpArgs false
set_option linter.unusedSectionVars false
set_option linter.unusedVariables false

def exc (b : Book) (but : Int) : List Int := bitsN but b.counts.length
theorem exc_contains (b : Book) (but : Int) {i : Nat} (hi : i < b.counts.length) : (exc b but).contains (i : Int) = hasBit but i := by
  cases h : hasBit but (i : Int) with
  | true =>
    rw [List.contains_iff_mem]
    simp only [exc, bitsN, List.mem_map, List.mem_filter, List.mem_range]
    exact ⟨i, ⟨hi, h⟩, rfl⟩
  | false =>
    rw [Bool.eq_false_iff]
    intro hc
    rw [List.contains_iff_mem] at hc
    simp only [exc, bitsN, List.mem_map, List.mem_filter, List.mem_range] at hc
    obtain ⟨j, ⟨-, hj⟩, e⟩ := hc
    have : j = i := by omega
    subst this
    rw [h] at hj; cases hj
theorem rightR_iff (b : Book) (k : Int) (l : List Int) (but : Int) : rightR b k l but = true ↔ ∀ (i : Nat) (x : Count), b.counts[i]? = some x → x.kind = k → hasBit but i = false → within (x.left - l.getD x.day.toNat 0) (-x.err) x.err = true := by
  simp only [rightR, Option.isNone_iff_eq_none]
  rw [findFrom_none]
  constructor
  · intro h i x hx hk hb
    have := h i x hx
    simp only [Nat.zero_add, hk, hb, decide_true, Bool.not_false, Bool.true_and, Bool.not_eq_false'] at this
    exact this
  · intro h i x hx
    simp only [Nat.zero_add]
    by_cases hk : x.kind = k
    · cases hb : hasBit but (i : Int) with
      | true => simp
      | false => simp only [hk, h i x hx hk hb, decide_true, Bool.not_false, Bool.not_true, Bool.and_false]
    · simp [hk]
theorem mem_rowN (b : Book) (k : Int) (dark : List Int) (but n : Int) (t : RT3) (hl : (b.life k).lo ≤ (b.life k).hi) : t ∈ rowN b k dark but n (lifeN b k) ↔ t.1 = dark ∧ t.2.1 = n ∧ (b.life k).has t.2.2 ∧ tOk b k dark but n t.2.2 = true := by
  simp only [rowN, List.mem_map, List.mem_filter, List.mem_range, lifeN]
  constructor
  · rintro ⟨i, ⟨hi, ht⟩, rfl⟩
    exact ⟨rfl, rfl, ⟨by simp only; omega, by simp only; omega⟩, ht⟩
  · rintro ⟨h1, h2, ⟨h3, h4⟩, h5⟩
    refine ⟨(t.2.2 - (b.life k).lo).toNat, ⟨by omega, ?_⟩, ?_⟩
    · have e : (b.life k).lo + ((t.2.2 - (b.life k).lo).toNat : Int) = t.2.2 := by omega
      rw [e]; exact h5
    · have e : (b.life k).lo + ((t.2.2 - (b.life k).lo).toNat : Int) = t.2.2 := by omega
      rw [e, ← h1, ← h2]
theorem mem_kindT {b : Book} (hv : b.sane = true) {k : Int} (hk : k = 0 ∨ k = 1) (dark : List Int) (but : Int) (t : RT3) : t ∈ kindT b k dark but ↔ t.1 = dark ∧ (b.stock k).has t.2.1 ∧ (b.life k).has t.2.2 ∧ tOk b k dark but t.2.1 t.2.2 = true := by
  have hsp := spans_k hv hk
  simp only [kindT, kindN, List.mem_flatMap, List.mem_range, stockN]
  constructor
  · rintro ⟨i, hi, ht⟩
    rw [mem_rowN _ _ _ _ _ _ (by omega)] at ht
    obtain ⟨h1, h2, h3, h4⟩ := ht
    rw [h2]
    exact ⟨h1, ⟨by omega, by omega⟩, h3, by rw [← h2] at h4 ⊢; exact h4⟩
  · rintro ⟨h1, ⟨h2, h3⟩, h4, h5⟩
    refine ⟨(t.2.1 - (b.stock k).lo).toNat, by omega, ?_⟩
    have e : (b.stock k).lo + ((t.2.1 - (b.stock k).lo).toNat : Int) = t.2.1 := by omega
    rw [e, mem_rowN _ _ _ _ _ _ (by omega)]
    exact ⟨h1, rfl, h4, h5⟩
theorem leftsR_getD (b : Book) (k n f : Int) (dark : List Int) {m d : Nat} (h : d < m) : (leftsR b k n f dark m).getD d 0 = b.runK k n f (dkOf dark) (d + 1) := by
  simp only [List.getD, leftsR_get b k n f dark h, Option.getD_some]
def darkOf (b : Book) (dk : Nat → Int) : List Int := (List.range b.days.length).map dk
theorem darkOf_get (b : Book) (dk : Nat → Int) {d : Nat} (h : d < b.days.length) : dkOf (darkOf b dk) d = dk d := by
  simp [dkOf, darkOf, List.getD, h]
theorem darkOf_of {b : Book} {d : List Int} (h : d.length = b.days.length) : darkOf b (dkOf d) = d := by
  apply List.ext_getElem?
  intro i
  by_cases hi : i < b.days.length
  · simp [darkOf, dkOf, List.getD, hi, h]
  · rw [List.getElem?_eq_none (by simp [darkOf]; omega), List.getElem?_eq_none (by omega)]

theorem mem_rT {b : Book} (hv : b.sane = true) {k : Int} (hk : k = 0 ∨ k = 1) (but : Int) (t : RT3) :
    t ∈ b.rT but k ↔ ∃ n f dk, Way b (exc b but) n f dk ∧ t = (darkOf b dk, n k, f k) := by
  have hvc := valid_counts hv
  have hcnt : ∀ (x : Count), x ∈ b.counts → (0 ≤ x.day ∧ x.day ≤ b.days.length - 1) ∧ (x.kind = 0 ∨ x.kind = 1) := fun x hx => by
    have := hvc x hx
    simp only [Book.isCount, Book.isDay, Bool.and_eq_true, within_iff] at this
    omega
  simp only [Book.rT, allT, List.mem_flatMap]
  constructor
  · rintro ⟨d, hd, ht⟩
    obtain ⟨d1, d2⟩ := darks_ok hd
    cases hb : bothB b but d with
    | false => rw [hb] at ht; simp at ht
    | true =>
      rw [hb, if_pos rfl] at ht
      simp only [bothB, Bool.and_eq_true, Bool.not_eq_true', List.isEmpty_eq_false_iff] at hb
      have pick : ∀ j : Int, j = 0 ∨ j = 1 → ∃ u, u ∈ kindT b j d but ∧ (j = k → u = t) := by
        intro j hj
        by_cases e : j = k
        · subst e; exact ⟨t, ht, fun _ => rfl⟩
        · rcases hj with rfl | rfl
          · obtain ⟨u, hu⟩ := List.exists_mem_of_ne_nil _ hb.1
            exact ⟨u, hu, fun h => absurd h e⟩
          · obtain ⟨u, hu⟩ := List.exists_mem_of_ne_nil _ hb.2
            exact ⟨u, hu, fun h => absurd h e⟩
      obtain ⟨u0, m0, e0⟩ := pick 0 (.inl rfl)
      obtain ⟨u1, m1, e1⟩ := pick 1 (.inr rfl)
      have q0 := (mem_kindT hv (.inl rfl) d but u0).1 m0
      have q1 := (mem_kindT hv (.inr rfl) d but u1).1 m1
      have q := (mem_kindT hv hk d but t).1 ht
      let n : Int → Int := fun j => if j = 0 then u0.2.1 else u1.2.1
      let f : Int → Int := fun j => if j = 0 then u0.2.2 else u1.2.2
      have sel : ∀ j, j = 0 ∨ j = 1 → (b.stock j).has (n j) ∧ (b.life j).has (f j) ∧ tOk b j d but (n j) (f j) = true := by
        rintro j (rfl | rfl)
        · exact ⟨q0.2.1, q0.2.2.1, q0.2.2.2⟩
        · exact ⟨q1.2.1, q1.2.2.1, q1.2.2.2⟩
      refine ⟨n, f, dkOf d, ⟨fun j hj => (sel j hj).1, fun j hj => (sel j hj).2.1, fun i x hx => ?_, fun i x hx hc => ?_⟩, ?_⟩
      · have hi := (List.getElem?_eq_some_iff.1 hx).1
        exact d2 i x _ hx (by simp only [dkOf, List.getD, List.getElem?_eq_getElem (show i < d.length by omega), Option.getD_some])
      · obtain ⟨c1, c2⟩ := hcnt x (List.mem_of_getElem? hx)
        rw [exc_contains b but (List.getElem?_eq_some_iff.1 hx).1] at hc
        have hr := (sel x.kind c2).2.2
        simp only [tOk] at hr
        have := (rightR_iff _ _ _ _).1 hr i x hx rfl hc
        rwa [leftsR_getD _ _ _ _ _ (by omega)] at this
      · rw [darkOf_of d1]
        rcases hk with rfl | rfl
        · have := e0 rfl
          subst this
          exact Prod.ext q.1 (Prod.ext rfl rfl)
        · have := e1 rfl
          subst this
          exact Prod.ext q.1 (Prod.ext rfl rfl)
  · rintro ⟨n, f, dk, w, rfl⟩
    have hd : darkOf b dk ∈ b.darks := by
      unfold Book.darks
      rw [darksF_mem _ _ _ (by simp)]
      refine ⟨darkOf b dk, by simp, by simp [darkOf], fun d x v hx hv => ?_⟩
      simp only [List.length_nil, Nat.zero_add] at hx
      have hi := (List.getElem?_eq_some_iff.1 hx).1
      simp only [darkOf, List.getElem?_map, List.getElem?_range hi, Option.map_some, Option.some.injEq] at hv
      subst hv
      exact w.dark d x hx
    have hin : ∀ j, j = 0 ∨ j = 1 → (darkOf b dk, n j, f j) ∈ kindT b j (darkOf b dk) but := by
      intro j hj
      rw [mem_kindT hv hj]
      refine ⟨rfl, w.stock j hj, w.life j hj, ?_⟩
      simp only [tOk]
      rw [rightR_iff]
      intro i x hx hkx hb
      obtain ⟨c1, c2⟩ := hcnt x (List.mem_of_getElem? hx)
      have := w.right i x hx (by rw [exc_contains b but (List.getElem?_eq_some_iff.1 hx).1]; exact hb)
      rw [leftsR_getD _ _ _ _ _ (by omega), runK_agree b j (n j) (f j) (dkOf (darkOf b dk)) dk _ (fun e he => darkOf_get b dk (by omega))]
      rwa [hkx] at this
    refine ⟨darkOf b dk, hd, ?_⟩
    have hb : bothB b but (darkOf b dk) = true := by
      simp only [bothB, Bool.and_eq_true, Bool.not_eq_true', List.isEmpty_eq_false_iff]
      exact ⟨List.ne_nil_of_mem (hin 0 (.inl rfl)), List.ne_nil_of_mem (hin 1 (.inr rfl))⟩
    rw [hb, if_pos rfl]
    exact hin k hk
theorem rT_ne {b : Book} (hv : b.sane = true) {k : Int} (hk : k = 0 ∨ k = 1) (but : Int) : b.rT but k ≠ [] ↔ b.truths (exc b but) ≠ [] := by
  rw [truths_ne hv]
  constructor
  · intro h
    obtain ⟨t, ht⟩ := List.exists_mem_of_ne_nil _ h
    obtain ⟨n, f, dk, w, -⟩ := (mem_rT hv hk but t).1 ht
    exact ⟨n, f, dk, w⟩
  · rintro ⟨n, f, dk, w⟩
    exact List.ne_nil_of_mem ((mem_rT hv hk but _).2 ⟨n, f, dk, w, rfl⟩)
theorem has_zero (n : Int) : hasBit 0 n = false := by
  have h2 : (0 : Int).fdiv (2 ^ n.toNat) = 0 := Int.zero_fdiv _
  have h3 : decide (wrapBits .i64 (BitVec.ofInt 64 0 &&& BitVec.ofInt 64 1) = 1) = false := by decide
  simp only [hasBit, h2, h3, Bool.and_false]
theorem exc_zero (b : Book) : exc b 0 = [] := by
  simp [exc, bitsN, has_zero]

end Go.Pm.Cd

namespace Go.Pm.Cd
open Ac
set_option maxRecDepth 100000
set_option linter.unusedSimpArgs false
set_option linter.unusedSectionVars false
set_option linter.unusedVariables false

section
variable {Γ : Env} [P06 Γ] [G06 Γ]
def tC (b : Book) (k : Int) : C := .sl (kS (b.rT 0 k)) 3 ((b.rT 0 k).map encT)
theorem rT_0 {b : Book} (hv : b.sane = true) {k : Int} (hk : k = 0 ∨ k = 1) : b.rT 0 k ≠ [] ↔ b.truths [] ≠ [] := by
  have := rT_ne hv hk 0
  rwa [exc_zero] at this

theorem rasked_bad (b : Book) [hb : b.Fits] (hv : b.valid = false) (is : Bool) : K Γ (.fn 55) [.agg b.c, vb is] [] = some (.tup [.agg [.sl .nil 3 [], .sl .nil 3 []], vi 60], []) := by
  rw [K_fn P06.f55 _ _ rfl]
  (simp only [go_sem, simprocAttr, decaniref06_asked, hv, Bool.false_eq_true]; repeat' (first | ((first | (refine br_yes (by omega) ?_) | (refine br_no (by omega) ?_) | (apply br_all; (· simp only [Bool.and_eq_true, decide_eq_true_eq]; omega)) | (apply br_free; (· simp [go_sem, Pm.acc, Acc.free, refsOf, offOf, keyEq, tagEq, cellsEq, cellEq]; done)) | ((first | apply br_mergeT | apply br_mergeF); (· intro h; simp only [go_sem, simprocAttr, sel_of h, decaniref06_asked, hv, Bool.false_eq_true]; exact rfl))); (try simp only [go_sem, simprocAttr, decaniref06_asked, hv, Bool.false_eq_true])) | ((first | apply onGuard_sel | (apply pickV_split; apply br_split) | apply br_split) <;> intro h <;> (try simp only [go_sem, simprocAttr, h, decaniref06_asked, hv, Bool.false_eq_true]))))
theorem rasked_ask (b : Book) [hb : b.Fits] (hv : b.valid = true) : K Γ (.fn 55) [.agg b.c, vb false] [] = some (.tup [.agg [.sl .nil 3 [], .sl .nil 3 []], vi 61], []) := by
  rw [K_fn P06.f55 _ _ rfl]
  (simp only [go_sem, simprocAttr, decaniref06_asked, hv]; repeat' (first | ((first | (refine br_yes (by omega) ?_) | (refine br_no (by omega) ?_) | (apply br_all; (· simp only [Bool.and_eq_true, decide_eq_true_eq]; omega)) | (apply br_free; (· simp [go_sem, Pm.acc, Acc.free, refsOf, offOf, keyEq, tagEq, cellsEq, cellEq]; done)) | ((first | apply br_mergeT | apply br_mergeF); (· intro h; simp only [go_sem, simprocAttr, sel_of h, decaniref06_asked, hv]; exact rfl))); (try simp only [go_sem, simprocAttr, decaniref06_asked, hv])) | ((first | apply onGuard_sel | (apply pickV_split; apply br_split) | apply br_split) <;> intro h <;> (try simp only [go_sem, simprocAttr, h, decaniref06_asked, hv]))))
theorem rasked_no (b : Book) [hb : b.Fits] (hv : b.valid = true) (ht : b.truths [] = []) : K Γ (.fn 55) [.agg b.c, vb true] [] = some (.tup [.agg [tC b 0, tC b 1], vi 62], []) := by
  have hs := sane_of_valid hv
  have hT := rtruths_k (Γ := Γ) b hs 0
  have h0 : b.rT 0 0 = [] := by
    by_cases e : b.rT 0 0 = []
    · exact e
    · exact absurd ht ((rT_0 hs (.inl rfl)).1 e)
  have hd : decide (((b.rT 0 0).length : Int) = 0) = true := by rw [h0]; rfl
  rw [K_fn P06.f55 _ _ rfl]
  (simp only [go_sem, simprocAttr, decaniref06_asked, hv, hT, hd, tC]; repeat' (first | ((first | (refine br_yes (by omega) ?_) | (refine br_no (by omega) ?_) | (apply br_all; (· simp only [Bool.and_eq_true, decide_eq_true_eq]; omega)) | (apply br_free; (· simp [go_sem, Pm.acc, Acc.free, refsOf, offOf, keyEq, tagEq, cellsEq, cellEq]; done)) | ((first | apply br_mergeT | apply br_mergeF); (· intro h; simp only [go_sem, simprocAttr, sel_of h, decaniref06_asked, hv, hT, hd, tC]; exact rfl))); (try simp only [go_sem, simprocAttr, decaniref06_asked, hv, hT, hd, tC])) | ((first | apply onGuard_sel | (apply pickV_split; apply br_split) | apply br_split) <;> intro h <;> (try simp only [go_sem, simprocAttr, h, decaniref06_asked, hv, hT, hd, tC]))))
theorem rasked_ok (b : Book) [hb : b.Fits] (hv : b.valid = true) (ht : b.truths [] ≠ []) : K Γ (.fn 55) [.agg b.c, vb true] [] = some (.tup [.agg [tC b 0, tC b 1], vi 0], []) := by
  have hs := sane_of_valid hv
  have hT := rtruths_k (Γ := Γ) b hs 0
  have h0 := (rT_0 hs (.inl rfl)).2 ht
  have hd : decide (((b.rT 0 0).length : Int) = 0) = false := decide_eq_false (fun e => h0 (List.length_eq_zero_iff.1 (by omega)))
  rw [K_fn P06.f55 _ _ rfl]
  (simp only [go_sem, simprocAttr, decaniref06_asked, hv, hT, hd, tC]; repeat' (first | ((first | (refine br_yes (by omega) ?_) | (refine br_no (by omega) ?_) | (apply br_all; (· simp only [Bool.and_eq_true, decide_eq_true_eq]; omega)) | (apply br_free; (· simp [go_sem, Pm.acc, Acc.free, refsOf, offOf, keyEq, tagEq, cellsEq, cellEq]; done)) | ((first | apply br_mergeT | apply br_mergeF); (· intro h; simp only [go_sem, simprocAttr, sel_of h, decaniref06_asked, hv, hT, hd, tC]; exact rfl))); (try simp only [go_sem, simprocAttr, decaniref06_asked, hv, hT, hd, tC])) | ((first | apply onGuard_sel | (apply pickV_split; apply br_split) | apply br_split) <;> intro h <;> (try simp only [go_sem, simprocAttr, h, decaniref06_asked, hv, hT, hd, tC]))))

end
end Go.Pm.Cd

namespace Go.Pm.Cd
open Ac
set_option maxRecDepth 100000
set_option linter.unusedSimpArgs false
set_option linter.unusedSectionVars false
set_option linter.unusedVariables false

section
variable {Γ : Env} [P06 Γ] [G06 Γ]
end
end Go.Pm.Cd

namespace Go.Pm.Cd
open Ac
set_option maxRecDepth 100000
set_option linter.unusedSimpArgs false
set_option linter.unusedSectionVars false
set_option linter.unusedVariables false
section
variable {Γ : Env} [P06 Γ] [G06 Γ]
theorem tC_un (b : Book) (k : Int) : unown (tC b k) = tC b k := rfl
theorem tC_pure (b : Book) (k : Int) : (tC b k).pure = true := rfl
theorem tC_under (b : Book) (k : Int) (n : Nat) : (tC b k).under n = true := rfl

@[go_sem] theorem rFits_k (b : Book) [hb : b.Fits] (x : Count) : K Γ (.fn 20) [.agg b.c, .agg x.c] [] = some (.tup [vb (b.fits x).1, vi (b.fits x).2], []) := by
  rw [K_fn P06.f20 _ _ rfl]
  simp only [Book.fits, Book.askE]
  rcases Bool.eq_false_or_eq_true b.valid with hv | hv
  rotate_left
  · have hA (is : Bool) := rasked_bad (Γ := Γ) b hv is
    (simp only [go_sem, simprocAttr, decaniref06_Fits, hA, hv, Bool.false_eq_true]; repeat' (first | ((first | (refine br_yes (by omega) ?_) | (refine br_no (by omega) ?_) | (apply br_all; (· simp only [Bool.and_eq_true, decide_eq_true_eq]; omega)) | (apply br_free; (· simp [go_sem, Pm.acc, Acc.free, refsOf, offOf, keyEq, tagEq, cellsEq, cellEq]; done)) | ((first | apply br_mergeT | apply br_mergeF); (· intro h; simp only [go_sem, simprocAttr, sel_of h, decaniref06_Fits, hA, hv, Bool.false_eq_true]; exact rfl))); (try simp only [go_sem, simprocAttr, decaniref06_Fits, hA, hv, Bool.false_eq_true])) | ((first | apply onGuard_sel | (apply pickV_split; apply br_split) | apply br_split) <;> intro h <;> (try simp only [go_sem, simprocAttr, h, decaniref06_Fits, hA, hv, Bool.false_eq_true]))))
  · have hA := rasked_ask (Γ := Γ) b hv
    rcases Bool.eq_false_or_eq_true (b.isCount x) with hk | hk
    rotate_left
    · (simp only [go_sem, simprocAttr, decaniref06_Fits, hA, hv, hk, Bool.false_and, Bool.false_eq_true]; repeat' (first | ((first | (refine br_yes (by omega) ?_) | (refine br_no (by omega) ?_) | (apply br_all; (· simp only [Bool.and_eq_true, decide_eq_true_eq]; omega)) | (apply br_free; (· simp [go_sem, Pm.acc, Acc.free, refsOf, offOf, keyEq, tagEq, cellsEq, cellEq]; done)) | ((first | apply br_mergeT | apply br_mergeF); (· intro h; simp only [go_sem, simprocAttr, sel_of h, decaniref06_Fits, hA, hv, hk, Bool.false_and, Bool.false_eq_true]; exact rfl))); (try simp only [go_sem, simprocAttr, decaniref06_Fits, hA, hv, hk, Bool.false_and, Bool.false_eq_true])) | ((first | apply onGuard_sel | (apply pickV_split; apply br_split) | apply br_split) <;> intro h <;> (try simp only [go_sem, simprocAttr, h, decaniref06_Fits, hA, hv, hk, Bool.false_and, Bool.false_eq_true]))))
    · by_cases ht : b.truths [] = []
      · have hN := rasked_no (Γ := Γ) b hv ht
        (simp only [go_sem, simprocAttr, decaniref06_Fits, hN, hv, hk, ht, tC_un, tC_under, tC_pure]; repeat' (first | ((first | (refine br_yes (by omega) ?_) | (refine br_no (by omega) ?_) | (apply br_all; (· simp only [Bool.and_eq_true, decide_eq_true_eq]; omega)) | (apply br_free; (· simp [go_sem, Pm.acc, Acc.free, refsOf, offOf, keyEq, tagEq, cellsEq, cellEq]; done)) | ((first | apply br_mergeT | apply br_mergeF); (· intro h; simp only [go_sem, simprocAttr, sel_of h, decaniref06_Fits, hN, hv, hk, ht, tC_un, tC_under, tC_pure]; exact rfl))); (try simp only [go_sem, simprocAttr, decaniref06_Fits, hN, hv, hk, ht, tC_un, tC_under, tC_pure])) | ((first | apply onGuard_sel | (apply pickV_split; apply br_split) | apply br_split) <;> intro h <;> (try simp only [go_sem, simprocAttr, h, decaniref06_Fits, hN, hv, hk, ht, tC_un, tC_under, tC_pure]))))
      · have hN := rasked_ok (Γ := Γ) b hv ht
        have hs := sane_add hv hk
        haveI := fits_add hv x
        have hc := (valid_days (sane_of_valid hv)).2.2.2
        have h0 := appended_ownF0 4 b.kc (b.counts.map Count.c) (by simp only [List.length_map, room]; omega)
        have h1 := appended_ownF 4 .full (b.counts.map Count.c) x.c (by simp only [List.length_map, room]; omega)
        have hT := rtruths_k (Γ := Γ) (b.add x) hs 0
        have hd : decide ((0 : Int) < (((b.add x).rT 0 0).length : Int)) = decide ((b.add x).truths [] ≠ []) := by
          rw [decide_eq_decide, ← rT_0 hs (.inl rfl)]
          constructor
          · intro h e; rw [e] at h; simp at h
          · intro h
            have : ((b.add x).rT 0 0).length ≠ 0 := fun e => h (List.length_eq_zero_iff.1 e)
            omega
        (simp only [go_sem, simprocAttr, decaniref06_Fits, hN, hv, hk, ht, hs, h0, h1, hT, hd, tC_un, tC_under, tC_pure]; repeat' (first | ((first | (refine br_yes (by omega) ?_) | (refine br_no (by omega) ?_) | (apply br_all; (· simp only [Bool.and_eq_true, decide_eq_true_eq]; omega)) | (apply br_free; (· simp [go_sem, Pm.acc, Acc.free, refsOf, offOf, keyEq, tagEq, cellsEq, cellEq]; done)) | ((first | apply br_mergeT | apply br_mergeF); (· intro h; simp only [go_sem, simprocAttr, sel_of h, decaniref06_Fits, hN, hv, hk, ht, hs, h0, h1, hT, hd, tC_un, tC_under, tC_pure]; exact rfl))); (try simp only [go_sem, simprocAttr, decaniref06_Fits, hN, hv, hk, ht, hs, h0, h1, hT, hd, tC_un, tC_under, tC_pure])) | ((first | apply onGuard_sel | (apply pickV_split; apply br_split) | apply br_split) <;> intro h <;> (try simp only [go_sem, simprocAttr, h, decaniref06_Fits, hN, hv, hk, ht, hs, h0, h1, hT, hd, tC_un, tC_under, tC_pure]))))
end
end Go.Pm.Cd

namespace Go.Pm.Cd
open Ac
set_option maxRecDepth 100000
set_option linter.unusedSimpArgs false
set_option linter.unusedSectionVars false
set_option linter.unusedVariables false

theorem before_total : ∀ (l m : List Int), l.length = m.length → before l m = false → before m l = false → l = m
  | [], [], _, _, _ => rfl
  | [], _ :: _, h, _, _ => by simp at h
  | _ :: _, [], h, _, _ => by simp at h
  | x :: xs, y :: ys, h, h1, h2 => by
    simp only [before] at h1 h2
    by_cases e : x = y
    · subst e
      simp only [if_true] at h1 h2
      rw [before_total xs ys (by simpa using h) h1 h2]
    · rw [if_neg e] at h1
      rw [if_neg (fun h => e h.symm)] at h2
      simp only [decide_eq_false_iff_not] at h1 h2
      omega
theorem before_trans : ∀ (l m k : List Int), before l m = true → before m k = true → before l k = true
  | [], [], _, h, _ => by simp [before] at h
  | [], _ :: _, [], _, h => by simp [before] at h
  | [], _ :: _, _ :: _, _, _ => by simp [before]
  | _ :: _, [], _, h, _ => by simp [before] at h
  | _ :: _, _ :: _, [], _, h => by simp [before] at h
  | x :: xs, y :: ys, z :: zs, h1, h2 => by
    simp only [before] at h1 h2 ⊢
    by_cases e1 : x = y
    · subst e1
      simp only [if_true] at h1
      by_cases e2 : x = z
      · subst e2
        simp only [if_true] at h2 ⊢
        exact before_trans xs ys zs h1 h2
      · rw [if_neg e2] at h2 ⊢; exact h2
    · rw [if_neg e1] at h1
      simp only [decide_eq_true_eq] at h1
      by_cases e2 : y = z
      · subst e2
        rw [if_neg e1]; exact decide_eq_true h1
      · rw [if_neg e2] at h2
        simp only [decide_eq_true_eq] at h2
        rw [if_neg (by omega)]; exact decide_eq_true (by omega)
theorem shorter_iff (l m : List Int) : shorter l m = true ↔ l.length < m.length ∨ (l.length = m.length ∧ before l m = true) := by
  simp only [shorter, earlier_before, Bool.or_eq_true, Bool.and_eq_true, decide_eq_true_eq]
  constructor
  · rintro (h | ⟨h, e⟩)
    · exact .inl (by omega)
    · exact .inr ⟨by omega, e⟩
  · rintro (h | ⟨h, e⟩)
    · exact .inl (by omega)
    · exact .inr ⟨by omega, e⟩
theorem shorter_total {l m : List Int} (h1 : shorter l m = false) (h2 : shorter m l = false) : l = m := by
  have a := _root_.mt (shorter_iff l m).2 (by rw [h1]; decide)
  have c := _root_.mt (shorter_iff m l).2 (by rw [h2]; decide)
  have hl : l.length = m.length := by omega
  refine before_total l m hl ?_ ?_
  · rw [Bool.eq_false_iff]; intro h; exact a (.inr ⟨hl, h⟩)
  · rw [Bool.eq_false_iff]; intro h; exact c (.inr ⟨hl.symm, h⟩)
theorem shorter_trans {l m k : List Int} (h1 : shorter l m = true) (h2 : shorter m k = true) : shorter l k = true := by
  rw [shorter_iff] at *
  rcases h1 with h1 | ⟨h1, e1⟩ <;> rcases h2 with h2 | ⟨h2, e2⟩
  · left; omega
  · left; omega
  · left; omega
  · exact .inr ⟨by omega, before_trans l m k e1 e2⟩
theorem incr_eq {n : Int} : ∀ {f : Int} {l m : List Int}, Incr f n l → Incr f n m → (∀ x, x ∈ l ↔ x ∈ m) → l = m
  | f, [], [], _, _, _ => rfl
  | f, [], y :: ys, _, _, h => by have := (h y).2 (by simp); simp at this
  | f, x :: xs, [], _, _, h => by have := (h x).1 (by simp); simp at this
  | f, x :: xs, y :: ys, h1, h2, h => by
    have hxy : x = y := by
      have a := (h x).1 (by simp)
      have c := (h y).2 (by simp)
      rcases List.mem_cons.1 a with e | a
      · exact e
      · rcases List.mem_cons.1 c with e | c
        · exact e.symm
        · have := (h2.2.2.mem x a).1
          have := (h1.2.2.mem y c).1
          omega
    subst hxy
    rw [incr_eq h1.2.2 h2.2.2 (fun z => ?_)]
    have hz := h z
    simp only [List.mem_cons] at hz
    constructor
    · intro hm
      rcases hz.1 (.inr hm) with e | e
      · subst e; have := (h1.2.2.mem z hm).1; omega
      · exact e
    · intro hm
      rcases hz.2 (.inr hm) with e | e
      · subst e; have := (h2.2.2.mem z hm).1; omega
      · exact e
theorem bits_surj (p : Nat → Bool) : ∀ m : Nat, m ≤ 5 → ∃ s : Nat, s < 2 ^ m ∧ ∀ j : Nat, j < m → hasBit (s : Int) (j : Int) = p j := by
  intro m hm
  have key : ∀ p0 p1 p2 p3 p4 : Bool, ∀ m : Fin 6, ∃ s : Fin 32, s.val < 2 ^ m.val ∧ ∀ j : Fin 5, j.val < m.val → hasBit (s.val : Int) (j.val : Int) = [p0, p1, p2, p3, p4].getD j.val false := by decide +kernel
  obtain ⟨s, h1, h2⟩ := key (p 0) (p 1) (p 2) (p 3) (p 4) ⟨m, by omega⟩
  refine ⟨s.val, h1, fun j hj => ?_⟩
  have := h2 ⟨j, by omega⟩ hj
  rw [this]
  have hc : j = 0 ∨ j = 1 ∨ j = 2 ∨ j = 3 ∨ j = 4 := by omega
  rcases hc with rfl | rfl | rfl | rfl | rfl <;> rfl
theorem mem_bitsN (set : Int) (m : Nat) (x : Int) : x ∈ bitsN set m ↔ ∃ j : Nat, j < m ∧ hasBit set j = true ∧ x = j := by
  simp only [bitsN, List.mem_map, List.mem_filter, List.mem_range]
  constructor
  · rintro ⟨j, ⟨h1, h2⟩, rfl⟩; exact ⟨j, h1, h2, rfl⟩
  · rintro ⟨j, h1, h2, rfl⟩; exact ⟨j, ⟨h1, h2⟩, rfl⟩
theorem bits_of_incr {m : Nat} (hm : m ≤ 5) {l : List Int} (hl : Incr 0 m l) : ∃ s : Nat, s < 2 ^ m ∧ bitsN (s : Int) m = l := by
  obtain ⟨s, h1, h2⟩ := bits_surj (fun j => l.contains (j : Int)) m hm
  refine ⟨s, h1, incr_eq (bitsN_incr s m) hl fun x => ?_⟩
  rw [mem_bitsN]
  constructor
  · rintro ⟨j, hj, hb, rfl⟩
    rw [h2 j hj] at hb
    exact List.contains_iff_mem.1 hb
  · intro hx
    have := hl.mem x hx
    refine ⟨x.toNat, by omega, ?_, by omega⟩
    rw [h2 _ (by omega)]
    have e : ((x.toNat : Nat) : Int) = x := by omega
    rw [e]; exact List.contains_iff_mem.2 hx
theorem all_bits : ∀ m : Nat, m ≤ 5 → bitsN (2 ^ m - 1) m = (List.range m).map fun (j : Nat) => (j : Int) := by
  intro m hm
  have hc : m = 0 ∨ m = 1 ∨ m = 2 ∨ m = 3 ∨ m = 4 ∨ m = 5 := by omega
  rcases hc with rfl | rfl | rfl | rfl | rfl | rfl <;> decide +kernel
theorem range_incr (m : Nat) : Incr 0 m ((List.range m).map fun (j : Nat) => (j : Int)) := incr_of (fun x hx => by
  simp only [List.mem_map, List.mem_range] at hx
  obtain ⟨j, hj, rfl⟩ := hx
  omega) (by rw [List.pairwise_map]; exact List.pairwise_lt_range.imp (fun h => by omega))

structure BestI (b : Book) (i : Nat) (a : List Int) : Prop where
  incr : Incr 0 b.counts.length a
  ne : b.truths a ≠ []
  least : ∀ s : Nat, s < i → b.truths (bitsN s b.counts.length) ≠ [] → shorter (bitsN s b.counts.length) a = false

section
variable {Γ : Env} [P06 Γ] [G06 Γ]
theorem rWrong_k (b : Book) [hb : b.Fits] : ∃ k, K Γ (.fn 22) [.agg b.c] [] = some (.tup [.sc (.sl k 1 (b.wrong.1.map fun x => [ci x])), vi b.wrong.2], []) := by
  rcases Bool.eq_false_or_eq_true b.valid with hv | hv
  rotate_left
  · have hw : b.wrong = ([], 60) := by simp [Book.wrong, hv]
    rw [hw]
    refine ⟨.nil, ?_⟩
    rw [K_fn P06.f22 _ _ rfl]
    (simp only [go_sem, simprocAttr, decaniref06_Wrong, hv, Bool.false_eq_true, List.map_nil]; repeat' (first | ((first | (refine br_yes (by omega) ?_) | (refine br_no (by omega) ?_) | (apply br_all; (· simp only [Bool.and_eq_true, decide_eq_true_eq]; omega)) | (apply br_free; (· simp [go_sem, Pm.acc, Acc.free, refsOf, offOf, keyEq, tagEq, cellsEq, cellEq]; done)) | ((first | apply br_mergeT | apply br_mergeF); (· intro h; simp only [go_sem, simprocAttr, sel_of h, decaniref06_Wrong, hv, Bool.false_eq_true, List.map_nil]; exact rfl))); (try simp only [go_sem, simprocAttr, decaniref06_Wrong, hv, Bool.false_eq_true, List.map_nil])) | ((first | apply onGuard_sel | (apply pickV_split; apply br_split) | apply br_split) <;> intro h <;> (try simp only [go_sem, simprocAttr, h, decaniref06_Wrong, hv, Bool.false_eq_true, List.map_nil]))))
  have hs := sane_of_valid hv
  have h5 := valid_counts5 hv
  obtain ⟨w1, w2, w3, w4, w5⟩ := wrong_spec hv
  rw [w1]
  obtain ⟨m, hm⟩ : ∃ m, b.counts.length = m := ⟨_, rfl⟩
  rw [hm] at h5
  have hmc : m = 0 ∨ m = 1 ∨ m = 2 ∨ m = 3 ∨ m = 4 ∨ m = 5 := by omega
  have hpow : (2 : Int) ^ m = ((2 ^ m : Nat) : Int) ∧ 1 ≤ (2 : Int) ^ m ∧ (2 : Int) ^ m ≤ 32 := by
    rcases hmc with rfl | rfl | rfl | rfl | rfl | rfl <;> decide
  have hsh : IntKind.i64.wrap (1 * 2 ^ Nat.min m 64) = 2 ^ m := by
    have hmm : Nat.min m 64 = m := Nat.min_eq_left (by omega)
    rw [hmm, Int.one_mul]
    exact wrap_i64 (by omega) (by omega)
  have hm0 : decide ((m : Int) < 0) = false := decide_eq_false (by omega)
  have hsw : IntKind.i64.wrap ((2 : Int) ^ m - 1) = 2 ^ m - 1 := wrap_i64 (by omega) (by omega)
  have hB (s : Int) := Bits_k (Γ := Γ) s m (by omega)
  simp only [Int.toNat_natCast] at hB
  have hall := all_but hv
  rw [hm] at hall
  refine ⟨kF b.wrong.1, ?_⟩
  have hL {β : Type} {Q : Ex → St → Option β} {r : Option β} (hQ : Q (.exit 0) ⟨[(1, .sc (.ptr 0 0)), (5, vi m), (6, .sc (.sl (kF b.wrong.1) 1 (b.wrong.1.map fun x => [ci x]))), (7, vi (2 ^ m : Int)), (25, vb false)], [.var b.c]⟩ = r) :
      E Γ decaniref06_Wrong_L0 ⟨[(1, .sc (.ptr 0 0)), (5, vi m), (6, .sc (.sl (kF (bitsN (2 ^ m - 1) m)) 1 ((bitsN (2 ^ m - 1) m).map fun x => [ci x]))), (7, vi 0)], [.var b.c]⟩ Q = r := by
    refine E_countS (2 ^ m) (fun i (a : List Int) => ⟨[(1, .sc (.ptr 0 0)), (5, vi m), (6, .sc (.sl (kF a) 1 (a.map fun x => [ci x]))), (7, vi i)], [.var b.c]⟩) (BestI b)
      (fun a => (.exit 0, ⟨[(1, .sc (.ptr 0 0)), (5, vi m), (6, .sc (.sl (kF a) 1 (a.map fun x => [ci x]))), (7, vi (2 ^ m : Int)), (25, vb false)], [.var b.c]⟩)) (bitsN (2 ^ m - 1) m) rfl ?_ ?_ ?_ ?_
    · rw [all_bits m h5]
      exact ⟨by rw [hm]; exact range_incr m, hall, fun s hs => by omega⟩
    · intro i a hi hI
      have hi32 : i < 32 := by
        have : ((2 ^ m : Nat) : Int) ≤ 32 := by rw [← hpow.1]; exact hpow.2.2
        omega
      have hlt : decide ((i : Int) < 2 ^ m) = true := decide_eq_true (by rw [hpow.1]; omega)
      have hiw : IntKind.i64.wrap ((i : Int) + 1) = i + 1 := wrap_i64 (by omega) (by omega)
      have hBi := hB i
      have hT := rtruths_k (Γ := Γ) b hs i
      have hd : decide ((0 : Int) < ((b.rT i 0).length : Int)) = decide (b.truths (bitsN i m) ≠ []) := by
        have := rT_ne hs (.inl rfl) (but := (i : Int))
        simp only [exc, hm] at this
        rw [decide_eq_decide, ← this]
        constructor
        · intro h e; rw [e] at h; simp at h
        · intro h
          have : (b.rT i 0).length ≠ 0 := fun e => h (List.length_eq_zero_iff.1 e)
          omega
      have hbl : (bitsN (i : Int) m).length ≤ 1000000 := by
        simp only [bitsN, List.length_map]
        exact Nat.le_trans (List.length_filter_le _ _) (by simp; omega)
      have hal : a.length ≤ 1000000 := by
        have hp := hI.incr
        have : a.length ≤ b.counts.length := by
          obtain ⟨s, -, e⟩ := bits_of_incr (m := b.counts.length) (by omega) hp
          rw [← e]; simp only [bitsN, List.length_map]
          exact Nat.le_trans (List.length_filter_le _ _) (by simp)
        omega
      have hS := Shorter_k (Γ := Γ) (kF (bitsN (i : Int) m)) (kF a) (bitsN i m) a hbl hal
      have hnext (a' : List Int) (h1 : Incr 0 b.counts.length a') (h2 : b.truths a' ≠ []) (h3 : ∀ s : Nat, s < i → b.truths (bitsN s b.counts.length) ≠ [] → shorter (bitsN s b.counts.length) a' = false)
          (h4 : b.truths (bitsN i b.counts.length) ≠ [] → shorter (bitsN i b.counts.length) a' = false) : BestI b (i + 1) a' :=
        ⟨h1, h2, fun s hs' => by
          by_cases e : s = i
          · subst e; exact h4
          · exact h3 s (by omega)⟩
      obtain ⟨l, hl⟩ : ∃ l, bitsN (i : Int) m = l := ⟨_, rfl⟩
      rw [hl] at hBi hd hS hbl
      have hll : bitsN (i : Int) b.counts.length = l := by rw [hm]; exact hl
      rw [hll] at hnext
      have hli : Incr 0 b.counts.length l := by rw [← hll]; exact bitsN_incr _ _
      cases hsl : shorter l a with
      | false =>
        rw [hsl] at hS
        refine ⟨a, hnext a hI.incr hI.ne hI.least (fun _ => hsl), ?_⟩
        (simp only [go_sem, simprocAttr, decaniref06_Wrong_B0, hm0, hsh, hlt, hiw, hBi, hS]; repeat' (first | ((first | (refine br_yes (by omega) ?_) | (refine br_no (by omega) ?_) | (apply br_all; (· simp only [Bool.and_eq_true, decide_eq_true_eq]; omega)) | (apply br_free; (· simp [go_sem, Pm.acc, Acc.free, refsOf, offOf, keyEq, tagEq, cellsEq, cellEq]; done)) | ((first | apply br_mergeT | apply br_mergeF); (· intro h; simp only [go_sem, simprocAttr, sel_of h, decaniref06_Wrong_B0, hm0, hsh, hlt, hiw, hBi, hS]; exact rfl))); (try simp only [go_sem, simprocAttr, decaniref06_Wrong_B0, hm0, hsh, hlt, hiw, hBi, hS])) | ((first | apply onGuard_sel | (apply pickV_split; apply br_split) | apply br_split) <;> intro h <;> (try simp only [go_sem, simprocAttr, h, decaniref06_Wrong_B0, hm0, hsh, hlt, hiw, hBi, hS]))))
        rfl
      | true =>
        rw [hsl] at hS
        by_cases ht : b.truths l = []
        · replace hd := hd.trans (decide_eq_false (p := b.truths l ≠ []) fun h => h ht)
          refine ⟨a, hnext a hI.incr hI.ne hI.least (fun h => absurd ht h), ?_⟩
          (simp only [go_sem, simprocAttr, decaniref06_Wrong_B0, hm0, hsh, hlt, hiw, hBi, hS, hT, hd]; repeat' (first | ((first | (refine br_yes (by omega) ?_) | (refine br_no (by omega) ?_) | (apply br_all; (· simp only [Bool.and_eq_true, decide_eq_true_eq]; omega)) | (apply br_free; (· simp [go_sem, Pm.acc, Acc.free, refsOf, offOf, keyEq, tagEq, cellsEq, cellEq]; done)) | ((first | apply br_mergeT | apply br_mergeF); (· intro h; simp only [go_sem, simprocAttr, sel_of h, decaniref06_Wrong_B0, hm0, hsh, hlt, hiw, hBi, hS, hT, hd]; exact rfl))); (try simp only [go_sem, simprocAttr, decaniref06_Wrong_B0, hm0, hsh, hlt, hiw, hBi, hS, hT, hd])) | ((first | apply onGuard_sel | (apply pickV_split; apply br_split) | apply br_split) <;> intro h <;> (try simp only [go_sem, simprocAttr, h, decaniref06_Wrong_B0, hm0, hsh, hlt, hiw, hBi, hS, hT, hd]))))
          rfl
        · replace hd := hd.trans (decide_eq_true (p := b.truths l ≠ []) ht)
          refine ⟨l, hnext l hli ht (fun s hs' hts => ?_) (fun _ => ?_), ?_⟩
          · rw [Bool.eq_false_iff]
            intro h
            have := hI.least s hs' hts
            rw [shorter_trans h hsl] at this; cases this
          · rw [Bool.eq_false_iff]
            intro h
            rw [shorter_iff] at h
            rcases h with h | ⟨-, h⟩
            · omega
            · have irr : ∀ l : List Int, before l l = false := fun l => by
                induction l with
                | nil => rfl
                | cons x l ih => simp only [before, if_true]; exact ih
              rw [irr] at h; cases h
          · (simp only [go_sem, simprocAttr, decaniref06_Wrong_B0, hm0, hsh, hlt, hiw, hBi, hS, hT, hd]; repeat' (first | ((first | (refine br_yes (by omega) ?_) | (refine br_no (by omega) ?_) | (apply br_all; (· simp only [Bool.and_eq_true, decide_eq_true_eq]; omega)) | (apply br_free; (· simp [go_sem, Pm.acc, Acc.free, refsOf, offOf, keyEq, tagEq, cellsEq, cellEq]; done)) | ((first | apply br_mergeT | apply br_mergeF); (· intro h; simp only [go_sem, simprocAttr, sel_of h, decaniref06_Wrong_B0, hm0, hsh, hlt, hiw, hBi, hS, hT, hd]; exact rfl))); (try simp only [go_sem, simprocAttr, decaniref06_Wrong_B0, hm0, hsh, hlt, hiw, hBi, hS, hT, hd])) | ((first | apply onGuard_sel | (apply pickV_split; apply br_split) | apply br_split) <;> intro h <;> (try simp only [go_sem, simprocAttr, h, decaniref06_Wrong_B0, hm0, hsh, hlt, hiw, hBi, hS, hT, hd]))))
            rfl
    · intro a _
      have hlt : decide (((2 ^ m : Nat) : Int) < 2 ^ m) = false := decide_eq_false (by rw [hpow.1]; omega)
      have e : ((2 ^ m : Nat) : Int) = 2 ^ m := hpow.1.symm
      rw [e] at hlt
      simp only [e]
      (simp only [go_sem, simprocAttr, decaniref06_Wrong_B0, hm0, hsh, hlt]; repeat' (first | ((first | (refine br_yes (by omega) ?_) | (refine br_no (by omega) ?_) | (apply br_all; (· simp only [Bool.and_eq_true, decide_eq_true_eq]; omega)) | (apply br_free; (· simp [go_sem, Pm.acc, Acc.free, refsOf, offOf, keyEq, tagEq, cellsEq, cellEq]; done)) | ((first | apply br_mergeT | apply br_mergeF); (· intro h; simp only [go_sem, simprocAttr, sel_of h, decaniref06_Wrong_B0, hm0, hsh, hlt]; exact rfl))); (try simp only [go_sem, simprocAttr, decaniref06_Wrong_B0, hm0, hsh, hlt])) | ((first | apply onGuard_sel | (apply pickV_split; apply br_split) | apply br_split) <;> intro h <;> (try simp only [go_sem, simprocAttr, h, decaniref06_Wrong_B0, hm0, hsh, hlt]))))
    · intro a hI
      have ha : a = b.wrong.1 := by
        refine shorter_total (w5 a hI.incr hI.ne) ?_
        obtain ⟨s, h1, h2⟩ := bits_of_incr (m := b.counts.length) (by omega) w2
        have := hI.least s (by rw [hm] at h1; exact h1) (by rw [h2]; exact w3)
        rwa [h2] at this
      rw [ha]
      exact hQ
  rw [K_fn P06.f22 _ _ rfl]
  (simp only [go_sem, simprocAttr, decaniref06_Wrong, hv, hm, hm0, hsh, hsw, hB]; repeat' (first | ((first | (refine br_yes (by omega) ?_) | (refine br_no (by omega) ?_) | (apply br_all; (· simp only [Bool.and_eq_true, decide_eq_true_eq]; omega)) | (apply br_free; (· simp [go_sem, Pm.acc, Acc.free, refsOf, offOf, keyEq, tagEq, cellsEq, cellEq]; done)) | ((first | apply br_mergeT | apply br_mergeF); (· intro h; simp only [go_sem, simprocAttr, sel_of h, decaniref06_Wrong, hv, hm, hm0, hsh, hsw, hB]; exact rfl))); (try simp only [go_sem, simprocAttr, decaniref06_Wrong, hv, hm, hm0, hsh, hsw, hB])) | ((first | apply onGuard_sel | (apply pickV_split; apply br_split) | apply br_split) <;> intro h <;> (try simp only [go_sem, simprocAttr, h, decaniref06_Wrong, hv, hm, hm0, hsh, hsw, hB]))))
  refine hL ?_
  (simp only [go_sem, simprocAttr]; repeat' (first | ((first | (refine br_yes (by omega) ?_) | (refine br_no (by omega) ?_) | (apply br_all; (· simp only [Bool.and_eq_true, decide_eq_true_eq]; omega)) | (apply br_free; (· simp [go_sem, Pm.acc, Acc.free, refsOf, offOf, keyEq, tagEq, cellsEq, cellEq]; done)) | ((first | apply br_mergeT | apply br_mergeF); (· intro h; simp only [go_sem, simprocAttr, sel_of h]; exact rfl))); (try simp only [go_sem, simprocAttr])) | ((first | apply onGuard_sel | (apply pickV_split; apply br_split) | apply br_split) <;> intro h <;> (try simp only [go_sem, simprocAttr, h]))))
theorem CandleFits_k (b : Book) [hb : b.Fits] (y : Count) : K Γ (.fn 89) [.agg b.c, .agg y.c] [] = some (vb true, []) := by
  obtain ⟨k, hR⟩ := rWrong_k (Γ := Γ) b
  have hW := Wrong_k (Γ := Γ) b
  have hl : b.wrong.1.length ≤ 1000000 := by
    rcases Bool.eq_false_or_eq_true b.valid with hv | hv
    · have h5 := valid_counts5 hv
      have := (wrong_spec hv).2.2.2.1
      omega
    · simp [Book.wrong, hv]
  have hE := Equal_k (Γ := Γ) (wrongK b) k b.wrong.1 b.wrong.1 hl hl
  simp only [decide_true] at hE
  rw [K_fn P06.f89 _ _ rfl]
  (simp only [go_sem, simprocAttr, decanilaw06_CandleFits, eq_self, decide_true, beq_self_eq_true, iC, hW, hR, hE]; repeat' (first | ((first | (refine br_yes (by omega) ?_) | (refine br_no (by omega) ?_) | (apply br_all; (· simp only [Bool.and_eq_true, decide_eq_true_eq]; omega)) | (apply br_free; (· simp [go_sem, Pm.acc, Acc.free, refsOf, offOf, keyEq, tagEq, cellsEq, cellEq]; done)) | ((first | apply br_mergeT | apply br_mergeF); (· intro h; simp only [go_sem, simprocAttr, sel_of h, decanilaw06_CandleFits, eq_self, decide_true, beq_self_eq_true, iC, hW, hR, hE]; exact rfl))); (try simp only [go_sem, simprocAttr, decanilaw06_CandleFits, eq_self, decide_true, beq_self_eq_true, iC, hW, hR, hE])) | ((first | apply onGuard_sel | (apply pickV_split; apply br_split) | apply br_split) <;> intro h <;> (try simp only [go_sem, simprocAttr, h, decanilaw06_CandleFits, eq_self, decide_true, beq_self_eq_true, iC, hW, hR, hE]))))
end
end Go.Pm.Cd

namespace Go.Proofs.YtdndhpoinffpbaaDoor
open Go Go.Pm Go.Pm.Cd Go.ChangeShapes Go.WideShapes Go.ChangeAt Go.RowKit
set_option maxRecDepth 100000

theorem lifted (os : Os) (started : os.Started) (H : Type) (enc : TypeId × Value → H) :
    ReturnsInHanded {} Tryd.checked os 5 .any (fun w args => (Rows.candleFitsSpec.pre enc Tryd.prog Tryd.f5 [] false w args ∧ laidMetH Tryd.prog laidL w) ∧ sizedMet enc Tryd.prog Tryd.f5 (OpenSpec.ofChange Rows.candleFitsSpec) false w args)
      (Rows.candleFitsSpec.post enc Tryd.prog Tryd.f5 false true false false) := by
  refine returnsInHanded_of_change_and (C := Tryd.checked) (X := fun w _ => laidMetH Tryd.prog laidL w) (fun _ _ _ hh h => h.of_heap hh) own started (by kernel_rfl) Tryd.func5
    (ChangeSpec.witness_shaped (enc := enc) (C := Tryd.checked) (os := os) (X := fun w _ => laidMetH Tryd.prog laidL w) false (World.doorLaid Tryd.prog 600 os) #[.agg #[.int .i64 0, .int .i64 0, .int .i64 0, .int .i64 0, .int .i64 0, .int .i64 0, .int .i64 0, .int .i64 0, .slice none 0 0, .slice none 0 0, .slice none 0 0], .agg #[.int .i64 0, .int .i64 0, .int .i64 0, .int .i64 0]] 8 rfl (World.shaped_of_RefB (by kernel_rfl) (by kernel_rfl)) (by kernel_rfl) (by kernel_rfl) (by kernel_rfl) (door_met os _)) ?_
  intro W base args ds gs before hval hW _ _ hL _
  refine law_contract (S := S1) (G := G1) (id := 89) (tb := 4) (base := base) seat_ok 8 [bookT, countT] (by kernel_rfl) (by kernel_rfl) laidOut (by kernel_rfl) (by kernel_rfl) rfl ?_ ?_ hval hW (globs hL)
  · intro ds hd
    match ds, hd with
    | [d0, d1], _ => rfl
  · show ∀ vs, HasVs [bookT, countT] vs → K Γ1 (.fn 89) vs [] = some (.sc (.bool true), [])
    intro vs hvs
    simp only [HasVs] at hvs
    obtain ⟨v0, r0, rfl, h0, v1, r1, rfl, h1, rfl⟩ := hvs
    obtain ⟨b, rfl, hb⟩ := book_of _ h0
    haveI := hb
    obtain ⟨y, rfl⟩ := countV_of _ h1
    exact CandleFits_k (Γ := Γ1) b y

theorem row_holds : Rows.CandleFitsSaid :=
  OpenClaim.holds_of_wide 5 Tryd.f5 rfl rfl rfl rfl rfl rfl rfl ⟨rfl, rfl, rfl, rfl, rfl⟩ rfl rfl rfl rfl rfl (by kernel_rfl) Tryd.func5 (by kernel_rfl)
    (of_decide_eq_true (by kernel_rfl)) (by unfold Func.isWrapper; first | (rw [if_pos (by decide +kernel)]; kernel_rfl) | (rw [if_neg (by decide +kernel)]; exact ⟨rfl, rfl⟩))
    (fun os started H enc _ => lifted os started H enc)

theorem candleFits_card_holds : Rows.CandleFitsCardSaid :=
  Claim7.holds_tied_plain_at .later [] [.data, .funcs] true (true, "60d50f35f64f42411113777cba31078ec0ca6d528e83348940a62dd418a71482") false
    row_holds (fun _ h => by cases h) (by kernel_rfl) (fun _ h => by cases h) candleFits_row_tie rfl ⟨rfl, rfl⟩ (by kernel_rfl) rfl
    (fun f fn hf hfn => by
      obtain rfl : f = 5 := Option.some.inj ((show Tryd.prog.funcNamed "decani/decanilaw06.CandleFits" = some 5 by kernel_rfl).symm.trans hf) |>.symm
      obtain rfl : fn = Tryd.f5 := (Option.some.inj (Tryd.func5.symm.trans hfn)).symm
      exact ⟨by kernel_rfl, fun j t ht => by
        have hp : Tryd.f5.params = #[29, 44] := by kernel_rfl
        rw [hp] at ht
        have hm : t ∈ ([29, 44] : List TypeId) := by simpa using Array.mem_of_getElem? ht
        have hall : (([29, 44] : List TypeId).all fun u => !Tryd.prog.wantsStandIn u) = true := by kernel_rfl
        exact (show Tryd.prog.wantsStandIn t = false by simpa using List.all_eq_true.1 hall t hm)⟩)
    (by kernel_rfl)
#print axioms candleFits_card_holds
end Go.Proofs.YtdndhpoinffpbaaDoor
