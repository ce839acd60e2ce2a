/- The statement CandleKnown: whatever its arguments, the call returns true, and each argument reads as before. No condition beside the row's own. -/
import Derived.Test.YtdndhpoinffpbaaDoorCandleKnownL4
import Derived.Test.YtdndhpoinffpbaaDoorTie
import Derived.Test.YtdndhpoinffpbaaDoorCards
import Derived.ProofKit
import Derived.LaidMore
import Derived.OpenShut
import Derived.Stop.Joined
import Derived.SevenTiedAt
set_option linter.all false
namespace Go.Pm.Cd
open Ac
set_option maxRecDepth 100000
set_option linter.unusedSimpArgs false
set_option linter.unusedSectionVars false
set_option linter.unusedVariables false

def tLeft (kind day : Int) (t : List Int) : Int := t.getD (7 + day.toNat * 2 + kind.toNat) 0
def tLife (kind : Int) (t : List Int) : Int := t.getD (5 + kind.toNat) 0
def tDark (day : Int) (t : List Int) : Int := t.getD day.toNat 0

section
variable {Γ : Env} [P06 Γ] [G06 Γ]

theorem left1_k (t : List Int) (ht : t.length = 17) (kind day : Int) (hk : 0 ≤ kind ∧ kind ≤ 1) (hd : 0 ≤ day ∧ day ≤ 4) :
    K Γ (.fn 73) [.agg (iv t), .sc (.eptr [ci day] 0), .sc (.eptr [ci kind] 0)] [] = some (vi (tLeft kind day t), []) := by
  have hat := iv_at1 t (7 + day.toNat * 2 + kind.toNat) (by omega)
  rw [K_fn P06.f73 _ _ rfl]
  (simp only [go_sem, simprocAttr, candle_book_left_1, hat, ht, tLeft]; repeat' (first | ((first | (refine br_yes (by omega) ?_) | (refine br_no (by omega) ?_) | (apply br_all; (· simp only [Bool.and_eq_true, decide_eq_true_eq]; omega)) | (apply br_free; (· simp [go_sem, Pm.acc, Acc.free, refsOf, offOf, keyEq, tagEq, cellsEq, cellEq]; done)) | ((first | apply br_mergeT | apply br_mergeF); (· intro h; simp only [go_sem, simprocAttr, sel_of h, candle_book_left_1, hat, ht, tLeft]; exact rfl))); (try simp only [go_sem, simprocAttr, candle_book_left_1, hat, ht, tLeft])) | ((first | apply onGuard_sel | (apply pickV_split; apply br_split) | apply br_split) <;> intro h <;> (try simp only [go_sem, simprocAttr, h, candle_book_left_1, hat, ht, tLeft]))))

theorem life1_k (t : List Int) (ht : t.length = 17) (kind : Int) (hk : 0 ≤ kind ∧ kind ≤ 1) :
    K Γ (.fn 57) [.agg (iv t), .sc (.eptr [ci kind] 0)] [] = some (vi (tLife kind t), []) := by
  have hat := iv_at1 t (5 + kind.toNat) (by omega)
  rw [K_fn P06.f57 _ _ rfl]
  (simp only [go_sem, simprocAttr, candle_Life_1, hat, ht, tLife]; repeat' (first | ((first | (refine br_yes (by omega) ?_) | (refine br_no (by omega) ?_) | (apply br_all; (· simp only [Bool.and_eq_true, decide_eq_true_eq]; omega)) | (apply br_free; (· simp [go_sem, Pm.acc, Acc.free, refsOf, offOf, keyEq, tagEq, cellsEq, cellEq]; done)) | ((first | apply br_mergeT | apply br_mergeF); (· intro h; simp only [go_sem, simprocAttr, sel_of h, candle_Life_1, hat, ht, tLife]; exact rfl))); (try simp only [go_sem, simprocAttr, candle_Life_1, hat, ht, tLife])) | ((first | apply onGuard_sel | (apply pickV_split; apply br_split) | apply br_split) <;> intro h <;> (try simp only [go_sem, simprocAttr, h, candle_Life_1, hat, ht, tLife]))))

theorem dark1_k (t : List Int) (ht : t.length = 17) (day : Int) (hd : 0 ≤ day ∧ day ≤ 4) :
    K Γ (.fn 60) [.agg (iv t), .sc (.eptr [ci day] 0)] [] = some (vi (tDark day t), []) := by
  have hat := iv_at1 t day.toNat (by omega)
  rw [K_fn P06.f60 _ _ rfl]
  (simp only [go_sem, simprocAttr, candle_Dark_1, hat, ht, tDark]; repeat' (first | ((first | (refine br_yes (by omega) ?_) | (refine br_no (by omega) ?_) | (apply br_all; (· simp only [Bool.and_eq_true, decide_eq_true_eq]; omega)) | (apply br_free; (· simp [go_sem, Pm.acc, Acc.free, refsOf, offOf, keyEq, tagEq, cellsEq, cellEq]; done)) | ((first | apply br_mergeT | apply br_mergeF); (· intro h; simp only [go_sem, simprocAttr, sel_of h, candle_Dark_1, hat, ht, tDark]; exact rfl))); (try simp only [go_sem, simprocAttr, candle_Dark_1, hat, ht, tDark])) | ((first | apply onGuard_sel | (apply pickV_split; apply br_split) | apply br_split) <;> intro h <;> (try simp only [go_sem, simprocAttr, h, candle_Dark_1, hat, ht, tDark]))))

theorem left_k (b : Book) (hv : b.sane = true) (but : List Int) (hts : b.truths but ≠ []) (kind day : Int) (hk : 0 ≤ kind ∧ kind ≤ 1) (hd : 0 ≤ day ∧ day ≤ 4) :
    K Γ (.fn 54) [.agg (b.open13 but), vi kind, vi day] [] = some (.agg [ci (spanOf (tLeft kind day) (b.truths but)).1, ci (spanOf (tLeft kind day) (b.truths but)).2], []) := by
  have hr := truths_room hv but
  have hS := span_k (Γ := Γ) b (.imap true false (enc2 b.comes)) rfl (b.truths but) hts (by simp only [room]; omega) (fun t h => truths_len b but t h) (kT (b.truths but)) 73 [.eptr [ci day] 0, .eptr [ci kind] 0] rfl (tLeft kind day) (fun t h => left1_k t (truths_len b but t h) kind day hk hd)
  rw [K_fn P06.f54 _ _ rfl]
  (simp only [go_sem, simprocAttr, candle_book_left, hS]; repeat' (first | ((first | (refine br_yes (by omega) ?_) | (refine br_no (by omega) ?_) | (apply br_all; (· simp only [Bool.and_eq_true, decide_eq_true_eq]; omega)) | (apply br_free; (· simp [go_sem, Pm.acc, Acc.free, refsOf, offOf, keyEq, tagEq, cellsEq, cellEq]; done)) | ((first | apply br_mergeT | apply br_mergeF); (· intro h; simp only [go_sem, simprocAttr, sel_of h, candle_book_left, hS]; exact rfl))); (try simp only [go_sem, simprocAttr, candle_book_left, hS])) | ((first | apply onGuard_sel | (apply pickV_split; apply br_split) | apply br_split) <;> intro h <;> (try simp only [go_sem, simprocAttr, h, candle_book_left, hS]))))

theorem may_k (b : Book) (hv : b.sane = true) (but : List Int) (hts : b.truths but ≠ []) (kind day : Int) (hk : 0 ≤ kind ∧ kind ≤ 1) (hd : 0 ≤ day ∧ day ≤ 4) :
    K Γ (.fn 85) [.agg (b.open13 but), vi kind, vi day] [] = some (vb (decide ((spanOf (tLeft kind day) (b.truths but)).1 < 0)), []) := by
  have hS := left_k (Γ := Γ) b hv but hts kind day hk hd
  rw [K_fn P06.f85 _ _ rfl]
  (simp only [go_sem, simprocAttr, candle_book_may, hS]; repeat' (first | ((first | (refine br_yes (by omega) ?_) | (refine br_no (by omega) ?_) | (apply br_all; (· simp only [Bool.and_eq_true, decide_eq_true_eq]; omega)) | (apply br_free; (· simp [go_sem, Pm.acc, Acc.free, refsOf, offOf, keyEq, tagEq, cellsEq, cellEq]; done)) | ((first | apply br_mergeT | apply br_mergeF); (· intro h; simp only [go_sem, simprocAttr, sel_of h, candle_book_may, hS]; exact rfl))); (try simp only [go_sem, simprocAttr, candle_book_may, hS])) | ((first | apply onGuard_sel | (apply pickV_split; apply br_split) | apply br_split) <;> intro h <;> (try simp only [go_sem, simprocAttr, h, candle_book_may, hS]))))

theorem must_k (b : Book) (hv : b.sane = true) (but : List Int) (hts : b.truths but ≠ []) (kind day : Int) (hk : 0 ≤ kind ∧ kind ≤ 1) (hd : 0 ≤ day ∧ day ≤ 4) :
    K Γ (.fn 86) [.agg (b.open13 but), vi kind, vi day] [] = some (vb (decide ((spanOf (tLeft kind day) (b.truths but)).2 < 0)), []) := by
  have hS := left_k (Γ := Γ) b hv but hts kind day hk hd
  rw [K_fn P06.f86 _ _ rfl]
  (simp only [go_sem, simprocAttr, candle_book_must, hS]; repeat' (first | ((first | (refine br_yes (by omega) ?_) | (refine br_no (by omega) ?_) | (apply br_all; (· simp only [Bool.and_eq_true, decide_eq_true_eq]; omega)) | (apply br_free; (· simp [go_sem, Pm.acc, Acc.free, refsOf, offOf, keyEq, tagEq, cellsEq, cellEq]; done)) | ((first | apply br_mergeT | apply br_mergeF); (· intro h; simp only [go_sem, simprocAttr, sel_of h, candle_book_must, hS]; exact rfl))); (try simp only [go_sem, simprocAttr, candle_book_must, hS])) | ((first | apply onGuard_sel | (apply pickV_split; apply br_split) | apply br_split) <;> intro h <;> (try simp only [go_sem, simprocAttr, h, candle_book_must, hS]))))

theorem asked_bad (b : Book) [hb : b.Fits] (hv : b.valid = false) (is : Bool) : K Γ (.fn 53) [.agg b.c, vb is] [] = some (.tup [.agg Z13, vi 60], []) := by
  rw [K_fn P06.f53 _ _ rfl]
  (simp only [go_sem, simprocAttr, candle_asked, hv]; repeat' (first | ((first | (refine br_yes (by omega) ?_) | (refine br_no (by omega) ?_) | (apply br_all; (· simp only [Bool.and_eq_true, decide_eq_true_eq]; omega)) | (apply br_free; (· simp [go_sem, Pm.acc, Acc.free, refsOf, offOf, keyEq, tagEq, cellsEq, cellEq]; done)) | ((first | apply br_mergeT | apply br_mergeF); (· intro h; simp only [go_sem, simprocAttr, sel_of h, candle_asked, hv]; exact rfl))); (try simp only [go_sem, simprocAttr, candle_asked, hv])) | ((first | apply onGuard_sel | (apply pickV_split; apply br_split) | apply br_split) <;> intro h <;> (try simp only [go_sem, simprocAttr, h, candle_asked, hv]))))
  rfl
theorem asked_ask (b : Book) [hb : b.Fits] (hv : b.valid = true) : K Γ (.fn 53) [.agg b.c, vb false] [] = some (.tup [.agg Z13, vi 61], []) := by
  rw [K_fn P06.f53 _ _ rfl]
  (simp only [go_sem, simprocAttr, candle_asked, hv]; repeat' (first | ((first | (refine br_yes (by omega) ?_) | (refine br_no (by omega) ?_) | (apply br_all; (· simp only [Bool.and_eq_true, decide_eq_true_eq]; omega)) | (apply br_free; (· simp [go_sem, Pm.acc, Acc.free, refsOf, offOf, keyEq, tagEq, cellsEq, cellEq]; done)) | ((first | apply br_mergeT | apply br_mergeF); (· intro h; simp only [go_sem, simprocAttr, sel_of h, candle_asked, hv]; exact rfl))); (try simp only [go_sem, simprocAttr, candle_asked, hv])) | ((first | apply onGuard_sel | (apply pickV_split; apply br_split) | apply br_split) <;> intro h <;> (try simp only [go_sem, simprocAttr, h, candle_asked, hv]))))
  rfl
theorem asked_no (b : Book) [hb : b.Fits] (hv : b.valid = true) (ht : b.truths [] = []) : K Γ (.fn 53) [.agg b.c, vb true] [] = some (.tup [.agg (b.open13 []), vi 62], []) := by
  have h0 : decide (((b.truths []).length : Int) = 0) = true := by rw [ht]; rfl
  rw [K_fn P06.f53 _ _ rfl]
  (simp only [go_sem, simprocAttr, candle_asked, hv, sane_of_valid hv, h0]; repeat' (first | ((first | (refine br_yes (by omega) ?_) | (refine br_no (by omega) ?_) | (apply br_all; (· simp only [Bool.and_eq_true, decide_eq_true_eq]; omega)) | (apply br_free; (· simp [go_sem, Pm.acc, Acc.free, refsOf, offOf, keyEq, tagEq, cellsEq, cellEq]; done)) | ((first | apply br_mergeT | apply br_mergeF); (· intro h; simp only [go_sem, simprocAttr, sel_of h, candle_asked, hv, sane_of_valid hv, h0]; exact rfl))); (try simp only [go_sem, simprocAttr, candle_asked, hv, sane_of_valid hv, h0])) | ((first | apply onGuard_sel | (apply pickV_split; apply br_split) | apply br_split) <;> intro h <;> (try simp only [go_sem, simprocAttr, h, candle_asked, hv, sane_of_valid hv, h0]))))
theorem asked_ok (b : Book) [hb : b.Fits] (hv : b.valid = true) (ht : b.truths [] ≠ []) : K Γ (.fn 53) [.agg b.c, vb true] [] = some (.tup [.agg (b.open13 []), vi 0], []) := by
  have h0 : decide (((b.truths []).length : Int) = 0) = false := by
    apply decide_eq_false
    intro h; exact ht (List.length_eq_zero_iff.1 (by omega))
  rw [K_fn P06.f53 _ _ rfl]
  (simp only [go_sem, simprocAttr, candle_asked, hv, sane_of_valid hv, h0]; repeat' (first | ((first | (refine br_yes (by omega) ?_) | (refine br_no (by omega) ?_) | (apply br_all; (· simp only [Bool.and_eq_true, decide_eq_true_eq]; omega)) | (apply br_free; (· simp [go_sem, Pm.acc, Acc.free, refsOf, offOf, keyEq, tagEq, cellsEq, cellEq]; done)) | ((first | apply br_mergeT | apply br_mergeF); (· intro h; simp only [go_sem, simprocAttr, sel_of h, candle_asked, hv, sane_of_valid hv, h0]; exact rfl))); (try simp only [go_sem, simprocAttr, candle_asked, hv, sane_of_valid hv, h0])) | ((first | apply onGuard_sel | (apply pickV_split; apply br_split) | apply br_split) <;> intro h <;> (try simp only [go_sem, simprocAttr, h, candle_asked, hv, sane_of_valid hv, h0]))))

def Book.askE (b : Book) (is : Bool) : Int := if b.valid then (if is then (if b.truths [] = [] then 62 else 0) else 61) else 60
def Book.isDay (b : Book) (day : Int) : Bool := within day 0 (b.days.length - 1)
def isKind (kind : Int) : Bool := within kind 0 1
def told (e : Int) (s : Int × Int) : Int × Int := if e = 0 then s else (0, 0)

theorem within_iff (n a c : Int) : within n a c = true ↔ a ≤ n ∧ n ≤ c := by simp [within]

@[go_sem] theorem Right_k (b : Book) [hb : b.Fits] : K Γ (.fn 2) [.agg b.c] [] = some (.tup [vb (b.valid && decide (b.truths [] ≠ [])), vi (if b.valid then 0 else 60)], []) := by
  rw [K_fn P06.f2 _ _ rfl]
  cases hv : b.valid with
  | false =>
    (simp only [go_sem, simprocAttr, candle_Right, hv, Bool.false_and]; repeat' (first | ((first | (refine br_yes (by omega) ?_) | (refine br_no (by omega) ?_) | (apply br_all; (· simp only [Bool.and_eq_true, decide_eq_true_eq]; omega)) | (apply br_free; (· simp [go_sem, Pm.acc, Acc.free, refsOf, offOf, keyEq, tagEq, cellsEq, cellEq]; done)) | ((first | apply br_mergeT | apply br_mergeF); (· intro h; simp only [go_sem, simprocAttr, sel_of h, candle_Right, hv, Bool.false_and]; exact rfl))); (try simp only [go_sem, simprocAttr, candle_Right, hv, Bool.false_and])) | ((first | apply onGuard_sel | (apply pickV_split; apply br_split) | apply br_split) <;> intro h <;> (try simp only [go_sem, simprocAttr, h, candle_Right, hv, Bool.false_and]))))
  | true =>
    have h0 : decide ((0 : Int) < ((b.truths []).length : Int)) = decide (b.truths [] ≠ []) := by
      rw [decide_eq_decide]
      constructor
      · intro h e; rw [e] at h; simp at h
      · intro h
        have : (b.truths []).length ≠ 0 := fun e => h (List.length_eq_zero_iff.1 e)
        omega
    (simp only [go_sem, simprocAttr, candle_Right, hv, sane_of_valid hv, h0]; repeat' (first | ((first | (refine br_yes (by omega) ?_) | (refine br_no (by omega) ?_) | (apply br_all; (· simp only [Bool.and_eq_true, decide_eq_true_eq]; omega)) | (apply br_free; (· simp [go_sem, Pm.acc, Acc.free, refsOf, offOf, keyEq, tagEq, cellsEq, cellEq]; done)) | ((first | apply br_mergeT | apply br_mergeF); (· intro h; simp only [go_sem, simprocAttr, sel_of h, candle_Right, hv, sane_of_valid hv, h0]; exact rfl))); (try simp only [go_sem, simprocAttr, candle_Right, hv, sane_of_valid hv, h0])) | ((first | apply onGuard_sel | (apply pickV_split; apply br_split) | apply br_split) <;> intro h <;> (try simp only [go_sem, simprocAttr, h, candle_Right, hv, sane_of_valid hv, h0]))))

@[go_sem] theorem Left_k (b : Book) [hb : b.Fits] (kind day : Int) : K Γ (.fn 6) [.agg b.c, vi kind, vi day] [] =
    some (.tup [.agg [ci (told (b.askE (isKind kind && b.isDay day)) (spanOf (tLeft kind day) (b.truths []))).1, ci (told (b.askE (isKind kind && b.isDay day)) (spanOf (tLeft kind day) (b.truths []))).2], vi (b.askE (isKind kind && b.isDay day))], []) := by
  rw [K_fn P06.f6 _ _ rfl]
  simp only [isKind, Book.isDay, Book.askE]
  cases hv : b.valid with
  | false =>
    have hA (is : Bool) := asked_bad (Γ := Γ) b hv is
    simp only [Z13] at hA
    (simp only [go_sem, simprocAttr, candle_Left, hA, told]; repeat' (first | ((first | (refine br_yes (by omega) ?_) | (refine br_no (by omega) ?_) | (apply br_all; (· simp only [Bool.and_eq_true, decide_eq_true_eq]; omega)) | (apply br_free; (· simp [go_sem, Pm.acc, Acc.free, refsOf, offOf, keyEq, tagEq, cellsEq, cellEq]; done)) | ((first | apply br_mergeT | apply br_mergeF); (· intro h; simp only [go_sem, simprocAttr, sel_of h, candle_Left, hA, told]; exact rfl))); (try simp only [go_sem, simprocAttr, candle_Left, hA, told])) | ((first | apply onGuard_sel | (apply pickV_split; apply br_split) | apply br_split) <;> intro h <;> (try simp only [go_sem, simprocAttr, h, candle_Left, hA, told]))))
  | true =>
    have hA := asked_ask (Γ := Γ) b hv
    simp only [Z13] at hA
    rcases Bool.eq_false_or_eq_true (within kind 0 1) with hk | hk
    rotate_left
    · (simp only [go_sem, simprocAttr, candle_Left, hA, hk, told, Bool.false_and, Bool.false_eq_true]; repeat' (first | ((first | (refine br_yes (by omega) ?_) | (refine br_no (by omega) ?_) | (apply br_all; (· simp only [Bool.and_eq_true, decide_eq_true_eq]; omega)) | (apply br_free; (· simp [go_sem, Pm.acc, Acc.free, refsOf, offOf, keyEq, tagEq, cellsEq, cellEq]; done)) | ((first | apply br_mergeT | apply br_mergeF); (· intro h; simp only [go_sem, simprocAttr, sel_of h, candle_Left, hA, hk, told, Bool.false_and, Bool.false_eq_true]; exact rfl))); (try simp only [go_sem, simprocAttr, candle_Left, hA, hk, told, Bool.false_and, Bool.false_eq_true])) | ((first | apply onGuard_sel | (apply pickV_split; apply br_split) | apply br_split) <;> intro h <;> (try simp only [go_sem, simprocAttr, h, candle_Left, hA, hk, told, Bool.false_and, Bool.false_eq_true]))))
    · rcases Bool.eq_false_or_eq_true (within day 0 (b.days.length - 1)) with hd | hd
      rotate_left
      · (simp only [go_sem, simprocAttr, candle_Left, hA, hk, hd, told, Bool.false_eq_true]; repeat' (first | ((first | (refine br_yes (by omega) ?_) | (refine br_no (by omega) ?_) | (apply br_all; (· simp only [Bool.and_eq_true, decide_eq_true_eq]; omega)) | (apply br_free; (· simp [go_sem, Pm.acc, Acc.free, refsOf, offOf, keyEq, tagEq, cellsEq, cellEq]; done)) | ((first | apply br_mergeT | apply br_mergeF); (· intro h; simp only [go_sem, simprocAttr, sel_of h, candle_Left, hA, hk, hd, told, Bool.false_eq_true]; exact rfl))); (try simp only [go_sem, simprocAttr, candle_Left, hA, hk, hd, told, Bool.false_eq_true])) | ((first | apply onGuard_sel | (apply pickV_split; apply br_split) | apply br_split) <;> intro h <;> (try simp only [go_sem, simprocAttr, h, candle_Left, hA, hk, hd, told, Bool.false_eq_true]))))
      · have hk' := (within_iff _ _ _).1 hk
        have hd' := (within_iff _ _ _).1 hd
        have hdl := valid_days (sane_of_valid hv)
        by_cases ht : b.truths [] = []
        · have hN := asked_no (Γ := Γ) b hv ht
          (simp only [go_sem, simprocAttr, candle_Left, hN, hk, hd, told, ht]; repeat' (first | ((first | (refine br_yes (by omega) ?_) | (refine br_no (by omega) ?_) | (apply br_all; (· simp only [Bool.and_eq_true, decide_eq_true_eq]; omega)) | (apply br_free; (· simp [go_sem, Pm.acc, Acc.free, refsOf, offOf, keyEq, tagEq, cellsEq, cellEq]; done)) | ((first | apply br_mergeT | apply br_mergeF); (· intro h; simp only [go_sem, simprocAttr, sel_of h, candle_Left, hN, hk, hd, told, ht]; exact rfl))); (try simp only [go_sem, simprocAttr, candle_Left, hN, hk, hd, told, ht])) | ((first | apply onGuard_sel | (apply pickV_split; apply br_split) | apply br_split) <;> intro h <;> (try simp only [go_sem, simprocAttr, h, candle_Left, hN, hk, hd, told, ht]))))
        · have hN := asked_ok (Γ := Γ) b hv ht
          have hS := left_k (Γ := Γ) b (sane_of_valid hv) [] ht kind day hk' (by omega)
          (simp only [go_sem, simprocAttr, candle_Left, hN, hk, hd, told, ht, hS]; repeat' (first | ((first | (refine br_yes (by omega) ?_) | (refine br_no (by omega) ?_) | (apply br_all; (· simp only [Bool.and_eq_true, decide_eq_true_eq]; omega)) | (apply br_free; (· simp [go_sem, Pm.acc, Acc.free, refsOf, offOf, keyEq, tagEq, cellsEq, cellEq]; done)) | ((first | apply br_mergeT | apply br_mergeF); (· intro h; simp only [go_sem, simprocAttr, sel_of h, candle_Left, hN, hk, hd, told, ht, hS]; exact rfl))); (try simp only [go_sem, simprocAttr, candle_Left, hN, hk, hd, told, ht, hS])) | ((first | apply onGuard_sel | (apply pickV_split; apply br_split) | apply br_split) <;> intro h <;> (try simp only [go_sem, simprocAttr, h, candle_Left, hN, hk, hd, told, ht, hS]))))

@[go_sem] theorem Life_k (b : Book) [hb : b.Fits] (kind : Int) : K Γ (.fn 8) [.agg b.c, vi kind] [] =
    some (.tup [.agg [ci (told (b.askE (isKind kind)) (spanOf (tLife kind) (b.truths []))).1, ci (told (b.askE (isKind kind)) (spanOf (tLife kind) (b.truths []))).2], vi (b.askE (isKind kind))], []) := by
  rw [K_fn P06.f8 _ _ rfl]
  simp only [isKind, Book.isDay, Book.askE]
  cases hv : b.valid with
  | false =>
    have hA (is : Bool) := asked_bad (Γ := Γ) b hv is
    simp only [Z13] at hA
    (simp only [go_sem, simprocAttr, candle_Life, hA, told]; repeat' (first | ((first | (refine br_yes (by omega) ?_) | (refine br_no (by omega) ?_) | (apply br_all; (· simp only [Bool.and_eq_true, decide_eq_true_eq]; omega)) | (apply br_free; (· simp [go_sem, Pm.acc, Acc.free, refsOf, offOf, keyEq, tagEq, cellsEq, cellEq]; done)) | ((first | apply br_mergeT | apply br_mergeF); (· intro h; simp only [go_sem, simprocAttr, sel_of h, candle_Life, hA, told]; exact rfl))); (try simp only [go_sem, simprocAttr, candle_Life, hA, told])) | ((first | apply onGuard_sel | (apply pickV_split; apply br_split) | apply br_split) <;> intro h <;> (try simp only [go_sem, simprocAttr, h, candle_Life, hA, told]))))
  | true =>
    have hA := asked_ask (Γ := Γ) b hv
    simp only [Z13] at hA
    rcases Bool.eq_false_or_eq_true (within kind 0 1) with hk | hk
    rotate_left
    · (simp only [go_sem, simprocAttr, candle_Life, hA, hk, told, Bool.false_and, Bool.false_eq_true]; repeat' (first | ((first | (refine br_yes (by omega) ?_) | (refine br_no (by omega) ?_) | (apply br_all; (· simp only [Bool.and_eq_true, decide_eq_true_eq]; omega)) | (apply br_free; (· simp [go_sem, Pm.acc, Acc.free, refsOf, offOf, keyEq, tagEq, cellsEq, cellEq]; done)) | ((first | apply br_mergeT | apply br_mergeF); (· intro h; simp only [go_sem, simprocAttr, sel_of h, candle_Life, hA, hk, told, Bool.false_and, Bool.false_eq_true]; exact rfl))); (try simp only [go_sem, simprocAttr, candle_Life, hA, hk, told, Bool.false_and, Bool.false_eq_true])) | ((first | apply onGuard_sel | (apply pickV_split; apply br_split) | apply br_split) <;> intro h <;> (try simp only [go_sem, simprocAttr, h, candle_Life, hA, hk, told, Bool.false_and, Bool.false_eq_true]))))
    · have hk' := (within_iff _ _ _).1 hk
      by_cases ht : b.truths [] = []
      · have hN := asked_no (Γ := Γ) b hv ht
        (simp only [go_sem, simprocAttr, candle_Life, hN, hk, told, ht]; repeat' (first | ((first | (refine br_yes (by omega) ?_) | (refine br_no (by omega) ?_) | (apply br_all; (· simp only [Bool.and_eq_true, decide_eq_true_eq]; omega)) | (apply br_free; (· simp [go_sem, Pm.acc, Acc.free, refsOf, offOf, keyEq, tagEq, cellsEq, cellEq]; done)) | ((first | apply br_mergeT | apply br_mergeF); (· intro h; simp only [go_sem, simprocAttr, sel_of h, candle_Life, hN, hk, told, ht]; exact rfl))); (try simp only [go_sem, simprocAttr, candle_Life, hN, hk, told, ht])) | ((first | apply onGuard_sel | (apply pickV_split; apply br_split) | apply br_split) <;> intro h <;> (try simp only [go_sem, simprocAttr, h, candle_Life, hN, hk, told, ht]))))
      · have hN := asked_ok (Γ := Γ) b hv ht
        have hr := truths_room (sane_of_valid hv) []
        have hS := span_k (Γ := Γ) b (.imap true false (enc2 b.comes)) rfl (b.truths []) ht (by simp only [room]; omega) (fun t h => truths_len b [] t h) (kT (b.truths [])) 57 [.eptr [ci kind] 0] rfl (tLife kind) (fun t h => life1_k t (truths_len b [] t h) kind hk')
        (simp only [go_sem, simprocAttr, candle_Life, hN, hk, told, ht, hS]; repeat' (first | ((first | (refine br_yes (by omega) ?_) | (refine br_no (by omega) ?_) | (apply br_all; (· simp only [Bool.and_eq_true, decide_eq_true_eq]; omega)) | (apply br_free; (· simp [go_sem, Pm.acc, Acc.free, refsOf, offOf, keyEq, tagEq, cellsEq, cellEq]; done)) | ((first | apply br_mergeT | apply br_mergeF); (· intro h; simp only [go_sem, simprocAttr, sel_of h, candle_Life, hN, hk, told, ht, hS]; exact rfl))); (try simp only [go_sem, simprocAttr, candle_Life, hN, hk, told, ht, hS])) | ((first | apply onGuard_sel | (apply pickV_split; apply br_split) | apply br_split) <;> intro h <;> (try simp only [go_sem, simprocAttr, h, candle_Life, hN, hk, told, ht, hS]))))

@[go_sem] theorem Dark_k (b : Book) [hb : b.Fits] (day : Int) : K Γ (.fn 10) [.agg b.c, vi day] [] =
    some (.tup [.agg [ci (told (b.askE (b.isDay day)) (spanOf (tDark day) (b.truths []))).1, ci (told (b.askE (b.isDay day)) (spanOf (tDark day) (b.truths []))).2], vi (b.askE (b.isDay day))], []) := by
  rw [K_fn P06.f10 _ _ rfl]
  simp only [isKind, Book.isDay, Book.askE]
  cases hv : b.valid with
  | false =>
    have hA (is : Bool) := asked_bad (Γ := Γ) b hv is
    simp only [Z13] at hA
    (simp only [go_sem, simprocAttr, candle_Dark, hA, told]; repeat' (first | ((first | (refine br_yes (by omega) ?_) | (refine br_no (by omega) ?_) | (apply br_all; (· simp only [Bool.and_eq_true, decide_eq_true_eq]; omega)) | (apply br_free; (· simp [go_sem, Pm.acc, Acc.free, refsOf, offOf, keyEq, tagEq, cellsEq, cellEq]; done)) | ((first | apply br_mergeT | apply br_mergeF); (· intro h; simp only [go_sem, simprocAttr, sel_of h, candle_Dark, hA, told]; exact rfl))); (try simp only [go_sem, simprocAttr, candle_Dark, hA, told])) | ((first | apply onGuard_sel | (apply pickV_split; apply br_split) | apply br_split) <;> intro h <;> (try simp only [go_sem, simprocAttr, h, candle_Dark, hA, told]))))
  | true =>
    have hA := asked_ask (Γ := Γ) b hv
    simp only [Z13] at hA
    rcases Bool.eq_false_or_eq_true (within day 0 (b.days.length - 1)) with hk | hk
    rotate_left
    · (simp only [go_sem, simprocAttr, candle_Dark, hA, hk, told, Bool.false_and, Bool.false_eq_true]; repeat' (first | ((first | (refine br_yes (by omega) ?_) | (refine br_no (by omega) ?_) | (apply br_all; (· simp only [Bool.and_eq_true, decide_eq_true_eq]; omega)) | (apply br_free; (· simp [go_sem, Pm.acc, Acc.free, refsOf, offOf, keyEq, tagEq, cellsEq, cellEq]; done)) | ((first | apply br_mergeT | apply br_mergeF); (· intro h; simp only [go_sem, simprocAttr, sel_of h, candle_Dark, hA, hk, told, Bool.false_and, Bool.false_eq_true]; exact rfl))); (try simp only [go_sem, simprocAttr, candle_Dark, hA, hk, told, Bool.false_and, Bool.false_eq_true])) | ((first | apply onGuard_sel | (apply pickV_split; apply br_split) | apply br_split) <;> intro h <;> (try simp only [go_sem, simprocAttr, h, candle_Dark, hA, hk, told, Bool.false_and, Bool.false_eq_true]))))
    · have hk' := (within_iff _ _ _).1 hk
      have hdl := valid_days (sane_of_valid hv)
      by_cases ht : b.truths [] = []
      · have hN := asked_no (Γ := Γ) b hv ht
        (simp only [go_sem, simprocAttr, candle_Dark, hN, hk, told, ht]; repeat' (first | ((first | (refine br_yes (by omega) ?_) | (refine br_no (by omega) ?_) | (apply br_all; (· simp only [Bool.and_eq_true, decide_eq_true_eq]; omega)) | (apply br_free; (· simp [go_sem, Pm.acc, Acc.free, refsOf, offOf, keyEq, tagEq, cellsEq, cellEq]; done)) | ((first | apply br_mergeT | apply br_mergeF); (· intro h; simp only [go_sem, simprocAttr, sel_of h, candle_Dark, hN, hk, told, ht]; exact rfl))); (try simp only [go_sem, simprocAttr, candle_Dark, hN, hk, told, ht])) | ((first | apply onGuard_sel | (apply pickV_split; apply br_split) | apply br_split) <;> intro h <;> (try simp only [go_sem, simprocAttr, h, candle_Dark, hN, hk, told, ht]))))
      · have hN := asked_ok (Γ := Γ) b hv ht
        have hr := truths_room (sane_of_valid hv) []
        have hS := span_k (Γ := Γ) b (.imap true false (enc2 b.comes)) rfl (b.truths []) ht (by simp only [room]; omega) (fun t h => truths_len b [] t h) (kT (b.truths [])) 60 [.eptr [ci day] 0] rfl (tDark day) (fun t h => dark1_k t (truths_len b [] t h) day (by omega))
        (simp only [go_sem, simprocAttr, candle_Dark, hN, hk, told, ht, hS]; repeat' (first | ((first | (refine br_yes (by omega) ?_) | (refine br_no (by omega) ?_) | (apply br_all; (· simp only [Bool.and_eq_true, decide_eq_true_eq]; omega)) | (apply br_free; (· simp [go_sem, Pm.acc, Acc.free, refsOf, offOf, keyEq, tagEq, cellsEq, cellEq]; done)) | ((first | apply br_mergeT | apply br_mergeF); (· intro h; simp only [go_sem, simprocAttr, sel_of h, candle_Dark, hN, hk, told, ht, hS]; exact rfl))); (try simp only [go_sem, simprocAttr, candle_Dark, hN, hk, told, ht, hS])) | ((first | apply onGuard_sel | (apply pickV_split; apply br_split) | apply br_split) <;> intro h <;> (try simp only [go_sem, simprocAttr, h, candle_Dark, hN, hk, told, ht, hS]))))
end
end Go.Pm.Cd

namespace Go.Pm.Cd
open Ac
set_option maxRecDepth 100000
set_option linter.unusedSimpArgs false
set_option linter.unusedSectionVars false
set_option linter.unusedVariables false

def Book.firstOn (b : Book) (q : Nat → Bool) : Int × Int := match findFrom (fun i _ => q i) 0 b.days with | some (i, _) => ((i : Int), 0) | none => (0, 4)
def Book.short (b : Book) (kind : Int) : Int × Int :=
  if b.askE (isKind kind) = 0 then b.firstOn (fun i => decide ((spanOf (tLeft kind i) (b.truths [])).1 < 0)) else (0, b.askE (isKind kind))
def Book.surely (b : Book) (kind : Int) : Int × Int :=
  if b.askE (isKind kind) = 0 then b.firstOn (fun i => decide ((spanOf (tLeft kind i) (b.truths [])).2 < 0)) else (0, b.askE (isKind kind))

section
variable {Γ : Env} [P06 Γ] [G06 Γ]

theorem first_L0 (b : Book) [hb : b.Fits] (hv : b.valid = true) (ht : b.truths [] ≠ []) (kind ask : Int) (q : Nat → Bool)
    (id : Nat) (hask : (ask = 0 ∧ id = 85) ∨ (ask = 1 ∧ id = 86))
    (hq : ∀ i : Nat, i < b.days.length → K Γ (.fn id) [.agg (b.open13 []), vi kind, vi i] [] = some (vb (q i), [])) {β : Type} (Q : Ex → St → Option β) :
    E Γ candle_first_L0 ⟨[(1, vi kind), (2, vi ask), (8, .sc (.ptr 1 0)), (23, vi b.days.length), (24, vi 0)], [.var b.c, .var (b.open13 [])]⟩ Q =
      match findFrom (fun i _ => q i) 0 b.days with
      | some (i, _) => Q .ret ⟨[(6, vi i), (7, vi 0)], [.var b.c, .var (b.open13 [])]⟩
      | none => Q (.exit 0) ⟨[(1, vi kind), (2, vi ask), (8, .sc (.ptr 1 0)), (23, vi b.days.length), (24, vi b.days.length), (25, vb false)], [.var b.c, .var (b.open13 [])]⟩ := by
  have hg2 : Γ.glob 2 = [.fn (.fn 85) [] [] [], .fn (.fn 86) [] [] []] := G06.g2
  have hdl := valid_days (sane_of_valid hv)
  refine (E_find (fun i => ⟨[(1, vi kind), (2, vi ask), (8, .sc (.ptr 1 0)), (23, vi b.days.length), (24, vi i)], [.var b.c, .var (b.open13 [])]⟩) b.days (fun i _ => q i)
    (fun i x => (.ret, ⟨[(6, vi i), (7, vi 0)], [.var b.c, .var (b.open13 [])]⟩))
    (.exit 0, ⟨[(1, vi kind), (2, vi ask), (8, .sc (.ptr 1 0)), (23, vi b.days.length), (24, vi b.days.length), (25, vb false)], [.var b.c, .var (b.open13 [])]⟩) Q ?_ ?_ ?_).trans ?_
  · intro i x hx hqi
    have hlt : i < b.days.length := (List.getElem?_eq_some_iff.1 hx).1
    have hiw : IntKind.i64.wrap ((i : Int) + 1) = i + 1 := wrap_i64 (by omega) (by omega)
    have hK := hq i hlt
    rcases hask with ⟨rfl, rfl⟩ | ⟨rfl, rfl⟩
    · (simp only [go_sem, simprocAttr, candle_first_B0, hiw, hg2, hK, hqi]; repeat' (first | ((first | (refine br_yes (by omega) ?_) | (refine br_no (by omega) ?_) | (apply br_all; (· simp only [Bool.and_eq_true, decide_eq_true_eq]; omega)) | (apply br_free; (· simp [go_sem, Pm.acc, Acc.free, refsOf, offOf, keyEq, tagEq, cellsEq, cellEq]; done)) | ((first | apply br_mergeT | apply br_mergeF); (· intro h; simp only [go_sem, simprocAttr, sel_of h, candle_first_B0, hiw, hg2, hK, hqi]; exact rfl))); (try simp only [go_sem, simprocAttr, candle_first_B0, hiw, hg2, hK, hqi])) | ((first | apply onGuard_sel | (apply pickV_split; apply br_split) | apply br_split) <;> intro h <;> (try simp only [go_sem, simprocAttr, h, candle_first_B0, hiw, hg2, hK, hqi]))))
      rfl
    · (simp only [go_sem, simprocAttr, candle_first_B0, hiw, hg2, hK, hqi]; repeat' (first | ((first | (refine br_yes (by omega) ?_) | (refine br_no (by omega) ?_) | (apply br_all; (· simp only [Bool.and_eq_true, decide_eq_true_eq]; omega)) | (apply br_free; (· simp [go_sem, Pm.acc, Acc.free, refsOf, offOf, keyEq, tagEq, cellsEq, cellEq]; done)) | ((first | apply br_mergeT | apply br_mergeF); (· intro h; simp only [go_sem, simprocAttr, sel_of h, candle_first_B0, hiw, hg2, hK, hqi]; exact rfl))); (try simp only [go_sem, simprocAttr, candle_first_B0, hiw, hg2, hK, hqi])) | ((first | apply onGuard_sel | (apply pickV_split; apply br_split) | apply br_split) <;> intro h <;> (try simp only [go_sem, simprocAttr, h, candle_first_B0, hiw, hg2, hK, hqi]))))
      rfl
  · intro i x hx hqi
    have hlt : i < b.days.length := (List.getElem?_eq_some_iff.1 hx).1
    have hK := hq i hlt
    rcases hask with ⟨rfl, rfl⟩ | ⟨rfl, rfl⟩
    · (simp only [go_sem, simprocAttr, candle_first_B0, hg2, hK, hqi]; repeat' (first | ((first | (refine br_yes (by omega) ?_) | (refine br_no (by omega) ?_) | (apply br_all; (· simp only [Bool.and_eq_true, decide_eq_true_eq]; omega)) | (apply br_free; (· simp [go_sem, Pm.acc, Acc.free, refsOf, offOf, keyEq, tagEq, cellsEq, cellEq]; done)) | ((first | apply br_mergeT | apply br_mergeF); (· intro h; simp only [go_sem, simprocAttr, sel_of h, candle_first_B0, hg2, hK, hqi]; exact rfl))); (try simp only [go_sem, simprocAttr, candle_first_B0, hg2, hK, hqi])) | ((first | apply onGuard_sel | (apply pickV_split; apply br_split) | apply br_split) <;> intro h <;> (try simp only [go_sem, simprocAttr, h, candle_first_B0, hg2, hK, hqi]))))
    · (simp only [go_sem, simprocAttr, candle_first_B0, hg2, hK, hqi]; repeat' (first | ((first | (refine br_yes (by omega) ?_) | (refine br_no (by omega) ?_) | (apply br_all; (· simp only [Bool.and_eq_true, decide_eq_true_eq]; omega)) | (apply br_free; (· simp [go_sem, Pm.acc, Acc.free, refsOf, offOf, keyEq, tagEq, cellsEq, cellEq]; done)) | ((first | apply br_mergeT | apply br_mergeF); (· intro h; simp only [go_sem, simprocAttr, sel_of h, candle_first_B0, hg2, hK, hqi]; exact rfl))); (try simp only [go_sem, simprocAttr, candle_first_B0, hg2, hK, hqi])) | ((first | apply onGuard_sel | (apply pickV_split; apply br_split) | apply br_split) <;> intro h <;> (try simp only [go_sem, simprocAttr, h, candle_first_B0, hg2, hK, hqi]))))
  · (simp only [go_sem, simprocAttr, candle_first_B0]; repeat' (first | ((first | (refine br_yes (by omega) ?_) | (refine br_no (by omega) ?_) | (apply br_all; (· simp only [Bool.and_eq_true, decide_eq_true_eq]; omega)) | (apply br_free; (· simp [go_sem, Pm.acc, Acc.free, refsOf, offOf, keyEq, tagEq, cellsEq, cellEq]; done)) | ((first | apply br_mergeT | apply br_mergeF); (· intro h; simp only [go_sem, simprocAttr, sel_of h, candle_first_B0]; exact rfl))); (try simp only [go_sem, simprocAttr, candle_first_B0])) | ((first | apply onGuard_sel | (apply pickV_split; apply br_split) | apply br_split) <;> intro h <;> (try simp only [go_sem, simprocAttr, h, candle_first_B0]))))
  · cases findFrom (fun i _ => q i) 0 b.days <;> rfl

theorem first_k (b : Book) [hb : b.Fits] (kind ask : Int) (q : Nat → Bool) (id : Nat) (hask : (ask = 0 ∧ id = 85) ∨ (ask = 1 ∧ id = 86))
    (hq : b.valid = true → b.truths [] ≠ [] → within kind 0 1 = true → ∀ i : Nat, i < b.days.length → K Γ (.fn id) [.agg (b.open13 []), vi kind, vi i] [] = some (vb (q i), [])) :
    K Γ (.fn 61) [.agg b.c, vi kind, vi ask] [] = some (.tup [vi (if b.askE (isKind kind) = 0 then b.firstOn q else (0, b.askE (isKind kind))).1, vi (if b.askE (isKind kind) = 0 then b.firstOn q else (0, b.askE (isKind kind))).2], []) := by
  rw [K_fn P06.f61 _ _ rfl]
  simp only [isKind, Book.isDay, Book.askE]
  rcases Bool.eq_false_or_eq_true b.valid with hv | hv
  rotate_left
  · have hA (is : Bool) := asked_bad (Γ := Γ) b hv is
    simp only [Z13] at hA
    (simp only [go_sem, simprocAttr, candle_first, hA, hv, Bool.false_eq_true]; repeat' (first | ((first | (refine br_yes (by omega) ?_) | (refine br_no (by omega) ?_) | (apply br_all; (· simp only [Bool.and_eq_true, decide_eq_true_eq]; omega)) | (apply br_free; (· simp [go_sem, Pm.acc, Acc.free, refsOf, offOf, keyEq, tagEq, cellsEq, cellEq]; done)) | ((first | apply br_mergeT | apply br_mergeF); (· intro h; simp only [go_sem, simprocAttr, sel_of h, candle_first, hA, hv, Bool.false_eq_true]; exact rfl))); (try simp only [go_sem, simprocAttr, candle_first, hA, hv, Bool.false_eq_true])) | ((first | apply onGuard_sel | (apply pickV_split; apply br_split) | apply br_split) <;> intro h <;> (try simp only [go_sem, simprocAttr, h, candle_first, hA, hv, Bool.false_eq_true]))))
  · have hA := asked_ask (Γ := Γ) b hv
    simp only [Z13] at hA
    rcases Bool.eq_false_or_eq_true (within kind 0 1) with hk | hk
    rotate_left
    · (simp only [go_sem, simprocAttr, candle_first, hA, hv, hk, Bool.false_and, Bool.false_eq_true]; repeat' (first | ((first | (refine br_yes (by omega) ?_) | (refine br_no (by omega) ?_) | (apply br_all; (· simp only [Bool.and_eq_true, decide_eq_true_eq]; omega)) | (apply br_free; (· simp [go_sem, Pm.acc, Acc.free, refsOf, offOf, keyEq, tagEq, cellsEq, cellEq]; done)) | ((first | apply br_mergeT | apply br_mergeF); (· intro h; simp only [go_sem, simprocAttr, sel_of h, candle_first, hA, hv, hk, Bool.false_and, Bool.false_eq_true]; exact rfl))); (try simp only [go_sem, simprocAttr, candle_first, hA, hv, hk, Bool.false_and, Bool.false_eq_true])) | ((first | apply onGuard_sel | (apply pickV_split; apply br_split) | apply br_split) <;> intro h <;> (try simp only [go_sem, simprocAttr, h, candle_first, hA, hv, hk, Bool.false_and, Bool.false_eq_true]))))
    · by_cases ht : b.truths [] = []
      · have hN := asked_no (Γ := Γ) b hv ht
        (simp only [go_sem, simprocAttr, candle_first, hN, hv, hk, ht]; repeat' (first | ((first | (refine br_yes (by omega) ?_) | (refine br_no (by omega) ?_) | (apply br_all; (· simp only [Bool.and_eq_true, decide_eq_true_eq]; omega)) | (apply br_free; (· simp [go_sem, Pm.acc, Acc.free, refsOf, offOf, keyEq, tagEq, cellsEq, cellEq]; done)) | ((first | apply br_mergeT | apply br_mergeF); (· intro h; simp only [go_sem, simprocAttr, sel_of h, candle_first, hN, hv, hk, ht]; exact rfl))); (try simp only [go_sem, simprocAttr, candle_first, hN, hv, hk, ht])) | ((first | apply onGuard_sel | (apply pickV_split; apply br_split) | apply br_split) <;> intro h <;> (try simp only [go_sem, simprocAttr, h, candle_first, hN, hv, hk, ht]))))
      · have hN := asked_ok (Γ := Γ) b hv ht
        have hL {β : Type} (Q : Ex → St → Option β) := first_L0 b hv ht kind ask q id hask (hq hv ht hk) Q
        cases hf : findFrom (fun i _ => q i) 0 b.days with
        | none =>
          simp only [hf] at hL
          (simp only [go_sem, simprocAttr, candle_first, hN, hv, hk, ht, hL, Book.firstOn, hf]; repeat' (first | ((first | (refine br_yes (by omega) ?_) | (refine br_no (by omega) ?_) | (apply br_all; (· simp only [Bool.and_eq_true, decide_eq_true_eq]; omega)) | (apply br_free; (· simp [go_sem, Pm.acc, Acc.free, refsOf, offOf, keyEq, tagEq, cellsEq, cellEq]; done)) | ((first | apply br_mergeT | apply br_mergeF); (· intro h; simp only [go_sem, simprocAttr, sel_of h, candle_first, hN, hv, hk, ht, hL, Book.firstOn, hf]; exact rfl))); (try simp only [go_sem, simprocAttr, candle_first, hN, hv, hk, ht, hL, Book.firstOn, hf])) | ((first | apply onGuard_sel | (apply pickV_split; apply br_split) | apply br_split) <;> intro h <;> (try simp only [go_sem, simprocAttr, h, candle_first, hN, hv, hk, ht, hL, Book.firstOn, hf]))))
        | some p =>
          simp only [hf] at hL
          (simp only [go_sem, simprocAttr, candle_first, hN, hv, hk, ht, hL, Book.firstOn, hf]; repeat' (first | ((first | (refine br_yes (by omega) ?_) | (refine br_no (by omega) ?_) | (apply br_all; (· simp only [Bool.and_eq_true, decide_eq_true_eq]; omega)) | (apply br_free; (· simp [go_sem, Pm.acc, Acc.free, refsOf, offOf, keyEq, tagEq, cellsEq, cellEq]; done)) | ((first | apply br_mergeT | apply br_mergeF); (· intro h; simp only [go_sem, simprocAttr, sel_of h, candle_first, hN, hv, hk, ht, hL, Book.firstOn, hf]; exact rfl))); (try simp only [go_sem, simprocAttr, candle_first, hN, hv, hk, ht, hL, Book.firstOn, hf])) | ((first | apply onGuard_sel | (apply pickV_split; apply br_split) | apply br_split) <;> intro h <;> (try simp only [go_sem, simprocAttr, h, candle_first, hN, hv, hk, ht, hL, Book.firstOn, hf]))))

@[go_sem] theorem Short_k (b : Book) [hb : b.Fits] (kind : Int) : K Γ (.fn 13) [.agg b.c, vi kind] [] = some (.tup [vi (b.short kind).1, vi (b.short kind).2], []) := by
  have hF := first_k (Γ := Γ) b kind 0 (fun i => decide ((spanOf (tLeft kind i) (b.truths [])).1 < 0)) 85 (.inl ⟨rfl, rfl⟩) (fun hv ht hk i hi =>
    may_k b (sane_of_valid hv) [] ht kind i ((within_iff _ _ _).1 hk) (by have := valid_days (sane_of_valid hv); omega))
  rw [K_fn P06.f13 _ _ rfl]
  (simp only [go_sem, simprocAttr, candle_Short, hF]; repeat' (first | ((first | (refine br_yes (by omega) ?_) | (refine br_no (by omega) ?_) | (apply br_all; (· simp only [Bool.and_eq_true, decide_eq_true_eq]; omega)) | (apply br_free; (· simp [go_sem, Pm.acc, Acc.free, refsOf, offOf, keyEq, tagEq, cellsEq, cellEq]; done)) | ((first | apply br_mergeT | apply br_mergeF); (· intro h; simp only [go_sem, simprocAttr, sel_of h, candle_Short, hF]; exact rfl))); (try simp only [go_sem, simprocAttr, candle_Short, hF])) | ((first | apply onGuard_sel | (apply pickV_split; apply br_split) | apply br_split) <;> intro h <;> (try simp only [go_sem, simprocAttr, h, candle_Short, hF]))))
  rfl
@[go_sem] theorem Surely_k (b : Book) [hb : b.Fits] (kind : Int) : K Γ (.fn 15) [.agg b.c, vi kind] [] = some (.tup [vi (b.surely kind).1, vi (b.surely kind).2], []) := by
  have hF := first_k (Γ := Γ) b kind 1 (fun i => decide ((spanOf (tLeft kind i) (b.truths [])).2 < 0)) 86 (.inr ⟨rfl, rfl⟩) (fun hv ht hk i hi =>
    must_k b (sane_of_valid hv) [] ht kind i ((within_iff _ _ _).1 hk) (by have := valid_days (sane_of_valid hv); omega))
  rw [K_fn P06.f15 _ _ rfl]
  (simp only [go_sem, simprocAttr, candle_Surely, hF]; repeat' (first | ((first | (refine br_yes (by omega) ?_) | (refine br_no (by omega) ?_) | (apply br_all; (· simp only [Bool.and_eq_true, decide_eq_true_eq]; omega)) | (apply br_free; (· simp [go_sem, Pm.acc, Acc.free, refsOf, offOf, keyEq, tagEq, cellsEq, cellEq]; done)) | ((first | apply br_mergeT | apply br_mergeF); (· intro h; simp only [go_sem, simprocAttr, sel_of h, candle_Surely, hF]; exact rfl))); (try simp only [go_sem, simprocAttr, candle_Surely, hF])) | ((first | apply onGuard_sel | (apply pickV_split; apply br_split) | apply br_split) <;> intro h <;> (try simp only [go_sem, simprocAttr, h, candle_Surely, hF]))))
  rfl
end
end Go.Pm.Cd

namespace Go.Pm.Cd
open Ac
set_option maxRecDepth 100000
set_option linter.unusedSimpArgs false
set_option linter.unusedSectionVars false
set_option linter.unusedVariables false

def topK (k : SK) : SK := match k with | .nil => .nil | _ => .full
theorem sliced_top (es : Nat) (k : SK) (l : List (List C)) (n : Nat) (hn : l.length = n) : sliced es (.sc (.sl k es l)) none (some (.sc (.int .i64 n))) (some (.sc (.int .i64 n))) = some (.sl (topK k) es l) := by
  subst hn
  cases k <;> simp [sliced, bounds, boundM, boundH, boundL, bound, capOf, slKind, topK]
theorem appended_top (es : Nat) (k k' : SK) (l : List (List C)) (x : List C) (hr : l.length + 1 ≤ room) : appended es (.sc (.sl (topK k) es l)) (.sc (.sl k' es [x])) = some (.own es (l ++ [x])) := by
  cases k <;> simp [appended, elems, topK, hr]

def Book.add (b : Book) (x : Count) : Book := { b with kc := .shared, counts := b.counts ++ [x] }
def ownB (b : Book) (x : Count) : List C := [ci b.s0.lo, ci b.s0.hi, ci b.s1.lo, ci b.s1.hi, ci b.f0.lo, ci b.f0.hi, ci b.f1.lo, ci b.f1.hi, .sl b.kd 5 (b.days.map Day.c), .sl b.ko 3 (b.orders.map Order.c), .own 4 (b.counts.map Count.c ++ [x.c])]
@[go_sem] theorem ownB_set (b : Book) (x : Count) : b.c.set 10 (.own 4 (b.counts.map Count.c ++ [x.c])) = ownB b x := nrfl rfl
@[go_sem] theorem ownB_all (b : Book) (x : Count) : cellsAt (ownB b x) 0 11 = some (ownB b x) := nrfl rfl
@[go_sem] theorem ownB_un (b : Book) (x : Count) : (ownB b x).map unown = (b.add x).c := by
  simp [ownB, Book.add, Book.c, unown]
@[go_sem] theorem ownB_under (b : Book) (x : Count) (n : Nat) : C.underL n (ownB b x) = true := by simp [ownB, go_sem]

theorem sane_add {b : Book} (hv : b.valid = true) {x : Count} (hx : b.isCount x = true) : (b.add x).sane = true := by
  have e1 : (b.add x).orderOk = b.orderOk := rfl
  have e2 : (b.add x).isCount = b.isCount := rfl
  simp only [Book.valid, Book.sane, Bool.and_eq_true, decide_eq_true_eq, e1, e2] at hv ⊢
  refine ⟨⟨⟨⟨⟨⟨⟨⟨⟨hv.1.1.1.1.1.1.1.1.1, hv.1.1.1.1.1.1.1.1.2⟩, ?_⟩, hv.1.1.1.1.1.1.2⟩, hv.1.1.1.1.1.2⟩, hv.1.1.1.1.2⟩, hv.1.1.1.2⟩, hv.1.1.2⟩, hv.1.2⟩, ?_⟩
  · have := hv.1.1.1.1.1.1.1.2
    simp only [Book.add, List.length_append, List.length_cons, List.length_nil]; omega
  · simp only [Book.add, List.all_append, List.all_cons, List.all_nil, hv.2, hx]; rfl

section
variable {Γ : Env} [P06 Γ] [G06 Γ]

theorem fits_add {b : Book} (hv : b.valid = true) (x : Count) : (b.add x).Fits := by
  have := valid_days (sane_of_valid hv)
  exact ⟨by simp only [Book.add]; omega, by simp only [Book.add]; omega, by simp only [Book.add, List.length_append, List.length_cons, List.length_nil]; omega⟩

def Book.fits (b : Book) (x : Count) : Bool × Int := if b.askE (b.isCount x) = 0 then (decide ((b.add x).truths [] ≠ []), 0) else (false, b.askE (b.isCount x))

@[go_sem] theorem Fits_k (b : Book) [hb : b.Fits] (x : Count) : K Γ (.fn 19) [.agg b.c, .agg x.c] [] = some (.tup [vb (b.fits x).1, vi (b.fits x).2], []) := by
  rw [K_fn P06.f19 _ _ rfl]
  simp only [Book.fits, Book.askE]
  rcases Bool.eq_false_or_eq_true b.valid with hv | hv
  rotate_left
  · have hA (is : Bool) := asked_bad (Γ := Γ) b hv is
    simp only [Z13] at hA
    (simp only [go_sem, simprocAttr, candle_Fits, hA, hv, Bool.false_eq_true]; repeat' (first | ((first | (refine br_yes (by omega) ?_) | (refine br_no (by omega) ?_) | (apply br_all; (· simp only [Bool.and_eq_true, decide_eq_true_eq]; omega)) | (apply br_free; (· simp [go_sem, Pm.acc, Acc.free, refsOf, offOf, keyEq, tagEq, cellsEq, cellEq]; done)) | ((first | apply br_mergeT | apply br_mergeF); (· intro h; simp only [go_sem, simprocAttr, sel_of h, candle_Fits, hA, hv, Bool.false_eq_true]; exact rfl))); (try simp only [go_sem, simprocAttr, candle_Fits, hA, hv, Bool.false_eq_true])) | ((first | apply onGuard_sel | (apply pickV_split; apply br_split) | apply br_split) <;> intro h <;> (try simp only [go_sem, simprocAttr, h, candle_Fits, hA, hv, Bool.false_eq_true]))))
  · have hA := asked_ask (Γ := Γ) b hv
    simp only [Z13] at hA
    rcases Bool.eq_false_or_eq_true (b.isCount x) with hk | hk
    rotate_left
    · (simp only [go_sem, simprocAttr, candle_Fits, hA, hv, hk, Bool.false_and, Bool.false_eq_true]; repeat' (first | ((first | (refine br_yes (by omega) ?_) | (refine br_no (by omega) ?_) | (apply br_all; (· simp only [Bool.and_eq_true, decide_eq_true_eq]; omega)) | (apply br_free; (· simp [go_sem, Pm.acc, Acc.free, refsOf, offOf, keyEq, tagEq, cellsEq, cellEq]; done)) | ((first | apply br_mergeT | apply br_mergeF); (· intro h; simp only [go_sem, simprocAttr, sel_of h, candle_Fits, hA, hv, hk, Bool.false_and, Bool.false_eq_true]; exact rfl))); (try simp only [go_sem, simprocAttr, candle_Fits, hA, hv, hk, Bool.false_and, Bool.false_eq_true])) | ((first | apply onGuard_sel | (apply pickV_split; apply br_split) | apply br_split) <;> intro h <;> (try simp only [go_sem, simprocAttr, h, candle_Fits, hA, hv, hk, Bool.false_and, Bool.false_eq_true]))))
    · by_cases ht : b.truths [] = []
      · have hN := asked_no (Γ := Γ) b hv ht
        (simp only [go_sem, simprocAttr, candle_Fits, hN, hv, hk, ht]; repeat' (first | ((first | (refine br_yes (by omega) ?_) | (refine br_no (by omega) ?_) | (apply br_all; (· simp only [Bool.and_eq_true, decide_eq_true_eq]; omega)) | (apply br_free; (· simp [go_sem, Pm.acc, Acc.free, refsOf, offOf, keyEq, tagEq, cellsEq, cellEq]; done)) | ((first | apply br_mergeT | apply br_mergeF); (· intro h; simp only [go_sem, simprocAttr, sel_of h, candle_Fits, hN, hv, hk, ht]; exact rfl))); (try simp only [go_sem, simprocAttr, candle_Fits, hN, hv, hk, ht])) | ((first | apply onGuard_sel | (apply pickV_split; apply br_split) | apply br_split) <;> intro h <;> (try simp only [go_sem, simprocAttr, h, candle_Fits, hN, hv, hk, ht]))))
      · have hN := asked_ok (Γ := Γ) b hv ht
        have hs := sane_add hv hk
        haveI := fits_add hv x
        have hc := (valid_days (sane_of_valid hv)).2.2.2
        have hS := sliced_top 4 b.kc (b.counts.map Count.c) b.counts.length (by simp)
        have hP := appended_top 4 b.kc .full (b.counts.map Count.c) x.c (by simp only [List.length_map, room]; omega)
        have h0 : decide ((0 : Int) < (((b.add x).truths []).length : Int)) = decide ((b.add x).truths [] ≠ []) := by
          rw [decide_eq_decide]
          constructor
          · intro h e; rw [e] at h; simp at h
          · intro h
            have : ((b.add x).truths []).length ≠ 0 := fun e => h (List.length_eq_zero_iff.1 e)
            omega
        (simp only [go_sem, simprocAttr, candle_Fits, hN, hv, hk, ht, hs, hS, hP, h0]; repeat' (first | ((first | (refine br_yes (by omega) ?_) | (refine br_no (by omega) ?_) | (apply br_all; (· simp only [Bool.and_eq_true, decide_eq_true_eq]; omega)) | (apply br_free; (· simp [go_sem, Pm.acc, Acc.free, refsOf, offOf, keyEq, tagEq, cellsEq, cellEq]; done)) | ((first | apply br_mergeT | apply br_mergeF); (· intro h; simp only [go_sem, simprocAttr, sel_of h, candle_Fits, hN, hv, hk, ht, hs, hS, hP, h0]; exact rfl))); (try simp only [go_sem, simprocAttr, candle_Fits, hN, hv, hk, ht, hs, hS, hP, h0])) | ((first | apply onGuard_sel | (apply pickV_split; apply br_split) | apply br_split) <;> intro h <;> (try simp only [go_sem, simprocAttr, h, candle_Fits, hN, hv, hk, ht, hs, hS, hP, h0]))))
end
end Go.Pm.Cd

namespace Go.Pm.Cd
open Ac
set_option maxRecDepth 100000
set_option linter.unusedSimpArgs false
set_option linter.unusedSectionVars false
set_option linter.unusedVariables false

def fromOf (l : List Int) : Int := if l = [] then 0 else l.getD (l.length - 1) 0 + 1
def Book.choose (b : Book) : Nat → List Int → List Int × Bool
  | 0, l => (l, decide (b.truths l ≠ []))
  | r + 1, l => match findFrom (fun i _ => (b.choose r (l ++ [fromOf l + (i : Nat)])).2) 0 (List.range (b.counts.length - fromOf l).toNat) with
    | some (i, _) => ((b.choose r (l ++ [fromOf l + (i : Nat)])).1, true)
    | none => ([], false)
def iC (k : SK) (l : List Int) : C := .sl k 1 (l.map fun x => [ci x])
def chooseK (b : Book) (k : SK) : Nat → List Int → SK
  | 0, l => k
  | r + 1, l => if (b.choose (r + 1) l).2 then .shared else .nil

section
variable {Γ : Env} [P06 Γ] [G06 Γ]

theorem chooseK_shared (b : Book) (r : Nat) (l : List Int) (h : (b.choose r l).2 = true) : chooseK b .shared r l = .shared := by
  cases r with
  | zero => rfl
  | succ r => simp only [chooseK, h, if_true]

theorem choose_L0 (b : Book) [hb : b.Fits] (hv : b.sane = true) (q : Nat) (many r : Nat) (l : List Int) (k : SK) (H : List Obj) (n : Nat) (hl6 : l.length ≤ 6) (from' : Int) (hfr : 0 ≤ from' ∧ from' ≤ 7) (hn : H.length = n) (hq : q < n)
    (hhq : H[q]? = some (.var [.fn (.fn 62) [] [] [.eptr b.c 0, .ptr q 0]])) (hu : H.all (Obj.under n) = true)
    (hK : ∀ i : Nat, from' + i < b.counts.length → K Γ (.fn 62) [.sc (.sl .shared 1 ((l ++ [from' + (i : Nat)]).map fun x => [ci x])), vi many, .sc (.eptr b.c 0), .sc (.ptr q 0)] H =
      some (.tup [.sc (iC (chooseK b .shared r (l ++ [from' + (i : Nat)])) (b.choose r (l ++ [from' + (i : Nat)])).1), vb (b.choose r (l ++ [from' + (i : Nat)])).2], H)) {β : Type} (Q : Ex → St → Option β) :
    E Γ candle_Wrong_1_L0 ⟨[(0, .sc (.sl k 1 (l.map fun x => [ci x]))), (1, vi many), (2, .sc (.eptr b.c 0)), (3, .sc (.ptr q 0)), (8, vi l.length), (10, vi from')], H⟩ Q =
      match findFrom (fun i _ => (b.choose r (l ++ [from' + (i : Nat)])).2) 0 (List.range (b.counts.length - from').toNat) with
      | some (i, _) => Q .ret ⟨[(6, .sc (iC .shared (b.choose r (l ++ [from' + (i : Nat)])).1)), (7, vb true)], H⟩
      | none => Q (.exit 0) ⟨[(0, .sc (.sl k 1 (l.map fun x => [ci x]))), (1, vi many), (2, .sc (.eptr b.c 0)), (3, .sc (.ptr q 0)), (8, vi l.length), (10, vi (from' + (b.counts.length - from').toNat)), (38, vb false)], H⟩ := by
  have hvd := valid_days hv
  have hS := sliced_top 1 k (l.map fun x => [ci x]) l.length (by simp)
  have hts : H.take n = H := by rw [← hn]; exact List.take_length
  refine Eq.trans (congrArg (fun s => E Γ candle_Wrong_1_L0 s Q) (?_ : _ = (⟨[(0, .sc (.sl k 1 (l.map fun x => [ci x]))), (1, vi many), (2, .sc (.eptr b.c 0)), (3, .sc (.ptr q 0)), (8, vi l.length), (10, vi (from' + (0 : Nat)))], H⟩ : St))) ?_
  · simp
  refine (E_find (fun i => ⟨[(0, .sc (.sl k 1 (l.map fun x => [ci x]))), (1, vi many), (2, .sc (.eptr b.c 0)), (3, .sc (.ptr q 0)), (8, vi l.length), (10, vi (from' + (i : Nat)))], H⟩) (List.range (b.counts.length - from').toNat) (fun i _ => (b.choose r (l ++ [from' + (i : Nat)])).2)
    (fun i x => (.ret, ⟨[(6, .sc (iC .shared (b.choose r (l ++ [from' + (i : Nat)])).1)), (7, vb true)], H⟩))
    (.exit 0, ⟨[(0, .sc (.sl k 1 (l.map fun x => [ci x]))), (1, vi many), (2, .sc (.eptr b.c 0)), (3, .sc (.ptr q 0)), (8, vi l.length), (10, vi (from' + (b.counts.length - from').toNat)), (38, vb false)], H⟩) Q ?_ ?_ ?_).trans ?_
  · intro i x hx hqi
    have hlt : i < (b.counts.length - from').toNat := by
      have := (List.getElem?_eq_some_iff.1 hx).1; simpa using this
    have hlt2 : from' + (i : Int) < b.counts.length := by omega
    have hP := appended_top 1 k .full (l.map fun x => [ci x]) [ci (from' + (i : Nat))] (by simp only [List.length_map, room]; omega)
    have hiw : IntKind.i64.wrap (from' + (i : Int) + 1) = from' + (i + 1 : Nat) := by rw [wrap_i64 (by omega) (by omega)]; omega
    have hKi := hK i hlt2
    simp only [List.map_append, List.map_cons, List.map_nil] at hKi
    (simp only [go_sem, simprocAttr, candle_Wrong_1_B0, hn, heapB, hhq, hu, hS, hP, hKi, hqi, hiw, hq, hts, iC]; repeat' (first | ((first | (refine br_yes (by omega) ?_) | (refine br_no (by omega) ?_) | (apply br_all; (· simp only [Bool.and_eq_true, decide_eq_true_eq]; omega)) | (apply br_free; (· simp [go_sem, Pm.acc, Acc.free, refsOf, offOf, keyEq, tagEq, cellsEq, cellEq]; done)) | ((first | apply br_mergeT | apply br_mergeF); (· intro h; simp only [go_sem, simprocAttr, sel_of h, candle_Wrong_1_B0, hn, heapB, hhq, hu, hS, hP, hKi, hqi, hiw, hq, hts, iC]; exact rfl))); (try simp only [go_sem, simprocAttr, candle_Wrong_1_B0, hn, heapB, hhq, hu, hS, hP, hKi, hqi, hiw, hq, hts, iC])) | ((first | apply onGuard_sel | (apply pickV_split; apply br_split) | apply br_split) <;> intro h <;> (try simp only [go_sem, simprocAttr, h, candle_Wrong_1_B0, hn, heapB, hhq, hu, hS, hP, hKi, hqi, hiw, hq, hts, iC]))))
  · intro i x hx hqi
    have hlt : i < (b.counts.length - from').toNat := by
      have := (List.getElem?_eq_some_iff.1 hx).1; simpa using this
    have hlt2 : from' + (i : Int) < b.counts.length := by omega
    have hP := appended_top 1 k .full (l.map fun x => [ci x]) [ci (from' + (i : Nat))] (by simp only [List.length_map, room]; omega)
    have hKi := hK i hlt2
    have hsh := chooseK_shared b r _ hqi
    rw [hsh] at hKi
    simp only [List.map_append, List.map_cons, List.map_nil] at hKi
    (simp only [go_sem, simprocAttr, candle_Wrong_1_B0, hn, heapB, hhq, hu, hS, hP, hKi, hqi, hq, hts, iC]; repeat' (first | ((first | (refine br_yes (by omega) ?_) | (refine br_no (by omega) ?_) | (apply br_all; (· simp only [Bool.and_eq_true, decide_eq_true_eq]; omega)) | (apply br_free; (· simp [go_sem, Pm.acc, Acc.free, refsOf, offOf, keyEq, tagEq, cellsEq, cellEq]; done)) | ((first | apply br_mergeT | apply br_mergeF); (· intro h; simp only [go_sem, simprocAttr, sel_of h, candle_Wrong_1_B0, hn, heapB, hhq, hu, hS, hP, hKi, hqi, hq, hts, iC]; exact rfl))); (try simp only [go_sem, simprocAttr, candle_Wrong_1_B0, hn, heapB, hhq, hu, hS, hP, hKi, hqi, hq, hts, iC])) | ((first | apply onGuard_sel | (apply pickV_split; apply br_split) | apply br_split) <;> intro h <;> (try simp only [go_sem, simprocAttr, h, candle_Wrong_1_B0, hn, heapB, hhq, hu, hS, hP, hKi, hqi, hq, hts, iC]))))
  · have hnlt : ¬ (from' + ((b.counts.length - from').toNat : Int) < b.counts.length) := by omega
    have hdd := decide_eq_false hnlt
    simp only [List.length_range]
    (simp only [go_sem, simprocAttr, candle_Wrong_1_B0, hdd]; repeat' (first | ((first | (refine br_yes (by omega) ?_) | (refine br_no (by omega) ?_) | (apply br_all; (· simp only [Bool.and_eq_true, decide_eq_true_eq]; omega)) | (apply br_free; (· simp [go_sem, Pm.acc, Acc.free, refsOf, offOf, keyEq, tagEq, cellsEq, cellEq]; done)) | ((first | apply br_mergeT | apply br_mergeF); (· intro h; simp only [go_sem, simprocAttr, sel_of h, candle_Wrong_1_B0, hdd]; exact rfl))); (try simp only [go_sem, simprocAttr, candle_Wrong_1_B0, hdd])) | ((first | apply onGuard_sel | (apply pickV_split; apply br_split) | apply br_split) <;> intro h <;> (try simp only [go_sem, simprocAttr, h, candle_Wrong_1_B0, hdd]))))
  · cases findFrom (fun i _ => (b.choose r (l ++ [from' + (i : Nat)])).2) 0 (List.range (b.counts.length - from').toNat) <;> rfl

theorem choose_k (b : Book) [hb : b.Fits] (hv : b.sane = true) (q : Nat) (many : Nat) (hm : many ≤ 6) : ∀ (r : Nat) (l : List Int) (k : SK) (H : List Obj) (n : Nat), l.length + r = many → (∀ x, x ∈ l → 0 ≤ x ∧ x ≤ 6) → H.length = n → q < n →
    H[q]? = some (.var [.fn (.fn 62) [] [] [.eptr b.c 0, .ptr q 0]]) → H.all (Obj.under n) = true →
    K Γ (.fn 62) [.sc (iC k l), vi many, .sc (.eptr b.c 0), .sc (.ptr q 0)] H = some (.tup [.sc (iC (chooseK b k r l) (b.choose r l).1), vb (b.choose r l).2], H) := by
  intro r
  induction r with
  | zero =>
    intro l k H n hlr hl hn hq hhq hu
    have hll : (l.length : Int) = many := by omega
    have h0 : decide ((0 : Int) < ((b.truths l).length : Int)) = decide (b.truths l ≠ []) := by
      rw [decide_eq_decide]
      constructor
      · intro h e; rw [e] at h; simp at h
      · intro h
        have : (b.truths l).length ≠ 0 := fun e => h (List.length_eq_zero_iff.1 e)
        omega
    have hO := opened_but (Γ := Γ) b hv k l (by omega)
    simp only [iC]
    rw [K_fn P06.f62 _ _ rfl]
    (simp only [go_sem, simprocAttr, candle_Wrong_1, hn, heapB, hhq, hu, hO, h0, hll, Book.choose, chooseK, (by rw [← hn]; exact List.take_length : H.take n = H)]; repeat' (first | ((first | (refine br_yes (by omega) ?_) | (refine br_no (by omega) ?_) | (apply br_all; (· simp only [Bool.and_eq_true, decide_eq_true_eq]; omega)) | (apply br_free; (· simp [go_sem, Pm.acc, Acc.free, refsOf, offOf, keyEq, tagEq, cellsEq, cellEq]; done)) | ((first | apply br_mergeT | apply br_mergeF); (· intro h; simp only [go_sem, simprocAttr, sel_of h, candle_Wrong_1, hn, heapB, hhq, hu, hO, h0, hll, Book.choose, chooseK, (by rw [← hn]; exact List.take_length : H.take n = H)]; exact rfl))); (try simp only [go_sem, simprocAttr, candle_Wrong_1, hn, heapB, hhq, hu, hO, h0, hll, Book.choose, chooseK, (by rw [← hn]; exact List.take_length : H.take n = H)])) | ((first | apply onGuard_sel | (apply pickV_split; apply br_split) | apply br_split) <;> intro h <;> (try simp only [go_sem, simprocAttr, h, candle_Wrong_1, hn, heapB, hhq, hu, hO, h0, hll, Book.choose, chooseK, (by rw [← hn]; exact List.take_length : H.take n = H)]))))
  | succ r ih =>
    intro l k H n hlr hl hn hq hhq hu
    have hll : ¬ (l.length : Int) = many := by omega
    have hvd := valid_days hv
    have hts : H.take n = H := by rw [← hn]; exact List.take_length
    have hne : decide ((l.length : Int) = many) = false := decide_eq_false hll
    have hfr : 0 ≤ fromOf l ∧ fromOf l ≤ 7 := by
      by_cases he : l = []
      · simp [fromOf, he]
      · have hlp : l.length - 1 < l.length := by
          have : l.length ≠ 0 := fun e => he (List.length_eq_zero_iff.1 e)
          omega
        have hm' := hl (l.getD (l.length - 1) 0) (by simp only [List.getD, List.getElem?_eq_getElem hlp, Option.getD_some]; exact List.getElem_mem hlp)
        simp only [fromOf, if_neg he]; omega
    have hL {β : Type} (Q : Ex → St → Option β) := choose_L0 (Γ := Γ) b hv q many r l k H n (by omega) (fromOf l) hfr hn hq hhq hu (fun i hi => by
      have := ih (l ++ [fromOf l + (i : Nat)]) .shared H n (by simp; omega) (fun x hx => by
        rcases List.mem_append.1 hx with hx | hx
        · exact hl x hx
        · rw [List.mem_singleton] at hx; subst hx; omega) hn hq hhq hu
      exact this) Q
    have main : (match findFrom (fun i _ => (b.choose r (l ++ [fromOf l + (i : Nat)])).2) 0 (List.range (b.counts.length - fromOf l).toNat) with
        | some (i, _) => some (V.tup [.sc (iC .shared (b.choose r (l ++ [fromOf l + (i : Nat)])).1), vb true], H)
        | none => some (V.tup [.sc (.sl .nil 1 []), vb false], H)) = some (V.tup [.sc (iC (chooseK b k (r + 1) l) (b.choose (r + 1) l).1), vb (b.choose (r + 1) l).2], H) := by
      simp only [chooseK, Book.choose]
      obtain ⟨o, ho⟩ : ∃ o, findFrom (fun i _ => (b.choose r (l ++ [fromOf l + (i : Nat)])).2) 0 (List.range (b.counts.length - fromOf l).toNat) = o := ⟨_, rfl⟩
      simp only [ho]
      cases o <;> rfl
    rw [← main]
    clear main
    simp only [iC]
    rw [K_fn P06.f62 _ _ rfl]
    by_cases he : l = []
    · have hf0 : fromOf l = 0 := by simp [fromOf, he]
      have hl0 : decide ((0 : Int) < (l.length : Int)) = false := decide_eq_false (by rw [he]; simp)
      simp only [hf0] at hL ⊢
      cases hff : findFrom (fun i _ => (b.choose r (l ++ [0 + ((i : Nat) : Int)])).2) 0 (List.range ((b.counts.length : Int) - 0).toNat) with
      | none =>
        simp only [hff] at hL
        (simp only [go_sem, simprocAttr, candle_Wrong_1, hn, heapB, hhq, hu, hne, hl0, hL, hts]; repeat' (first | ((first | (refine br_yes (by omega) ?_) | (refine br_no (by omega) ?_) | (apply br_all; (· simp only [Bool.and_eq_true, decide_eq_true_eq]; omega)) | (apply br_free; (· simp [go_sem, Pm.acc, Acc.free, refsOf, offOf, keyEq, tagEq, cellsEq, cellEq]; done)) | ((first | apply br_mergeT | apply br_mergeF); (· intro h; simp only [go_sem, simprocAttr, sel_of h, candle_Wrong_1, hn, heapB, hhq, hu, hne, hl0, hL, hts]; exact rfl))); (try simp only [go_sem, simprocAttr, candle_Wrong_1, hn, heapB, hhq, hu, hne, hl0, hL, hts])) | ((first | apply onGuard_sel | (apply pickV_split; apply br_split) | apply br_split) <;> intro h <;> (try simp only [go_sem, simprocAttr, h, candle_Wrong_1, hn, heapB, hhq, hu, hne, hl0, hL, hts]))))
      | some p =>
        simp only [hff] at hL
        (simp only [go_sem, simprocAttr, candle_Wrong_1, hn, heapB, hhq, hu, hne, hl0, hL, hts, iC]; repeat' (first | ((first | (refine br_yes (by omega) ?_) | (refine br_no (by omega) ?_) | (apply br_all; (· simp only [Bool.and_eq_true, decide_eq_true_eq]; omega)) | (apply br_free; (· simp [go_sem, Pm.acc, Acc.free, refsOf, offOf, keyEq, tagEq, cellsEq, cellEq]; done)) | ((first | apply br_mergeT | apply br_mergeF); (· intro h; simp only [go_sem, simprocAttr, sel_of h, candle_Wrong_1, hn, heapB, hhq, hu, hne, hl0, hL, hts, iC]; exact rfl))); (try simp only [go_sem, simprocAttr, candle_Wrong_1, hn, heapB, hhq, hu, hne, hl0, hL, hts, iC])) | ((first | apply onGuard_sel | (apply pickV_split; apply br_split) | apply br_split) <;> intro h <;> (try simp only [go_sem, simprocAttr, h, candle_Wrong_1, hn, heapB, hhq, hu, hne, hl0, hL, hts, iC]))))
    · have hlp : l.length - 1 < l.length := by
        have : l.length ≠ 0 := fun e => he (List.length_eq_zero_iff.1 e)
        omega
      have hl0 : decide ((0 : Int) < (l.length : Int)) = true := decide_eq_true (by omega)
      have hlw : IntKind.i64.wrap ((l.length : Int) - 1) = l.length - 1 := wrap_i64 (by omega) (by omega)
      have hlt : ((l.length : Int) - 1).toNat = l.length - 1 := by omega
      have hget : l[l.length - 1]? = some (l.getD (l.length - 1) 0) := by simp only [List.getD, List.getElem?_eq_getElem hlp, Option.getD_some]
      have hfw : IntKind.i64.wrap (l.getD (l.length - 1) 0 + 1) = fromOf l := by
        have e : fromOf l = l.getD (l.length - 1) 0 + 1 := by simp only [fromOf, if_neg he]
        rw [e] at hfr ⊢
        exact wrap_i64 (by omega) (by omega)
      cases hff : findFrom (fun i _ => (b.choose r (l ++ [fromOf l + ((i : Nat) : Int)])).2) 0 (List.range ((b.counts.length : Int) - fromOf l).toNat) with
      | none =>
        simp only [hff] at hL
        (simp only [go_sem, simprocAttr, candle_Wrong_1, hn, heapB, hhq, hu, hne, hl0, hlw, hlt, hget, hfw, hL, hts]; repeat' (first | ((first | (refine br_yes (by omega) ?_) | (refine br_no (by omega) ?_) | (apply br_all; (· simp only [Bool.and_eq_true, decide_eq_true_eq]; omega)) | (apply br_free; (· simp [go_sem, Pm.acc, Acc.free, refsOf, offOf, keyEq, tagEq, cellsEq, cellEq]; done)) | ((first | apply br_mergeT | apply br_mergeF); (· intro h; simp only [go_sem, simprocAttr, sel_of h, candle_Wrong_1, hn, heapB, hhq, hu, hne, hl0, hlw, hlt, hget, hfw, hL, hts]; exact rfl))); (try simp only [go_sem, simprocAttr, candle_Wrong_1, hn, heapB, hhq, hu, hne, hl0, hlw, hlt, hget, hfw, hL, hts])) | ((first | apply onGuard_sel | (apply pickV_split; apply br_split) | apply br_split) <;> intro h <;> (try simp only [go_sem, simprocAttr, h, candle_Wrong_1, hn, heapB, hhq, hu, hne, hl0, hlw, hlt, hget, hfw, hL, hts]))))
      | some p =>
        simp only [hff] at hL
        (simp only [go_sem, simprocAttr, candle_Wrong_1, hn, heapB, hhq, hu, hne, hl0, hlw, hlt, hget, hfw, hL, hts, iC]; repeat' (first | ((first | (refine br_yes (by omega) ?_) | (refine br_no (by omega) ?_) | (apply br_all; (· simp only [Bool.and_eq_true, decide_eq_true_eq]; omega)) | (apply br_free; (· simp [go_sem, Pm.acc, Acc.free, refsOf, offOf, keyEq, tagEq, cellsEq, cellEq]; done)) | ((first | apply br_mergeT | apply br_mergeF); (· intro h; simp only [go_sem, simprocAttr, sel_of h, candle_Wrong_1, hn, heapB, hhq, hu, hne, hl0, hlw, hlt, hget, hfw, hL, hts, iC]; exact rfl))); (try simp only [go_sem, simprocAttr, candle_Wrong_1, hn, heapB, hhq, hu, hne, hl0, hlw, hlt, hget, hfw, hL, hts, iC])) | ((first | apply onGuard_sel | (apply pickV_split; apply br_split) | apply br_split) <;> intro h <;> (try simp only [go_sem, simprocAttr, h, candle_Wrong_1, hn, heapB, hhq, hu, hne, hl0, hlw, hlt, hget, hfw, hL, hts, iC]))))

def Book.wrong (b : Book) : List Int × Int := if b.valid then (match findFrom (fun m _ => (b.choose m []).2) 0 (List.range (b.counts.length + 1)) with | some (m, _) => (b.choose m []).1 | none => [], 0) else ([], 60)
def wrongK (b : Book) : SK := if b.valid then (match findFrom (fun m _ => (b.choose m []).2) 0 (List.range (b.counts.length + 1)) with | some (m, _) => topK (chooseK b .nil m []) | none => .nil) else .nil

theorem wrong_L0 (b : Book) [hb : b.Fits] (hv : b.sane = true) (hvc : b.counts.length ≤ 5) {β : Type} (Q : Ex → St → Option β) :
    E Γ candle_Wrong_L0 ⟨[(5, .sc (.ptr 1 0)), (18, vi (b.counts.length + 1)), (19, vi 0)], [.dead, .var [.fn (.fn 62) [] [] [.eptr b.c 0, .ptr 1 0]]]⟩ Q =
      match findFrom (fun m _ => (b.choose m []).2) 0 (List.range (b.counts.length + 1)) with
      | some (m, _) => Q .ret ⟨[(2, .sc (.sl (topK (chooseK b .nil m [])) 1 ((b.choose m []).1.map fun x => [ci x]))), (3, vi 0)], [.dead, .var [.fn (.fn 62) [] [] [.eptr b.c 0, .ptr 1 0]]]⟩
      | none => Q (.exit 0) ⟨[(5, .sc (.ptr 1 0)), (18, vi (b.counts.length + 1)), (19, vi (b.counts.length + 1)), (20, vb false)], [.dead, .var [.fn (.fn 62) [] [] [.eptr b.c 0, .ptr 1 0]]]⟩ := by
  have hK (i : Nat) (hi : i ≤ 6) := choose_k (Γ := Γ) b hv 1 i hi i [] .nil [.dead, .var [.fn (.fn 62) [] [] [.eptr b.c 0, .ptr 1 0]]] 2 (by simp) (by simp) rfl (by decide) rfl (by simp [go_sem])
  simp only [iC, List.map_nil] at hK
  refine (E_find (fun i => ⟨[(5, .sc (.ptr 1 0)), (18, vi (b.counts.length + 1)), (19, vi i)], [.dead, .var [.fn (.fn 62) [] [] [.eptr b.c 0, .ptr 1 0]]]⟩) (List.range (b.counts.length + 1)) (fun m _ => (b.choose m []).2)
    (fun m x => (.ret, ⟨[(2, .sc (.sl (topK (chooseK b .nil m [])) 1 ((b.choose m []).1.map fun x => [ci x]))), (3, vi 0)], [.dead, .var [.fn (.fn 62) [] [] [.eptr b.c 0, .ptr 1 0]]]⟩))
    (.exit 0, ⟨[(5, .sc (.ptr 1 0)), (18, vi (b.counts.length + 1)), (19, vi (b.counts.length + 1)), (20, vb false)], [.dead, .var [.fn (.fn 62) [] [] [.eptr b.c 0, .ptr 1 0]]]⟩) Q ?_ ?_ ?_).trans ?_
  · intro i x hx hqi
    have hlt : i < b.counts.length + 1 := by have := (List.getElem?_eq_some_iff.1 hx).1; simpa using this
    have hiw : IntKind.i64.wrap ((i : Int) + 1) = i + 1 := wrap_i64 (by omega) (by omega)
    have hKi := hK i (by omega)
    rw [hqi] at hKi
    (simp only [go_sem, simprocAttr, candle_Wrong_B0, hKi, hiw]; repeat' (first | ((first | (refine br_yes (by omega) ?_) | (refine br_no (by omega) ?_) | (apply br_all; (· simp only [Bool.and_eq_true, decide_eq_true_eq]; omega)) | (apply br_free; (· simp [go_sem, Pm.acc, Acc.free, refsOf, offOf, keyEq, tagEq, cellsEq, cellEq]; done)) | ((first | apply br_mergeT | apply br_mergeF); (· intro h; simp only [go_sem, simprocAttr, sel_of h, candle_Wrong_B0, hKi, hiw]; exact rfl))); (try simp only [go_sem, simprocAttr, candle_Wrong_B0, hKi, hiw])) | ((first | apply onGuard_sel | (apply pickV_split; apply br_split) | apply br_split) <;> intro h <;> (try simp only [go_sem, simprocAttr, h, candle_Wrong_B0, hKi, hiw]))))
    rfl
  · intro i x hx hqi
    have hlt : i < b.counts.length + 1 := by have := (List.getElem?_eq_some_iff.1 hx).1; simpa using this
    have hKi := hK i (by omega)
    rw [hqi] at hKi
    have hS := sliced_top 1 (chooseK b .nil i []) ((b.choose i []).1.map fun x => [ci x]) (b.choose i []).1.length (by simp)
    (simp only [go_sem, simprocAttr, candle_Wrong_B0, hKi, hS]; repeat' (first | ((first | (refine br_yes (by omega) ?_) | (refine br_no (by omega) ?_) | (apply br_all; (· simp only [Bool.and_eq_true, decide_eq_true_eq]; omega)) | (apply br_free; (· simp [go_sem, Pm.acc, Acc.free, refsOf, offOf, keyEq, tagEq, cellsEq, cellEq]; done)) | ((first | apply br_mergeT | apply br_mergeF); (· intro h; simp only [go_sem, simprocAttr, sel_of h, candle_Wrong_B0, hKi, hS]; exact rfl))); (try simp only [go_sem, simprocAttr, candle_Wrong_B0, hKi, hS])) | ((first | apply onGuard_sel | (apply pickV_split; apply br_split) | apply br_split) <;> intro h <;> (try simp only [go_sem, simprocAttr, h, candle_Wrong_B0, hKi, hS]))))
  · simp only [List.length_range]
    have hdd : decide (((b.counts.length + 1 : Nat) : Int) < b.counts.length + 1) = false := decide_eq_false (by omega)
    (simp only [go_sem, simprocAttr, candle_Wrong_B0, hdd]; repeat' (first | ((first | (refine br_yes (by omega) ?_) | (refine br_no (by omega) ?_) | (apply br_all; (· simp only [Bool.and_eq_true, decide_eq_true_eq]; omega)) | (apply br_free; (· simp [go_sem, Pm.acc, Acc.free, refsOf, offOf, keyEq, tagEq, cellsEq, cellEq]; done)) | ((first | apply br_mergeT | apply br_mergeF); (· intro h; simp only [go_sem, simprocAttr, sel_of h, candle_Wrong_B0, hdd]; exact rfl))); (try simp only [go_sem, simprocAttr, candle_Wrong_B0, hdd])) | ((first | apply onGuard_sel | (apply pickV_split; apply br_split) | apply br_split) <;> intro h <;> (try simp only [go_sem, simprocAttr, h, candle_Wrong_B0, hdd]))))
    rfl
  · obtain ⟨o, ho⟩ : ∃ o, findFrom (fun m _ => (b.choose m []).2) 0 (List.range (b.counts.length + 1)) = o := ⟨_, rfl⟩
    simp only [ho]
    cases o <;> rfl

@[go_sem] theorem Wrong_k (b : Book) [hb : b.Fits] : K Γ (.fn 21) [.agg b.c] [] = some (.tup [.sc (iC (wrongK b) b.wrong.1), vi b.wrong.2], []) := by
  rw [K_fn P06.f21 _ _ rfl]
  rcases Bool.eq_false_or_eq_true b.valid with hv | hv
  rotate_left
  · simp only [Book.wrong, wrongK, hv, Bool.false_eq_true, if_false, iC]
    (simp only [go_sem, simprocAttr, candle_Wrong, hv, Bool.false_eq_true]; repeat' (first | ((first | (refine br_yes (by omega) ?_) | (refine br_no (by omega) ?_) | (apply br_all; (· simp only [Bool.and_eq_true, decide_eq_true_eq]; omega)) | (apply br_free; (· simp [go_sem, Pm.acc, Acc.free, refsOf, offOf, keyEq, tagEq, cellsEq, cellEq]; done)) | ((first | apply br_mergeT | apply br_mergeF); (· intro h; simp only [go_sem, simprocAttr, sel_of h, candle_Wrong, hv, Bool.false_eq_true]; exact rfl))); (try simp only [go_sem, simprocAttr, candle_Wrong, hv, Bool.false_eq_true])) | ((first | apply onGuard_sel | (apply pickV_split; apply br_split) | apply br_split) <;> intro h <;> (try simp only [go_sem, simprocAttr, h, candle_Wrong, hv, Bool.false_eq_true]))))
  · simp only [Book.wrong, wrongK, hv, if_true, iC]
    have hvd := valid_days (sane_of_valid hv)
    have hvc : b.counts.length ≤ 5 := by
      simp only [Book.valid, Bool.and_eq_true, decide_eq_true_eq] at hv
      have := hv.1.1.1.1.1.1.1.2; omega
    have hcw : IntKind.i64.wrap ((b.counts.length : Int) + 1) = b.counts.length + 1 := wrap_i64 (by omega) (by omega)
    have hL {β : Type} (Q : Ex → St → Option β) := wrong_L0 (Γ := Γ) b (sane_of_valid hv) hvc Q
    obtain ⟨o, ho⟩ : ∃ o, findFrom (fun m _ => (b.choose m []).2) 0 (List.range (b.counts.length + 1)) = o := ⟨_, rfl⟩
    simp only [ho] at hL ⊢
    cases o with
    | none => (simp only [go_sem, simprocAttr, candle_Wrong, hv, hcw, hL, List.map_nil]; repeat' (first | ((first | (refine br_yes (by omega) ?_) | (refine br_no (by omega) ?_) | (apply br_all; (· simp only [Bool.and_eq_true, decide_eq_true_eq]; omega)) | (apply br_free; (· simp [go_sem, Pm.acc, Acc.free, refsOf, offOf, keyEq, tagEq, cellsEq, cellEq]; done)) | ((first | apply br_mergeT | apply br_mergeF); (· intro h; simp only [go_sem, simprocAttr, sel_of h, candle_Wrong, hv, hcw, hL, List.map_nil]; exact rfl))); (try simp only [go_sem, simprocAttr, candle_Wrong, hv, hcw, hL, List.map_nil])) | ((first | apply onGuard_sel | (apply pickV_split; apply br_split) | apply br_split) <;> intro h <;> (try simp only [go_sem, simprocAttr, h, candle_Wrong, hv, hcw, hL, List.map_nil]))))
    | some p => (simp only [go_sem, simprocAttr, candle_Wrong, hv, hcw, hL]; repeat' (first | ((first | (refine br_yes (by omega) ?_) | (refine br_no (by omega) ?_) | (apply br_all; (· simp only [Bool.and_eq_true, decide_eq_true_eq]; omega)) | (apply br_free; (· simp [go_sem, Pm.acc, Acc.free, refsOf, offOf, keyEq, tagEq, cellsEq, cellEq]; done)) | ((first | apply br_mergeT | apply br_mergeF); (· intro h; simp only [go_sem, simprocAttr, sel_of h, candle_Wrong, hv, hcw, hL]; exact rfl))); (try simp only [go_sem, simprocAttr, candle_Wrong, hv, hcw, hL])) | ((first | apply onGuard_sel | (apply pickV_split; apply br_split) | apply br_split) <;> intro h <;> (try simp only [go_sem, simprocAttr, h, candle_Wrong, hv, hcw, hL]))))
end
end Go.Pm.Cd

namespace Go.Pm.Cd
open Ac
set_option maxRecDepth 100000
set_option linter.unusedSimpArgs false
set_option linter.unusedSectionVars false
set_option linter.unusedVariables false

def Book.run (b : Book) (n0 f0 n1 f1 : Int) (dk : Nat → Int) : Nat → Int × Int
  | 0 => (n0, n1)
  | d + 1 => match b.days[d]? with
    | none => b.run n0 f0 n1 f1 dk d
    | some x => (after1 (b.run n0 f0 n1 f1 dk d).1 (got2 b.comes 0 d) f0 x.l0 (min x.hours (dk d)), after1 (b.run n0 f0 n1 f1 dk d).2 (got2 b.comes 1 d) f1 x.l1 (min x.hours (dk d)))

theorem run_agree (b : Book) (n0 f0 n1 f1 : Int) (dk dk' : Nat → Int) : ∀ (d : Nat), (∀ e, e < d → dk e = dk' e) → b.run n0 f0 n1 f1 dk d = b.run n0 f0 n1 f1 dk' d
  | 0, _ => rfl
  | d + 1, h => by
    have ih := run_agree b n0 f0 n1 f1 dk dk' d (fun e he => h e (by omega))
    simp only [Book.run, ih, h d (by omega)]

structure Good (b : Book) (but : List Int) (n0 f0 n1 f1 : Int) (dk : Nat → Int) (D : Nat) (t : List Int) : Prop where
  len : t.length = 17
  l0 : t.getD 5 0 = f0
  l1 : t.getD 6 0 = f1
  dark : ∀ d x, d < D → b.days[d]? = some x → x.dark.has (dk d)
  dks : ∀ d, d < D → t.getD d 0 = dk d
  a0 : ∀ d, d < D → t.getD (7 + d * 2) 0 = (b.run n0 f0 n1 f1 dk (d + 1)).1
  a1 : ∀ d, d < D → t.getD (7 + (d * 2 + 1)) 0 = (b.run n0 f0 n1 f1 dk (d + 1)).2
  right : ∀ d, d < D → b.rightOn but d (b.run n0 f0 n1 f1 dk (d + 1)).1 (b.run n0 f0 n1 f1 dk (d + 1)).2 = true

theorem getD_set (t : List Int) (i j : Nat) (v : Int) (hi : i < t.length) : (t.set i v).getD j 0 = if i = j then v else t.getD j 0 := by
  simp only [List.getD, List.getElem?_set]
  by_cases h : i = j
  · subst h; simp [hi]
  · simp [h]
theorem getD_next (t : List Int) (day j : Nat) (dk a0 a1 : Int) (ht : t.length = 17) (hd : day < 5) : (next t day dk a0 a1).getD j 0 = if 7 + (day * 2 + 1) = j then a1 else if 7 + day * 2 = j then a0 else if day = j then dk else t.getD j 0 := by
  unfold next
  rw [getD_set _ _ _ _ (by simp; omega), getD_set _ _ _ _ (by simp; omega), getD_set _ _ _ _ (by omega)]

theorem live_good {b : Book} (hv : b.sane = true) (but : List Int) (n0 f0 n1 f1 : Int) : ∀ (j day : Nat) (dk : Nat → Int) (t u : List Int), day + j = b.days.length → Good b but n0 f0 n1 f1 dk day t →
    u ∈ b.live b.comes but j t (b.run n0 f0 n1 f1 dk day).1 (b.run n0 f0 n1 f1 dk day).2 day → ∃ dk', (∀ e, e < day → dk' e = dk e) ∧ Good b but n0 f0 n1 f1 dk' b.days.length u
  | 0, day, dk, t, u, hd, hG, hu => by
    simp only [Book.live, List.mem_singleton] at hu
    subst hu
    obtain rfl : day = b.days.length := by omega
    exact ⟨dk, fun _ _ => rfl, hG⟩
  | j + 1, day, dk, t, u, hd, hG, hu => by
    have hvd := valid_days hv
    obtain ⟨x, hx⟩ : ∃ x, b.days[day]? = some x := ⟨_, List.getElem?_eq_getElem (by omega)⟩
    simp only [Book.live, hx, List.mem_flatMap, List.mem_range] at hu
    obtain ⟨i, hi, hu⟩ := hu
    have hxd := (valid_day hv hx).2.1
    let dk1 : Nat → Int := fun e => if e = day then x.dark.lo + i else dk e
    have hag : ∀ e, e < day → dk1 e = dk e := fun e he => by simp only [dk1]; rw [if_neg (by omega)]
    have hday : dk1 day = x.dark.lo + i := by simp [dk1]
    have hrun : b.run n0 f0 n1 f1 dk1 day = b.run n0 f0 n1 f1 dk day := run_agree b n0 f0 n1 f1 dk1 dk day hag
    have hrun1 : b.run n0 f0 n1 f1 dk1 (day + 1) = (after1 (b.run n0 f0 n1 f1 dk day).1 (got2 b.comes 0 day) f0 x.l0 (min x.hours (x.dark.lo + i)), after1 (b.run n0 f0 n1 f1 dk day).2 (got2 b.comes 1 day) f1 x.l1 (min x.hours (x.dark.lo + i))) := by
      simp only [Book.run, hx, hrun, hday]
    split at hu
    · rename_i hro
      rw [hG.l0, hG.l1] at hu hro
      have hG1 : Good b but n0 f0 n1 f1 dk1 (day + 1) (next t day (x.dark.lo + i) (b.run n0 f0 n1 f1 dk1 (day + 1)).1 (b.run n0 f0 n1 f1 dk1 (day + 1)).2) := by
        have hrunE (d : Nat) (h : d < day) : b.run n0 f0 n1 f1 dk1 (d + 1) = b.run n0 f0 n1 f1 dk (d + 1) := run_agree b n0 f0 n1 f1 dk1 dk (d + 1) (fun e he => hag e (by omega))
        refine ⟨by rw [next_len, hG.len], ?_, ?_, ?_, ?_, ?_, ?_, ?_⟩
        · rw [next_get5 _ _ _ _ _ (by omega), hG.l0]
        · rw [next_get6 _ _ _ _ _ (by omega), hG.l1]
        · intro d y hdd hy
          by_cases e : d = day
          · subst e; rw [hx] at hy; cases hy; rw [hday]; exact ⟨by omega, by omega⟩
          · rw [hag d (by omega)]; exact hG.dark d y (by omega) hy
        · intro d hdd
          rw [getD_next _ _ _ _ _ _ hG.len (by omega), if_neg (by omega), if_neg (by omega)]
          by_cases e : d = day
          · subst e; rw [if_pos rfl, hday]
          · rw [if_neg (by omega), hag d (by omega)]; exact hG.dks d (by omega)
        · intro d hdd
          rw [getD_next _ _ _ _ _ _ hG.len (by omega), if_neg (by omega)]
          by_cases e : d = day
          · subst e; rw [if_pos rfl]
          · rw [if_neg (by omega), if_neg (by omega), hrunE d (by omega)]; exact hG.a0 d (by omega)
        · intro d hdd
          rw [getD_next _ _ _ _ _ _ hG.len (by omega)]
          by_cases e : d = day
          · subst e; rw [if_pos rfl]
          · rw [if_neg (by omega), if_neg (by omega), if_neg (by omega), hrunE d (by omega)]; exact hG.a1 d (by omega)
        · intro d hdd
          by_cases e : d = day
          · subst e; rw [hrun1]; exact hro
          · rw [hrunE d (by omega)]; exact hG.right d (by omega)
      have hu' : u ∈ b.live b.comes but j (next t day (x.dark.lo + i) (b.run n0 f0 n1 f1 dk1 (day + 1)).1 (b.run n0 f0 n1 f1 dk1 (day + 1)).2) (b.run n0 f0 n1 f1 dk1 (day + 1)).1 (b.run n0 f0 n1 f1 dk1 (day + 1)).2 (day + 1) := by
        rw [hrun1]; exact hu
      obtain ⟨dk', ha, hg⟩ := live_good hv but n0 f0 n1 f1 j (day + 1) dk1 _ u (by omega) hG1 hu'
      exact ⟨dk', fun e he => by rw [ha e (by omega), hag e he], hg⟩
    · simp at hu

theorem truth_good {b : Book} (hv : b.sane = true) {but : List Int} {t : List Int} (ht : t ∈ b.truths but) : ∃ n0 f0 n1 f1 dk, b.s0.has n0 ∧ b.f0.has f0 ∧ b.s1.has n1 ∧ b.f1.has f1 ∧ Good b but n0 f0 n1 f1 dk b.days.length t := by
  rw [mem_truths] at ht
  obtain ⟨n0, f0, h0, h1, n1, f1, h2, h3, hl⟩ := ht
  obtain ⟨dk, -, hg⟩ := live_good hv but n0 f0 n1 f1 b.days.length 0 (fun _ => 0) (T0 f0 f1) t (by omega) ⟨rfl, rfl, rfl, fun _ _ h => absurd h (by omega), fun _ h => absurd h (by omega), fun _ h => absurd h (by omega), fun _ h => absurd h (by omega), fun _ h => absurd h (by omega)⟩ hl
  exact ⟨n0, f0, n1, f1, dk, h0, h1, h2, h3, hg⟩

theorem run_bound {b : Book} (hv : b.sane = true) {n0 f0 n1 f1 : Int} {dk : Nat → Int} (h0 : b.s0.has n0) (h1 : b.f0.has f0) (h2 : b.s1.has n1) (h3 : b.f1.has f1) (hdark : ∀ (d : Nat) (x : Day), b.days[d]? = some x → x.dark.has (dk d)) :
    ∀ (d : Nat), (-54 * d ≤ (b.run n0 f0 n1 f1 dk d).1 ∧ (b.run n0 f0 n1 f1 dk d).1 ≤ 60 + 240 * d) ∧ (-54 * d ≤ (b.run n0 f0 n1 f1 dk d).2 ∧ (b.run n0 f0 n1 f1 dk d).2 ≤ 60 + 240 * d)
  | 0 => by
    have hs := valid_spans hv
    have a := h0.1; have a' := h0.2; have c := h2.1; have c' := h2.2
    simp only [Book.run]; omega
  | d + 1 => by
    have ih := run_bound hv h0 h1 h2 h3 hdark d
    simp only [Book.run]
    cases hx : b.days[d]? with
    | none => simp only; omega
    | some x =>
      have hvx := valid_day hv hx
      have hs := valid_spans hv
      have hdx := hdark d x hx
      have a := h1.1; have a' := h1.2; have c := h3.1; have c' := h3.2; have e := hdx.1; have e' := hdx.2
      have hb0 := burnt_bound f0 x.l0 (min x.hours (dk d)) (by omega) (by omega) hvx.2.2.1
      have hb1 := burnt_bound f1 x.l1 (min x.hours (dk d)) (by omega) (by omega) hvx.2.2.2
      have hc (k d : Int) : 0 ≤ got2 b.comes k d ∧ got2 b.comes k d ≤ 240 := by
        have := comesN_bound hv b.orders.length (Nat.le_refl _) k d
        rw [comesN_all] at this
        have := valid_days hv; omega
      have hc0 := hc 0 d
      have hc1 := hc 1 d
      simp only [after1]
      omega
end Go.Pm.Cd

namespace Go.Pm.Cd
open Ac
set_option maxRecDepth 100000
set_option linter.unusedSimpArgs false
set_option linter.unusedSectionVars false
set_option linter.unusedVariables false

theorem span_fold (f : List Int → Int) : ∀ (ts : List (List Int)) (a : Int × Int), (∀ t, t ∈ ts → (ts.foldl (fun a t => (min a.1 (f t), max a.2 (f t))) a).1 ≤ f t ∧ f t ≤ (ts.foldl (fun a t => (min a.1 (f t), max a.2 (f t))) a).2) ∧
    (ts.foldl (fun a t => (min a.1 (f t), max a.2 (f t))) a).1 ≤ a.1 ∧ a.2 ≤ (ts.foldl (fun a t => (min a.1 (f t), max a.2 (f t))) a).2 ∧
    ((ts.foldl (fun a t => (min a.1 (f t), max a.2 (f t))) a).1 = a.1 ∨ ∃ t, t ∈ ts ∧ (ts.foldl (fun a t => (min a.1 (f t), max a.2 (f t))) a).1 = f t) ∧
    ((ts.foldl (fun a t => (min a.1 (f t), max a.2 (f t))) a).2 = a.2 ∨ ∃ t, t ∈ ts ∧ (ts.foldl (fun a t => (min a.1 (f t), max a.2 (f t))) a).2 = f t)
  | [], a => by simp
  | u :: ts, a => by
    obtain ⟨h1, h2, h3, h4, h5⟩ := span_fold f ts (min a.1 (f u), max a.2 (f u))
    simp only [List.foldl_cons]
    generalize List.foldl _ _ ts = r at h1 h2 h3 h4 h5 ⊢
    simp only at h2 h3 h4 h5
    refine ⟨?_, by clear h4 h5; omega, by clear h4 h5; omega, ?_, ?_⟩
    · clear h4 h5
      intro t ht
      rcases List.mem_cons.1 ht with rfl | ht
      · omega
      · exact h1 t ht
    · clear h5
      rcases h4 with h4 | ⟨t, ht, h4⟩
      · by_cases e : a.1 ≤ f u
        · exact .inl (by omega)
        · exact .inr ⟨u, by simp, by omega⟩
      · exact .inr ⟨t, by simp [ht], h4⟩
    · clear h4
      rcases h5 with h5 | ⟨t, ht, h5⟩
      · by_cases e : f u ≤ a.2
        · exact .inl (by omega)
        · exact .inr ⟨u, by simp, by omega⟩
      · exact .inr ⟨t, by simp [ht], h5⟩

theorem span_lo (f : List Int → Int) (ts : List (List Int)) (h : ts ≠ []) : ∃ t, t ∈ ts ∧ (spanOf f ts).1 = f t := by
  cases ts with
  | nil => exact absurd rfl h
  | cons u ts =>
    rcases (span_fold f (u :: ts) (f u, f u)).2.2.2.1 with h | h
    · exact ⟨u, by simp, h⟩
    · exact h
theorem span_hi (f : List Int → Int) (ts : List (List Int)) (h : ts ≠ []) : ∃ t, t ∈ ts ∧ (spanOf f ts).2 = f t := by
  cases ts with
  | nil => exact absurd rfl h
  | cons u ts =>
    rcases (span_fold f (u :: ts) (f u, f u)).2.2.2.2 with h | h
    · exact ⟨u, by simp, h⟩
    · exact h

theorem left_bound {b : Book} (hv : b.sane = true) {but : List Int} {t : List Int} (ht : t ∈ b.truths but) (kind day : Int) (hk : 0 ≤ kind ∧ kind ≤ 1) (hd : 0 ≤ day ∧ day < b.days.length) : -300 ≤ tLeft kind day t ∧ tLeft kind day t ≤ 1300 := by
  obtain ⟨n0, f0, n1, f1, dk, h0, h1, h2, h3, hG⟩ := truth_good hv ht
  have hvd := valid_days hv
  have hlt : day.toNat < b.days.length := by omega
  have hB := run_bound (n0 := n0) (f0 := f0) (n1 := n1) (f1 := f1) (dk := fun d => if d < b.days.length then dk d else 0) hv h0 h1 h2 h3 (fun d x hx => by
    have hd := (List.getElem?_eq_some_iff.1 hx).1
    rw [if_pos hd]; exact hG.dark d x hd hx) (day.toNat + 1)
  rw [run_agree b n0 f0 n1 f1 _ dk (day.toNat + 1) (fun e he => by rw [if_pos (by omega)])] at hB
  have ha := hG.a0 day.toNat hlt
  have hc := hG.a1 day.toNat hlt
  have hk' : kind = 0 ∨ kind = 1 := by omega
  rcases hk' with rfl | rfl
  · simp only [tLeft, Int.toNat_zero, Nat.add_zero]
    rw [ha]; omega
  · have e : 7 + day.toNat * 2 + (1 : Int).toNat = 7 + (day.toNat * 2 + 1) := by simp; omega
    simp only [tLeft]
    rw [e, hc]; omega

theorem span_bound {b : Book} (hv : b.sane = true) {but : List Int} (hts : b.truths but ≠ []) (kind day : Int) (hk : 0 ≤ kind ∧ kind ≤ 1) (hd : 0 ≤ day ∧ day < b.days.length) :
    (-300 ≤ (spanOf (tLeft kind day) (b.truths but)).1 ∧ (spanOf (tLeft kind day) (b.truths but)).1 ≤ 1300) ∧ (-300 ≤ (spanOf (tLeft kind day) (b.truths but)).2 ∧ (spanOf (tLeft kind day) (b.truths but)).2 ≤ 1300) := by
  obtain ⟨t, ht, e⟩ := span_lo (tLeft kind day) (b.truths but) hts
  obtain ⟨u, hu, e'⟩ := span_hi (tLeft kind day) (b.truths but) hts
  rw [e, e']
  exact ⟨left_bound hv ht kind day hk hd, left_bound hv hu kind day hk hd⟩

def Book.buyN (b : Book) (kind day : Int) (i : Nat) : Int := (List.range i).foldl (fun m (j : Nat) => max m (-(spanOf (tLeft kind (day + j)) (b.truths [])).1)) 0
def Book.buy (b : Book) (kind day : Int) : Int × Int :=
  if b.askE (isKind kind && b.isDay day) = 0 then (b.buyN kind day (b.days.length - day).toNat, 0) else (0, b.askE (isKind kind && b.isDay day))

section
variable {Γ : Env} [P06 Γ] [G06 Γ]

theorem buy_L0 (b : Book) [hb : b.Fits] (hv : b.sane = true) (ht : b.truths [] ≠ []) (kind day : Int) (hk : 0 ≤ kind ∧ kind ≤ 1) (hd : 0 ≤ day ∧ day ≤ b.days.length - 1) {β : Type} (Q : Ex → St → Option β) :
    E Γ candle_Buy_L0 ⟨[(1, vi kind), (3, .sc (.ptr 0 0)), (8, .sc (.ptr 1 0)), (10, vi 0), (11, vi day)], [.var b.c, .var (b.open13 [])]⟩ Q =
      Q (.exit 0) ⟨[(1, vi kind), (3, .sc (.ptr 0 0)), (8, .sc (.ptr 1 0)), (10, vi (b.buyN kind day (b.days.length - day).toNat)), (11, vi b.days.length), (32, vb false)], [.var b.c, .var (b.open13 [])]⟩ := by
  have hdl := valid_days hv
  refine E_countS (b.days.length - day).toNat (fun i (_ : Unit) => ⟨[(1, vi kind), (3, .sc (.ptr 0 0)), (8, .sc (.ptr 1 0)), (10, vi (b.buyN kind day i)), (11, vi (day + (i : Nat)))], [.var b.c, .var (b.open13 [])]⟩) (fun _ _ => True)
    (fun _ => (.exit 0, ⟨[(1, vi kind), (3, .sc (.ptr 0 0)), (8, .sc (.ptr 1 0)), (10, vi (b.buyN kind day (b.days.length - day).toNat)), (11, vi b.days.length), (32, vb false)], [.var b.c, .var (b.open13 [])]⟩)) () ?_ trivial ?_ ?_ ?_
  · simp [Book.buyN]
  · intro i _ hi _
    refine ⟨(), trivial, ?_⟩
    have hlt : day + (i : Int) < b.days.length := by omega
    have hS := left_k (Γ := Γ) b hv [] ht kind (day + (i : Nat)) hk (by omega)
    have hB := span_bound hv ht kind (day + (i : Nat)) hk (by omega)
    have hiw : IntKind.i64.wrap (day + (i : Int) + 1) = day + (i + 1 : Nat) := by rw [wrap_i64 (by omega) (by omega)]; omega
    have hnw : IntKind.i64.wrap (0 - (spanOf (tLeft kind (day + (i : Nat))) (b.truths [])).1) = -(spanOf (tLeft kind (day + (i : Nat))) (b.truths [])).1 := by rw [wrap_i64 (by omega) (by omega)]; omega
    have hN : b.buyN kind day (i + 1) = max (b.buyN kind day i) (-(spanOf (tLeft kind (day + (i : Nat))) (b.truths [])).1) := by simp [Book.buyN, List.range_succ]
    rw [hN]
    (simp only [go_sem, simprocAttr, candle_Buy_B0, hS, hiw, hnw]; repeat' (first | ((first | (refine br_yes (by omega) ?_) | (refine br_no (by omega) ?_) | (apply br_all; (· simp only [Bool.and_eq_true, decide_eq_true_eq]; omega)) | (apply br_free; (· simp [go_sem, Pm.acc, Acc.free, refsOf, offOf, keyEq, tagEq, cellsEq, cellEq]; done)) | ((first | apply br_mergeT | apply br_mergeF); (· intro h; simp only [go_sem, simprocAttr, sel_of h, candle_Buy_B0, hS, hiw, hnw]; exact rfl))); (try simp only [go_sem, simprocAttr, candle_Buy_B0, hS, hiw, hnw])) | ((first | apply onGuard_sel | (apply pickV_split; apply br_split) | apply br_split) <;> intro h <;> (try simp only [go_sem, simprocAttr, h, candle_Buy_B0, hS, hiw, hnw]))))
  · intro _ _
    have hm : day + ((b.days.length - day).toNat : Int) = b.days.length := by omega
    simp only [hm]
    (simp only [go_sem, simprocAttr, candle_Buy_B0]; repeat' (first | ((first | (refine br_yes (by omega) ?_) | (refine br_no (by omega) ?_) | (apply br_all; (· simp only [Bool.and_eq_true, decide_eq_true_eq]; omega)) | (apply br_free; (· simp [go_sem, Pm.acc, Acc.free, refsOf, offOf, keyEq, tagEq, cellsEq, cellEq]; done)) | ((first | apply br_mergeT | apply br_mergeF); (· intro h; simp only [go_sem, simprocAttr, sel_of h, candle_Buy_B0]; exact rfl))); (try simp only [go_sem, simprocAttr, candle_Buy_B0])) | ((first | apply onGuard_sel | (apply pickV_split; apply br_split) | apply br_split) <;> intro h <;> (try simp only [go_sem, simprocAttr, h, candle_Buy_B0]))))
  · intro _ _
    rfl

@[go_sem] theorem Buy_k (b : Book) [hb : b.Fits] (kind day : Int) : K Γ (.fn 17) [.agg b.c, vi kind, vi day] [] = some (.tup [vi (b.buy kind day).1, vi (b.buy kind day).2], []) := by
  rw [K_fn P06.f17 _ _ rfl]
  simp only [isKind, Book.isDay, Book.askE, Book.buy]
  rcases Bool.eq_false_or_eq_true b.valid with hv | hv
  rotate_left
  · have hA (is : Bool) := asked_bad (Γ := Γ) b hv is
    simp only [Z13] at hA
    (simp only [go_sem, simprocAttr, candle_Buy, hA, hv, Bool.false_eq_true]; repeat' (first | ((first | (refine br_yes (by omega) ?_) | (refine br_no (by omega) ?_) | (apply br_all; (· simp only [Bool.and_eq_true, decide_eq_true_eq]; omega)) | (apply br_free; (· simp [go_sem, Pm.acc, Acc.free, refsOf, offOf, keyEq, tagEq, cellsEq, cellEq]; done)) | ((first | apply br_mergeT | apply br_mergeF); (· intro h; simp only [go_sem, simprocAttr, sel_of h, candle_Buy, hA, hv, Bool.false_eq_true]; exact rfl))); (try simp only [go_sem, simprocAttr, candle_Buy, hA, hv, Bool.false_eq_true])) | ((first | apply onGuard_sel | (apply pickV_split; apply br_split) | apply br_split) <;> intro h <;> (try simp only [go_sem, simprocAttr, h, candle_Buy, hA, hv, Bool.false_eq_true]))))
  · have hA := asked_ask (Γ := Γ) b hv
    simp only [Z13] at hA
    rcases Bool.eq_false_or_eq_true (within kind 0 1) with hk | hk
    rotate_left
    · (simp only [go_sem, simprocAttr, candle_Buy, hA, hv, hk, Bool.false_and, Bool.false_eq_true]; repeat' (first | ((first | (refine br_yes (by omega) ?_) | (refine br_no (by omega) ?_) | (apply br_all; (· simp only [Bool.and_eq_true, decide_eq_true_eq]; omega)) | (apply br_free; (· simp [go_sem, Pm.acc, Acc.free, refsOf, offOf, keyEq, tagEq, cellsEq, cellEq]; done)) | ((first | apply br_mergeT | apply br_mergeF); (· intro h; simp only [go_sem, simprocAttr, sel_of h, candle_Buy, hA, hv, hk, Bool.false_and, Bool.false_eq_true]; exact rfl))); (try simp only [go_sem, simprocAttr, candle_Buy, hA, hv, hk, Bool.false_and, Bool.false_eq_true])) | ((first | apply onGuard_sel | (apply pickV_split; apply br_split) | apply br_split) <;> intro h <;> (try simp only [go_sem, simprocAttr, h, candle_Buy, hA, hv, hk, Bool.false_and, Bool.false_eq_true]))))
    · rcases Bool.eq_false_or_eq_true (within day 0 (b.days.length - 1)) with hd | hd
      rotate_left
      · (simp only [go_sem, simprocAttr, candle_Buy, hA, hv, hk, hd, Bool.false_eq_true]; repeat' (first | ((first | (refine br_yes (by omega) ?_) | (refine br_no (by omega) ?_) | (apply br_all; (· simp only [Bool.and_eq_true, decide_eq_true_eq]; omega)) | (apply br_free; (· simp [go_sem, Pm.acc, Acc.free, refsOf, offOf, keyEq, tagEq, cellsEq, cellEq]; done)) | ((first | apply br_mergeT | apply br_mergeF); (· intro h; simp only [go_sem, simprocAttr, sel_of h, candle_Buy, hA, hv, hk, hd, Bool.false_eq_true]; exact rfl))); (try simp only [go_sem, simprocAttr, candle_Buy, hA, hv, hk, hd, Bool.false_eq_true])) | ((first | apply onGuard_sel | (apply pickV_split; apply br_split) | apply br_split) <;> intro h <;> (try simp only [go_sem, simprocAttr, h, candle_Buy, hA, hv, hk, hd, Bool.false_eq_true]))))
      · have hk' := (within_iff _ _ _).1 hk
        have hd' := (within_iff _ _ _).1 hd
        by_cases ht : b.truths [] = []
        · have hN := asked_no (Γ := Γ) b hv ht
          (simp only [go_sem, simprocAttr, candle_Buy, hN, hv, hk, hd, ht]; repeat' (first | ((first | (refine br_yes (by omega) ?_) | (refine br_no (by omega) ?_) | (apply br_all; (· simp only [Bool.and_eq_true, decide_eq_true_eq]; omega)) | (apply br_free; (· simp [go_sem, Pm.acc, Acc.free, refsOf, offOf, keyEq, tagEq, cellsEq, cellEq]; done)) | ((first | apply br_mergeT | apply br_mergeF); (· intro h; simp only [go_sem, simprocAttr, sel_of h, candle_Buy, hN, hv, hk, hd, ht]; exact rfl))); (try simp only [go_sem, simprocAttr, candle_Buy, hN, hv, hk, hd, ht])) | ((first | apply onGuard_sel | (apply pickV_split; apply br_split) | apply br_split) <;> intro h <;> (try simp only [go_sem, simprocAttr, h, candle_Buy, hN, hv, hk, hd, ht]))))
        · have hN := asked_ok (Γ := Γ) b hv ht
          have hL {β : Type} (Q : Ex → St → Option β) := buy_L0 (Γ := Γ) b (sane_of_valid hv) ht kind day hk' hd' Q
          (simp only [go_sem, simprocAttr, candle_Buy, hN, hv, hk, hd, ht, hL]; repeat' (first | ((first | (refine br_yes (by omega) ?_) | (refine br_no (by omega) ?_) | (apply br_all; (· simp only [Bool.and_eq_true, decide_eq_true_eq]; omega)) | (apply br_free; (· simp [go_sem, Pm.acc, Acc.free, refsOf, offOf, keyEq, tagEq, cellsEq, cellEq]; done)) | ((first | apply br_mergeT | apply br_mergeF); (· intro h; simp only [go_sem, simprocAttr, sel_of h, candle_Buy, hN, hv, hk, hd, ht, hL]; exact rfl))); (try simp only [go_sem, simprocAttr, candle_Buy, hN, hv, hk, hd, ht, hL])) | ((first | apply onGuard_sel | (apply pickV_split; apply br_split) | apply br_split) <;> intro h <;> (try simp only [go_sem, simprocAttr, h, candle_Buy, hN, hv, hk, hd, ht, hL]))))
end
end Go.Pm.Cd

namespace Go.Pm.Cd
open Ac
set_option maxRecDepth 100000
set_option linter.unusedSimpArgs false
set_option linter.unusedSectionVars false
set_option linter.unusedVariables false

def turn (n below : Int) : Int := if below < 1 then 0 else if n.tmod below < 0 then n.tmod below + below else n.tmod below
def nth (l : List Int) (n : Int) : Int := if l = [] then 0 else l.getD (turn n l.length).toNat 0
def drawn (s : Span) (n : Int) : Int := s.lo + turn n (s.hi - s.lo + 1)

section
variable {Γ : Env} [P06 Γ] [G06 Γ]

@[go_sem] theorem Bounds_k (a b : Int) : K Γ (.fn 33) [vi a, vi b] [] = some (.agg [ci a, ci b], []) := by
  rw [K_fn P06.f33 _ _ rfl]
  (simp only [go_sem, simprocAttr, decaniref00_Bounds]; repeat' (first | ((first | (refine br_yes (by omega) ?_) | (refine br_no (by omega) ?_) | (apply br_all; (· simp only [Bool.and_eq_true, decide_eq_true_eq]; omega)) | (apply br_free; (· simp [go_sem, Pm.acc, Acc.free, refsOf, offOf, keyEq, tagEq, cellsEq, cellEq]; done)) | ((first | apply br_mergeT | apply br_mergeF); (· intro h; simp only [go_sem, simprocAttr, sel_of h, decaniref00_Bounds]; exact rfl))); (try simp only [go_sem, simprocAttr, decaniref00_Bounds])) | ((first | apply onGuard_sel | (apply pickV_split; apply br_split) | apply br_split) <;> intro h <;> (try simp only [go_sem, simprocAttr, h, decaniref00_Bounds]))))
@[go_sem] theorem Only_k (a : Int) : K Γ (.fn 30) [vi a] [] = some (.agg [ci a, ci a], []) := by
  rw [K_fn P06.f30 _ _ rfl]
  (simp only [go_sem, simprocAttr, decaniref00_Only]; repeat' (first | ((first | (refine br_yes (by omega) ?_) | (refine br_no (by omega) ?_) | (apply br_all; (· simp only [Bool.and_eq_true, decide_eq_true_eq]; omega)) | (apply br_free; (· simp [go_sem, Pm.acc, Acc.free, refsOf, offOf, keyEq, tagEq, cellsEq, cellEq]; done)) | ((first | apply br_mergeT | apply br_mergeF); (· intro h; simp only [go_sem, simprocAttr, sel_of h, decaniref00_Only]; exact rfl))); (try simp only [go_sem, simprocAttr, decaniref00_Only])) | ((first | apply onGuard_sel | (apply pickV_split; apply br_split) | apply br_split) <;> intro h <;> (try simp only [go_sem, simprocAttr, h, decaniref00_Only]))))
def litB (k : SK) (cs : List Count) : Book := ⟨⟨10, 11⟩, ⟨30, 30⟩, ⟨2, 3⟩, ⟨4, 4⟩, .full, [⟨4, ⟨3, 4⟩, 2, 6⟩, ⟨3, ⟨5, 5⟩, 2, 6⟩, ⟨6, ⟨4, 6⟩, 4, 6⟩], .full, [⟨2, 0, 4⟩], k, cs⟩
@[go_sem] theorem book_k (k : SK) (cs : List Count) : K Γ (.fn 39) [.sc (.sl k 4 (cs.map Count.c))] [] = some (.agg (litB k cs).c, []) := by
  rw [K_fn P06.f39 _ _ rfl]
  (simp only [go_sem, simprocAttr, decanilaw06_book]; repeat' (first | ((first | (refine br_yes (by omega) ?_) | (refine br_no (by omega) ?_) | (apply br_all; (· simp only [Bool.and_eq_true, decide_eq_true_eq]; omega)) | (apply br_free; (· simp [go_sem, Pm.acc, Acc.free, refsOf, offOf, keyEq, tagEq, cellsEq, cellEq]; done)) | ((first | apply br_mergeT | apply br_mergeF); (· intro h; simp only [go_sem, simprocAttr, sel_of h, decanilaw06_book]; exact rfl))); (try simp only [go_sem, simprocAttr, decanilaw06_book])) | ((first | apply onGuard_sel | (apply pickV_split; apply br_split) | apply br_split) <;> intro h <;> (try simp only [go_sem, simprocAttr, h, decanilaw06_book]))))
  rfl
@[go_sem] theorem book_nil_k (k : SK) : K Γ (.fn 39) [.sc (.sl k 4 [])] [] = some (.agg (litB k []).c, []) := book_k k []
@[go_sem] theorem own_k : K Γ (.fn 38) [] [] = some (.agg (litB .nil []).c, []) := by
  rw [K_fn P06.f38 _ _ rfl]
  (simp only [go_sem, simprocAttr, decanilaw06_own]; repeat' (first | ((first | (refine br_yes (by omega) ?_) | (refine br_no (by omega) ?_) | (apply br_all; (· simp only [Bool.and_eq_true, decide_eq_true_eq]; omega)) | (apply br_free; (· simp [go_sem, Pm.acc, Acc.free, refsOf, offOf, keyEq, tagEq, cellsEq, cellEq]; done)) | ((first | apply br_mergeT | apply br_mergeF); (· intro h; simp only [go_sem, simprocAttr, sel_of h, decanilaw06_own]; exact rfl))); (try simp only [go_sem, simprocAttr, decanilaw06_own])) | ((first | apply onGuard_sel | (apply pickV_split; apply br_split) | apply br_split) <;> intro h <;> (try simp only [go_sem, simprocAttr, h, decanilaw06_own]))))
def cnt8 : Count := ⟨0, 0, 8, 0⟩
def cnt3 : Count := ⟨1, 0, 3, 0⟩
@[go_sem] theorem counted_k : K Γ (.fn 41) [] [] = some (.agg (litB .full [cnt8]).c, []) := by
  have h : K Γ (.fn 39) [.sc (.sl .full 4 [[ci 0, ci 0, ci 8, ci 0]])] [] = some (.agg (litB .full [cnt8]).c, []) := book_k .full [cnt8]
  rw [K_fn P06.f41 _ _ rfl]
  (simp only [go_sem, simprocAttr, decanilaw06_counted, h]; repeat' (first | ((first | (refine br_yes (by omega) ?_) | (refine br_no (by omega) ?_) | (apply br_all; (· simp only [Bool.and_eq_true, decide_eq_true_eq]; omega)) | (apply br_free; (· simp [go_sem, Pm.acc, Acc.free, refsOf, offOf, keyEq, tagEq, cellsEq, cellEq]; done)) | ((first | apply br_mergeT | apply br_mergeF); (· intro h; simp only [go_sem, simprocAttr, sel_of h, decanilaw06_counted, h]; exact rfl))); (try simp only [go_sem, simprocAttr, decanilaw06_counted, h])) | ((first | apply onGuard_sel | (apply pickV_split; apply br_split) | apply br_split) <;> intro h <;> (try simp only [go_sem, simprocAttr, h, decanilaw06_counted, h]))))
@[go_sem] theorem torn_k : K Γ (.fn 40) [] [] = some (.agg (litB .full [cnt8, cnt3]).c, []) := by
  have h : K Γ (.fn 39) [.sc (.sl .full 4 [[ci 0, ci 0, ci 8, ci 0], [ci 1, ci 0, ci 3, ci 0]])] [] = some (.agg (litB .full [cnt8, cnt3]).c, []) := book_k .full [cnt8, cnt3]
  rw [K_fn P06.f40 _ _ rfl]
  (simp only [go_sem, simprocAttr, decanilaw06_torn, h]; repeat' (first | ((first | (refine br_yes (by omega) ?_) | (refine br_no (by omega) ?_) | (apply br_all; (· simp only [Bool.and_eq_true, decide_eq_true_eq]; omega)) | (apply br_free; (· simp [go_sem, Pm.acc, Acc.free, refsOf, offOf, keyEq, tagEq, cellsEq, cellEq]; done)) | ((first | apply br_mergeT | apply br_mergeF); (· intro h; simp only [go_sem, simprocAttr, sel_of h, decanilaw06_torn, h]; exact rfl))); (try simp only [go_sem, simprocAttr, decanilaw06_torn, h])) | ((first | apply onGuard_sel | (apply pickV_split; apply br_split) | apply br_split) <;> intro h <;> (try simp only [go_sem, simprocAttr, h, decanilaw06_torn, h]))))
end
end Go.Pm.Cd

namespace Go.Pm.Cd
open Ac
set_option maxRecDepth 100000
set_option linter.unusedSimpArgs false
set_option linter.unusedSectionVars false
set_option linter.unusedVariables false

instance fits_own (k : SK) : (litB k []).Fits := ⟨by simp [litB], by simp [litB], by simp [litB]⟩
instance fits_counted (k : SK) (x : Count) : (litB k [x]).Fits := ⟨by simp [litB], by simp [litB], by simp [litB]⟩
instance fits_torn (k : SK) (x y : Count) : (litB k [x, y]).Fits := ⟨by simp [litB], by simp [litB], by simp [litB]⟩
def dimB : Book := { litB .nil [] with s1 := ⟨5, 5⟩ }
instance fits_dim : dimB.Fits := ⟨by simp [dimB, litB], by simp [dimB, litB], by simp [dimB, litB]⟩

section
variable {Γ : Env} [P06 Γ] [G06 Γ]

theorem lit_left0 : K Γ (.fn 6) [.agg (litB .nil []).c, vi 0, vi 2] [] = some (.tup [.agg [ci (-6), ci 3], vi 0], []) := by
  have e : told ((litB .nil []).askE (isKind 0 && (litB .nil []).isDay 2)) (spanOf (tLeft 0 2) ((litB .nil []).truths [])) = (-6, 3) := by decide +kernel
  have a : (litB .nil []).askE (isKind 0 && (litB .nil []).isDay 2) = 0 := by decide +kernel
  rw [Left_k, e, a]
theorem lit_left1 : K Γ (.fn 6) [.agg (litB .nil []).c, vi 1, vi 2] [] = some (.tup [.agg [ci 6, ci 12], vi 0], []) := by
  have e : told ((litB .nil []).askE (isKind 1 && (litB .nil []).isDay 2)) (spanOf (tLeft 1 2) ((litB .nil []).truths [])) = (6, 12) := by decide +kernel
  have a : (litB .nil []).askE (isKind 1 && (litB .nil []).isDay 2) = 0 := by decide +kernel
  rw [Left_k, e, a]
theorem lit_life : K Γ (.fn 8) [.agg (litB .full [cnt8]).c, vi 0] [] = some (.tup [.agg [ci 3, ci 3], vi 0], []) := by
  have e : told ((litB .full [cnt8]).askE (isKind 0)) (spanOf (tLife 0) ((litB .full [cnt8]).truths [])) = (3, 3) := by decide +kernel
  have a : (litB .full [cnt8]).askE (isKind 0) = 0 := by decide +kernel
  rw [Life_k, e, a]
theorem lit_dark : K Γ (.fn 10) [.agg (litB .full [cnt8]).c, vi 0] [] = some (.tup [.agg [ci 3, ci 3], vi 0], []) := by
  have e : told ((litB .full [cnt8]).askE ((litB .full [cnt8]).isDay 0)) (spanOf (tDark 0) ((litB .full [cnt8]).truths [])) = (3, 3) := by decide +kernel
  have a : (litB .full [cnt8]).askE ((litB .full [cnt8]).isDay 0) = 0 := by decide +kernel
  rw [Dark_k, e, a]
theorem lit_short : K Γ (.fn 13) [.agg (litB .nil []).c, vi 0] [] = some (.tup [vi 2, vi 0], []) := by
  have e : (litB .nil []).short 0 = (2, 0) := by decide +kernel
  rw [Short_k, e]
theorem lit_buy : K Γ (.fn 17) [.agg (litB .nil []).c, vi 0, vi 2] [] = some (.tup [vi 6, vi 0], []) := by
  have e : (litB .nil []).buy 0 2 = (6, 0) := by decide +kernel
  rw [Buy_k, e]
theorem lit_fits : K Γ (.fn 19) [.agg (litB .nil []).c, .agg [ci 0, ci 0, ci 5, ci 1]] [] = some (.tup [vb true, vi 0], []) := by
  have e : (litB .nil []).fits ⟨0, 0, 5, 1⟩ = (true, 0) := by decide +kernel
  have := Fits_k (Γ := Γ) (litB .nil []) ⟨0, 0, 5, 1⟩
  rw [e] at this; exact this
theorem lit_wrong : K Γ (.fn 21) [.agg (litB .full [cnt8, cnt3]).c] [] = some (.tup [.sc (.sl .full 1 [[ci 0]]), vi 0], []) := by
  have e : (litB .full [cnt8, cnt3]).wrong = ([0], 0) := by decide +kernel
  have e2 : wrongK (litB .full [cnt8, cnt3]) = .full := by decide +kernel
  rw [Wrong_k, e, e2]; rfl
theorem lit_right : K Γ (.fn 2) [.agg (litB .nil []).c] [] = some (.tup [vb true, vi 0], []) := by
  have e : ((litB .nil []).valid && decide ((litB .nil []).truths [] ≠ [])) = true := by decide +kernel
  have a : (if (litB .nil []).valid then (0 : Int) else 60) = 0 := by decide +kernel
  rw [Right_k, e, a]
theorem lit_dim : K Γ (.fn 15) [.agg dimB.c, vi 1] [] = some (.tup [vi 0, vi 0], []) := by
  have e : dimB.surely 1 = (0, 0) := by decide +kernel
  rw [Surely_k, e]
theorem equal_00 (k k' : SK) : K Γ (.fn 23) [.sc (.sl k 1 [[ci 0]]), .sc (.sl k' 1 [[ci 0]])] [] = some (vb true, []) := by
  rw [K_fn P06.f23 _ _ rfl]
  (simp only [go_sem, simprocAttr, decaniref00_Equal, decaniref00_Equal_L0, decaniref00_Equal_B0, E_loop, List.length_cons, List.length_nil, List.getElem?_cons_zero]; repeat' (first | ((first | (refine br_yes (by omega) ?_) | (refine br_no (by omega) ?_) | (apply br_all; (· simp only [Bool.and_eq_true, decide_eq_true_eq]; omega)) | (apply br_free; (· simp [go_sem, Pm.acc, Acc.free, refsOf, offOf, keyEq, tagEq, cellsEq, cellEq]; done)) | ((first | apply br_mergeT | apply br_mergeF); (· intro h; simp only [go_sem, simprocAttr, sel_of h, decaniref00_Equal, decaniref00_Equal_L0, decaniref00_Equal_B0, E_loop, List.length_cons, List.length_nil, List.getElem?_cons_zero]; exact rfl))); (try simp only [go_sem, simprocAttr, decaniref00_Equal, decaniref00_Equal_L0, decaniref00_Equal_B0, E_loop, List.length_cons, List.length_nil, List.getElem?_cons_zero])) | ((first | apply onGuard_sel | (apply pickV_split; apply br_split) | apply br_split) <;> intro h <;> (try simp only [go_sem, simprocAttr, h, decaniref00_Equal, decaniref00_Equal_L0, decaniref00_Equal_B0, E_loop, List.length_cons, List.length_nil, List.getElem?_cons_zero]))))

theorem own_set : setAll (litB .nil []).c 2 [ci 5, ci 5] = dimB.c := rfl
theorem own_set' : ((litB .nil []).c.set 2 (ci 5)).set 3 (ci 5) = dimB.c := rfl

@[go_sem] theorem lit_k : K Γ (.fn 12) [] [] = some (vb true, []) := by
  rw [K_fn P06.f12 _ _ rfl]
  (simp only [go_sem, simprocAttr, decanilaw06_lit, lit_left0, lit_left1, lit_life, lit_dark, lit_short, lit_buy, lit_fits, lit_wrong, lit_right, lit_dim, equal_00, own_set, own_set', keyEq2]; repeat' (first | ((first | (refine br_yes (by omega) ?_) | (refine br_no (by omega) ?_) | (apply br_all; (· simp only [Bool.and_eq_true, decide_eq_true_eq]; omega)) | (apply br_free; (· simp [go_sem, Pm.acc, Acc.free, refsOf, offOf, keyEq, tagEq, cellsEq, cellEq]; done)) | ((first | apply br_mergeT | apply br_mergeF); (· intro h; simp only [go_sem, simprocAttr, sel_of h, decanilaw06_lit, lit_left0, lit_left1, lit_life, lit_dark, lit_short, lit_buy, lit_fits, lit_wrong, lit_right, lit_dim, equal_00, own_set, own_set', keyEq2]; exact rfl))); (try simp only [go_sem, simprocAttr, decanilaw06_lit, lit_left0, lit_left1, lit_life, lit_dark, lit_short, lit_buy, lit_fits, lit_wrong, lit_right, lit_dim, equal_00, own_set, own_set', keyEq2])) | ((first | apply onGuard_sel | (apply pickV_split; apply br_split) | apply br_split) <;> intro h <;> (try simp only [go_sem, simprocAttr, h, decanilaw06_lit, lit_left0, lit_left1, lit_life, lit_dark, lit_short, lit_buy, lit_fits, lit_wrong, lit_right, lit_dim, equal_00, own_set, own_set', keyEq2]))))
end
end Go.Pm.Cd

namespace Go.Pm.Cd
open Ac
set_option maxRecDepth 100000
set_option linter.unusedSimpArgs false
set_option linter.unusedSectionVars false
set_option linter.unusedVariables false
section
variable {Γ : Env} [P06 Γ] [G06 Γ]

end
end Go.Pm.Cd

namespace Go.Pm.Cd
open Ac
set_option maxRecDepth 100000
set_option linter.unusedSimpArgs false
set_option linter.unusedSectionVars false
set_option linter.unusedVariables false

section
variable {Γ : Env} [P06 Γ] [G06 Γ]

end
end Go.Pm.Cd

namespace Go.Pm
open T
end Go.Pm
namespace Go.Pm.Cd
end Go.Pm.Cd

namespace Go.Proofs.YtdndhpoinffpbaaDoor
open Go Go.Pm Go.ChangeShapes Go.WideShapes Go.ChangeAt Go.RowKit
set_option maxRecDepth 100000

instance p06 : P06 Γ1 := by constructor <;> rfl
instance g06 : Cd.G06 Γ1 := ⟨rfl, rfl⟩

theorem own : ownKnob Tryd.prog.godebug = none := by kernel_rfl
theorem laidOut : laidOutB Tryd.prog = true := by kernel_rfl
def laidL : List (String × DataW Unit) := [("decani/candle.nowhere", Rows.laid_decani_candle_nowhere), ("decani/candle.lacks", Rows.laid_decani_candle_lacks)]
theorem door_met (os : Os) (args : Array Value) : laidMetH Tryd.prog laidL ((World.doorLaid Tryd.prog 600 os).forCall (fun _ _ => 0) ⟨#[], args, []⟩).memory :=
  laidMetH_of_parts3 (fuel := 8) (laidMet_of_run' 8 (by kernel_rfl) (by kernel_rfl)) (by kernel_rfl) (by kernel_rfl)

def nameMay : List UInt8 := [40, 100, 101, 99, 97, 110, 105, 47, 99, 97, 110, 100, 108, 101, 46, 98, 111, 111, 107, 41, 46, 109, 97, 121]
def nameMust : List UInt8 := [40, 100, 101, 99, 97, 110, 105, 47, 99, 97, 110, 100, 108, 101, 46, 98, 111, 111, 107, 41, 46, 109, 117, 115, 116]
theorem globs {w : World} (h : laidMetH Tryd.prog laidL w) : ∀ id ∈ G1, RC S1 (.start w) (.eptr (S1.Γ.glob id) 0) (.pointer (some ⟨S1.gm id, 0, none⟩)) := by
  intro id hid
  have : id = 1 ∨ id = 2 := by simpa [G1] using hid
  rcases this with rfl | rfl
  · exact glob_ints (S := S1) (n := "decani/candle.nowhere") (b := 0) (t := 114) (k := 2) (d := 8) (zs := [-1, -1]) h (List.Mem.head _) (by kernel_rfl) (by kernel_rfl) (by kernel_rfl)
  · exact glob_funcs (S := S1) (n := "decani/candle.lacks") (b := 1) (t := 126) (e := 125) (k := 2) (ps := #[85, 3, 3]) (rs := #[4]) (va := false) (ids := [85, 86]) (names := [nameMay, nameMust]) h (List.Mem.tail _ (List.Mem.head _)) (by kernel_rfl) (by kernel_rfl) (by kernel_rfl) (by kernel_rfl) (by kernel_rfl) (by kernel_rfl) rfl rfl (by kernel_rfl)
end Go.Proofs.YtdndhpoinffpbaaDoor

namespace Go.Pm.Cd
open Ac
set_option maxRecDepth 100000
set_option linter.unusedSimpArgs false
set_option linter.unusedSectionVars false
set_option linter.unusedVariables false

def Book.stock (b : Book) (k : Int) : Span := if k = 0 then b.s0 else b.s1
def Book.life (b : Book) (k : Int) : Span := if k = 0 then b.f0 else b.f1
def Day.lights (x : Day) (k : Int) : Int := if k = 0 then x.l0 else x.l1
def Book.runK (b : Book) (k n f : Int) (dk : Nat → Int) : Nat → Int
  | 0 => n
  | d + 1 => match b.days[d]? with
    | none => b.runK k n f dk d
    | some x => after1 (b.runK k n f dk d) (got2 b.comes k d) f (x.lights k) (min x.hours (dk d))
structure Way (b : Book) (but : List Int) (n f : Int → Int) (dk : Nat → Int) : Prop where
  stock : ∀ k, k = 0 ∨ k = 1 → (b.stock k).has (n k)
  life : ∀ k, k = 0 ∨ k = 1 → (b.life k).has (f k)
  dark : ∀ (d : Nat) (x : Day), b.days[d]? = some x → x.dark.has (dk d)
  right : ∀ (i : Nat) (x : Count), b.counts[i]? = some x → but.contains (i : Int) = false → within (x.left - b.runK x.kind (n x.kind) (f x.kind) dk (x.day.toNat + 1)) (-x.err) x.err = true

structure Says (b : Book) (n f : Int → Int) (dk : Nat → Int) (t : List Int) : Prop where
  life : ∀ k, k = 0 ∨ k = 1 → tLife k t = f k
  left : ∀ k, k = 0 ∨ k = 1 → ∀ d : Int, 0 ≤ d → d < b.days.length → tLeft k d t = b.runK k (n k) (f k) dk (d.toNat + 1)
  dark : ∀ d : Int, 0 ≤ d → d < b.days.length → tDark d t = dk d.toNat

def Book.bare (b : Book) : Book := { b with kc := .nil, counts := [] }
@[go_sem] theorem bare_set (b : Book) : b.c.set 10 (C.sl .nil 4 []) = b.bare.c := nrfl rfl
section
variable {Γ : Env} [P06 Γ] [G06 Γ]
end
end Go.Pm.Cd

namespace Go.Pm.Cd
open Ac
set_option maxRecDepth 100000
set_option linter.unusedSimpArgs false
set_option linter.unusedSectionVars false
set_option linter.unusedVariables false

def ownF (es : Nat) (L : List (List C)) : C := match L with | [] => .sl .full es [] | _ :: _ => .own es L
@[go_sem] theorem cells_ownF (es : Nat) (L : List (List C)) : (V.sc (ownF es L)).cells = [ownF es L] := by cases L <;> rfl
@[go_sem] theorem under_ownF (n es : Nat) (L : List (List C)) : C.under n (ownF es L) = true := by cases L <;> simp [ownF, C.under]

def Book.withO (b : Book) (x : Order) : Book := { b with ko := .shared, orders := b.orders ++ [x] }
def ownO (b : Book) (x : Order) : List C := [ci b.s0.lo, ci b.s0.hi, ci b.s1.lo, ci b.s1.hi, ci b.f0.lo, ci b.f0.hi, ci b.f1.lo, ci b.f1.hi, .sl b.kd 5 (b.days.map Day.c), .own 3 (b.orders.map Order.c ++ [x.c]), .sl b.kc 4 (b.counts.map Count.c)]
@[go_sem] theorem ownO_set (b : Book) (x : Order) : b.c.set 9 (.own 3 (b.orders.map Order.c ++ [x.c])) = ownO b x := nrfl rfl
@[go_sem] theorem ownO_all (b : Book) (x : Order) : cellsAt (ownO b x) 0 11 = some (ownO b x) := nrfl rfl
@[go_sem] theorem ownO_un (b : Book) (x : Order) : (ownO b x).map unown = (b.withO x).c := by
  simp [ownO, Book.withO, Book.c, unown]
@[go_sem] theorem ownO_under (b : Book) (x : Order) (n : Nat) : C.underL n (ownO b x) = true := by simp [ownO, go_sem]

section
variable {Γ : Env} [P06 Γ] [G06 Γ]
end
end Go.Pm.Cd

namespace Go.Pm.Cd
open Ac
set_option maxRecDepth 100000
set_option linter.unusedSimpArgs false
set_option linter.unusedSectionVars false
set_option linter.unusedVariables false

@[go_sem] theorem bin_shl (k : IntKind) (x y : Int) : bin .shl (.sc (.int k x)) (.sc (.int .i64 y)) = br (decide (y < 0)) none (some (.int k (k.wrap (x * 2 ^ (Nat.min y.toNat k.bits))))) := by
  simp only [bin, shifted]; by_cases h : y < 0 <;> simp [h]
@[go_sem] theorem bin_shr (k : IntKind) (x y : Int) : bin .shr (.sc (.int k x)) (.sc (.int .i64 y)) = br (decide (y < 0)) none (some (.int k (x.fdiv (2 ^ (Nat.min y.toNat k.bits))))) := by
  simp only [bin, shifted]; by_cases h : y < 0 <;> simp [h]
@[go_sem] theorem bin_and (k : IntKind) (x y : Int) : bin .and (.sc (.int k x)) (.sc (.int k y)) = some (.int k (wrapBits k (BitVec.ofInt k.bits x &&& BitVec.ofInt k.bits y))) := by simp [bin, arith]

section
variable {Γ : Env} [P06 Γ] [G06 Γ]
@[go_sem] theorem Equal_k (k k' : SK) (l m : List Int) (hl : l.length ≤ 1000000) (hm : m.length ≤ 1000000) : K Γ (.fn 23) [.sc (.sl k 1 (l.map fun x => [ci x])), .sc (.sl k' 1 (m.map fun x => [ci x]))] [] = some (vb (decide (l = m)), []) := by
  rw [K_fn P06.f23 _ _ rfl]
  by_cases hlm : (l.length : Int) = m.length
  · have d1 := decide_eq_true hlm
    have hz : (l.zip m).length = l.length := by simp [List.length_zip]; omega
    (simp only [go_sem, simprocAttr, decaniref00_Equal, d1]; repeat' (first | ((first | (refine br_yes (by omega) ?_) | (refine br_no (by omega) ?_) | (apply br_all; (· simp only [Bool.and_eq_true, decide_eq_true_eq]; omega)) | (apply br_free; (· simp [go_sem, Pm.acc, Acc.free, refsOf, offOf, keyEq, tagEq, cellsEq, cellEq]; done)) | ((first | apply br_mergeT | apply br_mergeF); (· intro h; simp only [go_sem, simprocAttr, sel_of h, decaniref00_Equal, d1]; exact rfl))); (try simp only [go_sem, simprocAttr, decaniref00_Equal, d1])) | ((first | apply onGuard_sel | (apply pickV_split; apply br_split) | apply br_split) <;> intro h <;> (try simp only [go_sem, simprocAttr, h, decaniref00_Equal, d1]))))
    refine (E_range (fun i (a : Bool) => ⟨[(0, .sc (.sl k 1 (l.map fun x => [ci x]))), (1, .sc (.sl k' 1 (m.map fun x => [ci x]))), (5, vb a), (6, vi i)], []⟩) (l.zip m)
      (fun i a p => if a then .inl (decide (p.1 = p.2)) else .inr (.exit 0, ⟨[(0, .sc (.sl k 1 (l.map fun x => [ci x]))), (1, .sc (.sl k' 1 (m.map fun x => [ci x]))), (5, vb false), (6, vi i), (18, vb false)], []⟩))
      (fun a => (.exit 0, ⟨[(0, .sc (.sl k 1 (l.map fun x => [ci x]))), (1, .sc (.sl k' 1 (m.map fun x => [ci x]))), (5, vb a), (6, vi (l.zip m).length), (18, vb false)], []⟩)) _ ?_ ?_ ?_ true).trans ?_
    · intro i a p a' hp hf
      obtain ⟨h1, h2⟩ := List.getElem?_zip_eq_some.1 hp
      have d1 := decide_eq_true (show (i : Int) < l.length by have := (List.getElem?_eq_some_iff.1 h1).1; omega)
      have hi : IntKind.i64.wrap ((i : Int) + 1) = i + 1 := wrap_i64 (by have := (List.getElem?_eq_some_iff.1 h1).1; omega) (by have := (List.getElem?_eq_some_iff.1 h1).1; omega)
      cases a with
      | false => simp at hf
      | true =>
        simp only [if_true, Sum.inl.injEq] at hf
        subst hf
        (simp only [go_sem, simprocAttr, decaniref00_Equal_B0, h1, h2, d1, hi]; repeat' (first | ((first | (refine br_yes (by omega) ?_) | (refine br_no (by omega) ?_) | (apply br_all; (· simp only [Bool.and_eq_true, decide_eq_true_eq]; omega)) | (apply br_free; (· simp [go_sem, Pm.acc, Acc.free, refsOf, offOf, keyEq, tagEq, cellsEq, cellEq]; done)) | ((first | apply br_mergeT | apply br_mergeF); (· intro h; simp only [go_sem, simprocAttr, sel_of h, decaniref00_Equal_B0, h1, h2, d1, hi]; exact rfl))); (try simp only [go_sem, simprocAttr, decaniref00_Equal_B0, h1, h2, d1, hi])) | ((first | apply onGuard_sel | (apply pickV_split; apply br_split) | apply br_split) <;> intro h <;> (try simp only [go_sem, simprocAttr, h, decaniref00_Equal_B0, h1, h2, d1, hi]))))
        rfl
    · intro i a p r hp hf
      cases a with
      | true => simp at hf
      | false =>
        simp only [Bool.false_eq_true, if_false, Sum.inr.injEq] at hf
        subst hf
        (simp only [go_sem, simprocAttr, decaniref00_Equal_B0]; repeat' (first | ((first | (refine br_yes (by omega) ?_) | (refine br_no (by omega) ?_) | (apply br_all; (· simp only [Bool.and_eq_true, decide_eq_true_eq]; omega)) | (apply br_free; (· simp [go_sem, Pm.acc, Acc.free, refsOf, offOf, keyEq, tagEq, cellsEq, cellEq]; done)) | ((first | apply br_mergeT | apply br_mergeF); (· intro h; simp only [go_sem, simprocAttr, sel_of h, decaniref00_Equal_B0]; exact rfl))); (try simp only [go_sem, simprocAttr, decaniref00_Equal_B0])) | ((first | apply onGuard_sel | (apply pickV_split; apply br_split) | apply br_split) <;> intro h <;> (try simp only [go_sem, simprocAttr, h, decaniref00_Equal_B0]))))
    · intro a
      have d1 : decide (((l.zip m).length : Int) < l.length) = false := decide_eq_false (by omega)
      cases a with
      | true => (simp only [go_sem, simprocAttr, decaniref00_Equal_B0, d1]; repeat' (first | ((first | (refine br_yes (by omega) ?_) | (refine br_no (by omega) ?_) | (apply br_all; (· simp only [Bool.and_eq_true, decide_eq_true_eq]; omega)) | (apply br_free; (· simp [go_sem, Pm.acc, Acc.free, refsOf, offOf, keyEq, tagEq, cellsEq, cellEq]; done)) | ((first | apply br_mergeT | apply br_mergeF); (· intro h; simp only [go_sem, simprocAttr, sel_of h, decaniref00_Equal_B0, d1]; exact rfl))); (try simp only [go_sem, simprocAttr, decaniref00_Equal_B0, d1])) | ((first | apply onGuard_sel | (apply pickV_split; apply br_split) | apply br_split) <;> intro h <;> (try simp only [go_sem, simprocAttr, h, decaniref00_Equal_B0, d1]))))
      | false => (simp only [go_sem, simprocAttr, decaniref00_Equal_B0]; repeat' (first | ((first | (refine br_yes (by omega) ?_) | (refine br_no (by omega) ?_) | (apply br_all; (· simp only [Bool.and_eq_true, decide_eq_true_eq]; omega)) | (apply br_free; (· simp [go_sem, Pm.acc, Acc.free, refsOf, offOf, keyEq, tagEq, cellsEq, cellEq]; done)) | ((first | apply br_mergeT | apply br_mergeF); (· intro h; simp only [go_sem, simprocAttr, sel_of h, decaniref00_Equal_B0]; exact rfl))); (try simp only [go_sem, simprocAttr, decaniref00_Equal_B0])) | ((first | apply onGuard_sel | (apply pickV_split; apply br_split) | apply br_split) <;> intro h <;> (try simp only [go_sem, simprocAttr, h, decaniref00_Equal_B0]))))
    · have key : ∀ (ps : List (Int × Int)) (n : Nat) (a : Bool), ∃ j e, goFold (fun (i : Nat) (a : Bool) (p : Int × Int) => if a then Sum.inl (decide (p.1 = p.2)) else Sum.inr (Ex.exit 0, (⟨[(0, .sc (.sl k 1 (l.map fun x => [ci x]))), (1, .sc (.sl k' 1 (m.map fun x => [ci x]))), (5, vb false), (6, vi i), (18, vb false)], []⟩ : St)))
          (fun a => (.exit 0, ⟨[(0, .sc (.sl k 1 (l.map fun x => [ci x]))), (1, .sc (.sl k' 1 (m.map fun x => [ci x]))), (5, vb a), (6, vi (l.zip m).length), (18, vb false)], []⟩)) n a ps =
          (.exit 0, ⟨[(0, .sc (.sl k 1 (l.map fun x => [ci x]))), (1, .sc (.sl k' 1 (m.map fun x => [ci x]))), (5, vb e), (6, vi j), (18, vb false)], []⟩) ∧ e = (a && decide (∀ p, p ∈ ps → p.1 = p.2)) := by
        intro ps
        induction ps with
        | nil => intro n a; exact ⟨_, a, rfl, by simp⟩
        | cons p ps ih =>
          intro n a
          cases a with
          | false => exact ⟨n, false, rfl, by simp⟩
          | true =>
            obtain ⟨j, e, h1, h2⟩ := ih (n + 1) (decide (p.1 = p.2))
            refine ⟨j, e, by simp only [goFold, if_true]; exact h1, ?_⟩
            rw [h2, Bool.true_and]
            by_cases hp : p.1 = p.2
            · have e1 : (∀ q, q ∈ p :: ps → q.1 = q.2) ↔ (∀ q, q ∈ ps → q.1 = q.2) := by simp [hp]
              rw [decide_eq_true hp, Bool.true_and, decide_eq_decide.2 e1]
            · have e1 : ¬ (∀ q, q ∈ p :: ps → q.1 = q.2) := fun h => hp (h p (by simp))
              rw [decide_eq_false hp, Bool.false_and, decide_eq_false e1]
      obtain ⟨j, e, h1, h2⟩ := key (l.zip m) 0 true
      rw [h1]
      have he : e = decide (l = m) := by
        rw [h2, Bool.true_and, decide_eq_decide]
        constructor
        · intro h
          apply List.ext_getElem?
          intro i
          by_cases hi : i < l.length
          · have hi' : i < m.length := by omega
            have := h (l[i], m[i]) (List.mem_of_getElem? (List.getElem?_zip_eq_some.2 ⟨List.getElem?_eq_getElem hi, List.getElem?_eq_getElem hi'⟩))
            rw [List.getElem?_eq_getElem hi, List.getElem?_eq_getElem hi']
            exact congrArg some this
          · rw [List.getElem?_eq_none (by omega), List.getElem?_eq_none (by omega)]
        · rintro rfl p hp
          obtain ⟨i, hi⟩ := List.getElem?_of_mem hp
          obtain ⟨a1, a2⟩ := List.getElem?_zip_eq_some.1 hi
          rw [a1] at a2; exact Option.some.inj a2
      subst he
      (simp only [go_sem, simprocAttr]; repeat' (first | ((first | (refine br_yes (by omega) ?_) | (refine br_no (by omega) ?_) | (apply br_all; (· simp only [Bool.and_eq_true, decide_eq_true_eq]; omega)) | (apply br_free; (· simp [go_sem, Pm.acc, Acc.free, refsOf, offOf, keyEq, tagEq, cellsEq, cellEq]; done)) | ((first | apply br_mergeT | apply br_mergeF); (· intro h; simp only [go_sem, simprocAttr, sel_of h]; exact rfl))); (try simp only [go_sem, simprocAttr])) | ((first | apply onGuard_sel | (apply pickV_split; apply br_split) | apply br_split) <;> intro h <;> (try simp only [go_sem, simprocAttr, h]))))
  · have d1 := decide_eq_false hlm
    have hne : decide (l = m) = false := decide_eq_false (fun e => hlm (by rw [e]))
    (simp only [go_sem, simprocAttr, decaniref00_Equal, d1, hne, decaniref00_Equal_L0, decaniref00_Equal_B0, E_loop]; repeat' (first | ((first | (refine br_yes (by omega) ?_) | (refine br_no (by omega) ?_) | (apply br_all; (· simp only [Bool.and_eq_true, decide_eq_true_eq]; omega)) | (apply br_free; (· simp [go_sem, Pm.acc, Acc.free, refsOf, offOf, keyEq, tagEq, cellsEq, cellEq]; done)) | ((first | apply br_mergeT | apply br_mergeF); (· intro h; simp only [go_sem, simprocAttr, sel_of h, decaniref00_Equal, d1, hne, decaniref00_Equal_L0, decaniref00_Equal_B0, E_loop]; exact rfl))); (try simp only [go_sem, simprocAttr, decaniref00_Equal, d1, hne, decaniref00_Equal_L0, decaniref00_Equal_B0, E_loop])) | ((first | apply onGuard_sel | (apply pickV_split; apply br_split) | apply br_split) <;> intro h <;> (try simp only [go_sem, simprocAttr, h, decaniref00_Equal, d1, hne, decaniref00_Equal_L0, decaniref00_Equal_B0, E_loop]))))
end
end Go.Pm.Cd

namespace Go.Pm.Cd
open Ac
set_option maxRecDepth 100000
set_option linter.unusedSimpArgs false
set_option linter.unusedSectionVars false
set_option linter.unusedVariables false

def before : List Int → List Int → Bool
  | [], [] => false
  | [], _ :: _ => true
  | _ :: _, [] => false
  | x :: xs, y :: ys => if x = y then before xs ys else decide (x < y)
def Book.keptN (b : Book) (l : List Int) (i : Nat) : List Count := (List.range i).foldl (fun acc (j : Nat) => match b.counts[j]? with | some x => if l.contains (j : Int) then acc else acc ++ [x] | none => acc) []
def Book.withC (b : Book) (L : List Count) : Book := { b with kc := if L = [] then .nil else .shared, counts := L }
def Book.without (b : Book) (l : List Int) : Book := b.withC (b.keptN l b.counts.length)
def B10 (b : Book) (c : C) : List C := [ci b.s0.lo, ci b.s0.hi, ci b.s1.lo, ci b.s1.hi, ci b.f0.lo, ci b.f0.hi, ci b.f1.lo, ci b.f1.hi, .sl b.kd 5 (b.days.map Day.c), .sl b.ko 3 (b.orders.map Order.c), c]
section
variable (b : Book) (c c' : C)
@[go_sem] theorem B10_get : (B10 b c)[10]? = some c := nrfl rfl
@[go_sem] theorem B10_set : (B10 b c).set 10 c' = B10 b c' := nrfl rfl
@[go_sem] theorem B10_under (n : Nat) : C.underL n (B10 b c) = C.underL n [c] := by simp [B10, C.underL, C.under]
@[go_sem] theorem B10_len : (B10 b c).length = 11 := nrfl rfl
@[go_sem] theorem B10_all : cellsAt (B10 b c) 0 11 = some (B10 b c) := nrfl rfl
end
section
variable {Γ : Env} [P06 Γ] [G06 Γ]
end
end Go.Pm.Cd

namespace Go.Pm.Cd
open Ac
set_option maxRecDepth 100000
set_option linter.unusedSimpArgs false
set_option linter.unusedSectionVars false
set_option linter.unusedVariables false

def Book.tdk (b : Book) (l : List Int) (d : Nat) : Int := match b.days[d]? with | some x => drawn x.dark (nth l d) | none => 0
def Book.tf (b : Book) (l : List Int) (k : Int) : Int := drawn (b.life k) (nth l (k + 1))
def Book.tn (b : Book) (l : List Int) (k : Int) : Int := drawn (b.stock k) (nth l (k + 2))
def Book.trun (b : Book) (l : List Int) (k : Int) (d : Nat) : Int := b.runK k (b.tn l k) (b.tf l k) (b.tdk l) d
/-! ### No more than there were and came -/
section
variable {Γ : Env} [P06 Γ] [G06 Γ]
end
end Go.Pm.Cd

namespace Go.Pm.Cd
open Ac
set_option maxRecDepth 100000
set_option linter.unusedSimpArgs false
set_option linter.unusedSectionVars false
set_option linter.unusedVariables false

section
variable {Γ : Env} [P06 Γ] [G06 Γ]
end
end Go.Pm.Cd

namespace Go.Pm.Cd
open Ac
set_option maxRecDepth 100000
set_option linter.unusedSimpArgs false
set_option linter.unusedSectionVars false
set_option linter.unusedVariables false

/-! ### The days as a row that is written into -/
def flatD (ds : List Day) : List C := (ds.map Day.c).flatten
theorem flatD_cons (x : Day) (ds : List Day) : flatD (x :: ds) = x.c ++ flatD ds := rfl
@[go_sem] theorem flatD_len : ∀ ds : List Day, (flatD ds).length = 5 * ds.length
  | [] => rfl
  | x :: ds => by
    have h5 : x.c.length = 5 := rfl
    rw [flatD_cons, List.length_append, flatD_len ds, List.length_cons, h5]; omega
theorem flatD_plain (ds : List Day) : ∀ c, c ∈ flatD ds → flatC c = true ∧ unown c = c ∧ c.pure = true := by
  intro c hc
  simp only [flatD, List.mem_flatten, List.mem_map] at hc
  obtain ⟨l, ⟨x, -, rfl⟩, hc⟩ := hc
  simp only [Day.c, List.mem_cons, List.not_mem_nil, or_false] at hc
  rcases hc with rfl | rfl | rfl | rfl | rfl <;> exact ⟨rfl, rfl, rfl⟩
theorem pureL_all : ∀ (cs : List C), (∀ c, c ∈ cs → c.pure = true) → C.pureL cs = true
  | [], _ => rfl
  | c :: cs, h => by simp only [C.pureL, h c (by simp), pureL_all cs (fun x hx => h x (by simp [hx])), Bool.and_self]
theorem flatD_pure (ds : List Day) : C.pureL (flatD ds) = true := pureL_all _ fun c hc => (flatD_plain ds c hc).2.2
@[go_sem] theorem flatD_under (n : Nat) (ds : List Day) : C.underL n (flatD ds) = true := pureL_underL0 n _ (flatD_pure ds)
def B8 (b : Book) (c : C) : List C := [ci b.s0.lo, ci b.s0.hi, ci b.s1.lo, ci b.s1.hi, ci b.f0.lo, ci b.f0.hi, ci b.f1.lo, ci b.f1.hi, c, .sl b.ko 3 (b.orders.map Order.c), .sl b.kc 4 (b.counts.map Count.c)]
section
variable (b : Book) (c : C)
@[go_sem] theorem B8_set : b.c.set 8 c = B8 b c := nrfl rfl
@[go_sem] theorem B8_get : (B8 b c)[8]? = some c := nrfl rfl
@[go_sem] theorem B8_under (n : Nat) : C.underL n (B8 b c) = C.underL n [c] := by simp [B8, C.underL, C.under]
end
end Go.Pm.Cd

namespace Go.Pm.Cd
open Ac
set_option maxRecDepth 100000
set_option linter.unusedSimpArgs false
set_option linter.unusedSectionVars false
set_option linter.unusedVariables false

section
variable {Γ : Env} [P06 Γ] [G06 Γ]
end
end Go.Pm.Cd

namespace Go.Pm.Cd
open Ac
set_option maxRecDepth 100000
set_option linter.unusedSimpArgs false
set_option linter.unusedSectionVars false
set_option linter.unusedVariables false
section
variable {Γ : Env} [P06 Γ] [G06 Γ]

structure EndsOk (b : Book) (kind day lo hi : Int) (vs : List Int) : Prop where
  low : ∀ (i : Nat) v, vs[i]? = some v → i < 2 → within v (-300) 300 = true → (b.add ⟨day, kind, v, 0⟩).truths [] ≠ []
  cov : ∀ (i : Nat) v, vs[i]? = some v → within v (-300) 300 = true → (b.add ⟨day, kind, v, 0⟩).truths [] ≠ [] → within v lo hi = true

end
end Go.Pm.Cd

namespace Go.Pm.Cd
open Ac
set_option maxRecDepth 100000
set_option linter.unusedSimpArgs false
set_option linter.unusedSectionVars false
set_option linter.unusedVariables false

section
variable {Γ : Env} [P06 Γ] [G06 Γ]
end
end Go.Pm.Cd

namespace Go.Pm.Cd
open Ac
set_option maxRecDepth 100000
set_option linter.unusedSimpArgs false
set_option linter.unusedSectionVars false
set_option linter.unusedVariables false

def rightAt (b : Book) (l : List Int) (i : Nat) (x : Count) : Count := { x with left := min 300 (b.trun l x.kind (x.day.toNat + 1) + drawn ⟨-x.err, x.err⟩ (nth l i)) }
def rightN (b : Book) (l : List Int) (i : Nat) : List Count := (List.range i).foldl (fun acc (j : Nat) => match b.counts[j]? with | some x => acc ++ [rightAt b l j x] | none => acc) []
def Book.rightly (b : Book) (l : List Int) : Book := b.withC (rightN b l b.counts.length)

section
variable {Γ : Env} [P06 Γ] [G06 Γ]
end
end Go.Pm.Cd

namespace Go.Pm.Cd
open Ac
set_option maxRecDepth 100000
set_option linter.unusedSimpArgs false
set_option linter.unusedSectionVars false
set_option linter.unusedVariables false

section
variable {Γ : Env} [P06 Γ] [G06 Γ]
theorem bad_k (x : Count) : K Γ (.fn 39) [.sc (.sl .full 4 [x.c])] [] = some (.agg (litB .full [x]).c, []) := book_k .full [x]
theorem bad6_k : K Γ (.fn 39) [.sc (.sl .full 4 [[ci 0, ci 0, ci 0, ci 0], [ci 0, ci 0, ci 0, ci 0], [ci 0, ci 0, ci 0, ci 0], [ci 0, ci 0, ci 0, ci 0], [ci 0, ci 0, ci 0, ci 0], [ci 0, ci 0, ci 0, ci 0]])] [] = some (.agg (litB .full (List.replicate 6 ⟨0, 0, 0, 0⟩)).c, []) := book_k .full (List.replicate 6 ⟨0, 0, 0, 0⟩)

theorem bad_ask {b : Book} (hv : b.valid = false) (is : Bool) : b.askE is = 60 := by simp [Book.askE, hv]
theorem known_L0 (k : SK) (bs : List Book) (hl : bs.length ≤ 100) (hbs : ∀ b, b ∈ bs → b.valid = false ∧ b.Fits) (H : List Obj) (n : Nat) (hn : H.length = n) (hu : H.all (Obj.under n) = true) {β : Type} (Q : Ex → St → Option β) :
    E Γ decanilaw06_CandleKnown_L0 ⟨[(1, .sc (.sl k 11 (bs.map Book.c))), (2, vi 0)], H⟩ Q = Q (.exit 0) ⟨[(1, .sc (.sl k 11 (bs.map Book.c))), (2, vi bs.length), (157, vb false)], H⟩ := by
  refine E_countS bs.length (fun i (_ : Unit) => ⟨[(1, .sc (.sl k 11 (bs.map Book.c))), (2, vi i)], H⟩) (fun _ _ => True)
    (fun _ => (.exit 0, ⟨[(1, .sc (.sl k 11 (bs.map Book.c))), (2, vi bs.length), (157, vb false)], H⟩)) () rfl trivial ?_ ?_ ?_
  · intro i _ hi _
    refine ⟨(), trivial, ?_⟩
    obtain ⟨b, hb⟩ : ∃ b, bs[i]? = some b := ⟨_, List.getElem?_eq_getElem hi⟩
    obtain ⟨hv, hf⟩ := hbs b (List.mem_of_getElem? hb)
    haveI := hf
    have hlt := decide_eq_true (show (i : Int) < bs.length by omega)
    have hiw : IntKind.i64.wrap ((i : Int) + 1) = i + 1 := wrap_i64 (by omega) (by omega)
    have ha := bad_ask hv
    have k1 := Right_k (Γ := Γ) b
    have k2 := Left_k (Γ := Γ) b (-1) 0
    have k3 := Life_k (Γ := Γ) b (-1)
    have k4 := Dark_k (Γ := Γ) b (-1)
    have k5 := Short_k (Γ := Γ) b (-1)
    have k6 := Surely_k (Γ := Γ) b (-1)
    have k7 := Buy_k (Γ := Γ) b (-1) 0
    have k8 := Fits_k (Γ := Γ) b ⟨0, -1, 0, 0⟩
    have k9 := Wrong_k (Γ := Γ) b
    have k10 := check_k (Γ := Γ) b
    simp only [hv, ha, told, Book.short, Book.surely, Book.buy, Book.fits, Book.wrong, wrongK, iC, List.map_nil, Bool.false_and, Bool.false_eq_true, if_false, Int.reduceEq, Count.c] at k1 k2 k3 k4 k5 k6 k7 k8 k9 k10
    have ht : H.take n = H := by rw [← hn]; exact List.take_length
    (simp only [go_sem, simprocAttr, decanilaw06_CandleKnown_B0, hn, heapB, hu, ht, hb, hlt, hiw, k1, k2, k3, k4, k5, k6, k7, k8, k9, k10]; repeat' (first | ((first | (refine br_yes (by omega) ?_) | (refine br_no (by omega) ?_) | (apply br_all; (· simp only [Bool.and_eq_true, decide_eq_true_eq]; omega)) | (apply br_free; (· simp [go_sem, Pm.acc, Acc.free, refsOf, offOf, keyEq, tagEq, cellsEq, cellEq]; done)) | ((first | apply br_mergeT | apply br_mergeF); (· intro h; simp only [go_sem, simprocAttr, sel_of h, decanilaw06_CandleKnown_B0, hn, heapB, hu, ht, hb, hlt, hiw, k1, k2, k3, k4, k5, k6, k7, k8, k9, k10]; exact rfl))); (try simp only [go_sem, simprocAttr, decanilaw06_CandleKnown_B0, hn, heapB, hu, ht, hb, hlt, hiw, k1, k2, k3, k4, k5, k6, k7, k8, k9, k10])) | ((first | apply onGuard_sel | (apply pickV_split; apply br_split) | apply br_split) <;> intro h <;> (try simp only [go_sem, simprocAttr, h, decanilaw06_CandleKnown_B0, hn, heapB, hu, ht, hb, hlt, hiw, k1, k2, k3, k4, k5, k6, k7, k8, k9, k10]))))
    rfl
  · intro _ _
    have hlt := decide_eq_false (show ¬ (bs.length : Int) < bs.length by omega)
    (simp only [go_sem, simprocAttr, decanilaw06_CandleKnown_B0, hlt]; repeat' (first | ((first | (refine br_yes (by omega) ?_) | (refine br_no (by omega) ?_) | (apply br_all; (· simp only [Bool.and_eq_true, decide_eq_true_eq]; omega)) | (apply br_free; (· simp [go_sem, Pm.acc, Acc.free, refsOf, offOf, keyEq, tagEq, cellsEq, cellEq]; done)) | ((first | apply br_mergeT | apply br_mergeF); (· intro h; simp only [go_sem, simprocAttr, sel_of h, decanilaw06_CandleKnown_B0, hlt]; exact rfl))); (try simp only [go_sem, simprocAttr, decanilaw06_CandleKnown_B0, hlt])) | ((first | apply onGuard_sel | (apply pickV_split; apply br_split) | apply br_split) <;> intro h <;> (try simp only [go_sem, simprocAttr, h, decanilaw06_CandleKnown_B0, hlt]))))
  · intro _ _
    rfl

def dsX : List Day := [⟨4, ⟨3, 4⟩, 2, 6⟩, ⟨3, ⟨5, 5⟩, 2, 6⟩, ⟨6, ⟨4, 6⟩, 4, 6⟩]
def bads : List Book := [⟨⟨0, 0⟩, ⟨0, 0⟩, ⟨0, 0⟩, ⟨0, 0⟩, .nil, [], .nil, [], .nil, []⟩,
  { litB .nil [] with s0 := ⟨10, 13⟩ }, { litB .nil [] with s1 := ⟨61, 61⟩ }, { litB .nil [] with f0 := ⟨2, 4⟩ }, { litB .nil [] with f1 := ⟨0, 0⟩ }, { litB .nil [] with kd := .shared, days := dsX ++ dsX },
  { litB .nil [] with days := [⟨7, ⟨3, 4⟩, 2, 6⟩, ⟨3, ⟨5, 5⟩, 2, 6⟩, ⟨6, ⟨4, 6⟩, 4, 6⟩] }, { litB .nil [] with days := [⟨4, ⟨0, 3⟩, 2, 6⟩, ⟨3, ⟨5, 5⟩, 2, 6⟩, ⟨6, ⟨4, 6⟩, 4, 6⟩] }, { litB .nil [] with days := [⟨4, ⟨3, 4⟩, 2, 10⟩, ⟨3, ⟨5, 5⟩, 2, 6⟩, ⟨6, ⟨4, 6⟩, 4, 6⟩] },
  { litB .nil [] with orders := List.replicate 5 ⟨0, 0, 0⟩ }, { litB .nil [] with orders := [⟨3, 0, 4⟩] }, { litB .nil [] with orders := [⟨2, 0, 61⟩] },
  litB .full [⟨3, 0, 0, 0⟩], litB .full [⟨0, 2, 0, 0⟩], litB .full [⟨0, 0, 301, 0⟩], litB .full [⟨0, 0, -301, 0⟩], litB .full [⟨0, 0, 0, 6⟩], litB .full (List.replicate 6 ⟨0, 0, 0, 0⟩)]
theorem bads_bad : ∀ b, b ∈ bads → b.valid = false ∧ b.Fits := by
  intro b hb
  simp only [bads, List.mem_cons, List.not_mem_nil, or_false] at hb
  rcases hb with rfl | rfl | rfl | rfl | rfl | rfl | rfl | rfl | rfl | rfl | rfl | rfl | rfl | rfl | rfl | rfl | rfl | rfl <;> exact ⟨by decide +kernel, ⟨by simp [litB, dsX], by simp [litB], by simp [litB]⟩⟩

set_option maxHeartbeats 4000000 in
theorem CandleKnown_k : K Γ (.fn 98) [] [] = some (vb true, []) := by
  have h99 (h : List Obj) := K_fn (Γ := Γ) P06.f99 [] h rfl
  have h100 (v : V) (h : List Obj) := K_fn (Γ := Γ) P06.f100 [v] h rfl
  have b1 := bad_k (Γ := Γ) ⟨3, 0, 0, 0⟩
  have b2 := bad_k (Γ := Γ) ⟨0, 2, 0, 0⟩
  have b3 := bad_k (Γ := Γ) ⟨0, 0, 301, 0⟩
  have b4 := bad_k (Γ := Γ) ⟨0, 0, -301, 0⟩
  have b5 := bad_k (Γ := Γ) ⟨0, 0, 0, 6⟩
  have b6 := bad6_k (Γ := Γ)
  have c0 (k : SK) (cs : List Count) : (litB k cs).c = [ci 10, ci 11, ci 30, ci 30, ci 2, ci 3, ci 4, ci 4, .sl .full 5 [[ci 4, ci 3, ci 4, ci 2, ci 6], [ci 3, ci 5, ci 5, ci 2, ci 6], [ci 6, ci 4, ci 6, ci 4, ci 6]], .sl .full 3 [[ci 2, ci 0, ci 4]], .sl k 4 (cs.map Count.c)] := rfl
  have hA : appended 5 (.sc (.sl .full 5 [[ci 4, ci 3, ci 4, ci 2, ci 6], [ci 3, ci 5, ci 5, ci 2, ci 6], [ci 6, ci 4, ci 6, ci 4, ci 6]])) (.sc (.sl .full 5 [[ci 4, ci 3, ci 4, ci 2, ci 6], [ci 3, ci 5, ci 5, ci 2, ci 6], [ci 6, ci 4, ci 6, ci 4, ci 6]])) = some (.own 5 [[ci 4, ci 3, ci 4, ci 2, ci 6], [ci 3, ci 5, ci 5, ci 2, ci 6], [ci 6, ci 4, ci 6, ci 4, ci 6], [ci 4, ci 3, ci 4, ci 2, ci 6], [ci 3, ci 5, ci 5, ci 2, ci 6], [ci 6, ci 4, ci 6, ci 4, ci 6]]) := by simp [appended, elems, room]
  simp only [Count.c] at b1 b2 b3 b4 b5
  rw [K_fn P06.f98 _ _ rfl]
  simp only [go_sem, simprocAttr, decanilaw06_CandleKnown, h99, h100, decanilaw06_ownX, decanilaw06_bookX, b1, b2, b3, b4, b5, b6, c0, List.map_cons, List.map_nil, List.replicate, Count.c, List.flatten_cons, List.flatten_nil, frozenC, frozenCells, frozenCell, C.pureL, chunks, hA]
  have q (n : Nat) (l : List (List C)) (h : (decide (n ≤ l.length)) = true) : True := trivial
  repeat (refine br_all rfl ?_; simp only [go_sem, simprocAttr, decanilaw06_CandleKnown, h99, h100, decanilaw06_ownX, decanilaw06_bookX, b1, b2, b3, b4, b5, b6, c0, List.map_cons, List.map_nil, List.replicate, Count.c, List.flatten_cons, List.flatten_nil, frozenC, frozenCells, frozenCell, C.pureL, chunks, hA])
  refine Eq.trans (known_L0 (Γ := Γ) .full bads (by decide) bads_bad _ _ rfl ?_ _) ?_
  · rfl
  have u1 : K Γ (.fn 6) [.agg (litB .full [cnt8, cnt3]).c, vi 2, vi 0] [] = some (.tup [.agg [ci 0, ci 0], vi 61], []) := by
    have e : (litB .full [cnt8, cnt3]).askE (isKind 2 && (litB .full [cnt8, cnt3]).isDay 0) = 61 := by decide +kernel
    rw [Left_k, e]; rfl
  have u2 : K Γ (.fn 6) [.agg (litB .full [cnt8, cnt3]).c, vi 0, vi 3] [] = some (.tup [.agg [ci 0, ci 0], vi 61], []) := by
    have e : (litB .full [cnt8, cnt3]).askE (isKind 0 && (litB .full [cnt8, cnt3]).isDay 3) = 61 := by decide +kernel
    rw [Left_k, e]; rfl
  have u3 : K Γ (.fn 8) [.agg (litB .full [cnt8, cnt3]).c, vi 2] [] = some (.tup [.agg [ci 0, ci 0], vi 61], []) := by
    have e : (litB .full [cnt8, cnt3]).askE (isKind 2) = 61 := by decide +kernel
    rw [Life_k, e]; rfl
  have u4 : K Γ (.fn 10) [.agg (litB .full [cnt8, cnt3]).c, vi 3] [] = some (.tup [.agg [ci 0, ci 0], vi 61], []) := by
    have e : (litB .full [cnt8, cnt3]).askE ((litB .full [cnt8, cnt3]).isDay 3) = 61 := by decide +kernel
    rw [Dark_k, e]; rfl
  have u5 : K Γ (.fn 13) [.agg (litB .full [cnt8, cnt3]).c, vi (-1)] [] = some (.tup [vi 0, vi 61], []) := by
    have e : (litB .full [cnt8, cnt3]).short (-1) = (0, 61) := by decide +kernel
    rw [Short_k, e]
  have u6 : K Γ (.fn 17) [.agg (litB .full [cnt8, cnt3]).c, vi 0, vi (-1)] [] = some (.tup [vi 0, vi 61], []) := by
    have e : (litB .full [cnt8, cnt3]).buy 0 (-1) = (0, 61) := by decide +kernel
    rw [Buy_k, e]
  have u7 : K Γ (.fn 19) [.agg (litB .full [cnt8, cnt3]).c, .agg [ci 0, ci 0, ci 0, ci 6]] [] = some (.tup [vb false, vi 61], []) := by
    have e : (litB .full [cnt8, cnt3]).fits ⟨0, 0, 0, 6⟩ = (false, 61) := by decide +kernel
    have := Fits_k (Γ := Γ) (litB .full [cnt8, cnt3]) ⟨0, 0, 0, 6⟩
    rw [e] at this; exact this
  have u8 : K Γ (.fn 6) [.agg (litB .full [cnt8, cnt3]).c, vi 1, vi 0] [] = some (.tup [.agg [ci 0, ci 0], vi 62], []) := by
    have e : (litB .full [cnt8, cnt3]).askE (isKind 1 && (litB .full [cnt8, cnt3]).isDay 0) = 62 := by decide +kernel
    rw [Left_k, e]; rfl
  have u9 : K Γ (.fn 17) [.agg (litB .full [cnt8, cnt3]).c, vi 1, vi 0] [] = some (.tup [vi 0, vi 62], []) := by
    have e : (litB .full [cnt8, cnt3]).buy 1 0 = (0, 62) := by decide +kernel
    rw [Buy_k, e]
  have u10 : K Γ (.fn 15) [.agg (litB .nil []).c, vi 0] [] = some (.tup [vi 0, vi 4], []) := by
    have e : (litB .nil []).surely 0 = (0, 4) := by decide +kernel
    rw [Surely_k, e]
  have u11 : K Γ (.fn 13) [.agg (litB .full [cnt8]).c, vi 0] [] = some (.tup [vi 0, vi 4], []) := by
    have e : (litB .full [cnt8]).short 0 = (0, 4) := by decide +kernel
    rw [Short_k, e]
  have u12 : K Γ (.fn 6) [.agg (litB .nil []).c, vi 0, vi 0] [] = some (.tup [.agg [ci 6, ci 9], vi 0], []) := by
    have e : told ((litB .nil []).askE (isKind 0 && (litB .nil []).isDay 0)) (spanOf (tLeft 0 0) ((litB .nil []).truths [])) = (6, 9) := by decide +kernel
    have a : (litB .nil []).askE (isKind 0 && (litB .nil []).isDay 0) = 0 := by decide +kernel
    rw [Left_k, e, a]
  have u13 : K Γ (.fn 6) [.agg (litB .nil []).c, vi 0, vi 1] [] = some (.tup [.agg [ci 2, ci 7], vi 0], []) := by
    have e : told ((litB .nil []).askE (isKind 0 && (litB .nil []).isDay 1)) (spanOf (tLeft 0 1) ((litB .nil []).truths [])) = (2, 7) := by decide +kernel
    have a : (litB .nil []).askE (isKind 0 && (litB .nil []).isDay 1) = 0 := by decide +kernel
    rw [Left_k, e, a]
  have u14 := lit_left0 (Γ := Γ)
  have u15 : K Γ (.fn 6) [.agg (litB .full [cnt8]).c, vi 0, vi 2] [] = some (.tup [.agg [ci 2, ci 2], vi 0], []) := by
    have e : told ((litB .full [cnt8]).askE (isKind 0 && (litB .full [cnt8]).isDay 2)) (spanOf (tLeft 0 2) ((litB .full [cnt8]).truths [])) = (2, 2) := by decide +kernel
    have a : (litB .full [cnt8]).askE (isKind 0 && (litB .full [cnt8]).isDay 2) = 0 := by decide +kernel
    rw [Left_k, e, a]
  have u16 : K Γ (.fn 10) [.agg (litB .full [cnt8]).c, vi 2] [] = some (.tup [.agg [ci 4, ci 6], vi 0], []) := by
    have e : told ((litB .full [cnt8]).askE ((litB .full [cnt8]).isDay 2)) (spanOf (tDark 2) ((litB .full [cnt8]).truths [])) = (4, 6) := by decide +kernel
    have a : (litB .full [cnt8]).askE ((litB .full [cnt8]).isDay 2) = 0 := by decide +kernel
    rw [Dark_k, e, a]
  have u17 : K Γ (.fn 8) [.agg (litB .nil []).c, vi 0] [] = some (.tup [.agg [ci 2, ci 3], vi 0], []) := by
    have e : told ((litB .nil []).askE (isKind 0)) (spanOf (tLife 0) ((litB .nil []).truths [])) = (2, 3) := by decide +kernel
    have a : (litB .nil []).askE (isKind 0) = 0 := by decide +kernel
    rw [Life_k, e, a]
  have u18 : K Γ (.fn 17) [.agg (litB .nil []).c, vi 0, vi 0] [] = some (.tup [vi 6, vi 0], []) := by
    have e : (litB .nil []).buy 0 0 = (6, 0) := by decide +kernel
    rw [Buy_k, e]
  have u19 : K Γ (.fn 17) [.agg (litB .nil []).c, vi 1, vi 0] [] = some (.tup [vi 0, vi 0], []) := by
    have e : (litB .nil []).buy 1 0 = (0, 0) := by decide +kernel
    rw [Buy_k, e]
  have u20 : K Γ (.fn 17) [.agg (litB .full [cnt8]).c, vi 0, vi 2] [] = some (.tup [vi 0, vi 0], []) := by
    have e : (litB .full [cnt8]).buy 0 2 = (0, 0) := by decide +kernel
    rw [Buy_k, e]
  have u21 : K Γ (.fn 19) [.agg (litB .nil []).c, .agg [ci 0, ci 0, ci 5, ci 0]] [] = some (.tup [vb false, vi 0], []) := by
    have e : (litB .nil []).fits ⟨0, 0, 5, 0⟩ = (false, 0) := by decide +kernel
    have := Fits_k (Γ := Γ) (litB .nil []) ⟨0, 0, 5, 0⟩
    rw [e] at this; exact this
  have u22 : K Γ (.fn 2) [.agg (litB .full [cnt8, cnt3]).c] [] = some (.tup [vb false, vi 0], []) := by
    have e : ((litB .full [cnt8, cnt3]).valid && decide ((litB .full [cnt8, cnt3]).truths [] ≠ [])) = false := by decide +kernel
    have a : (if (litB .full [cnt8, cnt3]).valid then (0 : Int) else 60) = 0 := by decide +kernel
    rw [Right_k, e, a]
  have u23 : K Γ (.fn 21) [.agg (litB .full [cnt8]).c] [] = some (.tup [.sc (.sl (wrongK (litB .full [cnt8])) 1 []), vi 0], []) := by
    have e : (litB .full [cnt8]).wrong = ([], 0) := by decide +kernel
    rw [Wrong_k, e]; rfl
  simp only [go_sem, simprocAttr, u1, u2, u3, u4, u5, u6, u7, u8, u9, u10, u11, u12, u13, u14, u15, u16, u17, u18, u19, u20, u21, u22, u23, decanilaw06_CandleKnown_L1, decanilaw06_CandleKnown_B1, E_loop]
  repeat' (first | ((first | (refine br_yes (by omega) ?_) | (refine br_no (by omega) ?_) | (apply br_all; (· simp only [Bool.and_eq_true, decide_eq_true_eq]; omega)) | (apply br_free; (· simp [go_sem, Pm.acc, Acc.free, refsOf, offOf, keyEq, tagEq, cellsEq, cellEq]; done)) | ((first | apply br_mergeT | apply br_mergeF); (· intro h; simp only [go_sem, simprocAttr, sel_of h, u1, u2, u3, u4, u5, u6, u7, u8, u9, u10, u11, u12, u13, u14, u15, u16, u17, u18, u19, u20, u21, u22, u23, decanilaw06_CandleKnown_L1, decanilaw06_CandleKnown_B1, E_loop]; exact rfl))); (try simp only [go_sem, simprocAttr, u1, u2, u3, u4, u5, u6, u7, u8, u9, u10, u11, u12, u13, u14, u15, u16, u17, u18, u19, u20, u21, u22, u23, decanilaw06_CandleKnown_L1, decanilaw06_CandleKnown_B1, E_loop])) | ((first | apply onGuard_sel | (apply pickV_split; apply br_split) | apply br_split) <;> intro h <;> (try simp only [go_sem, simprocAttr, h, u1, u2, u3, u4, u5, u6, u7, u8, u9, u10, u11, u12, u13, u14, u15, u16, u17, u18, u19, u20, u21, u22, u23, decanilaw06_CandleKnown_L1, decanilaw06_CandleKnown_B1, E_loop])))
end
end Go.Pm.Cd

namespace Go.Proofs.YtdndhpoinffpbaaDoor
open Go Go.Pm Go.Pm.Cd Go.ChangeShapes Go.WideShapes Go.ChangeAt Go.RowKit
set_option maxRecDepth 100000

theorem lifted (os : Os) (started : os.Started) (H : Type) (enc : TypeId × Value → H) :
    ReturnsInHanded {} Tryd.checked os 14 .any (fun w args => (Rows.candleKnownSpec.pre enc Tryd.prog Tryd.f14 [] false w args ∧ laidMetH Tryd.prog laidL w) ∧ sizedMet enc Tryd.prog Tryd.f14 (OpenSpec.ofChange Rows.candleKnownSpec) false w args)
      (Rows.candleKnownSpec.post enc Tryd.prog Tryd.f14 false true false false) := by
  refine returnsInHanded_of_change_and (C := Tryd.checked) (X := fun w _ => laidMetH Tryd.prog laidL w) (fun _ _ _ hh h => h.of_heap hh) own started (by kernel_rfl) Tryd.func14
    (ChangeSpec.witness_shaped (enc := enc) (C := Tryd.checked) (os := os) (X := fun w _ => laidMetH Tryd.prog laidL w) false (World.doorLaid Tryd.prog 600 os) #[] 8 rfl (World.shaped_of_RefB (by kernel_rfl) (by kernel_rfl)) (by kernel_rfl) (by kernel_rfl) (by kernel_rfl) (door_met os _)) ?_
  intro W base args ds gs before hval hW _ _ hL _
  refine law_contract (S := S1) (G := G1) (id := 98) (tb := 4) (base := base) seat_ok 8 [] (by kernel_rfl) (by kernel_rfl) laidOut (by kernel_rfl) (by kernel_rfl) rfl ?_ ?_ hval hW (globs hL)
  · intro ds hd
    match ds, hd with
    | [], _ => rfl
  · show ∀ vs, HasVs [] vs → K Γ1 (.fn 98) vs [] = some (.sc (.bool true), [])
    intro vs hvs
    simp only [HasVs] at hvs
    subst hvs
    exact CandleKnown_k (Γ := Γ1) 

theorem row_holds : Rows.CandleKnownSaid :=
  OpenClaim.holds_of_wide 14 Tryd.f14 rfl rfl rfl rfl rfl rfl rfl ⟨rfl, rfl, rfl, rfl, rfl⟩ rfl rfl rfl rfl rfl (by kernel_rfl) Tryd.func14 (by kernel_rfl)
    (of_decide_eq_true (by kernel_rfl)) (by unfold Func.isWrapper; first | (rw [if_pos (by decide +kernel)]; kernel_rfl) | (rw [if_neg (by decide +kernel)]; exact ⟨rfl, rfl⟩))
    (fun os started H enc _ => lifted os started H enc)

theorem candleKnown_card_holds : Rows.CandleKnownCardSaid :=
  Claim7.holds_tied_plain_at .later [] [.data, .funcs] true (true, "60d50f35f64f42411113777cba31078ec0ca6d528e83348940a62dd418a71482") false
    row_holds (fun _ h => by cases h) (by kernel_rfl) (fun _ h => by cases h) candleKnown_row_tie rfl ⟨rfl, rfl⟩ (by kernel_rfl) rfl
    (fun f fn hf hfn => by
      obtain rfl : f = 14 := Option.some.inj ((show Tryd.prog.funcNamed "decani/decanilaw06.CandleKnown" = some 14 by kernel_rfl).symm.trans hf) |>.symm
      obtain rfl : fn = Tryd.f14 := (Option.some.inj (Tryd.func14.symm.trans hfn)).symm
      exact ⟨by kernel_rfl, fun j t ht => by
        have hp : Tryd.f14.params = #[] := by kernel_rfl
        rw [hp] at ht
        have hm : t ∈ ([] : List TypeId) := by simpa using Array.mem_of_getElem? ht
        have hall : (([] : List TypeId).all fun u => !Tryd.prog.wantsStandIn u) = true := by kernel_rfl
        exact (show Tryd.prog.wantsStandIn t = false by simpa using List.all_eq_true.1 hall t hm)⟩)
    (by kernel_rfl)
#print axioms candleKnown_card_holds
end Go.Proofs.YtdndhpoinffpbaaDoor
