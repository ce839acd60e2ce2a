/- The statement CandleWrong: whatever its arguments, the call returns true, and each argument reads as before. No condition beside the row's own. -/
import Derived.Test.YtdndhpoinffpbaaDoorCandleWrongL4
import Derived.Test.YtdndhpoinffpbaaDoorTie
import Derived.Test.YtdndhpoinffpbaaDoorCards
import Derived.ProofKit
import Derived.LaidMore
import Derived.OpenShut
import Derived.Stop.Joined
import Derived.SevenTiedAt
set_option linter.all false
namespace Go.Pm.Cd
open Ac
set_option maxRecDepth 100000
set_option linter.unusedSimpArgs false
set_option linter.unusedSectionVars false
set_option linter.unusedVariables false

def Span.has (s : Span) (n : Int) : Prop := s.lo ≤ n ∧ n ≤ s.hi

theorem whole_mem {α : Type} (C : List α → Int → Int → List α) (M : Int → Int → α → Prop) (sp tp : Span) (h : ∀ s a c x, x ∈ C s a c ↔ x ∈ s ∨ M a c x) (s : List α) (x : α) :
    x ∈ whole C sp tp s ↔ x ∈ s ∨ ∃ a c, sp.has a ∧ tp.has c ∧ M a c x := by
  have hin : ∀ (k i : Nat) (s : List α), x ∈ inner C sp tp s i k ↔ x ∈ s ∨ ∃ j, j < k ∧ M (sp.lo + i) (tp.lo + (j : Nat)) x := by
    intro k i
    induction k with
    | zero => intro s; simp [inner]
    | succ k ih =>
      intro s
      have : inner C sp tp s i (k + 1) = C (inner C sp tp s i k) (sp.lo + i) (tp.lo + (k : Nat)) := by simp [inner, List.range_succ]
      rw [this, h, ih]
      constructor
      · rintro ((hs | ⟨j, hj, hM⟩) | hM)
        · exact .inl hs
        · exact .inr ⟨j, by omega, hM⟩
        · exact .inr ⟨k, by omega, hM⟩
      · rintro (hs | ⟨j, hj, hM⟩)
        · exact .inl (.inl hs)
        · by_cases e : j = k
          · subst e; exact .inr hM
          · exact .inl (.inr ⟨j, by omega, hM⟩)
  have hou : ∀ (i : Nat), x ∈ outer C sp tp s i ↔ x ∈ s ∨ ∃ m, m < i ∧ ∃ j, j < (tp.hi - tp.lo + 1).toNat ∧ M (sp.lo + (m : Nat)) (tp.lo + (j : Nat)) x := by
    intro i
    induction i with
    | zero => simp [outer]
    | succ i ih =>
      have : outer C sp tp s (i + 1) = inner C sp tp (outer C sp tp s i) i (tp.hi - tp.lo + 1).toNat := by simp [outer, List.range_succ]
      rw [this, hin, ih]
      constructor
      · rintro ((hs | ⟨m, hm, hM⟩) | hM)
        · exact .inl hs
        · exact .inr ⟨m, by omega, hM⟩
        · exact .inr ⟨i, by omega, hM⟩
      · rintro (hs | ⟨m, hm, hM⟩)
        · exact .inl (.inl hs)
        · by_cases e : m = i
          · subst e; exact .inr hM
          · exact .inl (.inr ⟨m, by omega, hM⟩)
  rw [whole, hou]
  constructor
  · rintro (hs | ⟨m, hm, j, hj, hM⟩)
    · exact .inl hs
    · exact .inr ⟨_, _, ⟨by omega, by omega⟩, ⟨by omega, by omega⟩, hM⟩
  · rintro (hs | ⟨a, c, ha, hc, hM⟩)
    · exact .inl hs
    · refine .inr ⟨(a - sp.lo).toNat, by have := ha.1; have := ha.2; omega, (c - tp.lo).toNat, by have := hc.1; have := hc.2; omega, ?_⟩
      have e1 : sp.lo + ((a - sp.lo).toNat : Int) = a := by have := ha.1; omega
      have e2 : tp.lo + ((c - tp.lo).toNat : Int) = c := by have := hc.1; omega
      rw [e1, e2]; exact hM

theorem mem_truths (b : Book) (but : List Int) (t : List Int) : t ∈ b.truths but ↔ ∃ n0 f0, b.s0.has n0 ∧ b.f0.has f0 ∧ ∃ n1 f1, b.s1.has n1 ∧ b.f1.has f1 ∧ t ∈ b.live b.comes but b.days.length (T0 f0 f1) n0 n1 0 := by
  unfold Book.truths all4
  rw [whole_mem _ (fun n0 f0 t => ∃ n1 f1, b.s1.has n1 ∧ b.f1.has f1 ∧ t ∈ b.live b.comes but b.days.length (T0 f0 f1) n0 n1 0)]
  · simp
  · intro s n0 f0 x
    unfold C1
    rw [whole_mem _ (fun n1 f1 t => t ∈ b.live b.comes but b.days.length (T0 f0 f1) n0 n1 0)]
    intro s n1 f1 x
    simp [Book.addAll]

theorem live_mem_len (b : Book) (l : List (Int × Int × Int)) (but : List Int) : ∀ (j : Nat) (t : List Int) (n0 n1 : Int) (day : Nat) (u : List Int), u ∈ b.live l but j t n0 n1 day → u.length = t.length
  | 0, t, _, _, _, u, h => by simp only [Book.live, List.mem_singleton] at h; rw [h]
  | j + 1, t, n0, n1, day, u, h => by
    simp only [Book.live] at h
    cases hx : b.days[day]? with
    | none => rw [hx] at h; simp at h
    | some x =>
      rw [hx] at h
      simp only [List.mem_flatMap] at h
      obtain ⟨i, _, h⟩ := h
      split at h
      · rw [live_mem_len b l but j _ _ _ _ u h, next_len]
      · simp at h

theorem truths_len (b : Book) (but : List Int) (t : List Int) (h : t ∈ b.truths but) : t.length = 17 := by
  rw [mem_truths] at h
  obtain ⟨n0, f0, _, _, n1, f1, _, _, h⟩ := h
  exact live_mem_len b _ but _ _ _ _ _ t h

theorem whole_len {α : Type} (C : List α → Int → Int → List α) (sp tp : Span) (m : Nat) (hs : sp.hi - sp.lo ≤ 2) (ht : tp.hi - tp.lo ≤ 1) (h : ∀ s a c, (C s a c).length ≤ s.length + m) (s : List α) : (whole C sp tp s).length ≤ s.length + 6 * m := by
  have hin : ∀ (k i : Nat) (s : List α), (inner C sp tp s i k).length ≤ s.length + k * m := by
    intro k i
    induction k with
    | zero => intro s; simp [inner]
    | succ k ih =>
      intro s
      have e : inner C sp tp s i (k + 1) = C (inner C sp tp s i k) (sp.lo + i) (tp.lo + (k : Nat)) := by simp [inner, List.range_succ]
      rw [e]
      have h1 := h (inner C sp tp s i k) (sp.lo + i) (tp.lo + (k : Nat))
      have h2 := ih s
      rw [Nat.add_mul, Nat.one_mul]; omega
  have hin2 : ∀ (i : Nat) (s : List α), (inner C sp tp s i (tp.hi - tp.lo + 1).toNat).length ≤ s.length + 2 * m := by
    intro i s
    refine Nat.le_trans (hin _ i s) ?_
    have : (tp.hi - tp.lo + 1).toNat * m ≤ 2 * m := Nat.mul_le_mul_right _ (by omega)
    omega
  have hou : ∀ (i : Nat), (outer C sp tp s i).length ≤ s.length + i * (2 * m) := by
    intro i
    induction i with
    | zero => simp [outer]
    | succ i ih =>
      have e : outer C sp tp s (i + 1) = inner C sp tp (outer C sp tp s i) i (tp.hi - tp.lo + 1).toNat := by simp [outer, List.range_succ]
      rw [e]
      have := hin2 i (outer C sp tp s i)
      rw [Nat.add_mul, Nat.one_mul]; omega
  refine Nat.le_trans (hou _) ?_
  have : (sp.hi - sp.lo + 1).toNat * (2 * m) ≤ 3 * (2 * m) := Nat.mul_le_mul_right _ (by omega)
  omega

theorem valid_spans {b : Book} (hv : b.sane = true) : (0 ≤ b.s0.lo ∧ b.s0.lo ≤ b.s0.hi ∧ b.s0.hi ≤ 60 ∧ b.s0.hi - b.s0.lo ≤ 2) ∧ (1 ≤ b.f0.lo ∧ b.f0.lo ≤ b.f0.hi ∧ b.f0.hi ≤ 6 ∧ b.f0.hi - b.f0.lo ≤ 1) ∧
    (0 ≤ b.s1.lo ∧ b.s1.lo ≤ b.s1.hi ∧ b.s1.hi ≤ 60 ∧ b.s1.hi - b.s1.lo ≤ 2) ∧ (1 ≤ b.f1.lo ∧ b.f1.lo ≤ b.f1.hi ∧ b.f1.hi ≤ 6 ∧ b.f1.hi - b.f1.lo ≤ 1) := by
  simp only [Book.sane, Bool.and_eq_true, Span.is, decide_eq_true_eq] at hv
  omega

theorem truths_room {b : Book} (hv : b.sane = true) (but : List Int) : (b.truths but).length ≤ 8748 := by
  have hs := valid_spans hv
  refine Nat.le_trans (whole_len _ b.s0 b.f0 (6 * 243) (by omega) (by omega) (fun s a c => ?_) []) (by simp)
  refine whole_len _ b.s1 b.f1 243 (by omega) (by omega) (fun s a c => ?_) s
  simp only [Book.addAll, List.length_append]
  have := live_len b hv b.comes but
  exact Nat.add_le_add_left (this _ _ _ _) _
end Go.Pm.Cd

namespace Go.Pm.Cd
open Ac
set_option maxRecDepth 100000
set_option linter.unusedSimpArgs false
set_option linter.unusedSectionVars false
set_option linter.unusedVariables false

def tLeft (kind day : Int) (t : List Int) : Int := t.getD (7 + day.toNat * 2 + kind.toNat) 0
def tLife (kind : Int) (t : List Int) : Int := t.getD (5 + kind.toNat) 0
def tDark (day : Int) (t : List Int) : Int := t.getD day.toNat 0

section
variable {Γ : Env} [P06 Γ] [G06 Γ]

theorem left1_k (t : List Int) (ht : t.length = 17) (kind day : Int) (hk : 0 ≤ kind ∧ kind ≤ 1) (hd : 0 ≤ day ∧ day ≤ 4) :
    K Γ (.fn 73) [.agg (iv t), .sc (.eptr [ci day] 0), .sc (.eptr [ci kind] 0)] [] = some (vi (tLeft kind day t), []) := by
  have hat := iv_at1 t (7 + day.toNat * 2 + kind.toNat) (by omega)
  rw [K_fn P06.f73 _ _ rfl]
  (simp only [go_sem, simprocAttr, candle_book_left_1, hat, ht, tLeft]; repeat' (first | ((first | (refine br_yes (by omega) ?_) | (refine br_no (by omega) ?_) | (apply br_all; (· simp only [Bool.and_eq_true, decide_eq_true_eq]; omega)) | (apply br_free; (· simp [go_sem, Pm.acc, Acc.free, refsOf, keyEq, tagEq, cellsEq, cellEq]; done)) | ((first | apply br_mergeT | apply br_mergeF); (· intro h; simp only [go_sem, simprocAttr, sel_of h, candle_book_left_1, hat, ht, tLeft]; exact rfl))); (try simp only [go_sem, simprocAttr, candle_book_left_1, hat, ht, tLeft])) | ((first | apply onGuard_sel | (apply pickV_split; apply br_split) | apply br_split) <;> intro h <;> (try simp only [go_sem, simprocAttr, h, candle_book_left_1, hat, ht, tLeft]))))

theorem life1_k (t : List Int) (ht : t.length = 17) (kind : Int) (hk : 0 ≤ kind ∧ kind ≤ 1) :
    K Γ (.fn 57) [.agg (iv t), .sc (.eptr [ci kind] 0)] [] = some (vi (tLife kind t), []) := by
  have hat := iv_at1 t (5 + kind.toNat) (by omega)
  rw [K_fn P06.f57 _ _ rfl]
  (simp only [go_sem, simprocAttr, candle_Life_1, hat, ht, tLife]; repeat' (first | ((first | (refine br_yes (by omega) ?_) | (refine br_no (by omega) ?_) | (apply br_all; (· simp only [Bool.and_eq_true, decide_eq_true_eq]; omega)) | (apply br_free; (· simp [go_sem, Pm.acc, Acc.free, refsOf, keyEq, tagEq, cellsEq, cellEq]; done)) | ((first | apply br_mergeT | apply br_mergeF); (· intro h; simp only [go_sem, simprocAttr, sel_of h, candle_Life_1, hat, ht, tLife]; exact rfl))); (try simp only [go_sem, simprocAttr, candle_Life_1, hat, ht, tLife])) | ((first | apply onGuard_sel | (apply pickV_split; apply br_split) | apply br_split) <;> intro h <;> (try simp only [go_sem, simprocAttr, h, candle_Life_1, hat, ht, tLife]))))

theorem dark1_k (t : List Int) (ht : t.length = 17) (day : Int) (hd : 0 ≤ day ∧ day ≤ 4) :
    K Γ (.fn 60) [.agg (iv t), .sc (.eptr [ci day] 0)] [] = some (vi (tDark day t), []) := by
  have hat := iv_at1 t day.toNat (by omega)
  rw [K_fn P06.f60 _ _ rfl]
  (simp only [go_sem, simprocAttr, candle_Dark_1, hat, ht, tDark]; repeat' (first | ((first | (refine br_yes (by omega) ?_) | (refine br_no (by omega) ?_) | (apply br_all; (· simp only [Bool.and_eq_true, decide_eq_true_eq]; omega)) | (apply br_free; (· simp [go_sem, Pm.acc, Acc.free, refsOf, keyEq, tagEq, cellsEq, cellEq]; done)) | ((first | apply br_mergeT | apply br_mergeF); (· intro h; simp only [go_sem, simprocAttr, sel_of h, candle_Dark_1, hat, ht, tDark]; exact rfl))); (try simp only [go_sem, simprocAttr, candle_Dark_1, hat, ht, tDark])) | ((first | apply onGuard_sel | (apply pickV_split; apply br_split) | apply br_split) <;> intro h <;> (try simp only [go_sem, simprocAttr, h, candle_Dark_1, hat, ht, tDark]))))

theorem left_k (b : Book) (hv : b.sane = true) (but : List Int) (hts : b.truths but ≠ []) (kind day : Int) (hk : 0 ≤ kind ∧ kind ≤ 1) (hd : 0 ≤ day ∧ day ≤ 4) :
    K Γ (.fn 54) [.agg (b.open13 but), vi kind, vi day] [] = some (.agg [ci (spanOf (tLeft kind day) (b.truths but)).1, ci (spanOf (tLeft kind day) (b.truths but)).2], []) := by
  have hr := truths_room hv but
  have hS := span_k (Γ := Γ) b (.imap true false (enc2 b.comes)) rfl (b.truths but) hts (by simp only [room]; omega) (fun t h => truths_len b but t h) (kT (b.truths but)) 73 [.eptr [ci day] 0, .eptr [ci kind] 0] rfl (tLeft kind day) (fun t h => left1_k t (truths_len b but t h) kind day hk hd)
  rw [K_fn P06.f54 _ _ rfl]
  (simp only [go_sem, simprocAttr, candle_book_left, hS]; repeat' (first | ((first | (refine br_yes (by omega) ?_) | (refine br_no (by omega) ?_) | (apply br_all; (· simp only [Bool.and_eq_true, decide_eq_true_eq]; omega)) | (apply br_free; (· simp [go_sem, Pm.acc, Acc.free, refsOf, keyEq, tagEq, cellsEq, cellEq]; done)) | ((first | apply br_mergeT | apply br_mergeF); (· intro h; simp only [go_sem, simprocAttr, sel_of h, candle_book_left, hS]; exact rfl))); (try simp only [go_sem, simprocAttr, candle_book_left, hS])) | ((first | apply onGuard_sel | (apply pickV_split; apply br_split) | apply br_split) <;> intro h <;> (try simp only [go_sem, simprocAttr, h, candle_book_left, hS]))))

theorem may_k (b : Book) (hv : b.sane = true) (but : List Int) (hts : b.truths but ≠ []) (kind day : Int) (hk : 0 ≤ kind ∧ kind ≤ 1) (hd : 0 ≤ day ∧ day ≤ 4) :
    K Γ (.fn 85) [.agg (b.open13 but), vi kind, vi day] [] = some (vb (decide ((spanOf (tLeft kind day) (b.truths but)).1 < 0)), []) := by
  have hS := left_k (Γ := Γ) b hv but hts kind day hk hd
  rw [K_fn P06.f85 _ _ rfl]
  (simp only [go_sem, simprocAttr, candle_book_may, hS]; repeat' (first | ((first | (refine br_yes (by omega) ?_) | (refine br_no (by omega) ?_) | (apply br_all; (· simp only [Bool.and_eq_true, decide_eq_true_eq]; omega)) | (apply br_free; (· simp [go_sem, Pm.acc, Acc.free, refsOf, keyEq, tagEq, cellsEq, cellEq]; done)) | ((first | apply br_mergeT | apply br_mergeF); (· intro h; simp only [go_sem, simprocAttr, sel_of h, candle_book_may, hS]; exact rfl))); (try simp only [go_sem, simprocAttr, candle_book_may, hS])) | ((first | apply onGuard_sel | (apply pickV_split; apply br_split) | apply br_split) <;> intro h <;> (try simp only [go_sem, simprocAttr, h, candle_book_may, hS]))))

theorem must_k (b : Book) (hv : b.sane = true) (but : List Int) (hts : b.truths but ≠ []) (kind day : Int) (hk : 0 ≤ kind ∧ kind ≤ 1) (hd : 0 ≤ day ∧ day ≤ 4) :
    K Γ (.fn 86) [.agg (b.open13 but), vi kind, vi day] [] = some (vb (decide ((spanOf (tLeft kind day) (b.truths but)).2 < 0)), []) := by
  have hS := left_k (Γ := Γ) b hv but hts kind day hk hd
  rw [K_fn P06.f86 _ _ rfl]
  (simp only [go_sem, simprocAttr, candle_book_must, hS]; repeat' (first | ((first | (refine br_yes (by omega) ?_) | (refine br_no (by omega) ?_) | (apply br_all; (· simp only [Bool.and_eq_true, decide_eq_true_eq]; omega)) | (apply br_free; (· simp [go_sem, Pm.acc, Acc.free, refsOf, keyEq, tagEq, cellsEq, cellEq]; done)) | ((first | apply br_mergeT | apply br_mergeF); (· intro h; simp only [go_sem, simprocAttr, sel_of h, candle_book_must, hS]; exact rfl))); (try simp only [go_sem, simprocAttr, candle_book_must, hS])) | ((first | apply onGuard_sel | (apply pickV_split; apply br_split) | apply br_split) <;> intro h <;> (try simp only [go_sem, simprocAttr, h, candle_book_must, hS]))))

theorem asked_bad (b : Book) [hb : b.Fits] (hv : b.valid = false) (is : Bool) : K Γ (.fn 53) [.agg b.c, vb is] [] = some (.tup [.agg Z13, vi 60], []) := by
  rw [K_fn P06.f53 _ _ rfl]
  (simp only [go_sem, simprocAttr, candle_asked, hv]; repeat' (first | ((first | (refine br_yes (by omega) ?_) | (refine br_no (by omega) ?_) | (apply br_all; (· simp only [Bool.and_eq_true, decide_eq_true_eq]; omega)) | (apply br_free; (· simp [go_sem, Pm.acc, Acc.free, refsOf, keyEq, tagEq, cellsEq, cellEq]; done)) | ((first | apply br_mergeT | apply br_mergeF); (· intro h; simp only [go_sem, simprocAttr, sel_of h, candle_asked, hv]; exact rfl))); (try simp only [go_sem, simprocAttr, candle_asked, hv])) | ((first | apply onGuard_sel | (apply pickV_split; apply br_split) | apply br_split) <;> intro h <;> (try simp only [go_sem, simprocAttr, h, candle_asked, hv]))))
  rfl
theorem asked_ask (b : Book) [hb : b.Fits] (hv : b.valid = true) : K Γ (.fn 53) [.agg b.c, vb false] [] = some (.tup [.agg Z13, vi 61], []) := by
  rw [K_fn P06.f53 _ _ rfl]
  (simp only [go_sem, simprocAttr, candle_asked, hv]; repeat' (first | ((first | (refine br_yes (by omega) ?_) | (refine br_no (by omega) ?_) | (apply br_all; (· simp only [Bool.and_eq_true, decide_eq_true_eq]; omega)) | (apply br_free; (· simp [go_sem, Pm.acc, Acc.free, refsOf, keyEq, tagEq, cellsEq, cellEq]; done)) | ((first | apply br_mergeT | apply br_mergeF); (· intro h; simp only [go_sem, simprocAttr, sel_of h, candle_asked, hv]; exact rfl))); (try simp only [go_sem, simprocAttr, candle_asked, hv])) | ((first | apply onGuard_sel | (apply pickV_split; apply br_split) | apply br_split) <;> intro h <;> (try simp only [go_sem, simprocAttr, h, candle_asked, hv]))))
  rfl
theorem asked_no (b : Book) [hb : b.Fits] (hv : b.valid = true) (ht : b.truths [] = []) : K Γ (.fn 53) [.agg b.c, vb true] [] = some (.tup [.agg (b.open13 []), vi 62], []) := by
  have h0 : decide (((b.truths []).length : Int) = 0) = true := by rw [ht]; rfl
  rw [K_fn P06.f53 _ _ rfl]
  (simp only [go_sem, simprocAttr, candle_asked, hv, sane_of_valid hv, h0]; repeat' (first | ((first | (refine br_yes (by omega) ?_) | (refine br_no (by omega) ?_) | (apply br_all; (· simp only [Bool.and_eq_true, decide_eq_true_eq]; omega)) | (apply br_free; (· simp [go_sem, Pm.acc, Acc.free, refsOf, keyEq, tagEq, cellsEq, cellEq]; done)) | ((first | apply br_mergeT | apply br_mergeF); (· intro h; simp only [go_sem, simprocAttr, sel_of h, candle_asked, hv, sane_of_valid hv, h0]; exact rfl))); (try simp only [go_sem, simprocAttr, candle_asked, hv, sane_of_valid hv, h0])) | ((first | apply onGuard_sel | (apply pickV_split; apply br_split) | apply br_split) <;> intro h <;> (try simp only [go_sem, simprocAttr, h, candle_asked, hv, sane_of_valid hv, h0]))))
theorem asked_ok (b : Book) [hb : b.Fits] (hv : b.valid = true) (ht : b.truths [] ≠ []) : K Γ (.fn 53) [.agg b.c, vb true] [] = some (.tup [.agg (b.open13 []), vi 0], []) := by
  have h0 : decide (((b.truths []).length : Int) = 0) = false := by
    apply decide_eq_false
    intro h; exact ht (List.length_eq_zero_iff.1 (by omega))
  rw [K_fn P06.f53 _ _ rfl]
  (simp only [go_sem, simprocAttr, candle_asked, hv, sane_of_valid hv, h0]; repeat' (first | ((first | (refine br_yes (by omega) ?_) | (refine br_no (by omega) ?_) | (apply br_all; (· simp only [Bool.and_eq_true, decide_eq_true_eq]; omega)) | (apply br_free; (· simp [go_sem, Pm.acc, Acc.free, refsOf, keyEq, tagEq, cellsEq, cellEq]; done)) | ((first | apply br_mergeT | apply br_mergeF); (· intro h; simp only [go_sem, simprocAttr, sel_of h, candle_asked, hv, sane_of_valid hv, h0]; exact rfl))); (try simp only [go_sem, simprocAttr, candle_asked, hv, sane_of_valid hv, h0])) | ((first | apply onGuard_sel | (apply pickV_split; apply br_split) | apply br_split) <;> intro h <;> (try simp only [go_sem, simprocAttr, h, candle_asked, hv, sane_of_valid hv, h0]))))

def Book.askE (b : Book) (is : Bool) : Int := if b.valid then (if is then (if b.truths [] = [] then 62 else 0) else 61) else 60
def Book.isDay (b : Book) (day : Int) : Bool := within day 0 (b.days.length - 1)
def isKind (kind : Int) : Bool := within kind 0 1
def told (e : Int) (s : Int × Int) : Int × Int := if e = 0 then s else (0, 0)

theorem within_iff (n a c : Int) : within n a c = true ↔ a ≤ n ∧ n ≤ c := by simp [within]

@[go_sem] theorem Right_k (b : Book) [hb : b.Fits] : K Γ (.fn 2) [.agg b.c] [] = some (.tup [vb (b.valid && decide (b.truths [] ≠ [])), vi (if b.valid then 0 else 60)], []) := by
  rw [K_fn P06.f2 _ _ rfl]
  cases hv : b.valid with
  | false =>
    (simp only [go_sem, simprocAttr, candle_Right, hv, Bool.false_and]; repeat' (first | ((first | (refine br_yes (by omega) ?_) | (refine br_no (by omega) ?_) | (apply br_all; (· simp only [Bool.and_eq_true, decide_eq_true_eq]; omega)) | (apply br_free; (· simp [go_sem, Pm.acc, Acc.free, refsOf, keyEq, tagEq, cellsEq, cellEq]; done)) | ((first | apply br_mergeT | apply br_mergeF); (· intro h; simp only [go_sem, simprocAttr, sel_of h, candle_Right, hv, Bool.false_and]; exact rfl))); (try simp only [go_sem, simprocAttr, candle_Right, hv, Bool.false_and])) | ((first | apply onGuard_sel | (apply pickV_split; apply br_split) | apply br_split) <;> intro h <;> (try simp only [go_sem, simprocAttr, h, candle_Right, hv, Bool.false_and]))))
  | true =>
    have h0 : decide ((0 : Int) < ((b.truths []).length : Int)) = decide (b.truths [] ≠ []) := by
      rw [decide_eq_decide]
      constructor
      · intro h e; rw [e] at h; simp at h
      · intro h
        have : (b.truths []).length ≠ 0 := fun e => h (List.length_eq_zero_iff.1 e)
        omega
    (simp only [go_sem, simprocAttr, candle_Right, hv, sane_of_valid hv, h0]; repeat' (first | ((first | (refine br_yes (by omega) ?_) | (refine br_no (by omega) ?_) | (apply br_all; (· simp only [Bool.and_eq_true, decide_eq_true_eq]; omega)) | (apply br_free; (· simp [go_sem, Pm.acc, Acc.free, refsOf, keyEq, tagEq, cellsEq, cellEq]; done)) | ((first | apply br_mergeT | apply br_mergeF); (· intro h; simp only [go_sem, simprocAttr, sel_of h, candle_Right, hv, sane_of_valid hv, h0]; exact rfl))); (try simp only [go_sem, simprocAttr, candle_Right, hv, sane_of_valid hv, h0])) | ((first | apply onGuard_sel | (apply pickV_split; apply br_split) | apply br_split) <;> intro h <;> (try simp only [go_sem, simprocAttr, h, candle_Right, hv, sane_of_valid hv, h0]))))

@[go_sem] theorem Left_k (b : Book) [hb : b.Fits] (kind day : Int) : K Γ (.fn 6) [.agg b.c, vi kind, vi day] [] =
    some (.tup [.agg [ci (told (b.askE (isKind kind && b.isDay day)) (spanOf (tLeft kind day) (b.truths []))).1, ci (told (b.askE (isKind kind && b.isDay day)) (spanOf (tLeft kind day) (b.truths []))).2], vi (b.askE (isKind kind && b.isDay day))], []) := by
  rw [K_fn P06.f6 _ _ rfl]
  simp only [isKind, Book.isDay, Book.askE]
  cases hv : b.valid with
  | false =>
    have hA (is : Bool) := asked_bad (Γ := Γ) b hv is
    simp only [Z13] at hA
    (simp only [go_sem, simprocAttr, candle_Left, hA, told]; repeat' (first | ((first | (refine br_yes (by omega) ?_) | (refine br_no (by omega) ?_) | (apply br_all; (· simp only [Bool.and_eq_true, decide_eq_true_eq]; omega)) | (apply br_free; (· simp [go_sem, Pm.acc, Acc.free, refsOf, keyEq, tagEq, cellsEq, cellEq]; done)) | ((first | apply br_mergeT | apply br_mergeF); (· intro h; simp only [go_sem, simprocAttr, sel_of h, candle_Left, hA, told]; exact rfl))); (try simp only [go_sem, simprocAttr, candle_Left, hA, told])) | ((first | apply onGuard_sel | (apply pickV_split; apply br_split) | apply br_split) <;> intro h <;> (try simp only [go_sem, simprocAttr, h, candle_Left, hA, told]))))
  | true =>
    have hA := asked_ask (Γ := Γ) b hv
    simp only [Z13] at hA
    rcases Bool.eq_false_or_eq_true (within kind 0 1) with hk | hk
    rotate_left
    · (simp only [go_sem, simprocAttr, candle_Left, hA, hk, told, Bool.false_and, Bool.false_eq_true]; repeat' (first | ((first | (refine br_yes (by omega) ?_) | (refine br_no (by omega) ?_) | (apply br_all; (· simp only [Bool.and_eq_true, decide_eq_true_eq]; omega)) | (apply br_free; (· simp [go_sem, Pm.acc, Acc.free, refsOf, keyEq, tagEq, cellsEq, cellEq]; done)) | ((first | apply br_mergeT | apply br_mergeF); (· intro h; simp only [go_sem, simprocAttr, sel_of h, candle_Left, hA, hk, told, Bool.false_and, Bool.false_eq_true]; exact rfl))); (try simp only [go_sem, simprocAttr, candle_Left, hA, hk, told, Bool.false_and, Bool.false_eq_true])) | ((first | apply onGuard_sel | (apply pickV_split; apply br_split) | apply br_split) <;> intro h <;> (try simp only [go_sem, simprocAttr, h, candle_Left, hA, hk, told, Bool.false_and, Bool.false_eq_true]))))
    · rcases Bool.eq_false_or_eq_true (within day 0 (b.days.length - 1)) with hd | hd
      rotate_left
      · (simp only [go_sem, simprocAttr, candle_Left, hA, hk, hd, told, Bool.false_eq_true]; repeat' (first | ((first | (refine br_yes (by omega) ?_) | (refine br_no (by omega) ?_) | (apply br_all; (· simp only [Bool.and_eq_true, decide_eq_true_eq]; omega)) | (apply br_free; (· simp [go_sem, Pm.acc, Acc.free, refsOf, keyEq, tagEq, cellsEq, cellEq]; done)) | ((first | apply br_mergeT | apply br_mergeF); (· intro h; simp only [go_sem, simprocAttr, sel_of h, candle_Left, hA, hk, hd, told, Bool.false_eq_true]; exact rfl))); (try simp only [go_sem, simprocAttr, candle_Left, hA, hk, hd, told, Bool.false_eq_true])) | ((first | apply onGuard_sel | (apply pickV_split; apply br_split) | apply br_split) <;> intro h <;> (try simp only [go_sem, simprocAttr, h, candle_Left, hA, hk, hd, told, Bool.false_eq_true]))))
      · have hk' := (within_iff _ _ _).1 hk
        have hd' := (within_iff _ _ _).1 hd
        have hdl := valid_days (sane_of_valid hv)
        by_cases ht : b.truths [] = []
        · have hN := asked_no (Γ := Γ) b hv ht
          (simp only [go_sem, simprocAttr, candle_Left, hN, hk, hd, told, ht]; repeat' (first | ((first | (refine br_yes (by omega) ?_) | (refine br_no (by omega) ?_) | (apply br_all; (· simp only [Bool.and_eq_true, decide_eq_true_eq]; omega)) | (apply br_free; (· simp [go_sem, Pm.acc, Acc.free, refsOf, keyEq, tagEq, cellsEq, cellEq]; done)) | ((first | apply br_mergeT | apply br_mergeF); (· intro h; simp only [go_sem, simprocAttr, sel_of h, candle_Left, hN, hk, hd, told, ht]; exact rfl))); (try simp only [go_sem, simprocAttr, candle_Left, hN, hk, hd, told, ht])) | ((first | apply onGuard_sel | (apply pickV_split; apply br_split) | apply br_split) <;> intro h <;> (try simp only [go_sem, simprocAttr, h, candle_Left, hN, hk, hd, told, ht]))))
        · have hN := asked_ok (Γ := Γ) b hv ht
          have hS := left_k (Γ := Γ) b (sane_of_valid hv) [] ht kind day hk' (by omega)
          (simp only [go_sem, simprocAttr, candle_Left, hN, hk, hd, told, ht, hS]; repeat' (first | ((first | (refine br_yes (by omega) ?_) | (refine br_no (by omega) ?_) | (apply br_all; (· simp only [Bool.and_eq_true, decide_eq_true_eq]; omega)) | (apply br_free; (· simp [go_sem, Pm.acc, Acc.free, refsOf, keyEq, tagEq, cellsEq, cellEq]; done)) | ((first | apply br_mergeT | apply br_mergeF); (· intro h; simp only [go_sem, simprocAttr, sel_of h, candle_Left, hN, hk, hd, told, ht, hS]; exact rfl))); (try simp only [go_sem, simprocAttr, candle_Left, hN, hk, hd, told, ht, hS])) | ((first | apply onGuard_sel | (apply pickV_split; apply br_split) | apply br_split) <;> intro h <;> (try simp only [go_sem, simprocAttr, h, candle_Left, hN, hk, hd, told, ht, hS]))))

@[go_sem] theorem Life_k (b : Book) [hb : b.Fits] (kind : Int) : K Γ (.fn 8) [.agg b.c, vi kind] [] =
    some (.tup [.agg [ci (told (b.askE (isKind kind)) (spanOf (tLife kind) (b.truths []))).1, ci (told (b.askE (isKind kind)) (spanOf (tLife kind) (b.truths []))).2], vi (b.askE (isKind kind))], []) := by
  rw [K_fn P06.f8 _ _ rfl]
  simp only [isKind, Book.isDay, Book.askE]
  cases hv : b.valid with
  | false =>
    have hA (is : Bool) := asked_bad (Γ := Γ) b hv is
    simp only [Z13] at hA
    (simp only [go_sem, simprocAttr, candle_Life, hA, told]; repeat' (first | ((first | (refine br_yes (by omega) ?_) | (refine br_no (by omega) ?_) | (apply br_all; (· simp only [Bool.and_eq_true, decide_eq_true_eq]; omega)) | (apply br_free; (· simp [go_sem, Pm.acc, Acc.free, refsOf, keyEq, tagEq, cellsEq, cellEq]; done)) | ((first | apply br_mergeT | apply br_mergeF); (· intro h; simp only [go_sem, simprocAttr, sel_of h, candle_Life, hA, told]; exact rfl))); (try simp only [go_sem, simprocAttr, candle_Life, hA, told])) | ((first | apply onGuard_sel | (apply pickV_split; apply br_split) | apply br_split) <;> intro h <;> (try simp only [go_sem, simprocAttr, h, candle_Life, hA, told]))))
  | true =>
    have hA := asked_ask (Γ := Γ) b hv
    simp only [Z13] at hA
    rcases Bool.eq_false_or_eq_true (within kind 0 1) with hk | hk
    rotate_left
    · (simp only [go_sem, simprocAttr, candle_Life, hA, hk, told, Bool.false_and, Bool.false_eq_true]; repeat' (first | ((first | (refine br_yes (by omega) ?_) | (refine br_no (by omega) ?_) | (apply br_all; (· simp only [Bool.and_eq_true, decide_eq_true_eq]; omega)) | (apply br_free; (· simp [go_sem, Pm.acc, Acc.free, refsOf, keyEq, tagEq, cellsEq, cellEq]; done)) | ((first | apply br_mergeT | apply br_mergeF); (· intro h; simp only [go_sem, simprocAttr, sel_of h, candle_Life, hA, hk, told, Bool.false_and, Bool.false_eq_true]; exact rfl))); (try simp only [go_sem, simprocAttr, candle_Life, hA, hk, told, Bool.false_and, Bool.false_eq_true])) | ((first | apply onGuard_sel | (apply pickV_split; apply br_split) | apply br_split) <;> intro h <;> (try simp only [go_sem, simprocAttr, h, candle_Life, hA, hk, told, Bool.false_and, Bool.false_eq_true]))))
    · have hk' := (within_iff _ _ _).1 hk
      by_cases ht : b.truths [] = []
      · have hN := asked_no (Γ := Γ) b hv ht
        (simp only [go_sem, simprocAttr, candle_Life, hN, hk, told, ht]; repeat' (first | ((first | (refine br_yes (by omega) ?_) | (refine br_no (by omega) ?_) | (apply br_all; (· simp only [Bool.and_eq_true, decide_eq_true_eq]; omega)) | (apply br_free; (· simp [go_sem, Pm.acc, Acc.free, refsOf, keyEq, tagEq, cellsEq, cellEq]; done)) | ((first | apply br_mergeT | apply br_mergeF); (· intro h; simp only [go_sem, simprocAttr, sel_of h, candle_Life, hN, hk, told, ht]; exact rfl))); (try simp only [go_sem, simprocAttr, candle_Life, hN, hk, told, ht])) | ((first | apply onGuard_sel | (apply pickV_split; apply br_split) | apply br_split) <;> intro h <;> (try simp only [go_sem, simprocAttr, h, candle_Life, hN, hk, told, ht]))))
      · have hN := asked_ok (Γ := Γ) b hv ht
        have hr := truths_room (sane_of_valid hv) []
        have hS := span_k (Γ := Γ) b (.imap true false (enc2 b.comes)) rfl (b.truths []) ht (by simp only [room]; omega) (fun t h => truths_len b [] t h) (kT (b.truths [])) 57 [.eptr [ci kind] 0] rfl (tLife kind) (fun t h => life1_k t (truths_len b [] t h) kind hk')
        (simp only [go_sem, simprocAttr, candle_Life, hN, hk, told, ht, hS]; repeat' (first | ((first | (refine br_yes (by omega) ?_) | (refine br_no (by omega) ?_) | (apply br_all; (· simp only [Bool.and_eq_true, decide_eq_true_eq]; omega)) | (apply br_free; (· simp [go_sem, Pm.acc, Acc.free, refsOf, keyEq, tagEq, cellsEq, cellEq]; done)) | ((first | apply br_mergeT | apply br_mergeF); (· intro h; simp only [go_sem, simprocAttr, sel_of h, candle_Life, hN, hk, told, ht, hS]; exact rfl))); (try simp only [go_sem, simprocAttr, candle_Life, hN, hk, told, ht, hS])) | ((first | apply onGuard_sel | (apply pickV_split; apply br_split) | apply br_split) <;> intro h <;> (try simp only [go_sem, simprocAttr, h, candle_Life, hN, hk, told, ht, hS]))))

@[go_sem] theorem Dark_k (b : Book) [hb : b.Fits] (day : Int) : K Γ (.fn 10) [.agg b.c, vi day] [] =
    some (.tup [.agg [ci (told (b.askE (b.isDay day)) (spanOf (tDark day) (b.truths []))).1, ci (told (b.askE (b.isDay day)) (spanOf (tDark day) (b.truths []))).2], vi (b.askE (b.isDay day))], []) := by
  rw [K_fn P06.f10 _ _ rfl]
  simp only [isKind, Book.isDay, Book.askE]
  cases hv : b.valid with
  | false =>
    have hA (is : Bool) := asked_bad (Γ := Γ) b hv is
    simp only [Z13] at hA
    (simp only [go_sem, simprocAttr, candle_Dark, hA, told]; repeat' (first | ((first | (refine br_yes (by omega) ?_) | (refine br_no (by omega) ?_) | (apply br_all; (· simp only [Bool.and_eq_true, decide_eq_true_eq]; omega)) | (apply br_free; (· simp [go_sem, Pm.acc, Acc.free, refsOf, keyEq, tagEq, cellsEq, cellEq]; done)) | ((first | apply br_mergeT | apply br_mergeF); (· intro h; simp only [go_sem, simprocAttr, sel_of h, candle_Dark, hA, told]; exact rfl))); (try simp only [go_sem, simprocAttr, candle_Dark, hA, told])) | ((first | apply onGuard_sel | (apply pickV_split; apply br_split) | apply br_split) <;> intro h <;> (try simp only [go_sem, simprocAttr, h, candle_Dark, hA, told]))))
  | true =>
    have hA := asked_ask (Γ := Γ) b hv
    simp only [Z13] at hA
    rcases Bool.eq_false_or_eq_true (within day 0 (b.days.length - 1)) with hk | hk
    rotate_left
    · (simp only [go_sem, simprocAttr, candle_Dark, hA, hk, told, Bool.false_and, Bool.false_eq_true]; repeat' (first | ((first | (refine br_yes (by omega) ?_) | (refine br_no (by omega) ?_) | (apply br_all; (· simp only [Bool.and_eq_true, decide_eq_true_eq]; omega)) | (apply br_free; (· simp [go_sem, Pm.acc, Acc.free, refsOf, keyEq, tagEq, cellsEq, cellEq]; done)) | ((first | apply br_mergeT | apply br_mergeF); (· intro h; simp only [go_sem, simprocAttr, sel_of h, candle_Dark, hA, hk, told, Bool.false_and, Bool.false_eq_true]; exact rfl))); (try simp only [go_sem, simprocAttr, candle_Dark, hA, hk, told, Bool.false_and, Bool.false_eq_true])) | ((first | apply onGuard_sel | (apply pickV_split; apply br_split) | apply br_split) <;> intro h <;> (try simp only [go_sem, simprocAttr, h, candle_Dark, hA, hk, told, Bool.false_and, Bool.false_eq_true]))))
    · have hk' := (within_iff _ _ _).1 hk
      have hdl := valid_days (sane_of_valid hv)
      by_cases ht : b.truths [] = []
      · have hN := asked_no (Γ := Γ) b hv ht
        (simp only [go_sem, simprocAttr, candle_Dark, hN, hk, told, ht]; repeat' (first | ((first | (refine br_yes (by omega) ?_) | (refine br_no (by omega) ?_) | (apply br_all; (· simp only [Bool.and_eq_true, decide_eq_true_eq]; omega)) | (apply br_free; (· simp [go_sem, Pm.acc, Acc.free, refsOf, keyEq, tagEq, cellsEq, cellEq]; done)) | ((first | apply br_mergeT | apply br_mergeF); (· intro h; simp only [go_sem, simprocAttr, sel_of h, candle_Dark, hN, hk, told, ht]; exact rfl))); (try simp only [go_sem, simprocAttr, candle_Dark, hN, hk, told, ht])) | ((first | apply onGuard_sel | (apply pickV_split; apply br_split) | apply br_split) <;> intro h <;> (try simp only [go_sem, simprocAttr, h, candle_Dark, hN, hk, told, ht]))))
      · have hN := asked_ok (Γ := Γ) b hv ht
        have hr := truths_room (sane_of_valid hv) []
        have hS := span_k (Γ := Γ) b (.imap true false (enc2 b.comes)) rfl (b.truths []) ht (by simp only [room]; omega) (fun t h => truths_len b [] t h) (kT (b.truths [])) 60 [.eptr [ci day] 0] rfl (tDark day) (fun t h => dark1_k t (truths_len b [] t h) day (by omega))
        (simp only [go_sem, simprocAttr, candle_Dark, hN, hk, told, ht, hS]; repeat' (first | ((first | (refine br_yes (by omega) ?_) | (refine br_no (by omega) ?_) | (apply br_all; (· simp only [Bool.and_eq_true, decide_eq_true_eq]; omega)) | (apply br_free; (· simp [go_sem, Pm.acc, Acc.free, refsOf, keyEq, tagEq, cellsEq, cellEq]; done)) | ((first | apply br_mergeT | apply br_mergeF); (· intro h; simp only [go_sem, simprocAttr, sel_of h, candle_Dark, hN, hk, told, ht, hS]; exact rfl))); (try simp only [go_sem, simprocAttr, candle_Dark, hN, hk, told, ht, hS])) | ((first | apply onGuard_sel | (apply pickV_split; apply br_split) | apply br_split) <;> intro h <;> (try simp only [go_sem, simprocAttr, h, candle_Dark, hN, hk, told, ht, hS]))))
end
end Go.Pm.Cd

namespace Go.Pm.Cd
open Ac
set_option maxRecDepth 100000
set_option linter.unusedSimpArgs false
set_option linter.unusedSectionVars false
set_option linter.unusedVariables false

def Book.firstOn (b : Book) (q : Nat → Bool) : Int × Int := match findFrom (fun i _ => q i) 0 b.days with | some (i, _) => ((i : Int), 0) | none => (0, 4)
def Book.short (b : Book) (kind : Int) : Int × Int :=
  if b.askE (isKind kind) = 0 then b.firstOn (fun i => decide ((spanOf (tLeft kind i) (b.truths [])).1 < 0)) else (0, b.askE (isKind kind))
def Book.surely (b : Book) (kind : Int) : Int × Int :=
  if b.askE (isKind kind) = 0 then b.firstOn (fun i => decide ((spanOf (tLeft kind i) (b.truths [])).2 < 0)) else (0, b.askE (isKind kind))

section
variable {Γ : Env} [P06 Γ] [G06 Γ]

theorem first_L0 (b : Book) [hb : b.Fits] (hv : b.valid = true) (ht : b.truths [] ≠ []) (kind ask : Int) (q : Nat → Bool)
    (id : Nat) (hask : (ask = 0 ∧ id = 85) ∨ (ask = 1 ∧ id = 86))
    (hq : ∀ i : Nat, i < b.days.length → K Γ (.fn id) [.agg (b.open13 []), vi kind, vi i] [] = some (vb (q i), [])) {β : Type} (Q : Ex → St → Option β) :
    E Γ candle_first_L0 ⟨[(1, vi kind), (2, vi ask), (8, .sc (.ptr 1 0)), (23, vi b.days.length), (24, vi 0)], [.var b.c, .var (b.open13 [])]⟩ Q =
      match findFrom (fun i _ => q i) 0 b.days with
      | some (i, _) => Q .ret ⟨[(6, vi i), (7, vi 0)], [.var b.c, .var (b.open13 [])]⟩
      | none => Q (.exit 0) ⟨[(1, vi kind), (2, vi ask), (8, .sc (.ptr 1 0)), (23, vi b.days.length), (24, vi b.days.length), (25, vb false)], [.var b.c, .var (b.open13 [])]⟩ := by
  have hg2 : Γ.glob 2 = [.fn (.fn 85) [] [] [], .fn (.fn 86) [] [] []] := G06.g2
  have hdl := valid_days (sane_of_valid hv)
  refine (E_find (fun i => ⟨[(1, vi kind), (2, vi ask), (8, .sc (.ptr 1 0)), (23, vi b.days.length), (24, vi i)], [.var b.c, .var (b.open13 [])]⟩) b.days (fun i _ => q i)
    (fun i x => (.ret, ⟨[(6, vi i), (7, vi 0)], [.var b.c, .var (b.open13 [])]⟩))
    (.exit 0, ⟨[(1, vi kind), (2, vi ask), (8, .sc (.ptr 1 0)), (23, vi b.days.length), (24, vi b.days.length), (25, vb false)], [.var b.c, .var (b.open13 [])]⟩) Q ?_ ?_ ?_).trans ?_
  · intro i x hx hqi
    have hlt : i < b.days.length := (List.getElem?_eq_some_iff.1 hx).1
    have hiw : IntKind.i64.wrap ((i : Int) + 1) = i + 1 := wrap_i64 (by omega) (by omega)
    have hK := hq i hlt
    rcases hask with ⟨rfl, rfl⟩ | ⟨rfl, rfl⟩
    · (simp only [go_sem, simprocAttr, candle_first_B0, hiw, hg2, hK, hqi]; repeat' (first | ((first | (refine br_yes (by omega) ?_) | (refine br_no (by omega) ?_) | (apply br_all; (· simp only [Bool.and_eq_true, decide_eq_true_eq]; omega)) | (apply br_free; (· simp [go_sem, Pm.acc, Acc.free, refsOf, keyEq, tagEq, cellsEq, cellEq]; done)) | ((first | apply br_mergeT | apply br_mergeF); (· intro h; simp only [go_sem, simprocAttr, sel_of h, candle_first_B0, hiw, hg2, hK, hqi]; exact rfl))); (try simp only [go_sem, simprocAttr, candle_first_B0, hiw, hg2, hK, hqi])) | ((first | apply onGuard_sel | (apply pickV_split; apply br_split) | apply br_split) <;> intro h <;> (try simp only [go_sem, simprocAttr, h, candle_first_B0, hiw, hg2, hK, hqi]))))
      rfl
    · (simp only [go_sem, simprocAttr, candle_first_B0, hiw, hg2, hK, hqi]; repeat' (first | ((first | (refine br_yes (by omega) ?_) | (refine br_no (by omega) ?_) | (apply br_all; (· simp only [Bool.and_eq_true, decide_eq_true_eq]; omega)) | (apply br_free; (· simp [go_sem, Pm.acc, Acc.free, refsOf, keyEq, tagEq, cellsEq, cellEq]; done)) | ((first | apply br_mergeT | apply br_mergeF); (· intro h; simp only [go_sem, simprocAttr, sel_of h, candle_first_B0, hiw, hg2, hK, hqi]; exact rfl))); (try simp only [go_sem, simprocAttr, candle_first_B0, hiw, hg2, hK, hqi])) | ((first | apply onGuard_sel | (apply pickV_split; apply br_split) | apply br_split) <;> intro h <;> (try simp only [go_sem, simprocAttr, h, candle_first_B0, hiw, hg2, hK, hqi]))))
      rfl
  · intro i x hx hqi
    have hlt : i < b.days.length := (List.getElem?_eq_some_iff.1 hx).1
    have hK := hq i hlt
    rcases hask with ⟨rfl, rfl⟩ | ⟨rfl, rfl⟩
    · (simp only [go_sem, simprocAttr, candle_first_B0, hg2, hK, hqi]; repeat' (first | ((first | (refine br_yes (by omega) ?_) | (refine br_no (by omega) ?_) | (apply br_all; (· simp only [Bool.and_eq_true, decide_eq_true_eq]; omega)) | (apply br_free; (· simp [go_sem, Pm.acc, Acc.free, refsOf, keyEq, tagEq, cellsEq, cellEq]; done)) | ((first | apply br_mergeT | apply br_mergeF); (· intro h; simp only [go_sem, simprocAttr, sel_of h, candle_first_B0, hg2, hK, hqi]; exact rfl))); (try simp only [go_sem, simprocAttr, candle_first_B0, hg2, hK, hqi])) | ((first | apply onGuard_sel | (apply pickV_split; apply br_split) | apply br_split) <;> intro h <;> (try simp only [go_sem, simprocAttr, h, candle_first_B0, hg2, hK, hqi]))))
    · (simp only [go_sem, simprocAttr, candle_first_B0, hg2, hK, hqi]; repeat' (first | ((first | (refine br_yes (by omega) ?_) | (refine br_no (by omega) ?_) | (apply br_all; (· simp only [Bool.and_eq_true, decide_eq_true_eq]; omega)) | (apply br_free; (· simp [go_sem, Pm.acc, Acc.free, refsOf, keyEq, tagEq, cellsEq, cellEq]; done)) | ((first | apply br_mergeT | apply br_mergeF); (· intro h; simp only [go_sem, simprocAttr, sel_of h, candle_first_B0, hg2, hK, hqi]; exact rfl))); (try simp only [go_sem, simprocAttr, candle_first_B0, hg2, hK, hqi])) | ((first | apply onGuard_sel | (apply pickV_split; apply br_split) | apply br_split) <;> intro h <;> (try simp only [go_sem, simprocAttr, h, candle_first_B0, hg2, hK, hqi]))))
  · (simp only [go_sem, simprocAttr, candle_first_B0]; repeat' (first | ((first | (refine br_yes (by omega) ?_) | (refine br_no (by omega) ?_) | (apply br_all; (· simp only [Bool.and_eq_true, decide_eq_true_eq]; omega)) | (apply br_free; (· simp [go_sem, Pm.acc, Acc.free, refsOf, keyEq, tagEq, cellsEq, cellEq]; done)) | ((first | apply br_mergeT | apply br_mergeF); (· intro h; simp only [go_sem, simprocAttr, sel_of h, candle_first_B0]; exact rfl))); (try simp only [go_sem, simprocAttr, candle_first_B0])) | ((first | apply onGuard_sel | (apply pickV_split; apply br_split) | apply br_split) <;> intro h <;> (try simp only [go_sem, simprocAttr, h, candle_first_B0]))))
  · cases findFrom (fun i _ => q i) 0 b.days <;> rfl

theorem first_k (b : Book) [hb : b.Fits] (kind ask : Int) (q : Nat → Bool) (id : Nat) (hask : (ask = 0 ∧ id = 85) ∨ (ask = 1 ∧ id = 86))
    (hq : b.valid = true → b.truths [] ≠ [] → within kind 0 1 = true → ∀ i : Nat, i < b.days.length → K Γ (.fn id) [.agg (b.open13 []), vi kind, vi i] [] = some (vb (q i), [])) :
    K Γ (.fn 61) [.agg b.c, vi kind, vi ask] [] = some (.tup [vi (if b.askE (isKind kind) = 0 then b.firstOn q else (0, b.askE (isKind kind))).1, vi (if b.askE (isKind kind) = 0 then b.firstOn q else (0, b.askE (isKind kind))).2], []) := by
  rw [K_fn P06.f61 _ _ rfl]
  simp only [isKind, Book.isDay, Book.askE]
  rcases Bool.eq_false_or_eq_true b.valid with hv | hv
  rotate_left
  · have hA (is : Bool) := asked_bad (Γ := Γ) b hv is
    simp only [Z13] at hA
    (simp only [go_sem, simprocAttr, candle_first, hA, hv, Bool.false_eq_true]; repeat' (first | ((first | (refine br_yes (by omega) ?_) | (refine br_no (by omega) ?_) | (apply br_all; (· simp only [Bool.and_eq_true, decide_eq_true_eq]; omega)) | (apply br_free; (· simp [go_sem, Pm.acc, Acc.free, refsOf, keyEq, tagEq, cellsEq, cellEq]; done)) | ((first | apply br_mergeT | apply br_mergeF); (· intro h; simp only [go_sem, simprocAttr, sel_of h, candle_first, hA, hv, Bool.false_eq_true]; exact rfl))); (try simp only [go_sem, simprocAttr, candle_first, hA, hv, Bool.false_eq_true])) | ((first | apply onGuard_sel | (apply pickV_split; apply br_split) | apply br_split) <;> intro h <;> (try simp only [go_sem, simprocAttr, h, candle_first, hA, hv, Bool.false_eq_true]))))
  · have hA := asked_ask (Γ := Γ) b hv
    simp only [Z13] at hA
    rcases Bool.eq_false_or_eq_true (within kind 0 1) with hk | hk
    rotate_left
    · (simp only [go_sem, simprocAttr, candle_first, hA, hv, hk, Bool.false_and, Bool.false_eq_true]; repeat' (first | ((first | (refine br_yes (by omega) ?_) | (refine br_no (by omega) ?_) | (apply br_all; (· simp only [Bool.and_eq_true, decide_eq_true_eq]; omega)) | (apply br_free; (· simp [go_sem, Pm.acc, Acc.free, refsOf, keyEq, tagEq, cellsEq, cellEq]; done)) | ((first | apply br_mergeT | apply br_mergeF); (· intro h; simp only [go_sem, simprocAttr, sel_of h, candle_first, hA, hv, hk, Bool.false_and, Bool.false_eq_true]; exact rfl))); (try simp only [go_sem, simprocAttr, candle_first, hA, hv, hk, Bool.false_and, Bool.false_eq_true])) | ((first | apply onGuard_sel | (apply pickV_split; apply br_split) | apply br_split) <;> intro h <;> (try simp only [go_sem, simprocAttr, h, candle_first, hA, hv, hk, Bool.false_and, Bool.false_eq_true]))))
    · by_cases ht : b.truths [] = []
      · have hN := asked_no (Γ := Γ) b hv ht
        (simp only [go_sem, simprocAttr, candle_first, hN, hv, hk, ht]; repeat' (first | ((first | (refine br_yes (by omega) ?_) | (refine br_no (by omega) ?_) | (apply br_all; (· simp only [Bool.and_eq_true, decide_eq_true_eq]; omega)) | (apply br_free; (· simp [go_sem, Pm.acc, Acc.free, refsOf, keyEq, tagEq, cellsEq, cellEq]; done)) | ((first | apply br_mergeT | apply br_mergeF); (· intro h; simp only [go_sem, simprocAttr, sel_of h, candle_first, hN, hv, hk, ht]; exact rfl))); (try simp only [go_sem, simprocAttr, candle_first, hN, hv, hk, ht])) | ((first | apply onGuard_sel | (apply pickV_split; apply br_split) | apply br_split) <;> intro h <;> (try simp only [go_sem, simprocAttr, h, candle_first, hN, hv, hk, ht]))))
      · have hN := asked_ok (Γ := Γ) b hv ht
        have hL {β : Type} (Q : Ex → St → Option β) := first_L0 b hv ht kind ask q id hask (hq hv ht hk) Q
        cases hf : findFrom (fun i _ => q i) 0 b.days with
        | none =>
          simp only [hf] at hL
          (simp only [go_sem, simprocAttr, candle_first, hN, hv, hk, ht, hL, Book.firstOn, hf]; repeat' (first | ((first | (refine br_yes (by omega) ?_) | (refine br_no (by omega) ?_) | (apply br_all; (· simp only [Bool.and_eq_true, decide_eq_true_eq]; omega)) | (apply br_free; (· simp [go_sem, Pm.acc, Acc.free, refsOf, keyEq, tagEq, cellsEq, cellEq]; done)) | ((first | apply br_mergeT | apply br_mergeF); (· intro h; simp only [go_sem, simprocAttr, sel_of h, candle_first, hN, hv, hk, ht, hL, Book.firstOn, hf]; exact rfl))); (try simp only [go_sem, simprocAttr, candle_first, hN, hv, hk, ht, hL, Book.firstOn, hf])) | ((first | apply onGuard_sel | (apply pickV_split; apply br_split) | apply br_split) <;> intro h <;> (try simp only [go_sem, simprocAttr, h, candle_first, hN, hv, hk, ht, hL, Book.firstOn, hf]))))
        | some p =>
          simp only [hf] at hL
          (simp only [go_sem, simprocAttr, candle_first, hN, hv, hk, ht, hL, Book.firstOn, hf]; repeat' (first | ((first | (refine br_yes (by omega) ?_) | (refine br_no (by omega) ?_) | (apply br_all; (· simp only [Bool.and_eq_true, decide_eq_true_eq]; omega)) | (apply br_free; (· simp [go_sem, Pm.acc, Acc.free, refsOf, keyEq, tagEq, cellsEq, cellEq]; done)) | ((first | apply br_mergeT | apply br_mergeF); (· intro h; simp only [go_sem, simprocAttr, sel_of h, candle_first, hN, hv, hk, ht, hL, Book.firstOn, hf]; exact rfl))); (try simp only [go_sem, simprocAttr, candle_first, hN, hv, hk, ht, hL, Book.firstOn, hf])) | ((first | apply onGuard_sel | (apply pickV_split; apply br_split) | apply br_split) <;> intro h <;> (try simp only [go_sem, simprocAttr, h, candle_first, hN, hv, hk, ht, hL, Book.firstOn, hf]))))

@[go_sem] theorem Short_k (b : Book) [hb : b.Fits] (kind : Int) : K Γ (.fn 13) [.agg b.c, vi kind] [] = some (.tup [vi (b.short kind).1, vi (b.short kind).2], []) := by
  have hF := first_k (Γ := Γ) b kind 0 (fun i => decide ((spanOf (tLeft kind i) (b.truths [])).1 < 0)) 85 (.inl ⟨rfl, rfl⟩) (fun hv ht hk i hi =>
    may_k b (sane_of_valid hv) [] ht kind i ((within_iff _ _ _).1 hk) (by have := valid_days (sane_of_valid hv); omega))
  rw [K_fn P06.f13 _ _ rfl]
  (simp only [go_sem, simprocAttr, candle_Short, hF]; repeat' (first | ((first | (refine br_yes (by omega) ?_) | (refine br_no (by omega) ?_) | (apply br_all; (· simp only [Bool.and_eq_true, decide_eq_true_eq]; omega)) | (apply br_free; (· simp [go_sem, Pm.acc, Acc.free, refsOf, keyEq, tagEq, cellsEq, cellEq]; done)) | ((first | apply br_mergeT | apply br_mergeF); (· intro h; simp only [go_sem, simprocAttr, sel_of h, candle_Short, hF]; exact rfl))); (try simp only [go_sem, simprocAttr, candle_Short, hF])) | ((first | apply onGuard_sel | (apply pickV_split; apply br_split) | apply br_split) <;> intro h <;> (try simp only [go_sem, simprocAttr, h, candle_Short, hF]))))
  rfl
@[go_sem] theorem Surely_k (b : Book) [hb : b.Fits] (kind : Int) : K Γ (.fn 15) [.agg b.c, vi kind] [] = some (.tup [vi (b.surely kind).1, vi (b.surely kind).2], []) := by
  have hF := first_k (Γ := Γ) b kind 1 (fun i => decide ((spanOf (tLeft kind i) (b.truths [])).2 < 0)) 86 (.inr ⟨rfl, rfl⟩) (fun hv ht hk i hi =>
    must_k b (sane_of_valid hv) [] ht kind i ((within_iff _ _ _).1 hk) (by have := valid_days (sane_of_valid hv); omega))
  rw [K_fn P06.f15 _ _ rfl]
  (simp only [go_sem, simprocAttr, candle_Surely, hF]; repeat' (first | ((first | (refine br_yes (by omega) ?_) | (refine br_no (by omega) ?_) | (apply br_all; (· simp only [Bool.and_eq_true, decide_eq_true_eq]; omega)) | (apply br_free; (· simp [go_sem, Pm.acc, Acc.free, refsOf, keyEq, tagEq, cellsEq, cellEq]; done)) | ((first | apply br_mergeT | apply br_mergeF); (· intro h; simp only [go_sem, simprocAttr, sel_of h, candle_Surely, hF]; exact rfl))); (try simp only [go_sem, simprocAttr, candle_Surely, hF])) | ((first | apply onGuard_sel | (apply pickV_split; apply br_split) | apply br_split) <;> intro h <;> (try simp only [go_sem, simprocAttr, h, candle_Surely, hF]))))
  rfl
end
end Go.Pm.Cd

namespace Go.Pm.Cd
open Ac
set_option maxRecDepth 100000
set_option linter.unusedSimpArgs false
set_option linter.unusedSectionVars false
set_option linter.unusedVariables false

def topK (k : SK) : SK := match k with | .nil => .nil | _ => .full
theorem sliced_top (es : Nat) (k : SK) (l : List (List C)) (n : Nat) (hn : l.length = n) : sliced es (.sc (.sl k es l)) none (some (.sc (.int .i64 n))) (some (.sc (.int .i64 n))) = some (.sl (topK k) es l) := by
  subst hn
  cases k <;> simp [sliced, bounds, boundM, boundH, boundL, bound, capOf, slKind, topK]
theorem appended_top (es : Nat) (k k' : SK) (l : List (List C)) (x : List C) (hr : l.length + 1 ≤ room) : appended es (.sc (.sl (topK k) es l)) (.sc (.sl k' es [x])) = some (.own es (l ++ [x])) := by
  cases k <;> simp [appended, elems, topK, hr]

def Book.add (b : Book) (x : Count) : Book := { b with kc := .shared, counts := b.counts ++ [x] }
def ownB (b : Book) (x : Count) : List C := [ci b.s0.lo, ci b.s0.hi, ci b.s1.lo, ci b.s1.hi, ci b.f0.lo, ci b.f0.hi, ci b.f1.lo, ci b.f1.hi, .sl b.kd 5 (b.days.map Day.c), .sl b.ko 3 (b.orders.map Order.c), .own 4 (b.counts.map Count.c ++ [x.c])]
@[go_sem] theorem ownB_set (b : Book) (x : Count) : b.c.set 10 (.own 4 (b.counts.map Count.c ++ [x.c])) = ownB b x := nrfl rfl
@[go_sem] theorem ownB_all (b : Book) (x : Count) : cellsAt (ownB b x) 0 11 = some (ownB b x) := nrfl rfl
@[go_sem] theorem ownB_un (b : Book) (x : Count) : (ownB b x).map unown = (b.add x).c := by
  simp [ownB, Book.add, Book.c, unown]
@[go_sem] theorem ownB_under (b : Book) (x : Count) (n : Nat) : C.underL n (ownB b x) = true := by simp [ownB, go_sem]

theorem sane_add {b : Book} (hv : b.valid = true) {x : Count} (hx : b.isCount x = true) : (b.add x).sane = true := by
  have e1 : (b.add x).orderOk = b.orderOk := rfl
  have e2 : (b.add x).isCount = b.isCount := rfl
  simp only [Book.valid, Book.sane, Bool.and_eq_true, decide_eq_true_eq, e1, e2] at hv ⊢
  refine ⟨⟨⟨⟨⟨⟨⟨⟨⟨hv.1.1.1.1.1.1.1.1.1, hv.1.1.1.1.1.1.1.1.2⟩, ?_⟩, hv.1.1.1.1.1.1.2⟩, hv.1.1.1.1.1.2⟩, hv.1.1.1.1.2⟩, hv.1.1.1.2⟩, hv.1.1.2⟩, hv.1.2⟩, ?_⟩
  · have := hv.1.1.1.1.1.1.1.2
    simp only [Book.add, List.length_append, List.length_cons, List.length_nil]; omega
  · simp only [Book.add, List.all_append, List.all_cons, List.all_nil, hv.2, hx]; rfl

section
variable {Γ : Env} [P06 Γ] [G06 Γ]

theorem fits_add {b : Book} (hv : b.valid = true) (x : Count) : (b.add x).Fits := by
  have := valid_days (sane_of_valid hv)
  exact ⟨by simp only [Book.add]; omega, by simp only [Book.add]; omega, by simp only [Book.add, List.length_append, List.length_cons, List.length_nil]; omega⟩

def Book.fits (b : Book) (x : Count) : Bool × Int := if b.askE (b.isCount x) = 0 then (decide ((b.add x).truths [] ≠ []), 0) else (false, b.askE (b.isCount x))

@[go_sem] theorem Fits_k (b : Book) [hb : b.Fits] (x : Count) : K Γ (.fn 19) [.agg b.c, .agg x.c] [] = some (.tup [vb (b.fits x).1, vi (b.fits x).2], []) := by
  rw [K_fn P06.f19 _ _ rfl]
  simp only [Book.fits, Book.askE]
  rcases Bool.eq_false_or_eq_true b.valid with hv | hv
  rotate_left
  · have hA (is : Bool) := asked_bad (Γ := Γ) b hv is
    simp only [Z13] at hA
    (simp only [go_sem, simprocAttr, candle_Fits, hA, hv, Bool.false_eq_true]; repeat' (first | ((first | (refine br_yes (by omega) ?_) | (refine br_no (by omega) ?_) | (apply br_all; (· simp only [Bool.and_eq_true, decide_eq_true_eq]; omega)) | (apply br_free; (· simp [go_sem, Pm.acc, Acc.free, refsOf, keyEq, tagEq, cellsEq, cellEq]; done)) | ((first | apply br_mergeT | apply br_mergeF); (· intro h; simp only [go_sem, simprocAttr, sel_of h, candle_Fits, hA, hv, Bool.false_eq_true]; exact rfl))); (try simp only [go_sem, simprocAttr, candle_Fits, hA, hv, Bool.false_eq_true])) | ((first | apply onGuard_sel | (apply pickV_split; apply br_split) | apply br_split) <;> intro h <;> (try simp only [go_sem, simprocAttr, h, candle_Fits, hA, hv, Bool.false_eq_true]))))
  · have hA := asked_ask (Γ := Γ) b hv
    simp only [Z13] at hA
    rcases Bool.eq_false_or_eq_true (b.isCount x) with hk | hk
    rotate_left
    · (simp only [go_sem, simprocAttr, candle_Fits, hA, hv, hk, Bool.false_and, Bool.false_eq_true]; repeat' (first | ((first | (refine br_yes (by omega) ?_) | (refine br_no (by omega) ?_) | (apply br_all; (· simp only [Bool.and_eq_true, decide_eq_true_eq]; omega)) | (apply br_free; (· simp [go_sem, Pm.acc, Acc.free, refsOf, keyEq, tagEq, cellsEq, cellEq]; done)) | ((first | apply br_mergeT | apply br_mergeF); (· intro h; simp only [go_sem, simprocAttr, sel_of h, candle_Fits, hA, hv, hk, Bool.false_and, Bool.false_eq_true]; exact rfl))); (try simp only [go_sem, simprocAttr, candle_Fits, hA, hv, hk, Bool.false_and, Bool.false_eq_true])) | ((first | apply onGuard_sel | (apply pickV_split; apply br_split) | apply br_split) <;> intro h <;> (try simp only [go_sem, simprocAttr, h, candle_Fits, hA, hv, hk, Bool.false_and, Bool.false_eq_true]))))
    · by_cases ht : b.truths [] = []
      · have hN := asked_no (Γ := Γ) b hv ht
        (simp only [go_sem, simprocAttr, candle_Fits, hN, hv, hk, ht]; repeat' (first | ((first | (refine br_yes (by omega) ?_) | (refine br_no (by omega) ?_) | (apply br_all; (· simp only [Bool.and_eq_true, decide_eq_true_eq]; omega)) | (apply br_free; (· simp [go_sem, Pm.acc, Acc.free, refsOf, keyEq, tagEq, cellsEq, cellEq]; done)) | ((first | apply br_mergeT | apply br_mergeF); (· intro h; simp only [go_sem, simprocAttr, sel_of h, candle_Fits, hN, hv, hk, ht]; exact rfl))); (try simp only [go_sem, simprocAttr, candle_Fits, hN, hv, hk, ht])) | ((first | apply onGuard_sel | (apply pickV_split; apply br_split) | apply br_split) <;> intro h <;> (try simp only [go_sem, simprocAttr, h, candle_Fits, hN, hv, hk, ht]))))
      · have hN := asked_ok (Γ := Γ) b hv ht
        have hs := sane_add hv hk
        haveI := fits_add hv x
        have hc := (valid_days (sane_of_valid hv)).2.2.2
        have hS := sliced_top 4 b.kc (b.counts.map Count.c) b.counts.length (by simp)
        have hP := appended_top 4 b.kc .full (b.counts.map Count.c) x.c (by simp only [List.length_map, room]; omega)
        have h0 : decide ((0 : Int) < (((b.add x).truths []).length : Int)) = decide ((b.add x).truths [] ≠ []) := by
          rw [decide_eq_decide]
          constructor
          · intro h e; rw [e] at h; simp at h
          · intro h
            have : ((b.add x).truths []).length ≠ 0 := fun e => h (List.length_eq_zero_iff.1 e)
            omega
        (simp only [go_sem, simprocAttr, candle_Fits, hN, hv, hk, ht, hs, hS, hP, h0]; repeat' (first | ((first | (refine br_yes (by omega) ?_) | (refine br_no (by omega) ?_) | (apply br_all; (· simp only [Bool.and_eq_true, decide_eq_true_eq]; omega)) | (apply br_free; (· simp [go_sem, Pm.acc, Acc.free, refsOf, keyEq, tagEq, cellsEq, cellEq]; done)) | ((first | apply br_mergeT | apply br_mergeF); (· intro h; simp only [go_sem, simprocAttr, sel_of h, candle_Fits, hN, hv, hk, ht, hs, hS, hP, h0]; exact rfl))); (try simp only [go_sem, simprocAttr, candle_Fits, hN, hv, hk, ht, hs, hS, hP, h0])) | ((first | apply onGuard_sel | (apply pickV_split; apply br_split) | apply br_split) <;> intro h <;> (try simp only [go_sem, simprocAttr, h, candle_Fits, hN, hv, hk, ht, hs, hS, hP, h0]))))
end
end Go.Pm.Cd

namespace Go.Pm.Cd
open Ac
set_option maxRecDepth 100000
set_option linter.unusedSimpArgs false
set_option linter.unusedSectionVars false
set_option linter.unusedVariables false

def fromOf (l : List Int) : Int := if l = [] then 0 else l.getD (l.length - 1) 0 + 1
def Book.choose (b : Book) : Nat → List Int → List Int × Bool
  | 0, l => (l, decide (b.truths l ≠ []))
  | r + 1, l => match findFrom (fun i _ => (b.choose r (l ++ [fromOf l + (i : Nat)])).2) 0 (List.range (b.counts.length - fromOf l).toNat) with
    | some (i, _) => ((b.choose r (l ++ [fromOf l + (i : Nat)])).1, true)
    | none => ([], false)
def iC (k : SK) (l : List Int) : C := .sl k 1 (l.map fun x => [ci x])
def chooseK (b : Book) (k : SK) : Nat → List Int → SK
  | 0, l => k
  | r + 1, l => if (b.choose (r + 1) l).2 then .shared else .nil

section
variable {Γ : Env} [P06 Γ] [G06 Γ]

theorem chooseK_shared (b : Book) (r : Nat) (l : List Int) (h : (b.choose r l).2 = true) : chooseK b .shared r l = .shared := by
  cases r with
  | zero => rfl
  | succ r => simp only [chooseK, h, if_true]

theorem choose_L0 (b : Book) [hb : b.Fits] (hv : b.sane = true) (q : Nat) (many r : Nat) (l : List Int) (k : SK) (H : List Obj) (n : Nat) (hl6 : l.length ≤ 6) (from' : Int) (hfr : 0 ≤ from' ∧ from' ≤ 7) (hn : H.length = n) (hq : q < n)
    (hhq : H[q]? = some (.var [.fn (.fn 62) [] [] [.eptr b.c 0, .ptr q 0]])) (hu : H.all (Obj.under n) = true)
    (hK : ∀ i : Nat, from' + i < b.counts.length → K Γ (.fn 62) [.sc (.sl .shared 1 ((l ++ [from' + (i : Nat)]).map fun x => [ci x])), vi many, .sc (.eptr b.c 0), .sc (.ptr q 0)] H =
      some (.tup [.sc (iC (chooseK b .shared r (l ++ [from' + (i : Nat)])) (b.choose r (l ++ [from' + (i : Nat)])).1), vb (b.choose r (l ++ [from' + (i : Nat)])).2], H)) {β : Type} (Q : Ex → St → Option β) :
    E Γ candle_Wrong_1_L0 ⟨[(0, .sc (.sl k 1 (l.map fun x => [ci x]))), (1, vi many), (2, .sc (.eptr b.c 0)), (3, .sc (.ptr q 0)), (8, vi l.length), (10, vi from')], H⟩ Q =
      match findFrom (fun i _ => (b.choose r (l ++ [from' + (i : Nat)])).2) 0 (List.range (b.counts.length - from').toNat) with
      | some (i, _) => Q .ret ⟨[(6, .sc (iC .shared (b.choose r (l ++ [from' + (i : Nat)])).1)), (7, vb true)], H⟩
      | none => Q (.exit 0) ⟨[(0, .sc (.sl k 1 (l.map fun x => [ci x]))), (1, vi many), (2, .sc (.eptr b.c 0)), (3, .sc (.ptr q 0)), (8, vi l.length), (10, vi (from' + (b.counts.length - from').toNat)), (38, vb false)], H⟩ := by
  have hvd := valid_days hv
  have hS := sliced_top 1 k (l.map fun x => [ci x]) l.length (by simp)
  have hts : H.take n = H := by rw [← hn]; exact List.take_length
  refine Eq.trans (congrArg (fun s => E Γ candle_Wrong_1_L0 s Q) (?_ : _ = (⟨[(0, .sc (.sl k 1 (l.map fun x => [ci x]))), (1, vi many), (2, .sc (.eptr b.c 0)), (3, .sc (.ptr q 0)), (8, vi l.length), (10, vi (from' + (0 : Nat)))], H⟩ : St))) ?_
  · simp
  refine (E_find (fun i => ⟨[(0, .sc (.sl k 1 (l.map fun x => [ci x]))), (1, vi many), (2, .sc (.eptr b.c 0)), (3, .sc (.ptr q 0)), (8, vi l.length), (10, vi (from' + (i : Nat)))], H⟩) (List.range (b.counts.length - from').toNat) (fun i _ => (b.choose r (l ++ [from' + (i : Nat)])).2)
    (fun i x => (.ret, ⟨[(6, .sc (iC .shared (b.choose r (l ++ [from' + (i : Nat)])).1)), (7, vb true)], H⟩))
    (.exit 0, ⟨[(0, .sc (.sl k 1 (l.map fun x => [ci x]))), (1, vi many), (2, .sc (.eptr b.c 0)), (3, .sc (.ptr q 0)), (8, vi l.length), (10, vi (from' + (b.counts.length - from').toNat)), (38, vb false)], H⟩) Q ?_ ?_ ?_).trans ?_
  · intro i x hx hqi
    have hlt : i < (b.counts.length - from').toNat := by
      have := (List.getElem?_eq_some_iff.1 hx).1; simpa using this
    have hlt2 : from' + (i : Int) < b.counts.length := by omega
    have hP := appended_top 1 k .full (l.map fun x => [ci x]) [ci (from' + (i : Nat))] (by simp only [List.length_map, room]; omega)
    have hiw : IntKind.i64.wrap (from' + (i : Int) + 1) = from' + (i + 1 : Nat) := by rw [wrap_i64 (by omega) (by omega)]; omega
    have hKi := hK i hlt2
    simp only [List.map_append, List.map_cons, List.map_nil] at hKi
    (simp only [go_sem, simprocAttr, candle_Wrong_1_B0, hn, heapB, hhq, hu, hS, hP, hKi, hqi, hiw, hq, hts, iC]; repeat' (first | ((first | (refine br_yes (by omega) ?_) | (refine br_no (by omega) ?_) | (apply br_all; (· simp only [Bool.and_eq_true, decide_eq_true_eq]; omega)) | (apply br_free; (· simp [go_sem, Pm.acc, Acc.free, refsOf, keyEq, tagEq, cellsEq, cellEq]; done)) | ((first | apply br_mergeT | apply br_mergeF); (· intro h; simp only [go_sem, simprocAttr, sel_of h, candle_Wrong_1_B0, hn, heapB, hhq, hu, hS, hP, hKi, hqi, hiw, hq, hts, iC]; exact rfl))); (try simp only [go_sem, simprocAttr, candle_Wrong_1_B0, hn, heapB, hhq, hu, hS, hP, hKi, hqi, hiw, hq, hts, iC])) | ((first | apply onGuard_sel | (apply pickV_split; apply br_split) | apply br_split) <;> intro h <;> (try simp only [go_sem, simprocAttr, h, candle_Wrong_1_B0, hn, heapB, hhq, hu, hS, hP, hKi, hqi, hiw, hq, hts, iC]))))
  · intro i x hx hqi
    have hlt : i < (b.counts.length - from').toNat := by
      have := (List.getElem?_eq_some_iff.1 hx).1; simpa using this
    have hlt2 : from' + (i : Int) < b.counts.length := by omega
    have hP := appended_top 1 k .full (l.map fun x => [ci x]) [ci (from' + (i : Nat))] (by simp only [List.length_map, room]; omega)
    have hKi := hK i hlt2
    have hsh := chooseK_shared b r _ hqi
    rw [hsh] at hKi
    simp only [List.map_append, List.map_cons, List.map_nil] at hKi
    (simp only [go_sem, simprocAttr, candle_Wrong_1_B0, hn, heapB, hhq, hu, hS, hP, hKi, hqi, hq, hts, iC]; repeat' (first | ((first | (refine br_yes (by omega) ?_) | (refine br_no (by omega) ?_) | (apply br_all; (· simp only [Bool.and_eq_true, decide_eq_true_eq]; omega)) | (apply br_free; (· simp [go_sem, Pm.acc, Acc.free, refsOf, keyEq, tagEq, cellsEq, cellEq]; done)) | ((first | apply br_mergeT | apply br_mergeF); (· intro h; simp only [go_sem, simprocAttr, sel_of h, candle_Wrong_1_B0, hn, heapB, hhq, hu, hS, hP, hKi, hqi, hq, hts, iC]; exact rfl))); (try simp only [go_sem, simprocAttr, candle_Wrong_1_B0, hn, heapB, hhq, hu, hS, hP, hKi, hqi, hq, hts, iC])) | ((first | apply onGuard_sel | (apply pickV_split; apply br_split) | apply br_split) <;> intro h <;> (try simp only [go_sem, simprocAttr, h, candle_Wrong_1_B0, hn, heapB, hhq, hu, hS, hP, hKi, hqi, hq, hts, iC]))))
  · have hnlt : ¬ (from' + ((b.counts.length - from').toNat : Int) < b.counts.length) := by omega
    have hdd := decide_eq_false hnlt
    simp only [List.length_range]
    (simp only [go_sem, simprocAttr, candle_Wrong_1_B0, hdd]; repeat' (first | ((first | (refine br_yes (by omega) ?_) | (refine br_no (by omega) ?_) | (apply br_all; (· simp only [Bool.and_eq_true, decide_eq_true_eq]; omega)) | (apply br_free; (· simp [go_sem, Pm.acc, Acc.free, refsOf, keyEq, tagEq, cellsEq, cellEq]; done)) | ((first | apply br_mergeT | apply br_mergeF); (· intro h; simp only [go_sem, simprocAttr, sel_of h, candle_Wrong_1_B0, hdd]; exact rfl))); (try simp only [go_sem, simprocAttr, candle_Wrong_1_B0, hdd])) | ((first | apply onGuard_sel | (apply pickV_split; apply br_split) | apply br_split) <;> intro h <;> (try simp only [go_sem, simprocAttr, h, candle_Wrong_1_B0, hdd]))))
  · cases findFrom (fun i _ => (b.choose r (l ++ [from' + (i : Nat)])).2) 0 (List.range (b.counts.length - from').toNat) <;> rfl

theorem choose_k (b : Book) [hb : b.Fits] (hv : b.sane = true) (q : Nat) (many : Nat) (hm : many ≤ 6) : ∀ (r : Nat) (l : List Int) (k : SK) (H : List Obj) (n : Nat), l.length + r = many → (∀ x, x ∈ l → 0 ≤ x ∧ x ≤ 6) → H.length = n → q < n →
    H[q]? = some (.var [.fn (.fn 62) [] [] [.eptr b.c 0, .ptr q 0]]) → H.all (Obj.under n) = true →
    K Γ (.fn 62) [.sc (iC k l), vi many, .sc (.eptr b.c 0), .sc (.ptr q 0)] H = some (.tup [.sc (iC (chooseK b k r l) (b.choose r l).1), vb (b.choose r l).2], H) := by
  intro r
  induction r with
  | zero =>
    intro l k H n hlr hl hn hq hhq hu
    have hll : (l.length : Int) = many := by omega
    have h0 : decide ((0 : Int) < ((b.truths l).length : Int)) = decide (b.truths l ≠ []) := by
      rw [decide_eq_decide]
      constructor
      · intro h e; rw [e] at h; simp at h
      · intro h
        have : (b.truths l).length ≠ 0 := fun e => h (List.length_eq_zero_iff.1 e)
        omega
    have hO := opened_but (Γ := Γ) b hv k l (by omega)
    simp only [iC]
    rw [K_fn P06.f62 _ _ rfl]
    (simp only [go_sem, simprocAttr, candle_Wrong_1, hn, heapB, hhq, hu, hO, h0, hll, Book.choose, chooseK, (by rw [← hn]; exact List.take_length : H.take n = H)]; repeat' (first | ((first | (refine br_yes (by omega) ?_) | (refine br_no (by omega) ?_) | (apply br_all; (· simp only [Bool.and_eq_true, decide_eq_true_eq]; omega)) | (apply br_free; (· simp [go_sem, Pm.acc, Acc.free, refsOf, keyEq, tagEq, cellsEq, cellEq]; done)) | ((first | apply br_mergeT | apply br_mergeF); (· intro h; simp only [go_sem, simprocAttr, sel_of h, candle_Wrong_1, hn, heapB, hhq, hu, hO, h0, hll, Book.choose, chooseK, (by rw [← hn]; exact List.take_length : H.take n = H)]; exact rfl))); (try simp only [go_sem, simprocAttr, candle_Wrong_1, hn, heapB, hhq, hu, hO, h0, hll, Book.choose, chooseK, (by rw [← hn]; exact List.take_length : H.take n = H)])) | ((first | apply onGuard_sel | (apply pickV_split; apply br_split) | apply br_split) <;> intro h <;> (try simp only [go_sem, simprocAttr, h, candle_Wrong_1, hn, heapB, hhq, hu, hO, h0, hll, Book.choose, chooseK, (by rw [← hn]; exact List.take_length : H.take n = H)]))))
  | succ r ih =>
    intro l k H n hlr hl hn hq hhq hu
    have hll : ¬ (l.length : Int) = many := by omega
    have hvd := valid_days hv
    have hts : H.take n = H := by rw [← hn]; exact List.take_length
    have hne : decide ((l.length : Int) = many) = false := decide_eq_false hll
    have hfr : 0 ≤ fromOf l ∧ fromOf l ≤ 7 := by
      by_cases he : l = []
      · simp [fromOf, he]
      · have hlp : l.length - 1 < l.length := by
          have : l.length ≠ 0 := fun e => he (List.length_eq_zero_iff.1 e)
          omega
        have hm' := hl (l.getD (l.length - 1) 0) (by simp only [List.getD, List.getElem?_eq_getElem hlp, Option.getD_some]; exact List.getElem_mem hlp)
        simp only [fromOf, if_neg he]; omega
    have hL {β : Type} (Q : Ex → St → Option β) := choose_L0 (Γ := Γ) b hv q many r l k H n (by omega) (fromOf l) hfr hn hq hhq hu (fun i hi => by
      have := ih (l ++ [fromOf l + (i : Nat)]) .shared H n (by simp; omega) (fun x hx => by
        rcases List.mem_append.1 hx with hx | hx
        · exact hl x hx
        · rw [List.mem_singleton] at hx; subst hx; omega) hn hq hhq hu
      exact this) Q
    have main : (match findFrom (fun i _ => (b.choose r (l ++ [fromOf l + (i : Nat)])).2) 0 (List.range (b.counts.length - fromOf l).toNat) with
        | some (i, _) => some (V.tup [.sc (iC .shared (b.choose r (l ++ [fromOf l + (i : Nat)])).1), vb true], H)
        | none => some (V.tup [.sc (.sl .nil 1 []), vb false], H)) = some (V.tup [.sc (iC (chooseK b k (r + 1) l) (b.choose (r + 1) l).1), vb (b.choose (r + 1) l).2], H) := by
      simp only [chooseK, Book.choose]
      obtain ⟨o, ho⟩ : ∃ o, findFrom (fun i _ => (b.choose r (l ++ [fromOf l + (i : Nat)])).2) 0 (List.range (b.counts.length - fromOf l).toNat) = o := ⟨_, rfl⟩
      simp only [ho]
      cases o <;> rfl
    rw [← main]
    clear main
    simp only [iC]
    rw [K_fn P06.f62 _ _ rfl]
    by_cases he : l = []
    · have hf0 : fromOf l = 0 := by simp [fromOf, he]
      have hl0 : decide ((0 : Int) < (l.length : Int)) = false := decide_eq_false (by rw [he]; simp)
      simp only [hf0] at hL ⊢
      cases hff : findFrom (fun i _ => (b.choose r (l ++ [0 + ((i : Nat) : Int)])).2) 0 (List.range ((b.counts.length : Int) - 0).toNat) with
      | none =>
        simp only [hff] at hL
        (simp only [go_sem, simprocAttr, candle_Wrong_1, hn, heapB, hhq, hu, hne, hl0, hL, hts]; repeat' (first | ((first | (refine br_yes (by omega) ?_) | (refine br_no (by omega) ?_) | (apply br_all; (· simp only [Bool.and_eq_true, decide_eq_true_eq]; omega)) | (apply br_free; (· simp [go_sem, Pm.acc, Acc.free, refsOf, keyEq, tagEq, cellsEq, cellEq]; done)) | ((first | apply br_mergeT | apply br_mergeF); (· intro h; simp only [go_sem, simprocAttr, sel_of h, candle_Wrong_1, hn, heapB, hhq, hu, hne, hl0, hL, hts]; exact rfl))); (try simp only [go_sem, simprocAttr, candle_Wrong_1, hn, heapB, hhq, hu, hne, hl0, hL, hts])) | ((first | apply onGuard_sel | (apply pickV_split; apply br_split) | apply br_split) <;> intro h <;> (try simp only [go_sem, simprocAttr, h, candle_Wrong_1, hn, heapB, hhq, hu, hne, hl0, hL, hts]))))
      | some p =>
        simp only [hff] at hL
        (simp only [go_sem, simprocAttr, candle_Wrong_1, hn, heapB, hhq, hu, hne, hl0, hL, hts, iC]; repeat' (first | ((first | (refine br_yes (by omega) ?_) | (refine br_no (by omega) ?_) | (apply br_all; (· simp only [Bool.and_eq_true, decide_eq_true_eq]; omega)) | (apply br_free; (· simp [go_sem, Pm.acc, Acc.free, refsOf, keyEq, tagEq, cellsEq, cellEq]; done)) | ((first | apply br_mergeT | apply br_mergeF); (· intro h; simp only [go_sem, simprocAttr, sel_of h, candle_Wrong_1, hn, heapB, hhq, hu, hne, hl0, hL, hts, iC]; exact rfl))); (try simp only [go_sem, simprocAttr, candle_Wrong_1, hn, heapB, hhq, hu, hne, hl0, hL, hts, iC])) | ((first | apply onGuard_sel | (apply pickV_split; apply br_split) | apply br_split) <;> intro h <;> (try simp only [go_sem, simprocAttr, h, candle_Wrong_1, hn, heapB, hhq, hu, hne, hl0, hL, hts, iC]))))
    · have hlp : l.length - 1 < l.length := by
        have : l.length ≠ 0 := fun e => he (List.length_eq_zero_iff.1 e)
        omega
      have hl0 : decide ((0 : Int) < (l.length : Int)) = true := decide_eq_true (by omega)
      have hlw : IntKind.i64.wrap ((l.length : Int) - 1) = l.length - 1 := wrap_i64 (by omega) (by omega)
      have hlt : ((l.length : Int) - 1).toNat = l.length - 1 := by omega
      have hget : l[l.length - 1]? = some (l.getD (l.length - 1) 0) := by simp only [List.getD, List.getElem?_eq_getElem hlp, Option.getD_some]
      have hfw : IntKind.i64.wrap (l.getD (l.length - 1) 0 + 1) = fromOf l := by
        have e : fromOf l = l.getD (l.length - 1) 0 + 1 := by simp only [fromOf, if_neg he]
        rw [e] at hfr ⊢
        exact wrap_i64 (by omega) (by omega)
      cases hff : findFrom (fun i _ => (b.choose r (l ++ [fromOf l + ((i : Nat) : Int)])).2) 0 (List.range ((b.counts.length : Int) - fromOf l).toNat) with
      | none =>
        simp only [hff] at hL
        (simp only [go_sem, simprocAttr, candle_Wrong_1, hn, heapB, hhq, hu, hne, hl0, hlw, hlt, hget, hfw, hL, hts]; repeat' (first | ((first | (refine br_yes (by omega) ?_) | (refine br_no (by omega) ?_) | (apply br_all; (· simp only [Bool.and_eq_true, decide_eq_true_eq]; omega)) | (apply br_free; (· simp [go_sem, Pm.acc, Acc.free, refsOf, keyEq, tagEq, cellsEq, cellEq]; done)) | ((first | apply br_mergeT | apply br_mergeF); (· intro h; simp only [go_sem, simprocAttr, sel_of h, candle_Wrong_1, hn, heapB, hhq, hu, hne, hl0, hlw, hlt, hget, hfw, hL, hts]; exact rfl))); (try simp only [go_sem, simprocAttr, candle_Wrong_1, hn, heapB, hhq, hu, hne, hl0, hlw, hlt, hget, hfw, hL, hts])) | ((first | apply onGuard_sel | (apply pickV_split; apply br_split) | apply br_split) <;> intro h <;> (try simp only [go_sem, simprocAttr, h, candle_Wrong_1, hn, heapB, hhq, hu, hne, hl0, hlw, hlt, hget, hfw, hL, hts]))))
      | some p =>
        simp only [hff] at hL
        (simp only [go_sem, simprocAttr, candle_Wrong_1, hn, heapB, hhq, hu, hne, hl0, hlw, hlt, hget, hfw, hL, hts, iC]; repeat' (first | ((first | (refine br_yes (by omega) ?_) | (refine br_no (by omega) ?_) | (apply br_all; (· simp only [Bool.and_eq_true, decide_eq_true_eq]; omega)) | (apply br_free; (· simp [go_sem, Pm.acc, Acc.free, refsOf, keyEq, tagEq, cellsEq, cellEq]; done)) | ((first | apply br_mergeT | apply br_mergeF); (· intro h; simp only [go_sem, simprocAttr, sel_of h, candle_Wrong_1, hn, heapB, hhq, hu, hne, hl0, hlw, hlt, hget, hfw, hL, hts, iC]; exact rfl))); (try simp only [go_sem, simprocAttr, candle_Wrong_1, hn, heapB, hhq, hu, hne, hl0, hlw, hlt, hget, hfw, hL, hts, iC])) | ((first | apply onGuard_sel | (apply pickV_split; apply br_split) | apply br_split) <;> intro h <;> (try simp only [go_sem, simprocAttr, h, candle_Wrong_1, hn, heapB, hhq, hu, hne, hl0, hlw, hlt, hget, hfw, hL, hts, iC]))))

def Book.wrong (b : Book) : List Int × Int := if b.valid then (match findFrom (fun m _ => (b.choose m []).2) 0 (List.range (b.counts.length + 1)) with | some (m, _) => (b.choose m []).1 | none => [], 0) else ([], 60)
def wrongK (b : Book) : SK := if b.valid then (match findFrom (fun m _ => (b.choose m []).2) 0 (List.range (b.counts.length + 1)) with | some (m, _) => topK (chooseK b .nil m []) | none => .nil) else .nil

theorem wrong_L0 (b : Book) [hb : b.Fits] (hv : b.sane = true) (hvc : b.counts.length ≤ 5) {β : Type} (Q : Ex → St → Option β) :
    E Γ candle_Wrong_L0 ⟨[(5, .sc (.ptr 1 0)), (18, vi (b.counts.length + 1)), (19, vi 0)], [.dead, .var [.fn (.fn 62) [] [] [.eptr b.c 0, .ptr 1 0]]]⟩ Q =
      match findFrom (fun m _ => (b.choose m []).2) 0 (List.range (b.counts.length + 1)) with
      | some (m, _) => Q .ret ⟨[(2, .sc (.sl (topK (chooseK b .nil m [])) 1 ((b.choose m []).1.map fun x => [ci x]))), (3, vi 0)], [.dead, .var [.fn (.fn 62) [] [] [.eptr b.c 0, .ptr 1 0]]]⟩
      | none => Q (.exit 0) ⟨[(5, .sc (.ptr 1 0)), (18, vi (b.counts.length + 1)), (19, vi (b.counts.length + 1)), (20, vb false)], [.dead, .var [.fn (.fn 62) [] [] [.eptr b.c 0, .ptr 1 0]]]⟩ := by
  have hK (i : Nat) (hi : i ≤ 6) := choose_k (Γ := Γ) b hv 1 i hi i [] .nil [.dead, .var [.fn (.fn 62) [] [] [.eptr b.c 0, .ptr 1 0]]] 2 (by simp) (by simp) rfl (by decide) rfl (by simp [go_sem])
  simp only [iC, List.map_nil] at hK
  refine (E_find (fun i => ⟨[(5, .sc (.ptr 1 0)), (18, vi (b.counts.length + 1)), (19, vi i)], [.dead, .var [.fn (.fn 62) [] [] [.eptr b.c 0, .ptr 1 0]]]⟩) (List.range (b.counts.length + 1)) (fun m _ => (b.choose m []).2)
    (fun m x => (.ret, ⟨[(2, .sc (.sl (topK (chooseK b .nil m [])) 1 ((b.choose m []).1.map fun x => [ci x]))), (3, vi 0)], [.dead, .var [.fn (.fn 62) [] [] [.eptr b.c 0, .ptr 1 0]]]⟩))
    (.exit 0, ⟨[(5, .sc (.ptr 1 0)), (18, vi (b.counts.length + 1)), (19, vi (b.counts.length + 1)), (20, vb false)], [.dead, .var [.fn (.fn 62) [] [] [.eptr b.c 0, .ptr 1 0]]]⟩) Q ?_ ?_ ?_).trans ?_
  · intro i x hx hqi
    have hlt : i < b.counts.length + 1 := by have := (List.getElem?_eq_some_iff.1 hx).1; simpa using this
    have hiw : IntKind.i64.wrap ((i : Int) + 1) = i + 1 := wrap_i64 (by omega) (by omega)
    have hKi := hK i (by omega)
    rw [hqi] at hKi
    (simp only [go_sem, simprocAttr, candle_Wrong_B0, hKi, hiw]; repeat' (first | ((first | (refine br_yes (by omega) ?_) | (refine br_no (by omega) ?_) | (apply br_all; (· simp only [Bool.and_eq_true, decide_eq_true_eq]; omega)) | (apply br_free; (· simp [go_sem, Pm.acc, Acc.free, refsOf, keyEq, tagEq, cellsEq, cellEq]; done)) | ((first | apply br_mergeT | apply br_mergeF); (· intro h; simp only [go_sem, simprocAttr, sel_of h, candle_Wrong_B0, hKi, hiw]; exact rfl))); (try simp only [go_sem, simprocAttr, candle_Wrong_B0, hKi, hiw])) | ((first | apply onGuard_sel | (apply pickV_split; apply br_split) | apply br_split) <;> intro h <;> (try simp only [go_sem, simprocAttr, h, candle_Wrong_B0, hKi, hiw]))))
    rfl
  · intro i x hx hqi
    have hlt : i < b.counts.length + 1 := by have := (List.getElem?_eq_some_iff.1 hx).1; simpa using this
    have hKi := hK i (by omega)
    rw [hqi] at hKi
    have hS := sliced_top 1 (chooseK b .nil i []) ((b.choose i []).1.map fun x => [ci x]) (b.choose i []).1.length (by simp)
    (simp only [go_sem, simprocAttr, candle_Wrong_B0, hKi, hS]; repeat' (first | ((first | (refine br_yes (by omega) ?_) | (refine br_no (by omega) ?_) | (apply br_all; (· simp only [Bool.and_eq_true, decide_eq_true_eq]; omega)) | (apply br_free; (· simp [go_sem, Pm.acc, Acc.free, refsOf, keyEq, tagEq, cellsEq, cellEq]; done)) | ((first | apply br_mergeT | apply br_mergeF); (· intro h; simp only [go_sem, simprocAttr, sel_of h, candle_Wrong_B0, hKi, hS]; exact rfl))); (try simp only [go_sem, simprocAttr, candle_Wrong_B0, hKi, hS])) | ((first | apply onGuard_sel | (apply pickV_split; apply br_split) | apply br_split) <;> intro h <;> (try simp only [go_sem, simprocAttr, h, candle_Wrong_B0, hKi, hS]))))
  · simp only [List.length_range]
    have hdd : decide (((b.counts.length + 1 : Nat) : Int) < b.counts.length + 1) = false := decide_eq_false (by omega)
    (simp only [go_sem, simprocAttr, candle_Wrong_B0, hdd]; repeat' (first | ((first | (refine br_yes (by omega) ?_) | (refine br_no (by omega) ?_) | (apply br_all; (· simp only [Bool.and_eq_true, decide_eq_true_eq]; omega)) | (apply br_free; (· simp [go_sem, Pm.acc, Acc.free, refsOf, keyEq, tagEq, cellsEq, cellEq]; done)) | ((first | apply br_mergeT | apply br_mergeF); (· intro h; simp only [go_sem, simprocAttr, sel_of h, candle_Wrong_B0, hdd]; exact rfl))); (try simp only [go_sem, simprocAttr, candle_Wrong_B0, hdd])) | ((first | apply onGuard_sel | (apply pickV_split; apply br_split) | apply br_split) <;> intro h <;> (try simp only [go_sem, simprocAttr, h, candle_Wrong_B0, hdd]))))
    rfl
  · obtain ⟨o, ho⟩ : ∃ o, findFrom (fun m _ => (b.choose m []).2) 0 (List.range (b.counts.length + 1)) = o := ⟨_, rfl⟩
    simp only [ho]
    cases o <;> rfl

@[go_sem] theorem Wrong_k (b : Book) [hb : b.Fits] : K Γ (.fn 21) [.agg b.c] [] = some (.tup [.sc (iC (wrongK b) b.wrong.1), vi b.wrong.2], []) := by
  rw [K_fn P06.f21 _ _ rfl]
  rcases Bool.eq_false_or_eq_true b.valid with hv | hv
  rotate_left
  · simp only [Book.wrong, wrongK, hv, Bool.false_eq_true, if_false, iC]
    (simp only [go_sem, simprocAttr, candle_Wrong, hv, Bool.false_eq_true]; repeat' (first | ((first | (refine br_yes (by omega) ?_) | (refine br_no (by omega) ?_) | (apply br_all; (· simp only [Bool.and_eq_true, decide_eq_true_eq]; omega)) | (apply br_free; (· simp [go_sem, Pm.acc, Acc.free, refsOf, keyEq, tagEq, cellsEq, cellEq]; done)) | ((first | apply br_mergeT | apply br_mergeF); (· intro h; simp only [go_sem, simprocAttr, sel_of h, candle_Wrong, hv, Bool.false_eq_true]; exact rfl))); (try simp only [go_sem, simprocAttr, candle_Wrong, hv, Bool.false_eq_true])) | ((first | apply onGuard_sel | (apply pickV_split; apply br_split) | apply br_split) <;> intro h <;> (try simp only [go_sem, simprocAttr, h, candle_Wrong, hv, Bool.false_eq_true]))))
  · simp only [Book.wrong, wrongK, hv, if_true, iC]
    have hvd := valid_days (sane_of_valid hv)
    have hvc : b.counts.length ≤ 5 := by
      simp only [Book.valid, Bool.and_eq_true, decide_eq_true_eq] at hv
      have := hv.1.1.1.1.1.1.1.2; omega
    have hcw : IntKind.i64.wrap ((b.counts.length : Int) + 1) = b.counts.length + 1 := wrap_i64 (by omega) (by omega)
    have hL {β : Type} (Q : Ex → St → Option β) := wrong_L0 (Γ := Γ) b (sane_of_valid hv) hvc Q
    obtain ⟨o, ho⟩ : ∃ o, findFrom (fun m _ => (b.choose m []).2) 0 (List.range (b.counts.length + 1)) = o := ⟨_, rfl⟩
    simp only [ho] at hL ⊢
    cases o with
    | none => (simp only [go_sem, simprocAttr, candle_Wrong, hv, hcw, hL, List.map_nil]; repeat' (first | ((first | (refine br_yes (by omega) ?_) | (refine br_no (by omega) ?_) | (apply br_all; (· simp only [Bool.and_eq_true, decide_eq_true_eq]; omega)) | (apply br_free; (· simp [go_sem, Pm.acc, Acc.free, refsOf, keyEq, tagEq, cellsEq, cellEq]; done)) | ((first | apply br_mergeT | apply br_mergeF); (· intro h; simp only [go_sem, simprocAttr, sel_of h, candle_Wrong, hv, hcw, hL, List.map_nil]; exact rfl))); (try simp only [go_sem, simprocAttr, candle_Wrong, hv, hcw, hL, List.map_nil])) | ((first | apply onGuard_sel | (apply pickV_split; apply br_split) | apply br_split) <;> intro h <;> (try simp only [go_sem, simprocAttr, h, candle_Wrong, hv, hcw, hL, List.map_nil]))))
    | some p => (simp only [go_sem, simprocAttr, candle_Wrong, hv, hcw, hL]; repeat' (first | ((first | (refine br_yes (by omega) ?_) | (refine br_no (by omega) ?_) | (apply br_all; (· simp only [Bool.and_eq_true, decide_eq_true_eq]; omega)) | (apply br_free; (· simp [go_sem, Pm.acc, Acc.free, refsOf, keyEq, tagEq, cellsEq, cellEq]; done)) | ((first | apply br_mergeT | apply br_mergeF); (· intro h; simp only [go_sem, simprocAttr, sel_of h, candle_Wrong, hv, hcw, hL]; exact rfl))); (try simp only [go_sem, simprocAttr, candle_Wrong, hv, hcw, hL])) | ((first | apply onGuard_sel | (apply pickV_split; apply br_split) | apply br_split) <;> intro h <;> (try simp only [go_sem, simprocAttr, h, candle_Wrong, hv, hcw, hL]))))
end
end Go.Pm.Cd

namespace Go.Pm.Cd
open Ac
set_option maxRecDepth 100000
set_option linter.unusedSimpArgs false
set_option linter.unusedSectionVars false
set_option linter.unusedVariables false

def Book.run (b : Book) (n0 f0 n1 f1 : Int) (dk : Nat → Int) : Nat → Int × Int
  | 0 => (n0, n1)
  | d + 1 => match b.days[d]? with
    | none => b.run n0 f0 n1 f1 dk d
    | some x => (after1 (b.run n0 f0 n1 f1 dk d).1 (got2 b.comes 0 d) f0 x.l0 (min x.hours (dk d)), after1 (b.run n0 f0 n1 f1 dk d).2 (got2 b.comes 1 d) f1 x.l1 (min x.hours (dk d)))

theorem run_agree (b : Book) (n0 f0 n1 f1 : Int) (dk dk' : Nat → Int) : ∀ (d : Nat), (∀ e, e < d → dk e = dk' e) → b.run n0 f0 n1 f1 dk d = b.run n0 f0 n1 f1 dk' d
  | 0, _ => rfl
  | d + 1, h => by
    have ih := run_agree b n0 f0 n1 f1 dk dk' d (fun e he => h e (by omega))
    simp only [Book.run, ih, h d (by omega)]

structure Good (b : Book) (but : List Int) (n0 f0 n1 f1 : Int) (dk : Nat → Int) (D : Nat) (t : List Int) : Prop where
  len : t.length = 17
  l0 : t.getD 5 0 = f0
  l1 : t.getD 6 0 = f1
  dark : ∀ d x, d < D → b.days[d]? = some x → x.dark.has (dk d)
  dks : ∀ d, d < D → t.getD d 0 = dk d
  a0 : ∀ d, d < D → t.getD (7 + d * 2) 0 = (b.run n0 f0 n1 f1 dk (d + 1)).1
  a1 : ∀ d, d < D → t.getD (7 + (d * 2 + 1)) 0 = (b.run n0 f0 n1 f1 dk (d + 1)).2
  right : ∀ d, d < D → b.rightOn but d (b.run n0 f0 n1 f1 dk (d + 1)).1 (b.run n0 f0 n1 f1 dk (d + 1)).2 = true

theorem getD_set (t : List Int) (i j : Nat) (v : Int) (hi : i < t.length) : (t.set i v).getD j 0 = if i = j then v else t.getD j 0 := by
  simp only [List.getD, List.getElem?_set]
  by_cases h : i = j
  · subst h; simp [hi]
  · simp [h]
theorem getD_next (t : List Int) (day j : Nat) (dk a0 a1 : Int) (ht : t.length = 17) (hd : day < 5) : (next t day dk a0 a1).getD j 0 = if 7 + (day * 2 + 1) = j then a1 else if 7 + day * 2 = j then a0 else if day = j then dk else t.getD j 0 := by
  unfold next
  rw [getD_set _ _ _ _ (by simp; omega), getD_set _ _ _ _ (by simp; omega), getD_set _ _ _ _ (by omega)]

theorem live_good {b : Book} (hv : b.sane = true) (but : List Int) (n0 f0 n1 f1 : Int) : ∀ (j day : Nat) (dk : Nat → Int) (t u : List Int), day + j = b.days.length → Good b but n0 f0 n1 f1 dk day t →
    u ∈ b.live b.comes but j t (b.run n0 f0 n1 f1 dk day).1 (b.run n0 f0 n1 f1 dk day).2 day → ∃ dk', (∀ e, e < day → dk' e = dk e) ∧ Good b but n0 f0 n1 f1 dk' b.days.length u
  | 0, day, dk, t, u, hd, hG, hu => by
    simp only [Book.live, List.mem_singleton] at hu
    subst hu
    obtain rfl : day = b.days.length := by omega
    exact ⟨dk, fun _ _ => rfl, hG⟩
  | j + 1, day, dk, t, u, hd, hG, hu => by
    have hvd := valid_days hv
    obtain ⟨x, hx⟩ : ∃ x, b.days[day]? = some x := ⟨_, List.getElem?_eq_getElem (by omega)⟩
    simp only [Book.live, hx, List.mem_flatMap, List.mem_range] at hu
    obtain ⟨i, hi, hu⟩ := hu
    have hxd := (valid_day hv hx).2.1
    let dk1 : Nat → Int := fun e => if e = day then x.dark.lo + i else dk e
    have hag : ∀ e, e < day → dk1 e = dk e := fun e he => by simp only [dk1]; rw [if_neg (by omega)]
    have hday : dk1 day = x.dark.lo + i := by simp [dk1]
    have hrun : b.run n0 f0 n1 f1 dk1 day = b.run n0 f0 n1 f1 dk day := run_agree b n0 f0 n1 f1 dk1 dk day hag
    have hrun1 : b.run n0 f0 n1 f1 dk1 (day + 1) = (after1 (b.run n0 f0 n1 f1 dk day).1 (got2 b.comes 0 day) f0 x.l0 (min x.hours (x.dark.lo + i)), after1 (b.run n0 f0 n1 f1 dk day).2 (got2 b.comes 1 day) f1 x.l1 (min x.hours (x.dark.lo + i))) := by
      simp only [Book.run, hx, hrun, hday]
    split at hu
    · rename_i hro
      rw [hG.l0, hG.l1] at hu hro
      have hG1 : Good b but n0 f0 n1 f1 dk1 (day + 1) (next t day (x.dark.lo + i) (b.run n0 f0 n1 f1 dk1 (day + 1)).1 (b.run n0 f0 n1 f1 dk1 (day + 1)).2) := by
        have hrunE (d : Nat) (h : d < day) : b.run n0 f0 n1 f1 dk1 (d + 1) = b.run n0 f0 n1 f1 dk (d + 1) := run_agree b n0 f0 n1 f1 dk1 dk (d + 1) (fun e he => hag e (by omega))
        refine ⟨by rw [next_len, hG.len], ?_, ?_, ?_, ?_, ?_, ?_, ?_⟩
        · rw [next_get5 _ _ _ _ _ (by omega), hG.l0]
        · rw [next_get6 _ _ _ _ _ (by omega), hG.l1]
        · intro d y hdd hy
          by_cases e : d = day
          · subst e; rw [hx] at hy; cases hy; rw [hday]; exact ⟨by omega, by omega⟩
          · rw [hag d (by omega)]; exact hG.dark d y (by omega) hy
        · intro d hdd
          rw [getD_next _ _ _ _ _ _ hG.len (by omega), if_neg (by omega), if_neg (by omega)]
          by_cases e : d = day
          · subst e; rw [if_pos rfl, hday]
          · rw [if_neg (by omega), hag d (by omega)]; exact hG.dks d (by omega)
        · intro d hdd
          rw [getD_next _ _ _ _ _ _ hG.len (by omega), if_neg (by omega)]
          by_cases e : d = day
          · subst e; rw [if_pos rfl]
          · rw [if_neg (by omega), if_neg (by omega), hrunE d (by omega)]; exact hG.a0 d (by omega)
        · intro d hdd
          rw [getD_next _ _ _ _ _ _ hG.len (by omega)]
          by_cases e : d = day
          · subst e; rw [if_pos rfl]
          · rw [if_neg (by omega), if_neg (by omega), if_neg (by omega), hrunE d (by omega)]; exact hG.a1 d (by omega)
        · intro d hdd
          by_cases e : d = day
          · subst e; rw [hrun1]; exact hro
          · rw [hrunE d (by omega)]; exact hG.right d (by omega)
      have hu' : u ∈ b.live b.comes but j (next t day (x.dark.lo + i) (b.run n0 f0 n1 f1 dk1 (day + 1)).1 (b.run n0 f0 n1 f1 dk1 (day + 1)).2) (b.run n0 f0 n1 f1 dk1 (day + 1)).1 (b.run n0 f0 n1 f1 dk1 (day + 1)).2 (day + 1) := by
        rw [hrun1]; exact hu
      obtain ⟨dk', ha, hg⟩ := live_good hv but n0 f0 n1 f1 j (day + 1) dk1 _ u (by omega) hG1 hu'
      exact ⟨dk', fun e he => by rw [ha e (by omega), hag e he], hg⟩
    · simp at hu

theorem truth_good {b : Book} (hv : b.sane = true) {but : List Int} {t : List Int} (ht : t ∈ b.truths but) : ∃ n0 f0 n1 f1 dk, b.s0.has n0 ∧ b.f0.has f0 ∧ b.s1.has n1 ∧ b.f1.has f1 ∧ Good b but n0 f0 n1 f1 dk b.days.length t := by
  rw [mem_truths] at ht
  obtain ⟨n0, f0, h0, h1, n1, f1, h2, h3, hl⟩ := ht
  obtain ⟨dk, -, hg⟩ := live_good hv but n0 f0 n1 f1 b.days.length 0 (fun _ => 0) (T0 f0 f1) t (by omega) ⟨rfl, rfl, rfl, fun _ _ h => absurd h (by omega), fun _ h => absurd h (by omega), fun _ h => absurd h (by omega), fun _ h => absurd h (by omega), fun _ h => absurd h (by omega)⟩ hl
  exact ⟨n0, f0, n1, f1, dk, h0, h1, h2, h3, hg⟩

theorem live_all {b : Book} (hv : b.sane = true) (but : List Int) (n0 f0 n1 f1 : Int) (dk : Nat → Int) (hdark : ∀ (d : Nat) (x : Day), b.days[d]? = some x → x.dark.has (dk d))
    (hright : ∀ d, d < b.days.length → b.rightOn but d (b.run n0 f0 n1 f1 dk (d + 1)).1 (b.run n0 f0 n1 f1 dk (d + 1)).2 = true) : ∀ (j day : Nat) (t : List Int), day + j = b.days.length → Good b but n0 f0 n1 f1 dk day t →
    ∃ u, u ∈ b.live b.comes but j t (b.run n0 f0 n1 f1 dk day).1 (b.run n0 f0 n1 f1 dk day).2 day ∧ Good b but n0 f0 n1 f1 dk b.days.length u
  | 0, day, t, hd, hG => by
    obtain rfl : day = b.days.length := by omega
    exact ⟨t, by simp [Book.live], hG⟩
  | j + 1, day, t, hd, hG => by
    have hvd := valid_days hv
    obtain ⟨x, hx⟩ : ∃ x, b.days[day]? = some x := ⟨_, List.getElem?_eq_getElem (by omega)⟩
    have hxd := (valid_day hv hx).2.1
    have hdx := hdark day x hx
    have hrun1 : b.run n0 f0 n1 f1 dk (day + 1) = (after1 (b.run n0 f0 n1 f1 dk day).1 (got2 b.comes 0 day) f0 x.l0 (min x.hours (dk day)), after1 (b.run n0 f0 n1 f1 dk day).2 (got2 b.comes 1 day) f1 x.l1 (min x.hours (dk day))) := by
      simp only [Book.run, hx]
    have hG1 : Good b but n0 f0 n1 f1 dk (day + 1) (next t day (dk day) (b.run n0 f0 n1 f1 dk (day + 1)).1 (b.run n0 f0 n1 f1 dk (day + 1)).2) := by
      refine ⟨by rw [next_len, hG.len], ?_, ?_, fun d y _ hy => hdark d y hy, ?_, ?_, ?_, fun d hdd => hright d (by omega)⟩
      · rw [next_get5 _ _ _ _ _ (by omega), hG.l0]
      · rw [next_get6 _ _ _ _ _ (by omega), hG.l1]
      · intro d hdd
        rw [getD_next _ _ _ _ _ _ hG.len (by omega), if_neg (by omega), if_neg (by omega)]
        by_cases e : d = day
        · subst e; rw [if_pos rfl]
        · rw [if_neg (by omega)]; exact hG.dks d (by omega)
      · intro d hdd
        rw [getD_next _ _ _ _ _ _ hG.len (by omega), if_neg (by omega)]
        by_cases e : d = day
        · subst e; rw [if_pos rfl]
        · rw [if_neg (by omega), if_neg (by omega)]; exact hG.a0 d (by omega)
      · intro d hdd
        rw [getD_next _ _ _ _ _ _ hG.len (by omega)]
        by_cases e : d = day
        · subst e; rw [if_pos rfl]
        · rw [if_neg (by omega), if_neg (by omega), if_neg (by omega)]; exact hG.a1 d (by omega)
    obtain ⟨u, hu, hg⟩ := live_all hv but n0 f0 n1 f1 dk hdark hright j (day + 1) _ (by omega) hG1
    refine ⟨u, ?_, hg⟩
    simp only [Book.live, hx, List.mem_flatMap, List.mem_range]
    have h1 := hdx.1
    have h2 := hdx.2
    refine ⟨(dk day - x.dark.lo).toNat, by omega, ?_⟩
    have e : x.dark.lo + ((dk day - x.dark.lo).toNat : Int) = dk day := by omega
    have hr := hright day (by omega)
    rw [hrun1] at hr hu
    rw [hG.l0, hG.l1, e, if_pos hr]
    exact hu

theorem truth_all {b : Book} (hv : b.sane = true) (but : List Int) {n0 f0 n1 f1 : Int} {dk : Nat → Int} (h0 : b.s0.has n0) (h1 : b.f0.has f0) (h2 : b.s1.has n1) (h3 : b.f1.has f1) (hdark : ∀ (d : Nat) (x : Day), b.days[d]? = some x → x.dark.has (dk d))
    (hright : ∀ d, d < b.days.length → b.rightOn but d (b.run n0 f0 n1 f1 dk (d + 1)).1 (b.run n0 f0 n1 f1 dk (d + 1)).2 = true) : ∃ t, t ∈ b.truths but ∧ Good b but n0 f0 n1 f1 dk b.days.length t := by
  obtain ⟨u, hu, hg⟩ := live_all hv but n0 f0 n1 f1 dk hdark hright b.days.length 0 (T0 f0 f1) (by omega) ⟨rfl, rfl, rfl, fun _ _ h => absurd h (by omega), fun _ h => absurd h (by omega), fun _ h => absurd h (by omega), fun _ h => absurd h (by omega), fun _ h => absurd h (by omega)⟩
  exact ⟨u, by rw [mem_truths]; exact ⟨n0, f0, h0, h1, n1, f1, h2, h3, hu⟩, hg⟩

theorem run_bound {b : Book} (hv : b.sane = true) {n0 f0 n1 f1 : Int} {dk : Nat → Int} (h0 : b.s0.has n0) (h1 : b.f0.has f0) (h2 : b.s1.has n1) (h3 : b.f1.has f1) (hdark : ∀ (d : Nat) (x : Day), b.days[d]? = some x → x.dark.has (dk d)) :
    ∀ (d : Nat), (-54 * d ≤ (b.run n0 f0 n1 f1 dk d).1 ∧ (b.run n0 f0 n1 f1 dk d).1 ≤ 60 + 240 * d) ∧ (-54 * d ≤ (b.run n0 f0 n1 f1 dk d).2 ∧ (b.run n0 f0 n1 f1 dk d).2 ≤ 60 + 240 * d)
  | 0 => by
    have hs := valid_spans hv
    have a := h0.1; have a' := h0.2; have c := h2.1; have c' := h2.2
    simp only [Book.run]; omega
  | d + 1 => by
    have ih := run_bound hv h0 h1 h2 h3 hdark d
    simp only [Book.run]
    cases hx : b.days[d]? with
    | none => simp only; omega
    | some x =>
      have hvx := valid_day hv hx
      have hs := valid_spans hv
      have hdx := hdark d x hx
      have a := h1.1; have a' := h1.2; have c := h3.1; have c' := h3.2; have e := hdx.1; have e' := hdx.2
      have hb0 := burnt_bound f0 x.l0 (min x.hours (dk d)) (by omega) (by omega) hvx.2.2.1
      have hb1 := burnt_bound f1 x.l1 (min x.hours (dk d)) (by omega) (by omega) hvx.2.2.2
      have hc (k d : Int) : 0 ≤ got2 b.comes k d ∧ got2 b.comes k d ≤ 240 := by
        have := comesN_bound hv b.orders.length (Nat.le_refl _) k d
        rw [comesN_all] at this
        have := valid_days hv; omega
      have hc0 := hc 0 d
      have hc1 := hc 1 d
      simp only [after1]
      omega
end Go.Pm.Cd

namespace Go.Pm.Cd
open Ac
set_option maxRecDepth 100000
set_option linter.unusedSimpArgs false
set_option linter.unusedSectionVars false
set_option linter.unusedVariables false

theorem span_fold (f : List Int → Int) : ∀ (ts : List (List Int)) (a : Int × Int), (∀ t, t ∈ ts → (ts.foldl (fun a t => (min a.1 (f t), max a.2 (f t))) a).1 ≤ f t ∧ f t ≤ (ts.foldl (fun a t => (min a.1 (f t), max a.2 (f t))) a).2) ∧
    (ts.foldl (fun a t => (min a.1 (f t), max a.2 (f t))) a).1 ≤ a.1 ∧ a.2 ≤ (ts.foldl (fun a t => (min a.1 (f t), max a.2 (f t))) a).2 ∧
    ((ts.foldl (fun a t => (min a.1 (f t), max a.2 (f t))) a).1 = a.1 ∨ ∃ t, t ∈ ts ∧ (ts.foldl (fun a t => (min a.1 (f t), max a.2 (f t))) a).1 = f t) ∧
    ((ts.foldl (fun a t => (min a.1 (f t), max a.2 (f t))) a).2 = a.2 ∨ ∃ t, t ∈ ts ∧ (ts.foldl (fun a t => (min a.1 (f t), max a.2 (f t))) a).2 = f t)
  | [], a => by simp
  | u :: ts, a => by
    obtain ⟨h1, h2, h3, h4, h5⟩ := span_fold f ts (min a.1 (f u), max a.2 (f u))
    simp only [List.foldl_cons]
    generalize List.foldl _ _ ts = r at h1 h2 h3 h4 h5 ⊢
    simp only at h2 h3 h4 h5
    refine ⟨?_, by clear h4 h5; omega, by clear h4 h5; omega, ?_, ?_⟩
    · clear h4 h5
      intro t ht
      rcases List.mem_cons.1 ht with rfl | ht
      · omega
      · exact h1 t ht
    · clear h5
      rcases h4 with h4 | ⟨t, ht, h4⟩
      · by_cases e : a.1 ≤ f u
        · exact .inl (by omega)
        · exact .inr ⟨u, by simp, by omega⟩
      · exact .inr ⟨t, by simp [ht], h4⟩
    · clear h4
      rcases h5 with h5 | ⟨t, ht, h5⟩
      · by_cases e : f u ≤ a.2
        · exact .inl (by omega)
        · exact .inr ⟨u, by simp, by omega⟩
      · exact .inr ⟨t, by simp [ht], h5⟩

theorem span_le (f : List Int → Int) (ts : List (List Int)) {t : List Int} (ht : t ∈ ts) : (spanOf f ts).1 ≤ f t ∧ f t ≤ (spanOf f ts).2 := by
  cases ts with
  | nil => cases ht
  | cons u ts => exact (span_fold f (u :: ts) (f u, f u)).1 t ht
theorem span_lo (f : List Int → Int) (ts : List (List Int)) (h : ts ≠ []) : ∃ t, t ∈ ts ∧ (spanOf f ts).1 = f t := by
  cases ts with
  | nil => exact absurd rfl h
  | cons u ts =>
    rcases (span_fold f (u :: ts) (f u, f u)).2.2.2.1 with h | h
    · exact ⟨u, by simp, h⟩
    · exact h
theorem span_hi (f : List Int → Int) (ts : List (List Int)) (h : ts ≠ []) : ∃ t, t ∈ ts ∧ (spanOf f ts).2 = f t := by
  cases ts with
  | nil => exact absurd rfl h
  | cons u ts =>
    rcases (span_fold f (u :: ts) (f u, f u)).2.2.2.2 with h | h
    · exact ⟨u, by simp, h⟩
    · exact h

theorem left_bound {b : Book} (hv : b.sane = true) {but : List Int} {t : List Int} (ht : t ∈ b.truths but) (kind day : Int) (hk : 0 ≤ kind ∧ kind ≤ 1) (hd : 0 ≤ day ∧ day < b.days.length) : -300 ≤ tLeft kind day t ∧ tLeft kind day t ≤ 1300 := by
  obtain ⟨n0, f0, n1, f1, dk, h0, h1, h2, h3, hG⟩ := truth_good hv ht
  have hvd := valid_days hv
  have hlt : day.toNat < b.days.length := by omega
  have hB := run_bound (n0 := n0) (f0 := f0) (n1 := n1) (f1 := f1) (dk := fun d => if d < b.days.length then dk d else 0) hv h0 h1 h2 h3 (fun d x hx => by
    have hd := (List.getElem?_eq_some_iff.1 hx).1
    rw [if_pos hd]; exact hG.dark d x hd hx) (day.toNat + 1)
  rw [run_agree b n0 f0 n1 f1 _ dk (day.toNat + 1) (fun e he => by rw [if_pos (by omega)])] at hB
  have ha := hG.a0 day.toNat hlt
  have hc := hG.a1 day.toNat hlt
  have hk' : kind = 0 ∨ kind = 1 := by omega
  rcases hk' with rfl | rfl
  · simp only [tLeft, Int.toNat_zero, Nat.add_zero]
    rw [ha]; omega
  · have e : 7 + day.toNat * 2 + (1 : Int).toNat = 7 + (day.toNat * 2 + 1) := by simp; omega
    simp only [tLeft]
    rw [e, hc]; omega

theorem span_bound {b : Book} (hv : b.sane = true) {but : List Int} (hts : b.truths but ≠ []) (kind day : Int) (hk : 0 ≤ kind ∧ kind ≤ 1) (hd : 0 ≤ day ∧ day < b.days.length) :
    (-300 ≤ (spanOf (tLeft kind day) (b.truths but)).1 ∧ (spanOf (tLeft kind day) (b.truths but)).1 ≤ 1300) ∧ (-300 ≤ (spanOf (tLeft kind day) (b.truths but)).2 ∧ (spanOf (tLeft kind day) (b.truths but)).2 ≤ 1300) := by
  obtain ⟨t, ht, e⟩ := span_lo (tLeft kind day) (b.truths but) hts
  obtain ⟨u, hu, e'⟩ := span_hi (tLeft kind day) (b.truths but) hts
  rw [e, e']
  exact ⟨left_bound hv ht kind day hk hd, left_bound hv hu kind day hk hd⟩

def Book.buyN (b : Book) (kind day : Int) (i : Nat) : Int := (List.range i).foldl (fun m (j : Nat) => max m (-(spanOf (tLeft kind (day + j)) (b.truths [])).1)) 0
def Book.buy (b : Book) (kind day : Int) : Int × Int :=
  if b.askE (isKind kind && b.isDay day) = 0 then (b.buyN kind day (b.days.length - day).toNat, 0) else (0, b.askE (isKind kind && b.isDay day))

section
variable {Γ : Env} [P06 Γ] [G06 Γ]

theorem buy_L0 (b : Book) [hb : b.Fits] (hv : b.sane = true) (ht : b.truths [] ≠ []) (kind day : Int) (hk : 0 ≤ kind ∧ kind ≤ 1) (hd : 0 ≤ day ∧ day ≤ b.days.length - 1) {β : Type} (Q : Ex → St → Option β) :
    E Γ candle_Buy_L0 ⟨[(1, vi kind), (3, .sc (.ptr 0 0)), (8, .sc (.ptr 1 0)), (10, vi 0), (11, vi day)], [.var b.c, .var (b.open13 [])]⟩ Q =
      Q (.exit 0) ⟨[(1, vi kind), (3, .sc (.ptr 0 0)), (8, .sc (.ptr 1 0)), (10, vi (b.buyN kind day (b.days.length - day).toNat)), (11, vi b.days.length), (32, vb false)], [.var b.c, .var (b.open13 [])]⟩ := by
  have hdl := valid_days hv
  refine E_countS (b.days.length - day).toNat (fun i (_ : Unit) => ⟨[(1, vi kind), (3, .sc (.ptr 0 0)), (8, .sc (.ptr 1 0)), (10, vi (b.buyN kind day i)), (11, vi (day + (i : Nat)))], [.var b.c, .var (b.open13 [])]⟩) (fun _ _ => True)
    (fun _ => (.exit 0, ⟨[(1, vi kind), (3, .sc (.ptr 0 0)), (8, .sc (.ptr 1 0)), (10, vi (b.buyN kind day (b.days.length - day).toNat)), (11, vi b.days.length), (32, vb false)], [.var b.c, .var (b.open13 [])]⟩)) () ?_ trivial ?_ ?_ ?_
  · simp [Book.buyN]
  · intro i _ hi _
    refine ⟨(), trivial, ?_⟩
    have hlt : day + (i : Int) < b.days.length := by omega
    have hS := left_k (Γ := Γ) b hv [] ht kind (day + (i : Nat)) hk (by omega)
    have hB := span_bound hv ht kind (day + (i : Nat)) hk (by omega)
    have hiw : IntKind.i64.wrap (day + (i : Int) + 1) = day + (i + 1 : Nat) := by rw [wrap_i64 (by omega) (by omega)]; omega
    have hnw : IntKind.i64.wrap (0 - (spanOf (tLeft kind (day + (i : Nat))) (b.truths [])).1) = -(spanOf (tLeft kind (day + (i : Nat))) (b.truths [])).1 := by rw [wrap_i64 (by omega) (by omega)]; omega
    have hN : b.buyN kind day (i + 1) = max (b.buyN kind day i) (-(spanOf (tLeft kind (day + (i : Nat))) (b.truths [])).1) := by simp [Book.buyN, List.range_succ]
    rw [hN]
    (simp only [go_sem, simprocAttr, candle_Buy_B0, hS, hiw, hnw]; repeat' (first | ((first | (refine br_yes (by omega) ?_) | (refine br_no (by omega) ?_) | (apply br_all; (· simp only [Bool.and_eq_true, decide_eq_true_eq]; omega)) | (apply br_free; (· simp [go_sem, Pm.acc, Acc.free, refsOf, keyEq, tagEq, cellsEq, cellEq]; done)) | ((first | apply br_mergeT | apply br_mergeF); (· intro h; simp only [go_sem, simprocAttr, sel_of h, candle_Buy_B0, hS, hiw, hnw]; exact rfl))); (try simp only [go_sem, simprocAttr, candle_Buy_B0, hS, hiw, hnw])) | ((first | apply onGuard_sel | (apply pickV_split; apply br_split) | apply br_split) <;> intro h <;> (try simp only [go_sem, simprocAttr, h, candle_Buy_B0, hS, hiw, hnw]))))
  · intro _ _
    have hm : day + ((b.days.length - day).toNat : Int) = b.days.length := by omega
    simp only [hm]
    (simp only [go_sem, simprocAttr, candle_Buy_B0]; repeat' (first | ((first | (refine br_yes (by omega) ?_) | (refine br_no (by omega) ?_) | (apply br_all; (· simp only [Bool.and_eq_true, decide_eq_true_eq]; omega)) | (apply br_free; (· simp [go_sem, Pm.acc, Acc.free, refsOf, keyEq, tagEq, cellsEq, cellEq]; done)) | ((first | apply br_mergeT | apply br_mergeF); (· intro h; simp only [go_sem, simprocAttr, sel_of h, candle_Buy_B0]; exact rfl))); (try simp only [go_sem, simprocAttr, candle_Buy_B0])) | ((first | apply onGuard_sel | (apply pickV_split; apply br_split) | apply br_split) <;> intro h <;> (try simp only [go_sem, simprocAttr, h, candle_Buy_B0]))))
  · intro _ _
    rfl

@[go_sem] theorem Buy_k (b : Book) [hb : b.Fits] (kind day : Int) : K Γ (.fn 17) [.agg b.c, vi kind, vi day] [] = some (.tup [vi (b.buy kind day).1, vi (b.buy kind day).2], []) := by
  rw [K_fn P06.f17 _ _ rfl]
  simp only [isKind, Book.isDay, Book.askE, Book.buy]
  rcases Bool.eq_false_or_eq_true b.valid with hv | hv
  rotate_left
  · have hA (is : Bool) := asked_bad (Γ := Γ) b hv is
    simp only [Z13] at hA
    (simp only [go_sem, simprocAttr, candle_Buy, hA, hv, Bool.false_eq_true]; repeat' (first | ((first | (refine br_yes (by omega) ?_) | (refine br_no (by omega) ?_) | (apply br_all; (· simp only [Bool.and_eq_true, decide_eq_true_eq]; omega)) | (apply br_free; (· simp [go_sem, Pm.acc, Acc.free, refsOf, keyEq, tagEq, cellsEq, cellEq]; done)) | ((first | apply br_mergeT | apply br_mergeF); (· intro h; simp only [go_sem, simprocAttr, sel_of h, candle_Buy, hA, hv, Bool.false_eq_true]; exact rfl))); (try simp only [go_sem, simprocAttr, candle_Buy, hA, hv, Bool.false_eq_true])) | ((first | apply onGuard_sel | (apply pickV_split; apply br_split) | apply br_split) <;> intro h <;> (try simp only [go_sem, simprocAttr, h, candle_Buy, hA, hv, Bool.false_eq_true]))))
  · have hA := asked_ask (Γ := Γ) b hv
    simp only [Z13] at hA
    rcases Bool.eq_false_or_eq_true (within kind 0 1) with hk | hk
    rotate_left
    · (simp only [go_sem, simprocAttr, candle_Buy, hA, hv, hk, Bool.false_and, Bool.false_eq_true]; repeat' (first | ((first | (refine br_yes (by omega) ?_) | (refine br_no (by omega) ?_) | (apply br_all; (· simp only [Bool.and_eq_true, decide_eq_true_eq]; omega)) | (apply br_free; (· simp [go_sem, Pm.acc, Acc.free, refsOf, keyEq, tagEq, cellsEq, cellEq]; done)) | ((first | apply br_mergeT | apply br_mergeF); (· intro h; simp only [go_sem, simprocAttr, sel_of h, candle_Buy, hA, hv, hk, Bool.false_and, Bool.false_eq_true]; exact rfl))); (try simp only [go_sem, simprocAttr, candle_Buy, hA, hv, hk, Bool.false_and, Bool.false_eq_true])) | ((first | apply onGuard_sel | (apply pickV_split; apply br_split) | apply br_split) <;> intro h <;> (try simp only [go_sem, simprocAttr, h, candle_Buy, hA, hv, hk, Bool.false_and, Bool.false_eq_true]))))
    · rcases Bool.eq_false_or_eq_true (within day 0 (b.days.length - 1)) with hd | hd
      rotate_left
      · (simp only [go_sem, simprocAttr, candle_Buy, hA, hv, hk, hd, Bool.false_eq_true]; repeat' (first | ((first | (refine br_yes (by omega) ?_) | (refine br_no (by omega) ?_) | (apply br_all; (· simp only [Bool.and_eq_true, decide_eq_true_eq]; omega)) | (apply br_free; (· simp [go_sem, Pm.acc, Acc.free, refsOf, keyEq, tagEq, cellsEq, cellEq]; done)) | ((first | apply br_mergeT | apply br_mergeF); (· intro h; simp only [go_sem, simprocAttr, sel_of h, candle_Buy, hA, hv, hk, hd, Bool.false_eq_true]; exact rfl))); (try simp only [go_sem, simprocAttr, candle_Buy, hA, hv, hk, hd, Bool.false_eq_true])) | ((first | apply onGuard_sel | (apply pickV_split; apply br_split) | apply br_split) <;> intro h <;> (try simp only [go_sem, simprocAttr, h, candle_Buy, hA, hv, hk, hd, Bool.false_eq_true]))))
      · have hk' := (within_iff _ _ _).1 hk
        have hd' := (within_iff _ _ _).1 hd
        by_cases ht : b.truths [] = []
        · have hN := asked_no (Γ := Γ) b hv ht
          (simp only [go_sem, simprocAttr, candle_Buy, hN, hv, hk, hd, ht]; repeat' (first | ((first | (refine br_yes (by omega) ?_) | (refine br_no (by omega) ?_) | (apply br_all; (· simp only [Bool.and_eq_true, decide_eq_true_eq]; omega)) | (apply br_free; (· simp [go_sem, Pm.acc, Acc.free, refsOf, keyEq, tagEq, cellsEq, cellEq]; done)) | ((first | apply br_mergeT | apply br_mergeF); (· intro h; simp only [go_sem, simprocAttr, sel_of h, candle_Buy, hN, hv, hk, hd, ht]; exact rfl))); (try simp only [go_sem, simprocAttr, candle_Buy, hN, hv, hk, hd, ht])) | ((first | apply onGuard_sel | (apply pickV_split; apply br_split) | apply br_split) <;> intro h <;> (try simp only [go_sem, simprocAttr, h, candle_Buy, hN, hv, hk, hd, ht]))))
        · have hN := asked_ok (Γ := Γ) b hv ht
          have hL {β : Type} (Q : Ex → St → Option β) := buy_L0 (Γ := Γ) b (sane_of_valid hv) ht kind day hk' hd' Q
          (simp only [go_sem, simprocAttr, candle_Buy, hN, hv, hk, hd, ht, hL]; repeat' (first | ((first | (refine br_yes (by omega) ?_) | (refine br_no (by omega) ?_) | (apply br_all; (· simp only [Bool.and_eq_true, decide_eq_true_eq]; omega)) | (apply br_free; (· simp [go_sem, Pm.acc, Acc.free, refsOf, keyEq, tagEq, cellsEq, cellEq]; done)) | ((first | apply br_mergeT | apply br_mergeF); (· intro h; simp only [go_sem, simprocAttr, sel_of h, candle_Buy, hN, hv, hk, hd, ht, hL]; exact rfl))); (try simp only [go_sem, simprocAttr, candle_Buy, hN, hv, hk, hd, ht, hL])) | ((first | apply onGuard_sel | (apply pickV_split; apply br_split) | apply br_split) <;> intro h <;> (try simp only [go_sem, simprocAttr, h, candle_Buy, hN, hv, hk, hd, ht, hL]))))
end
end Go.Pm.Cd

namespace Go.Pm.Cd
open Ac
set_option maxRecDepth 100000
set_option linter.unusedSimpArgs false
set_option linter.unusedSectionVars false
set_option linter.unusedVariables false

def turn (n below : Int) : Int := if below < 1 then 0 else if n.tmod below < 0 then n.tmod below + below else n.tmod below
theorem turn_lt (n below : Int) (h : 1 ≤ below) : 0 ≤ turn n below ∧ turn n below < below := by
  have h1 := Int.tmod_lt_of_pos n (show 0 < below by omega)
  have h2 : -below < n.tmod below := by
    have := Int.tmod_lt_of_pos (-n) (show 0 < below by omega)
    rw [Int.neg_tmod] at this; omega
  unfold turn
  rw [if_neg (by omega)]
  split <;> omega
def nth (l : List Int) (n : Int) : Int := if l = [] then 0 else l.getD (turn n l.length).toNat 0
def drawn (s : Span) (n : Int) : Int := s.lo + turn n (s.hi - s.lo + 1)

section
variable {Γ : Env} [P06 Γ] [G06 Γ]

@[go_sem] theorem Lies_k (a b c : Int) : K Γ (.fn 29) [vi a, vi b, vi c] [] = some (vb (within a b c), []) := by
  rw [K_fn P06.f29 _ _ rfl]
  (simp only [go_sem, simprocAttr, decaniref00_Lies]; repeat' (first | ((first | (refine br_yes (by omega) ?_) | (refine br_no (by omega) ?_) | (apply br_all; (· simp only [Bool.and_eq_true, decide_eq_true_eq]; omega)) | (apply br_free; (· simp [go_sem, Pm.acc, Acc.free, refsOf, keyEq, tagEq, cellsEq, cellEq]; done)) | ((first | apply br_mergeT | apply br_mergeF); (· intro h; simp only [go_sem, simprocAttr, sel_of h, decaniref00_Lies]; exact rfl))); (try simp only [go_sem, simprocAttr, decaniref00_Lies])) | ((first | apply onGuard_sel | (apply pickV_split; apply br_split) | apply br_split) <;> intro h <;> (try simp only [go_sem, simprocAttr, h, decaniref00_Lies]))))
  all_goals (simp_all [within]; try (intros; omega))
@[go_sem] theorem Bounds_k (a b : Int) : K Γ (.fn 33) [vi a, vi b] [] = some (.agg [ci a, ci b], []) := by
  rw [K_fn P06.f33 _ _ rfl]
  (simp only [go_sem, simprocAttr, decaniref00_Bounds]; repeat' (first | ((first | (refine br_yes (by omega) ?_) | (refine br_no (by omega) ?_) | (apply br_all; (· simp only [Bool.and_eq_true, decide_eq_true_eq]; omega)) | (apply br_free; (· simp [go_sem, Pm.acc, Acc.free, refsOf, keyEq, tagEq, cellsEq, cellEq]; done)) | ((first | apply br_mergeT | apply br_mergeF); (· intro h; simp only [go_sem, simprocAttr, sel_of h, decaniref00_Bounds]; exact rfl))); (try simp only [go_sem, simprocAttr, decaniref00_Bounds])) | ((first | apply onGuard_sel | (apply pickV_split; apply br_split) | apply br_split) <;> intro h <;> (try simp only [go_sem, simprocAttr, h, decaniref00_Bounds]))))
@[go_sem] theorem Only_k (a : Int) : K Γ (.fn 30) [vi a] [] = some (.agg [ci a, ci a], []) := by
  rw [K_fn P06.f30 _ _ rfl]
  (simp only [go_sem, simprocAttr, decaniref00_Only]; repeat' (first | ((first | (refine br_yes (by omega) ?_) | (refine br_no (by omega) ?_) | (apply br_all; (· simp only [Bool.and_eq_true, decide_eq_true_eq]; omega)) | (apply br_free; (· simp [go_sem, Pm.acc, Acc.free, refsOf, keyEq, tagEq, cellsEq, cellEq]; done)) | ((first | apply br_mergeT | apply br_mergeF); (· intro h; simp only [go_sem, simprocAttr, sel_of h, decaniref00_Only]; exact rfl))); (try simp only [go_sem, simprocAttr, decaniref00_Only])) | ((first | apply onGuard_sel | (apply pickV_split; apply br_split) | apply br_split) <;> intro h <;> (try simp only [go_sem, simprocAttr, h, decaniref00_Only]))))
@[go_sem] theorem Covers_k (a b n : Int) : K Γ (.fn 28) [.agg [ci a, ci b], vi n] [] = some (vb (within n a b), []) := by
  rw [K_fn P06.f28 _ _ rfl]
  (simp only [go_sem, simprocAttr, decaniref00_Covers]; repeat' (first | ((first | (refine br_yes (by omega) ?_) | (refine br_no (by omega) ?_) | (apply br_all; (· simp only [Bool.and_eq_true, decide_eq_true_eq]; omega)) | (apply br_free; (· simp [go_sem, Pm.acc, Acc.free, refsOf, keyEq, tagEq, cellsEq, cellEq]; done)) | ((first | apply br_mergeT | apply br_mergeF); (· intro h; simp only [go_sem, simprocAttr, sel_of h, decaniref00_Covers]; exact rfl))); (try simp only [go_sem, simprocAttr, decaniref00_Covers])) | ((first | apply onGuard_sel | (apply pickV_split; apply br_split) | apply br_split) <;> intro h <;> (try simp only [go_sem, simprocAttr, h, decaniref00_Covers]))))
@[go_sem] theorem Under_k (a b c d : Int) : K Γ (.fn 31) [.agg [ci a, ci b], .agg [ci c, ci d]] [] = some (vb (decide (c ≤ a) && decide (b ≤ d)), []) := by
  rw [K_fn P06.f31 _ _ rfl]
  (simp only [go_sem, simprocAttr, decaniref00_Under]; repeat' (first | ((first | (refine br_yes (by omega) ?_) | (refine br_no (by omega) ?_) | (apply br_all; (· simp only [Bool.and_eq_true, decide_eq_true_eq]; omega)) | (apply br_free; (· simp [go_sem, Pm.acc, Acc.free, refsOf, keyEq, tagEq, cellsEq, cellEq]; done)) | ((first | apply br_mergeT | apply br_mergeF); (· intro h; simp only [go_sem, simprocAttr, sel_of h, decaniref00_Under]; exact rfl))); (try simp only [go_sem, simprocAttr, decaniref00_Under])) | ((first | apply onGuard_sel | (apply pickV_split; apply br_split) | apply br_split) <;> intro h <;> (try simp only [go_sem, simprocAttr, h, decaniref00_Under]))))
theorem Fair_k (s : Span) (low high wide : Int) (hl : 0 ≤ low) (hh : high ≤ 1000) :
    K Γ (.fn 49) [.agg [ci s.lo, ci s.hi], vi low, vi high, vi wide] [] = some (vb (s.is low high wide), []) := by
  rw [K_fn P06.f49 _ _ rfl]
  (simp only [go_sem, simprocAttr, decaniref00_Fair]; repeat' (first | ((first | (refine br_yes (by omega) ?_) | (refine br_no (by omega) ?_) | (apply br_all; (· simp only [Bool.and_eq_true, decide_eq_true_eq]; omega)) | (apply br_free; (· simp [go_sem, Pm.acc, Acc.free, refsOf, keyEq, tagEq, cellsEq, cellEq]; done)) | ((first | apply br_mergeT | apply br_mergeF); (· intro h; simp only [go_sem, simprocAttr, sel_of h, decaniref00_Fair]; exact rfl))); (try simp only [go_sem, simprocAttr, decaniref00_Fair])) | ((first | apply onGuard_sel | (apply pickV_split; apply br_split) | apply br_split) <;> intro h <;> (try simp only [go_sem, simprocAttr, h, decaniref00_Fair]))))
  by_cases h : low ≤ s.lo ∧ s.lo ≤ s.hi ∧ s.hi ≤ high
  · rw [wrap_i64 (by omega) (by omega)]; rfl
  · simp only [Span.is]
    have e : (decide (low ≤ s.lo) && decide (s.lo ≤ s.hi) && decide (s.hi ≤ high)) = false := by
      rw [Bool.eq_false_iff]; intro e; simp only [Bool.and_eq_true, decide_eq_true_eq] at e; omega
    simp only [e, Bool.false_and]
@[go_sem] theorem Fair_k1 (s : Span) : K Γ (.fn 49) [.agg [ci s.lo, ci s.hi], vi 0, vi 60, vi 2] [] = some (vb (s.is 0 60 2), []) := Fair_k s _ _ _ (by decide) (by decide)
@[go_sem] theorem Fair_k2 (s : Span) : K Γ (.fn 49) [.agg [ci s.lo, ci s.hi], vi 1, vi 6, vi 1] [] = some (vb (s.is 1 6 1), []) := Fair_k s _ _ _ (by decide) (by decide)
@[go_sem] theorem Fair_k3 (s : Span) : K Γ (.fn 49) [.agg [ci s.lo, ci s.hi], vi 0, vi 6, vi 2] [] = some (vb (s.is 0 6 2), []) := Fair_k s _ _ _ (by decide) (by decide)

@[go_sem] theorem Turn_k (n below : Int) (hb : below ≤ 1000000) : K Γ (.fn 27) [vi n, vi below] [] = some (vi (turn n below), []) := by
  rw [K_fn P06.f27 _ _ rfl]
  by_cases h : below < 1
  · have hd := decide_eq_true h
    (simp only [go_sem, simprocAttr, decaniref00_Turn, hd, turn, h]; repeat' (first | ((first | (refine br_yes (by omega) ?_) | (refine br_no (by omega) ?_) | (apply br_all; (· simp only [Bool.and_eq_true, decide_eq_true_eq]; omega)) | (apply br_free; (· simp [go_sem, Pm.acc, Acc.free, refsOf, keyEq, tagEq, cellsEq, cellEq]; done)) | ((first | apply br_mergeT | apply br_mergeF); (· intro h; simp only [go_sem, simprocAttr, sel_of h, decaniref00_Turn, hd, turn, h]; exact rfl))); (try simp only [go_sem, simprocAttr, decaniref00_Turn, hd, turn, h])) | ((first | apply onGuard_sel | (apply pickV_split; apply br_split) | apply br_split) <;> intro h <;> (try simp only [go_sem, simprocAttr, h, decaniref00_Turn, hd, turn, h]))))
  · have hd := decide_eq_false h
    have hz : decide (below = 0) = false := decide_eq_false (by omega)
    have h1 := Int.tmod_lt_of_pos n (show 0 < below by omega)
    have h2 : -below < n.tmod below := by
      have := Int.tmod_lt_of_pos (-n) (show 0 < below by omega)
      rw [Int.neg_tmod] at this; omega
    have hw : IntKind.i64.wrap (n.tmod below + below) = n.tmod below + below := wrap_i64 (by omega) (by omega)
    by_cases hneg : n.tmod below < 0
    · have hd2 := decide_eq_true hneg
      (simp only [go_sem, simprocAttr, decaniref00_Turn, hd, hz, hd2, hw, turn, h, hneg]; repeat' (first | ((first | (refine br_yes (by omega) ?_) | (refine br_no (by omega) ?_) | (apply br_all; (· simp only [Bool.and_eq_true, decide_eq_true_eq]; omega)) | (apply br_free; (· simp [go_sem, Pm.acc, Acc.free, refsOf, keyEq, tagEq, cellsEq, cellEq]; done)) | ((first | apply br_mergeT | apply br_mergeF); (· intro h; simp only [go_sem, simprocAttr, sel_of h, decaniref00_Turn, hd, hz, hd2, hw, turn, h, hneg]; exact rfl))); (try simp only [go_sem, simprocAttr, decaniref00_Turn, hd, hz, hd2, hw, turn, h, hneg])) | ((first | apply onGuard_sel | (apply pickV_split; apply br_split) | apply br_split) <;> intro h <;> (try simp only [go_sem, simprocAttr, h, decaniref00_Turn, hd, hz, hd2, hw, turn, h, hneg]))))
    · have hd2 := decide_eq_false hneg
      (simp only [go_sem, simprocAttr, decaniref00_Turn, hd, hz, hd2, hw, turn, h, hneg]; repeat' (first | ((first | (refine br_yes (by omega) ?_) | (refine br_no (by omega) ?_) | (apply br_all; (· simp only [Bool.and_eq_true, decide_eq_true_eq]; omega)) | (apply br_free; (· simp [go_sem, Pm.acc, Acc.free, refsOf, keyEq, tagEq, cellsEq, cellEq]; done)) | ((first | apply br_mergeT | apply br_mergeF); (· intro h; simp only [go_sem, simprocAttr, sel_of h, decaniref00_Turn, hd, hz, hd2, hw, turn, h, hneg]; exact rfl))); (try simp only [go_sem, simprocAttr, decaniref00_Turn, hd, hz, hd2, hw, turn, h, hneg])) | ((first | apply onGuard_sel | (apply pickV_split; apply br_split) | apply br_split) <;> intro h <;> (try simp only [go_sem, simprocAttr, h, decaniref00_Turn, hd, hz, hd2, hw, turn, h, hneg]))))

@[go_sem] theorem Nth_k (k : SK) (l : List Int) (n : Int) (hl : l.length ≤ 1000000) : K Γ (.fn 63) [.sc (.sl k 1 (l.map fun x => [ci x])), vi n] [] = some (vi (nth l n), []) := by
  rw [K_fn P06.f63 _ _ rfl]
  by_cases h : l = []
  · subst h
    (simp only [go_sem, simprocAttr, decaniref00_Nth, nth, List.map_nil, List.length_nil]; repeat' (first | ((first | (refine br_yes (by omega) ?_) | (refine br_no (by omega) ?_) | (apply br_all; (· simp only [Bool.and_eq_true, decide_eq_true_eq]; omega)) | (apply br_free; (· simp [go_sem, Pm.acc, Acc.free, refsOf, keyEq, tagEq, cellsEq, cellEq]; done)) | ((first | apply br_mergeT | apply br_mergeF); (· intro h; simp only [go_sem, simprocAttr, sel_of h, decaniref00_Nth, nth, List.map_nil, List.length_nil]; exact rfl))); (try simp only [go_sem, simprocAttr, decaniref00_Nth, nth, List.map_nil, List.length_nil])) | ((first | apply onGuard_sel | (apply pickV_split; apply br_split) | apply br_split) <;> intro h <;> (try simp only [go_sem, simprocAttr, h, decaniref00_Nth, nth, List.map_nil, List.length_nil]))))
  · have hp : l.length ≠ 0 := fun e => h (List.length_eq_zero_iff.1 e)
    have hz : decide ((l.length : Int) = 0) = false := decide_eq_false (by omega)
    have ht := turn_lt n l.length (by omega)
    have hg : l[(turn n l.length).toNat]? = some (l.getD (turn n l.length).toNat 0) := by
      simp only [List.getD, List.getElem?_eq_getElem (show (turn n l.length).toNat < l.length by omega), Option.getD_some]
    have hle : (l.length : Int) ≤ 1000000 := by omega
    (simp only [go_sem, simprocAttr, decaniref00_Nth, hz, hle, hg, nth, h]; repeat' (first | ((first | (refine br_yes (by omega) ?_) | (refine br_no (by omega) ?_) | (apply br_all; (· simp only [Bool.and_eq_true, decide_eq_true_eq]; omega)) | (apply br_free; (· simp [go_sem, Pm.acc, Acc.free, refsOf, keyEq, tagEq, cellsEq, cellEq]; done)) | ((first | apply br_mergeT | apply br_mergeF); (· intro h; simp only [go_sem, simprocAttr, sel_of h, decaniref00_Nth, hz, hle, hg, nth, h]; exact rfl))); (try simp only [go_sem, simprocAttr, decaniref00_Nth, hz, hle, hg, nth, h])) | ((first | apply onGuard_sel | (apply pickV_split; apply br_split) | apply br_split) <;> intro h <;> (try simp only [go_sem, simprocAttr, h, decaniref00_Nth, hz, hle, hg, nth, h]))))

@[go_sem] theorem Draw_k (s : Span) (n : Int) (hs : -1000 ≤ s.lo ∧ s.lo ≤ 1000) (hh : -1000 ≤ s.hi ∧ s.hi ≤ 1000) : K Γ (.fn 64) [.agg [ci s.lo, ci s.hi], vi n] [] = some (vi (drawn s n), []) := by
  have hw : IntKind.i64.wrap (IntKind.i64.wrap (s.hi - s.lo) + 1) = s.hi - s.lo + 1 := by
    rw [wrap_i64 (x := s.hi - s.lo) (by omega) (by omega), wrap_i64 (by omega) (by omega)]
  have hle : s.hi - s.lo + 1 ≤ 1000000 := by omega
  have hb : -10000 ≤ turn n (s.hi - s.lo + 1) ∧ turn n (s.hi - s.lo + 1) ≤ 10000 := by
    by_cases h : 1 ≤ s.hi - s.lo + 1
    · have := turn_lt n _ h; omega
    · simp only [turn, if_pos (show s.hi - s.lo + 1 < 1 by omega)]; omega
  have hw2 : IntKind.i64.wrap (s.lo + turn n (s.hi - s.lo + 1)) = s.lo + turn n (s.hi - s.lo + 1) := wrap_i64 (by omega) (by omega)
  rw [K_fn P06.f64 _ _ rfl]
  (simp only [go_sem, simprocAttr, decaniref00_Draw, hw, hle, hw2, drawn]; repeat' (first | ((first | (refine br_yes (by omega) ?_) | (refine br_no (by omega) ?_) | (apply br_all; (· simp only [Bool.and_eq_true, decide_eq_true_eq]; omega)) | (apply br_free; (· simp [go_sem, Pm.acc, Acc.free, refsOf, keyEq, tagEq, cellsEq, cellEq]; done)) | ((first | apply br_mergeT | apply br_mergeF); (· intro h; simp only [go_sem, simprocAttr, sel_of h, decaniref00_Draw, hw, hle, hw2, drawn]; exact rfl))); (try simp only [go_sem, simprocAttr, decaniref00_Draw, hw, hle, hw2, drawn])) | ((first | apply onGuard_sel | (apply pickV_split; apply br_split) | apply br_split) <;> intro h <;> (try simp only [go_sem, simprocAttr, h, decaniref00_Draw, hw, hle, hw2, drawn]))))

def litB (k : SK) (cs : List Count) : Book := ⟨⟨10, 11⟩, ⟨30, 30⟩, ⟨2, 3⟩, ⟨4, 4⟩, .full, [⟨4, ⟨3, 4⟩, 2, 6⟩, ⟨3, ⟨5, 5⟩, 2, 6⟩, ⟨6, ⟨4, 6⟩, 4, 6⟩], .full, [⟨2, 0, 4⟩], k, cs⟩
@[go_sem] theorem book_k (k : SK) (cs : List Count) : K Γ (.fn 39) [.sc (.sl k 4 (cs.map Count.c))] [] = some (.agg (litB k cs).c, []) := by
  rw [K_fn P06.f39 _ _ rfl]
  (simp only [go_sem, simprocAttr, decanilaw06_book]; repeat' (first | ((first | (refine br_yes (by omega) ?_) | (refine br_no (by omega) ?_) | (apply br_all; (· simp only [Bool.and_eq_true, decide_eq_true_eq]; omega)) | (apply br_free; (· simp [go_sem, Pm.acc, Acc.free, refsOf, keyEq, tagEq, cellsEq, cellEq]; done)) | ((first | apply br_mergeT | apply br_mergeF); (· intro h; simp only [go_sem, simprocAttr, sel_of h, decanilaw06_book]; exact rfl))); (try simp only [go_sem, simprocAttr, decanilaw06_book])) | ((first | apply onGuard_sel | (apply pickV_split; apply br_split) | apply br_split) <;> intro h <;> (try simp only [go_sem, simprocAttr, h, decanilaw06_book]))))
  rfl
@[go_sem] theorem book_nil_k (k : SK) : K Γ (.fn 39) [.sc (.sl k 4 [])] [] = some (.agg (litB k []).c, []) := book_k k []
@[go_sem] theorem own_k : K Γ (.fn 38) [] [] = some (.agg (litB .nil []).c, []) := by
  rw [K_fn P06.f38 _ _ rfl]
  (simp only [go_sem, simprocAttr, decanilaw06_own]; repeat' (first | ((first | (refine br_yes (by omega) ?_) | (refine br_no (by omega) ?_) | (apply br_all; (· simp only [Bool.and_eq_true, decide_eq_true_eq]; omega)) | (apply br_free; (· simp [go_sem, Pm.acc, Acc.free, refsOf, keyEq, tagEq, cellsEq, cellEq]; done)) | ((first | apply br_mergeT | apply br_mergeF); (· intro h; simp only [go_sem, simprocAttr, sel_of h, decanilaw06_own]; exact rfl))); (try simp only [go_sem, simprocAttr, decanilaw06_own])) | ((first | apply onGuard_sel | (apply pickV_split; apply br_split) | apply br_split) <;> intro h <;> (try simp only [go_sem, simprocAttr, h, decanilaw06_own]))))
def cnt8 : Count := ⟨0, 0, 8, 0⟩
def cnt3 : Count := ⟨1, 0, 3, 0⟩
@[go_sem] theorem counted_k : K Γ (.fn 41) [] [] = some (.agg (litB .full [cnt8]).c, []) := by
  have h : K Γ (.fn 39) [.sc (.sl .full 4 [[ci 0, ci 0, ci 8, ci 0]])] [] = some (.agg (litB .full [cnt8]).c, []) := book_k .full [cnt8]
  rw [K_fn P06.f41 _ _ rfl]
  (simp only [go_sem, simprocAttr, decanilaw06_counted, h]; repeat' (first | ((first | (refine br_yes (by omega) ?_) | (refine br_no (by omega) ?_) | (apply br_all; (· simp only [Bool.and_eq_true, decide_eq_true_eq]; omega)) | (apply br_free; (· simp [go_sem, Pm.acc, Acc.free, refsOf, keyEq, tagEq, cellsEq, cellEq]; done)) | ((first | apply br_mergeT | apply br_mergeF); (· intro h; simp only [go_sem, simprocAttr, sel_of h, decanilaw06_counted, h]; exact rfl))); (try simp only [go_sem, simprocAttr, decanilaw06_counted, h])) | ((first | apply onGuard_sel | (apply pickV_split; apply br_split) | apply br_split) <;> intro h <;> (try simp only [go_sem, simprocAttr, h, decanilaw06_counted, h]))))
@[go_sem] theorem torn_k : K Γ (.fn 40) [] [] = some (.agg (litB .full [cnt8, cnt3]).c, []) := by
  have h : K Γ (.fn 39) [.sc (.sl .full 4 [[ci 0, ci 0, ci 8, ci 0], [ci 1, ci 0, ci 3, ci 0]])] [] = some (.agg (litB .full [cnt8, cnt3]).c, []) := book_k .full [cnt8, cnt3]
  rw [K_fn P06.f40 _ _ rfl]
  (simp only [go_sem, simprocAttr, decanilaw06_torn, h]; repeat' (first | ((first | (refine br_yes (by omega) ?_) | (refine br_no (by omega) ?_) | (apply br_all; (· simp only [Bool.and_eq_true, decide_eq_true_eq]; omega)) | (apply br_free; (· simp [go_sem, Pm.acc, Acc.free, refsOf, keyEq, tagEq, cellsEq, cellEq]; done)) | ((first | apply br_mergeT | apply br_mergeF); (· intro h; simp only [go_sem, simprocAttr, sel_of h, decanilaw06_torn, h]; exact rfl))); (try simp only [go_sem, simprocAttr, decanilaw06_torn, h])) | ((first | apply onGuard_sel | (apply pickV_split; apply br_split) | apply br_split) <;> intro h <;> (try simp only [go_sem, simprocAttr, h, decanilaw06_torn, h]))))
end
end Go.Pm.Cd

namespace Go.Pm.Cd
open Ac
set_option maxRecDepth 100000
set_option linter.unusedSimpArgs false
set_option linter.unusedSectionVars false
set_option linter.unusedVariables false

instance fits_own (k : SK) : (litB k []).Fits := ⟨by simp [litB], by simp [litB], by simp [litB]⟩
instance fits_counted (k : SK) (x : Count) : (litB k [x]).Fits := ⟨by simp [litB], by simp [litB], by simp [litB]⟩
instance fits_torn (k : SK) (x y : Count) : (litB k [x, y]).Fits := ⟨by simp [litB], by simp [litB], by simp [litB]⟩
def dimB : Book := { litB .nil [] with s1 := ⟨5, 5⟩ }
instance fits_dim : dimB.Fits := ⟨by simp [dimB, litB], by simp [dimB, litB], by simp [dimB, litB]⟩

section
variable {Γ : Env} [P06 Γ] [G06 Γ]

theorem lit_left0 : K Γ (.fn 6) [.agg (litB .nil []).c, vi 0, vi 2] [] = some (.tup [.agg [ci (-6), ci 3], vi 0], []) := by
  have e : told ((litB .nil []).askE (isKind 0 && (litB .nil []).isDay 2)) (spanOf (tLeft 0 2) ((litB .nil []).truths [])) = (-6, 3) := by decide +kernel
  have a : (litB .nil []).askE (isKind 0 && (litB .nil []).isDay 2) = 0 := by decide +kernel
  rw [Left_k, e, a]
theorem lit_left1 : K Γ (.fn 6) [.agg (litB .nil []).c, vi 1, vi 2] [] = some (.tup [.agg [ci 6, ci 12], vi 0], []) := by
  have e : told ((litB .nil []).askE (isKind 1 && (litB .nil []).isDay 2)) (spanOf (tLeft 1 2) ((litB .nil []).truths [])) = (6, 12) := by decide +kernel
  have a : (litB .nil []).askE (isKind 1 && (litB .nil []).isDay 2) = 0 := by decide +kernel
  rw [Left_k, e, a]
theorem lit_life : K Γ (.fn 8) [.agg (litB .full [cnt8]).c, vi 0] [] = some (.tup [.agg [ci 3, ci 3], vi 0], []) := by
  have e : told ((litB .full [cnt8]).askE (isKind 0)) (spanOf (tLife 0) ((litB .full [cnt8]).truths [])) = (3, 3) := by decide +kernel
  have a : (litB .full [cnt8]).askE (isKind 0) = 0 := by decide +kernel
  rw [Life_k, e, a]
theorem lit_dark : K Γ (.fn 10) [.agg (litB .full [cnt8]).c, vi 0] [] = some (.tup [.agg [ci 3, ci 3], vi 0], []) := by
  have e : told ((litB .full [cnt8]).askE ((litB .full [cnt8]).isDay 0)) (spanOf (tDark 0) ((litB .full [cnt8]).truths [])) = (3, 3) := by decide +kernel
  have a : (litB .full [cnt8]).askE ((litB .full [cnt8]).isDay 0) = 0 := by decide +kernel
  rw [Dark_k, e, a]
theorem lit_short : K Γ (.fn 13) [.agg (litB .nil []).c, vi 0] [] = some (.tup [vi 2, vi 0], []) := by
  have e : (litB .nil []).short 0 = (2, 0) := by decide +kernel
  rw [Short_k, e]
theorem lit_buy : K Γ (.fn 17) [.agg (litB .nil []).c, vi 0, vi 2] [] = some (.tup [vi 6, vi 0], []) := by
  have e : (litB .nil []).buy 0 2 = (6, 0) := by decide +kernel
  rw [Buy_k, e]
theorem lit_fits : K Γ (.fn 19) [.agg (litB .nil []).c, .agg [ci 0, ci 0, ci 5, ci 1]] [] = some (.tup [vb true, vi 0], []) := by
  have e : (litB .nil []).fits ⟨0, 0, 5, 1⟩ = (true, 0) := by decide +kernel
  have := Fits_k (Γ := Γ) (litB .nil []) ⟨0, 0, 5, 1⟩
  rw [e] at this; exact this
theorem lit_wrong : K Γ (.fn 21) [.agg (litB .full [cnt8, cnt3]).c] [] = some (.tup [.sc (.sl .full 1 [[ci 0]]), vi 0], []) := by
  have e : (litB .full [cnt8, cnt3]).wrong = ([0], 0) := by decide +kernel
  have e2 : wrongK (litB .full [cnt8, cnt3]) = .full := by decide +kernel
  rw [Wrong_k, e, e2]; rfl
theorem lit_right : K Γ (.fn 2) [.agg (litB .nil []).c] [] = some (.tup [vb true, vi 0], []) := by
  have e : ((litB .nil []).valid && decide ((litB .nil []).truths [] ≠ [])) = true := by decide +kernel
  have a : (if (litB .nil []).valid then (0 : Int) else 60) = 0 := by decide +kernel
  rw [Right_k, e, a]
theorem lit_dim : K Γ (.fn 15) [.agg dimB.c, vi 1] [] = some (.tup [vi 0, vi 0], []) := by
  have e : dimB.surely 1 = (0, 0) := by decide +kernel
  rw [Surely_k, e]
theorem equal_00 (k k' : SK) : K Γ (.fn 23) [.sc (.sl k 1 [[ci 0]]), .sc (.sl k' 1 [[ci 0]])] [] = some (vb true, []) := by
  rw [K_fn P06.f23 _ _ rfl]
  (simp only [go_sem, simprocAttr, decaniref00_Equal, decaniref00_Equal_L0, decaniref00_Equal_B0, E_loop, List.length_cons, List.length_nil, List.getElem?_cons_zero]; repeat' (first | ((first | (refine br_yes (by omega) ?_) | (refine br_no (by omega) ?_) | (apply br_all; (· simp only [Bool.and_eq_true, decide_eq_true_eq]; omega)) | (apply br_free; (· simp [go_sem, Pm.acc, Acc.free, refsOf, keyEq, tagEq, cellsEq, cellEq]; done)) | ((first | apply br_mergeT | apply br_mergeF); (· intro h; simp only [go_sem, simprocAttr, sel_of h, decaniref00_Equal, decaniref00_Equal_L0, decaniref00_Equal_B0, E_loop, List.length_cons, List.length_nil, List.getElem?_cons_zero]; exact rfl))); (try simp only [go_sem, simprocAttr, decaniref00_Equal, decaniref00_Equal_L0, decaniref00_Equal_B0, E_loop, List.length_cons, List.length_nil, List.getElem?_cons_zero])) | ((first | apply onGuard_sel | (apply pickV_split; apply br_split) | apply br_split) <;> intro h <;> (try simp only [go_sem, simprocAttr, h, decaniref00_Equal, decaniref00_Equal_L0, decaniref00_Equal_B0, E_loop, List.length_cons, List.length_nil, List.getElem?_cons_zero]))))

theorem own_set : setAll (litB .nil []).c 2 [ci 5, ci 5] = dimB.c := rfl
theorem own_set' : ((litB .nil []).c.set 2 (ci 5)).set 3 (ci 5) = dimB.c := rfl

@[go_sem] theorem lit_k : K Γ (.fn 12) [] [] = some (vb true, []) := by
  rw [K_fn P06.f12 _ _ rfl]
  (simp only [go_sem, simprocAttr, decanilaw06_lit, lit_left0, lit_left1, lit_life, lit_dark, lit_short, lit_buy, lit_fits, lit_wrong, lit_right, lit_dim, equal_00, own_set, own_set', keyEq2]; repeat' (first | ((first | (refine br_yes (by omega) ?_) | (refine br_no (by omega) ?_) | (apply br_all; (· simp only [Bool.and_eq_true, decide_eq_true_eq]; omega)) | (apply br_free; (· simp [go_sem, Pm.acc, Acc.free, refsOf, keyEq, tagEq, cellsEq, cellEq]; done)) | ((first | apply br_mergeT | apply br_mergeF); (· intro h; simp only [go_sem, simprocAttr, sel_of h, decanilaw06_lit, lit_left0, lit_left1, lit_life, lit_dark, lit_short, lit_buy, lit_fits, lit_wrong, lit_right, lit_dim, equal_00, own_set, own_set', keyEq2]; exact rfl))); (try simp only [go_sem, simprocAttr, decanilaw06_lit, lit_left0, lit_left1, lit_life, lit_dark, lit_short, lit_buy, lit_fits, lit_wrong, lit_right, lit_dim, equal_00, own_set, own_set', keyEq2])) | ((first | apply onGuard_sel | (apply pickV_split; apply br_split) | apply br_split) <;> intro h <;> (try simp only [go_sem, simprocAttr, h, decanilaw06_lit, lit_left0, lit_left1, lit_life, lit_dark, lit_short, lit_buy, lit_fits, lit_wrong, lit_right, lit_dim, equal_00, own_set, own_set', keyEq2]))))
end
end Go.Pm.Cd

namespace Go.Pm.Cd
open Ac
set_option maxRecDepth 100000
set_option linter.unusedSimpArgs false
set_option linter.unusedSectionVars false
set_option linter.unusedVariables false
section
variable {Γ : Env} [P06 Γ] [G06 Γ]

theorem small_no (b : Book) [hb : b.Fits] (hv : b.valid = false) : K Γ (.fn 24) [.agg b.c] [] = some (vb false, []) := by
  rw [K_fn P06.f24 _ _ rfl]
  (simp only [go_sem, simprocAttr, decanilaw06_small, hv, Bool.false_eq_true, Bool.false_and, decanilaw06_small_L0, decanilaw06_small_B0, decanilaw06_small_L1, decanilaw06_small_B1, decanilaw06_small_L2, decanilaw06_small_B2, decanilaw06_small_L3, decanilaw06_small_B3, E_loop]; repeat' (first | ((first | (refine br_yes (by omega) ?_) | (refine br_no (by omega) ?_) | (apply br_all; (· simp only [Bool.and_eq_true, decide_eq_true_eq]; omega)) | (apply br_free; (· simp [go_sem, Pm.acc, Acc.free, refsOf, keyEq, tagEq, cellsEq, cellEq]; done)) | ((first | apply br_mergeT | apply br_mergeF); (· intro h; simp only [go_sem, simprocAttr, sel_of h, decanilaw06_small, hv, Bool.false_eq_true, Bool.false_and, decanilaw06_small_L0, decanilaw06_small_B0, decanilaw06_small_L1, decanilaw06_small_B1, decanilaw06_small_L2, decanilaw06_small_B2, decanilaw06_small_L3, decanilaw06_small_B3, E_loop]; exact rfl))); (try simp only [go_sem, simprocAttr, decanilaw06_small, hv, Bool.false_eq_true, Bool.false_and, decanilaw06_small_L0, decanilaw06_small_B0, decanilaw06_small_L1, decanilaw06_small_B1, decanilaw06_small_L2, decanilaw06_small_B2, decanilaw06_small_L3, decanilaw06_small_B3, E_loop])) | ((first | apply onGuard_sel | (apply pickV_split; apply br_split) | apply br_split) <;> intro h <;> (try simp only [go_sem, simprocAttr, h, decanilaw06_small, hv, Bool.false_eq_true, Bool.false_and, decanilaw06_small_L0, decanilaw06_small_B0, decanilaw06_small_L1, decanilaw06_small_B1, decanilaw06_small_L2, decanilaw06_small_B2, decanilaw06_small_L3, decanilaw06_small_B3, E_loop]))))

theorem small_L1 (b : Book) [hb : b.Fits] (hv : b.valid = true) {β : Type} (Q : Ex → St → Option β) :
    E Γ decanilaw06_small_L1 ⟨[(1, .sc (.ptr 0 0)), (3, vb true), (5, vi 0)], [.var b.c]⟩ Q = Q (.exit 2) ⟨[(1, .sc (.ptr 0 0)), (3, vb true), (5, vi b.days.length), (57, vb false)], [.var b.c]⟩ := by
  have hvd := valid_days (sane_of_valid hv)
  refine E_countS b.days.length (fun i (_ : Unit) => ⟨[(1, .sc (.ptr 0 0)), (3, vb true), (5, vi i)], [.var b.c]⟩) (fun _ _ => True)
    (fun _ => (.exit 2, ⟨[(1, .sc (.ptr 0 0)), (3, vb true), (5, vi b.days.length), (57, vb false)], [.var b.c]⟩)) () rfl trivial ?_ ?_ ?_
  · intro i _ hi _
    refine ⟨(), trivial, ?_⟩
    obtain ⟨x, hx⟩ : ∃ x, b.days[i]? = some x := ⟨_, List.getElem?_eq_getElem hi⟩
    have hlt : (i : Int) < b.days.length := by omega
    have hiw : IntKind.i64.wrap ((i : Int) + 1) = i + 1 := wrap_i64 (by omega) (by omega)
    have hld := decide_eq_true hlt
    have hall := hv
    simp only [Book.valid, Bool.and_eq_true, List.all_eq_true] at hall
    have hok := hall.1.1.2 x (List.mem_of_getElem? hx)
    simp only [Day.ok, Bool.and_eq_true] at hok
    obtain ⟨⟨⟨k1, k2⟩, k3⟩, k4⟩ := hok
    (simp only [go_sem, simprocAttr, decanilaw06_small_B1, hx, hiw, hld, k1, k2, k3, k4]; repeat' (first | ((first | (refine br_yes (by omega) ?_) | (refine br_no (by omega) ?_) | (apply br_all; (· simp only [Bool.and_eq_true, decide_eq_true_eq]; omega)) | (apply br_free; (· simp [go_sem, Pm.acc, Acc.free, refsOf, keyEq, tagEq, cellsEq, cellEq]; done)) | ((first | apply br_mergeT | apply br_mergeF); (· intro h; simp only [go_sem, simprocAttr, sel_of h, decanilaw06_small_B1, hx, hiw, hld, k1, k2, k3, k4]; exact rfl))); (try simp only [go_sem, simprocAttr, decanilaw06_small_B1, hx, hiw, hld, k1, k2, k3, k4])) | ((first | apply onGuard_sel | (apply pickV_split; apply br_split) | apply br_split) <;> intro h <;> (try simp only [go_sem, simprocAttr, h, decanilaw06_small_B1, hx, hiw, hld, k1, k2, k3, k4]))))
    rfl
  · intro _ _
    have hld := decide_eq_false (show ¬ (b.days.length : Int) < b.days.length by omega)
    (simp only [go_sem, simprocAttr, decanilaw06_small_B1, hld]; repeat' (first | ((first | (refine br_yes (by omega) ?_) | (refine br_no (by omega) ?_) | (apply br_all; (· simp only [Bool.and_eq_true, decide_eq_true_eq]; omega)) | (apply br_free; (· simp [go_sem, Pm.acc, Acc.free, refsOf, keyEq, tagEq, cellsEq, cellEq]; done)) | ((first | apply br_mergeT | apply br_mergeF); (· intro h; simp only [go_sem, simprocAttr, sel_of h, decanilaw06_small_B1, hld]; exact rfl))); (try simp only [go_sem, simprocAttr, decanilaw06_small_B1, hld])) | ((first | apply onGuard_sel | (apply pickV_split; apply br_split) | apply br_split) <;> intro h <;> (try simp only [go_sem, simprocAttr, h, decanilaw06_small_B1, hld]))))
  · intro _ _
    rfl

theorem small_L2 (b : Book) [hb : b.Fits] (hv : b.valid = true) {β : Type} (Q : Ex → St → Option β) :
    E Γ decanilaw06_small_L2 ⟨[(1, .sc (.ptr 0 0)), (3, vb true), (7, vi 0)], [.var b.c]⟩ Q = Q (.exit 4) ⟨[(1, .sc (.ptr 0 0)), (3, vb true), (7, vi b.orders.length), (92, vb false)], [.var b.c]⟩ := by
  have hvd := valid_days (sane_of_valid hv)
  refine E_countS b.orders.length (fun i (_ : Unit) => ⟨[(1, .sc (.ptr 0 0)), (3, vb true), (7, vi i)], [.var b.c]⟩) (fun _ _ => True)
    (fun _ => (.exit 4, ⟨[(1, .sc (.ptr 0 0)), (3, vb true), (7, vi b.orders.length), (92, vb false)], [.var b.c]⟩)) () rfl trivial ?_ ?_ ?_
  · intro i _ hi _
    refine ⟨(), trivial, ?_⟩
    obtain ⟨x, hx⟩ : ∃ x, b.orders[i]? = some x := ⟨_, List.getElem?_eq_getElem hi⟩
    have hlt : (i : Int) < b.orders.length := by omega
    have hiw : IntKind.i64.wrap ((i : Int) + 1) = i + 1 := wrap_i64 (by omega) (by omega)
    have hld := decide_eq_true hlt
    have hall := hv
    simp only [Book.valid, Bool.and_eq_true, List.all_eq_true] at hall
    have hok := hall.1.2 x (List.mem_of_getElem? hx)
    simp only [Book.orderOk, Bool.and_eq_true] at hok
    obtain ⟨⟨k1, k2⟩, k3⟩ := hok
    (simp only [go_sem, simprocAttr, decanilaw06_small_B2, hx, hiw, hld, k1, k2, k3]; repeat' (first | ((first | (refine br_yes (by omega) ?_) | (refine br_no (by omega) ?_) | (apply br_all; (· simp only [Bool.and_eq_true, decide_eq_true_eq]; omega)) | (apply br_free; (· simp [go_sem, Pm.acc, Acc.free, refsOf, keyEq, tagEq, cellsEq, cellEq]; done)) | ((first | apply br_mergeT | apply br_mergeF); (· intro h; simp only [go_sem, simprocAttr, sel_of h, decanilaw06_small_B2, hx, hiw, hld, k1, k2, k3]; exact rfl))); (try simp only [go_sem, simprocAttr, decanilaw06_small_B2, hx, hiw, hld, k1, k2, k3])) | ((first | apply onGuard_sel | (apply pickV_split; apply br_split) | apply br_split) <;> intro h <;> (try simp only [go_sem, simprocAttr, h, decanilaw06_small_B2, hx, hiw, hld, k1, k2, k3]))))
    rfl
  · intro _ _
    have hld := decide_eq_false (show ¬ (b.orders.length : Int) < b.orders.length by omega)
    (simp only [go_sem, simprocAttr, decanilaw06_small_B2, hld]; repeat' (first | ((first | (refine br_yes (by omega) ?_) | (refine br_no (by omega) ?_) | (apply br_all; (· simp only [Bool.and_eq_true, decide_eq_true_eq]; omega)) | (apply br_free; (· simp [go_sem, Pm.acc, Acc.free, refsOf, keyEq, tagEq, cellsEq, cellEq]; done)) | ((first | apply br_mergeT | apply br_mergeF); (· intro h; simp only [go_sem, simprocAttr, sel_of h, decanilaw06_small_B2, hld]; exact rfl))); (try simp only [go_sem, simprocAttr, decanilaw06_small_B2, hld])) | ((first | apply onGuard_sel | (apply pickV_split; apply br_split) | apply br_split) <;> intro h <;> (try simp only [go_sem, simprocAttr, h, decanilaw06_small_B2, hld]))))
  · intro _ _
    rfl

theorem small_L3 (b : Book) [hb : b.Fits] (hv : b.valid = true) {β : Type} (Q : Ex → St → Option β) :
    E Γ decanilaw06_small_L3 ⟨[(1, .sc (.ptr 0 0)), (3, vb true), (8, vi 0)], [.var b.c]⟩ Q = Q (.exit 6) ⟨[(1, .sc (.ptr 0 0)), (3, vb true), (8, vi b.counts.length), (109, vb false)], [.var b.c]⟩ := by
  have hvd := valid_days (sane_of_valid hv)
  refine E_countS b.counts.length (fun i (_ : Unit) => ⟨[(1, .sc (.ptr 0 0)), (3, vb true), (8, vi i)], [.var b.c]⟩) (fun _ _ => True)
    (fun _ => (.exit 6, ⟨[(1, .sc (.ptr 0 0)), (3, vb true), (8, vi b.counts.length), (109, vb false)], [.var b.c]⟩)) () rfl trivial ?_ ?_ ?_
  · intro i _ hi _
    refine ⟨(), trivial, ?_⟩
    obtain ⟨x, hx⟩ : ∃ x, b.counts[i]? = some x := ⟨_, List.getElem?_eq_getElem hi⟩
    have hlt : (i : Int) < b.counts.length := by omega
    have hiw : IntKind.i64.wrap ((i : Int) + 1) = i + 1 := wrap_i64 (by omega) (by omega)
    have hld := decide_eq_true hlt
    have hall := hv
    simp only [Book.valid, Bool.and_eq_true, List.all_eq_true] at hall
    have hok := hall.2 x (List.mem_of_getElem? hx)
    simp only [Book.isCount, Bool.and_eq_true] at hok
    obtain ⟨⟨⟨k1, k2⟩, k3⟩, k4⟩ := hok
    have hdw : IntKind.i64.wrap ((b.days.length : Int) - 1) = b.days.length - 1 := wrap_i64 (by omega) (by omega)
    (simp only [go_sem, simprocAttr, decanilaw06_small_B3, hx, hiw, hld, k1, k2, k3, k4, hdw]; repeat' (first | ((first | (refine br_yes (by omega) ?_) | (refine br_no (by omega) ?_) | (apply br_all; (· simp only [Bool.and_eq_true, decide_eq_true_eq]; omega)) | (apply br_free; (· simp [go_sem, Pm.acc, Acc.free, refsOf, keyEq, tagEq, cellsEq, cellEq]; done)) | ((first | apply br_mergeT | apply br_mergeF); (· intro h; simp only [go_sem, simprocAttr, sel_of h, decanilaw06_small_B3, hx, hiw, hld, k1, k2, k3, k4, hdw]; exact rfl))); (try simp only [go_sem, simprocAttr, decanilaw06_small_B3, hx, hiw, hld, k1, k2, k3, k4, hdw])) | ((first | apply onGuard_sel | (apply pickV_split; apply br_split) | apply br_split) <;> intro h <;> (try simp only [go_sem, simprocAttr, h, decanilaw06_small_B3, hx, hiw, hld, k1, k2, k3, k4, hdw]))))
    rfl
  · intro _ _
    have hld := decide_eq_false (show ¬ (b.counts.length : Int) < b.counts.length by omega)
    (simp only [go_sem, simprocAttr, decanilaw06_small_B3, hld]; repeat' (first | ((first | (refine br_yes (by omega) ?_) | (refine br_no (by omega) ?_) | (apply br_all; (· simp only [Bool.and_eq_true, decide_eq_true_eq]; omega)) | (apply br_free; (· simp [go_sem, Pm.acc, Acc.free, refsOf, keyEq, tagEq, cellsEq, cellEq]; done)) | ((first | apply br_mergeT | apply br_mergeF); (· intro h; simp only [go_sem, simprocAttr, sel_of h, decanilaw06_small_B3, hld]; exact rfl))); (try simp only [go_sem, simprocAttr, decanilaw06_small_B3, hld])) | ((first | apply onGuard_sel | (apply pickV_split; apply br_split) | apply br_split) <;> intro h <;> (try simp only [go_sem, simprocAttr, h, decanilaw06_small_B3, hld]))))
  · intro _ _
    rfl

theorem small_yes (b : Book) [hb : b.Fits] (hv : b.valid = true) : K Γ (.fn 24) [.agg b.c] [] = some (vb true, []) := by
  have hvs := hv
  simp only [Book.valid, Bool.and_eq_true, decide_eq_true_eq] at hvs
  obtain ⟨⟨⟨⟨⟨⟨⟨⟨⟨h1, h2⟩, h3⟩, h4⟩, h5⟩, h6⟩, h7⟩, h8⟩, h9⟩, h10⟩ := hvs
  have h2' := decide_eq_true h2
  have h3' := decide_eq_true h3
  rw [K_fn P06.f24 _ _ rfl]
  have e1 {β : Type} (Q : Ex → St → Option β) := small_L1 (Γ := Γ) b hv Q
  have e2 {β : Type} (Q : Ex → St → Option β) := small_L2 (Γ := Γ) b hv Q
  have e3 {β : Type} (Q : Ex → St → Option β) := small_L3 (Γ := Γ) b hv Q
  (simp only [go_sem, simprocAttr, decanilaw06_small, hv, h1, h2', h3', h4, h5, h6, h7, decanilaw06_small_L0, decanilaw06_small_B0, E_loop, e1, e2, e3]; repeat' (first | ((first | (refine br_yes (by omega) ?_) | (refine br_no (by omega) ?_) | (apply br_all; (· simp only [Bool.and_eq_true, decide_eq_true_eq]; omega)) | (apply br_free; (· simp [go_sem, Pm.acc, Acc.free, refsOf, keyEq, tagEq, cellsEq, cellEq]; done)) | ((first | apply br_mergeT | apply br_mergeF); (· intro h; simp only [go_sem, simprocAttr, sel_of h, decanilaw06_small, hv, h1, h2', h3', h4, h5, h6, h7, decanilaw06_small_L0, decanilaw06_small_B0, E_loop, e1, e2, e3]; exact rfl))); (try simp only [go_sem, simprocAttr, decanilaw06_small, hv, h1, h2', h3', h4, h5, h6, h7, decanilaw06_small_L0, decanilaw06_small_B0, E_loop, e1, e2, e3])) | ((first | apply onGuard_sel | (apply pickV_split; apply br_split) | apply br_split) <;> intro h <;> (try simp only [go_sem, simprocAttr, h, decanilaw06_small, hv, h1, h2', h3', h4, h5, h6, h7, decanilaw06_small_L0, decanilaw06_small_B0, E_loop, e1, e2, e3]))))

@[go_sem] theorem small_k (b : Book) [hb : b.Fits] : K Γ (.fn 24) [.agg b.c] [] = some (vb b.valid, []) := by
  rcases Bool.eq_false_or_eq_true b.valid with hv | hv
  · rw [small_yes b hv, hv]
  · rw [small_no b hv, hv]
end
end Go.Pm.Cd

namespace Go.Pm.Cd
open Ac
set_option maxRecDepth 100000
set_option linter.unusedSimpArgs false
set_option linter.unusedSectionVars false
set_option linter.unusedVariables false

theorem ask_ok {b : Book} (hv : b.valid = true) (ht : b.truths [] ≠ []) : b.askE true = 0 := by simp [Book.askE, hv, ht]
theorem ask_no {b : Book} (hv : b.valid = true) (ht : b.truths [] = []) : b.askE true = 62 := by simp [Book.askE, hv, ht]
theorem kind_ok {k : Int} (h : 0 ≤ k ∧ k < 2) : isKind k = true := by simp [isKind, within]; omega
theorem day_ok {b : Book} {d : Int} (h : 0 ≤ d ∧ d < b.days.length) : b.isDay d = true := by simp [Book.isDay, within]; omega

section
variable {Γ : Env} [P06 Γ] [G06 Γ]

set_option maxHeartbeats 2000000 in
theorem CandleShort_k (b : Book) [hb : b.Fits] (n0 n1 : Int) : K Γ (.fn 93) [.agg b.c, .agg [ci n0, ci n1]] [] = some (vb true, []) := by
  rw [K_fn P06.f93 _ _ rfl]
  rcases Bool.eq_false_or_eq_true b.valid with hv | hv
  rotate_left
  · (simp only [go_sem, simprocAttr, decanilaw06_CandleShort, hv, Bool.false_eq_true]; repeat' (first | ((first | (refine br_yes (by omega) ?_) | (refine br_no (by omega) ?_) | (apply br_all; (· simp only [Bool.and_eq_true, decide_eq_true_eq]; omega)) | (apply br_free; (· simp [go_sem, Pm.acc, Acc.free, refsOf, keyEq, tagEq, cellsEq, cellEq]; done)) | ((first | apply br_mergeT | apply br_mergeF); (· intro h; simp only [go_sem, simprocAttr, sel_of h, decanilaw06_CandleShort, hv, Bool.false_eq_true]; exact rfl))); (try simp only [go_sem, simprocAttr, decanilaw06_CandleShort, hv, Bool.false_eq_true])) | ((first | apply onGuard_sel | (apply pickV_split; apply br_split) | apply br_split) <;> intro h <;> (try simp only [go_sem, simprocAttr, h, decanilaw06_CandleShort, hv, Bool.false_eq_true]))))
  have hvd := valid_days (sane_of_valid hv)
  have hk := turn_lt n0 2 (by decide)
  have hd := turn_lt n1 b.days.length (by omega)
  have hdl : (b.days.length : Int) ≤ 1000000 := by omega
  have hK := kind_ok hk
  have hD := day_ok (b := b) hd
  obtain ⟨kind, hkind⟩ : ∃ k, turn n0 2 = k := ⟨_, rfl⟩
  obtain ⟨day, hday⟩ : ∃ k, turn n1 b.days.length = k := ⟨_, rfl⟩
  rw [hkind] at hk hK
  rw [hday] at hd hD
  by_cases ht : b.truths [] = []
  · have ha := ask_no hv ht
    have hL := Left_k (Γ := Γ) b kind day
    have hS := Short_k (Γ := Γ) b kind
    have hT := Surely_k (Γ := Γ) b kind
    simp only [hK, hD, Bool.and_self, ha, told, Book.short, Book.surely, reduceIte, Int.reduceEq] at hL hS hT
    (simp only [go_sem, simprocAttr, decanilaw06_CandleShort, hv, hdl, hkind, hday, hL, hS, hT, keyEq2]; repeat' (first | ((first | (refine br_yes (by omega) ?_) | (refine br_no (by omega) ?_) | (apply br_all; (· simp only [Bool.and_eq_true, decide_eq_true_eq]; omega)) | (apply br_free; (· simp [go_sem, Pm.acc, Acc.free, refsOf, keyEq, tagEq, cellsEq, cellEq]; done)) | ((first | apply br_mergeT | apply br_mergeF); (· intro h; simp only [go_sem, simprocAttr, sel_of h, decanilaw06_CandleShort, hv, hdl, hkind, hday, hL, hS, hT, keyEq2]; exact rfl))); (try simp only [go_sem, simprocAttr, decanilaw06_CandleShort, hv, hdl, hkind, hday, hL, hS, hT, keyEq2])) | ((first | apply onGuard_sel | (apply pickV_split; apply br_split) | apply br_split) <;> intro h <;> (try simp only [go_sem, simprocAttr, h, decanilaw06_CandleShort, hv, hdl, hkind, hday, hL, hS, hT, keyEq2]))))
  · have ha := ask_ok hv ht
    have hL := Left_k (Γ := Γ) b kind day
    have hS := Short_k (Γ := Γ) b kind
    have hT := Surely_k (Γ := Γ) b kind
    simp only [hK, hD, Bool.and_self, ha, told, Book.short, Book.surely, reduceIte, Int.reduceEq] at hL hS hT
    have hspan (d : Int) : (spanOf (tLeft kind d) (b.truths [])).1 ≤ (spanOf (tLeft kind d) (b.truths [])).2 := by
      obtain ⟨t, ht', e⟩ := span_lo (tLeft kind d) (b.truths []) ht
      have := span_le (tLeft kind d) (b.truths []) ht'; omega
    have hLi (i : Nat) (hi : i < b.days.length) : K Γ (.fn 6) [.agg b.c, vi kind, vi i] [] = some (.tup [.agg [ci (spanOf (tLeft kind i) (b.truths [])).1, ci (spanOf (tLeft kind i) (b.truths [])).2], vi 0], []) := by
      have hD' := day_ok (b := b) (d := (i : Int)) ⟨by omega, by omega⟩
      have := Left_k (Γ := Γ) b kind i
      simpa only [hK, hD', Bool.and_self, ha, told, reduceIte, Int.reduceEq] using this
    simp only [Book.firstOn] at hS hT
    have hdn : ((day.toNat : Nat) : Int) = day := by omega
    obtain ⟨x, hx⟩ : ∃ x, b.days[day.toNat]? = some x := ⟨_, List.getElem?_eq_getElem (by omega)⟩
    have hsd := hspan day
    obtain ⟨o1, h1⟩ : ∃ o, findFrom (fun (i : Nat) (_ : Day) => decide ((spanOf (tLeft kind i) (b.truths [])).1 < 0)) 0 b.days = o := ⟨_, rfl⟩
    obtain ⟨o2, h2⟩ : ∃ o, findFrom (fun (i : Nat) (_ : Day) => decide ((spanOf (tLeft kind i) (b.truths [])).2 < 0)) 0 b.days = o := ⟨_, rfl⟩
    simp only [h1] at hS
    simp only [h2] at hT
    cases o1 with
    | none =>
      have q1 := findFrom_none.1 h1 day.toNat x hx
      simp only [Nat.zero_add, hdn, decide_eq_false_iff_not] at q1
      cases o2 with
      | none =>
        have q2 := findFrom_none.1 h2 day.toNat x hx
        simp only [Nat.zero_add, hdn, decide_eq_false_iff_not] at q2
        (simp only [go_sem, simprocAttr, decanilaw06_CandleShort, hv, hdl, hkind, hday, hL, hS, hT, keyEq2]; repeat' (first | ((first | (refine br_yes (by omega) ?_) | (refine br_no (by omega) ?_) | (apply br_all; (· simp only [Bool.and_eq_true, decide_eq_true_eq]; omega)) | (apply br_free; (· simp [go_sem, Pm.acc, Acc.free, refsOf, keyEq, tagEq, cellsEq, cellEq]; done)) | ((first | apply br_mergeT | apply br_mergeF); (· intro h; simp only [go_sem, simprocAttr, sel_of h, decanilaw06_CandleShort, hv, hdl, hkind, hday, hL, hS, hT, keyEq2]; exact rfl))); (try simp only [go_sem, simprocAttr, decanilaw06_CandleShort, hv, hdl, hkind, hday, hL, hS, hT, keyEq2])) | ((first | apply onGuard_sel | (apply pickV_split; apply br_split) | apply br_split) <;> intro h <;> (try simp only [go_sem, simprocAttr, h, decanilaw06_CandleShort, hv, hdl, hkind, hday, hL, hS, hT, keyEq2]))))
      | some p =>
        exfalso
        obtain ⟨j, y⟩ := p
        obtain ⟨-, g2, g3, -⟩ := findFrom_some h2
        have q := findFrom_none.1 h1 j y (by simpa using g2)
        have := hspan j
        simp only [Nat.zero_add, decide_eq_false_iff_not] at q
        simp only [decide_eq_true_eq] at g3
        omega
    | some p =>
      obtain ⟨i, xi⟩ := p
      obtain ⟨-, i2, i3, i4⟩ := findFrom_some h1
      have hil : i < b.days.length := by have := (List.getElem?_eq_some_iff.1 i2).1; omega
      have hLI := hLi i hil
      simp only [decide_eq_true_eq] at i3
      have hmin : (spanOf (tLeft kind day) (b.truths [])).1 < 0 → (i : Int) ≤ day := by
        intro hlo
        by_cases hc : day.toNat < i
        · have := i4 day.toNat x (by omega) hx
          simp only [Nat.zero_add, hdn, decide_eq_false_iff_not] at this
          exact absurd hlo this
        · omega
      have hn1 : ¬ ((spanOf (tLeft kind i) (b.truths [])).1 ≥ 0) := by omega
      cases o2 with
      | none =>
        have q2 := findFrom_none.1 h2 day.toNat x hx
        simp only [Nat.zero_add, hdn, decide_eq_false_iff_not] at q2
        (simp only [go_sem, simprocAttr, decanilaw06_CandleShort, hv, hdl, hkind, hday, hL, hS, hT, hLI, keyEq2]; repeat' (first | ((first | (refine br_yes (by omega) ?_) | (refine br_no (by omega) ?_) | (apply br_all; (· simp only [Bool.and_eq_true, decide_eq_true_eq]; omega)) | (apply br_free; (· simp [go_sem, Pm.acc, Acc.free, refsOf, keyEq, tagEq, cellsEq, cellEq]; done)) | ((first | apply br_mergeT | apply br_mergeF); (· intro h; simp only [go_sem, simprocAttr, sel_of h, decanilaw06_CandleShort, hv, hdl, hkind, hday, hL, hS, hT, hLI, keyEq2]; exact rfl))); (try simp only [go_sem, simprocAttr, decanilaw06_CandleShort, hv, hdl, hkind, hday, hL, hS, hT, hLI, keyEq2])) | ((first | apply onGuard_sel | (apply pickV_split; apply br_split) | apply br_split) <;> intro h <;> (try simp only [go_sem, simprocAttr, h, decanilaw06_CandleShort, hv, hdl, hkind, hday, hL, hS, hT, hLI, keyEq2]))))
        all_goals
          exfalso
          simp only [decide_eq_true_eq, decide_eq_false_iff_not, Bool.and_eq_true, Bool.or_eq_true] at *
          omega
      | some p =>
        obtain ⟨j, xj⟩ := p
        obtain ⟨-, j2, j3, j4⟩ := findFrom_some h2
        have hjl : j < b.days.length := by have := (List.getElem?_eq_some_iff.1 j2).1; omega
        have hLJ := hLi j hjl
        simp only [decide_eq_true_eq] at j3
        have hmin2 : (spanOf (tLeft kind day) (b.truths [])).2 < 0 → (j : Int) ≤ day := by
          intro hlo
          by_cases hc : day.toNat < j
          · have := j4 day.toNat x (by omega) hx
            simp only [Nat.zero_add, hdn, decide_eq_false_iff_not] at this
            exact absurd hlo this
          · omega
        (simp only [go_sem, simprocAttr, decanilaw06_CandleShort, hv, hdl, hkind, hday, hL, hS, hT, hLI, hLJ, keyEq2]; repeat' (first | ((first | (refine br_yes (by omega) ?_) | (refine br_no (by omega) ?_) | (apply br_all; (· simp only [Bool.and_eq_true, decide_eq_true_eq]; omega)) | (apply br_free; (· simp [go_sem, Pm.acc, Acc.free, refsOf, keyEq, tagEq, cellsEq, cellEq]; done)) | ((first | apply br_mergeT | apply br_mergeF); (· intro h; simp only [go_sem, simprocAttr, sel_of h, decanilaw06_CandleShort, hv, hdl, hkind, hday, hL, hS, hT, hLI, hLJ, keyEq2]; exact rfl))); (try simp only [go_sem, simprocAttr, decanilaw06_CandleShort, hv, hdl, hkind, hday, hL, hS, hT, hLI, hLJ, keyEq2])) | ((first | apply onGuard_sel | (apply pickV_split; apply br_split) | apply br_split) <;> intro h <;> (try simp only [go_sem, simprocAttr, h, decanilaw06_CandleShort, hv, hdl, hkind, hday, hL, hS, hT, hLI, hLJ, keyEq2]))))
        all_goals
          exfalso
          simp only [decide_eq_true_eq, decide_eq_false_iff_not, Bool.and_eq_true, Bool.or_eq_true] at *
          omega
end
end Go.Pm.Cd

namespace Go.Pm
open T
theorem hasL_int (k : IntKind) (ts : List T) (cs : List C) : T.hasL (.int k :: ts) cs ↔ ∃ n r, cs = .int k n :: r ∧ (Lit.int k n).wf = true ∧ T.hasL ts r := by
  simp only [T.hasL, T.has]
  constructor
  · rintro ⟨a, r, rfl, ⟨n, rfl, hn⟩, h⟩; exact ⟨n, r, rfl, hn, h⟩
  · rintro ⟨n, r, rfl, hn, h⟩; exact ⟨[.int k n], r, rfl, ⟨n, rfl, hn⟩, h⟩
theorem hasL_nil (cs : List C) : T.hasL [] cs ↔ cs = [] := by simp only [T.hasL]
theorem hasL_app : ∀ (us ts : List T) (cs : List C), T.hasL (us ++ ts) cs ↔ ∃ a r, cs = a ++ r ∧ T.hasL us a ∧ T.hasL ts r
  | [], ts, cs => by
    simp only [List.nil_append, T.hasL]
    constructor
    · intro h; exact ⟨[], cs, rfl, rfl, h⟩
    · rintro ⟨a, r, rfl, rfl, h⟩; exact h
  | u :: us, ts, cs => by
    simp only [List.cons_append, T.hasL, hasL_app us ts]
    constructor
    · rintro ⟨a, r, rfl, hu, b, c, rfl, h1, h2⟩; exact ⟨a ++ b, c, by simp, ⟨a, b, rfl, hu, h1⟩, h2⟩
    · rintro ⟨_, c, rfl, ⟨a, b, rfl, hu, h1⟩, h2⟩; exact ⟨a, b ++ c, by simp, hu, b, c, rfl, h1, h2⟩
theorem hasL_st (us ts : List T) (cs : List C) : T.hasL (.st us :: ts) cs ↔ T.hasL (us ++ ts) cs := by
  rw [hasL_app]; simp only [T.hasL, T.has]
theorem hasL_sl (es : Nat) (e : T) (ts : List T) (cs : List C) : T.hasL (.sl es e :: ts) cs ↔ ∃ k l r, cs = .sl k es l :: r ∧ l.length ≤ maxLen ∧ (∀ x ∈ l, T.has e x) ∧ (k = .nil → l = []) ∧ (l = [] → True) ∧ T.hasL ts r := by
  simp only [T.hasL, T.has]
  constructor
  · rintro ⟨a, r, rfl, ha, h⟩
    rcases ha with rfl | ⟨k, l, rfl, hk, hl, hx⟩
    · exact ⟨.nil, [], r, rfl, Nat.zero_le _, by simp, fun _ => rfl, fun _ => trivial, h⟩
    · exact ⟨k, l, r, rfl, hl, hx, fun e => absurd e hk, fun _ => trivial, h⟩
  · rintro ⟨k, l, r, rfl, hl, hx, hk, -, h⟩
    refine ⟨[.sl k es l], r, rfl, ?_, h⟩
    by_cases e : k = .nil
    · have := hk e; subst this; subst e; exact .inl rfl
    · exact .inr ⟨k, l, rfl, e, hl, hx⟩
theorem all_map {α : Type} (e : T) (c : α → List C) (h : ∀ x, T.has e x → ∃ a, x = c a) : ∀ (l : List (List C)), (∀ x ∈ l, T.has e x) → ∃ ys : List α, l = ys.map c
  | [], _ => ⟨[], rfl⟩
  | x :: l, hl => by
    obtain ⟨a, rfl⟩ := h x (hl x (by simp))
    obtain ⟨ys, rfl⟩ := all_map e c h l (fun y hy => hl y (by simp [hy]))
    exact ⟨a :: ys, rfl⟩
end Go.Pm
namespace Go.Pm.Cd
def i1 : T := .int .i64
def spanT : T := .st [i1, i1]
def dayT : T := .st [i1, spanT, .st [i1, i1]]
def orderT : T := .st [i1, i1, i1]
def countT : T := .st [i1, i1, i1, i1]
def bookT : T := .st [.st [spanT, spanT], .st [spanT, spanT], .sl 5 dayT, .sl 3 orderT, .sl 4 countT]
theorem day_of (x : List C) (h : T.has dayT x) : ∃ d : Day, x = d.c := by
  simp only [dayT, spanT, i1, T.has, hasL_int, hasL_st, List.cons_append, List.nil_append, hasL_nil] at h
  obtain ⟨n, r, rfl, -, n2, r2, rfl, -, n3, r3, rfl, -, n4, r4, rfl, -, n5, r5, rfl, -, rfl⟩ := h
  exact ⟨⟨n, ⟨n2, n3⟩, n4, n5⟩, rfl⟩
theorem order_of (x : List C) (h : T.has orderT x) : ∃ d : Order, x = d.c := by
  simp only [orderT, i1, T.has, hasL_int, hasL_st, List.cons_append, List.nil_append, hasL_nil] at h
  obtain ⟨n, r, rfl, -, n2, r2, rfl, -, n3, r3, rfl, -, rfl⟩ := h
  exact ⟨⟨n, n2, n3⟩, rfl⟩
theorem count_of (x : List C) (h : T.has countT x) : ∃ d : Count, x = d.c := by
  simp only [countT, i1, T.has, hasL_int, hasL_st, List.cons_append, List.nil_append, hasL_nil] at h
  obtain ⟨n, r, rfl, -, n2, r2, rfl, -, n3, r3, rfl, -, n4, r4, rfl, -, rfl⟩ := h
  exact ⟨⟨n, n2, n3, n4⟩, rfl⟩
theorem book_of (v : V) (h : bookT.hasV v) : ∃ b : Book, v = .agg b.c ∧ b.Fits := by
  simp only [bookT, T.hasV] at h
  obtain ⟨cl, rfl, h⟩ := h
  simp only [spanT, i1, hasL_int, hasL_st, hasL_sl, List.cons_append, List.nil_append, hasL_nil] at h
  obtain ⟨n, r, rfl, -, n2, r2, rfl, -, n3, r3, rfl, -, n4, r4, rfl, -, n5, r5, rfl, -, n6, r6, rfl, -, n7, r7, rfl, -, n8, r8, rfl, -, k1, l1, r9, rfl, m1, a1, -, -, k2, l2, r10, rfl, m2, a2, -, -, k3, l3, r11, rfl, m3, a3, -, -, rfl⟩ := h
  obtain ⟨ds, rfl⟩ := all_map dayT Day.c day_of l1 a1
  obtain ⟨os, rfl⟩ := all_map orderT Order.c order_of l2 a2
  obtain ⟨xs, rfl⟩ := all_map countT Count.c count_of l3 a3
  refine ⟨⟨⟨n, n2⟩, ⟨n3, n4⟩, ⟨n5, n6⟩, ⟨n7, n8⟩, k1, ds, k2, os, k3, xs⟩, rfl, ⟨?_, ?_, ?_⟩⟩
  · simpa [maxLen] using m1
  · simpa [maxLen] using m2
  · simpa [maxLen] using m3
theorem int_of (v : V) (h : i1.hasV v) : ∃ n : Int, (Lit.int .i64 n).wf = true ∧ v = vi n := by
  simp only [T.hasV, i1, T.has] at h
  obtain ⟨c, rfl, n, hc, hw⟩ := h
  simp only [List.cons.injEq, and_true] at hc
  subst hc
  exact ⟨n, hw, rfl⟩
theorem countV_of (v : V) (h : countT.hasV v) : ∃ y : Count, v = .agg y.c := by
  simp only [countT, T.hasV] at h
  obtain ⟨cl, rfl, h⟩ := h
  obtain ⟨y, rfl⟩ := count_of cl (by simp only [countT, T.has]; exact h)
  exact ⟨y, rfl⟩
theorem bits_of (v : V) (h : (T.sl 1 i1).hasV v) : ∃ (k : SK) (l : List Int), (l.length ≤ maxLen ∧ ∀ n, n ∈ l → (Lit.int .i64 n).wf = true) ∧ v = .sc (.sl k 1 (l.map fun x => [ci x])) := by
  simp only [T.hasV] at h
  obtain ⟨c, rfl, h⟩ := h
  have h' := (hasL_sl 1 i1 [] [c]).1 (by simp only [T.hasL]; exact ⟨[c], [], rfl, h, rfl⟩)
  obtain ⟨k, l, r, hc, hl, hx, -, -, hr⟩ := h'
  rw [hasL_nil] at hr
  subst hr
  simp only [List.cons.injEq, and_true] at hc
  subst hc
  obtain ⟨ys, rfl⟩ := all_map i1 (fun n : Int => [ci n]) (fun x hx => by
    simp only [i1, T.has] at hx
    obtain ⟨n, rfl, -⟩ := hx
    exact ⟨n, rfl⟩) l hx
  refine ⟨k, ys, ⟨by simpa using hl, fun n hn => ?_⟩, rfl⟩
  have := hx [ci n] (List.mem_map.2 ⟨n, hn, rfl⟩)
  simp only [i1, T.has] at this
  obtain ⟨m, hm, hw⟩ := this
  cases hm
  exact hw
theorem ints3_of (v : V) (h : (T.st [i1, i1, i1]).hasV v) : ∃ a c d : Int, v = .agg [ci a, ci c, ci d] := by
  simp only [T.hasV, i1] at h
  obtain ⟨cl, rfl, h⟩ := h
  simp only [hasL_int, hasL_nil] at h
  obtain ⟨n, r, rfl, -, n2, r2, rfl, -, n3, r3, rfl, -, rfl⟩ := h
  exact ⟨n, n2, n3, rfl⟩
theorem ints5_of (v : V) (h : (T.st [i1, i1, i1, i1, i1]).hasV v) : ∃ a c d e f : Int, v = .agg [ci a, ci c, ci d, ci e, ci f] := by
  simp only [T.hasV, i1] at h
  obtain ⟨cl, rfl, h⟩ := h
  simp only [hasL_int, hasL_nil] at h
  obtain ⟨n, r, rfl, -, n2, r2, rfl, -, n3, r3, rfl, -, n4, r4, rfl, -, n5, r5, rfl, -, rfl⟩ := h
  exact ⟨n, n2, n3, n4, n5, rfl⟩
theorem ints2_of (v : V) (h : (T.st [i1, i1]).hasV v) : ∃ a c : Int, v = .agg [ci a, ci c] := by
  simp only [T.hasV, i1] at h
  obtain ⟨cl, rfl, h⟩ := h
  simp only [hasL_int, hasL_nil] at h
  obtain ⟨n, r, rfl, -, n2, r2, rfl, -, rfl⟩ := h
  exact ⟨n, n2, rfl⟩
end Go.Pm.Cd

namespace Go.Proofs.YtdndhpoinffpbaaDoor
open Go Go.Pm Go.ChangeShapes Go.WideShapes Go.ChangeAt Go.RowKit
set_option maxRecDepth 100000

instance p06 : P06 Γ1 := by constructor <;> rfl
instance g06 : Cd.G06 Γ1 := ⟨rfl, rfl⟩

theorem own : ownKnob Tryd.prog.godebug = none := by kernel_rfl
theorem laidOut : laidOutB Tryd.prog = true := by kernel_rfl
def laidL : List (String × DataW Unit) := [("decani/candle.nowhere", Rows.laid_decani_candle_nowhere), ("decani/candle.lacks", Rows.laid_decani_candle_lacks)]
theorem door_met (os : Os) (args : Array Value) : laidMetH Tryd.prog laidL ((World.doorLaid Tryd.prog 600 os).forCall (fun _ _ => 0) ⟨#[], args, []⟩).memory :=
  laidMetH_of_parts3 (fuel := 8) (laidMet_of_run' 8 (by kernel_rfl) (by kernel_rfl)) (by kernel_rfl) (by kernel_rfl)

def nameMay : List UInt8 := [40, 100, 101, 99, 97, 110, 105, 47, 99, 97, 110, 100, 108, 101, 46, 98, 111, 111, 107, 41, 46, 109, 97, 121]
def nameMust : List UInt8 := [40, 100, 101, 99, 97, 110, 105, 47, 99, 97, 110, 100, 108, 101, 46, 98, 111, 111, 107, 41, 46, 109, 117, 115, 116]
theorem globs {w : World} (h : laidMetH Tryd.prog laidL w) : ∀ id ∈ G1, RC S1 (.start w) (.eptr (S1.Γ.glob id) 0) (.pointer (some ⟨S1.gm id, 0, none⟩)) := by
  intro id hid
  have : id = 1 ∨ id = 2 := by simpa [G1] using hid
  rcases this with rfl | rfl
  · exact glob_ints (S := S1) (n := "decani/candle.nowhere") (b := 0) (t := 114) (k := 2) (d := 8) (zs := [-1, -1]) h (List.Mem.head _) (by kernel_rfl) (by kernel_rfl) (by kernel_rfl)
  · exact glob_funcs (S := S1) (n := "decani/candle.lacks") (b := 1) (t := 126) (e := 125) (k := 2) (ps := #[85, 3, 3]) (rs := #[4]) (va := false) (ids := [85, 86]) (names := [nameMay, nameMust]) h (List.Mem.tail _ (List.Mem.head _)) (by kernel_rfl) (by kernel_rfl) (by kernel_rfl) (by kernel_rfl) (by kernel_rfl) (by kernel_rfl) rfl rfl (by kernel_rfl)
end Go.Proofs.YtdndhpoinffpbaaDoor

namespace Go.Pm.Cd
open Ac
set_option maxRecDepth 100000
set_option linter.unusedSimpArgs false
set_option linter.unusedSectionVars false
set_option linter.unusedVariables false

def Book.stock (b : Book) (k : Int) : Span := if k = 0 then b.s0 else b.s1
def Book.life (b : Book) (k : Int) : Span := if k = 0 then b.f0 else b.f1
def Day.lights (x : Day) (k : Int) : Int := if k = 0 then x.l0 else x.l1
def Book.runK (b : Book) (k n f : Int) (dk : Nat → Int) : Nat → Int
  | 0 => n
  | d + 1 => match b.days[d]? with
    | none => b.runK k n f dk d
    | some x => after1 (b.runK k n f dk d) (got2 b.comes k d) f (x.lights k) (min x.hours (dk d))
theorem runK_succ (b : Book) (k n f : Int) (dk : Nat → Int) {d : Nat} {x : Day} (hx : b.days[d]? = some x) : b.runK k n f dk (d + 1) = after1 (b.runK k n f dk d) (got2 b.comes k d) f (x.lights k) (min x.hours (dk d)) := by
  simp only [Book.runK, hx]
theorem run_K (b : Book) (n0 f0 n1 f1 : Int) (dk : Nat → Int) : ∀ d, b.run n0 f0 n1 f1 dk d = (b.runK 0 n0 f0 dk d, b.runK 1 n1 f1 dk d)
  | 0 => rfl
  | d + 1 => by
    simp only [Book.run, Book.runK, run_K b n0 f0 n1 f1 dk d]
    cases b.days[d]? with
    | none => rfl
    | some x => rfl
theorem runK_agree (b : Book) (k n f : Int) (dk dk' : Nat → Int) : ∀ (d : Nat), (∀ e, e < d → dk e = dk' e) → b.runK k n f dk d = b.runK k n f dk' d
  | 0, _ => rfl
  | d + 1, h => by
    have ih := runK_agree b k n f dk dk' d (fun e he => h e (by omega))
    simp only [Book.runK, ih, h d (by omega)]

structure Way (b : Book) (but : List Int) (n f : Int → Int) (dk : Nat → Int) : Prop where
  stock : ∀ k, k = 0 ∨ k = 1 → (b.stock k).has (n k)
  life : ∀ k, k = 0 ∨ k = 1 → (b.life k).has (f k)
  dark : ∀ (d : Nat) (x : Day), b.days[d]? = some x → x.dark.has (dk d)
  right : ∀ (i : Nat) (x : Count), b.counts[i]? = some x → but.contains (i : Int) = false → within (x.left - b.runK x.kind (n x.kind) (f x.kind) dk (x.day.toNat + 1)) (-x.err) x.err = true

structure Says (b : Book) (n f : Int → Int) (dk : Nat → Int) (t : List Int) : Prop where
  life : ∀ k, k = 0 ∨ k = 1 → tLife k t = f k
  left : ∀ k, k = 0 ∨ k = 1 → ∀ d : Int, 0 ≤ d → d < b.days.length → tLeft k d t = b.runK k (n k) (f k) dk (d.toNat + 1)
  dark : ∀ d : Int, 0 ≤ d → d < b.days.length → tDark d t = dk d.toNat

theorem right_iff {b : Book} (hv : b.sane = true) (but : List Int) (n f : Int → Int) (dk : Nat → Int) :
    (∀ d, d < b.days.length → b.rightOn but d (b.runK 0 (n 0) (f 0) dk (d + 1)) (b.runK 1 (n 1) (f 1) dk (d + 1)) = true) ↔
    (∀ (i : Nat) (x : Count), b.counts[i]? = some x → but.contains (i : Int) = false → within (x.left - b.runK x.kind (n x.kind) (f x.kind) dk (x.day.toNat + 1)) (-x.err) x.err = true) := by
  have hk : ∀ (x : Count), x ∈ b.counts → (0 ≤ x.day ∧ x.day ≤ b.days.length - 1) ∧ (x.kind = 0 ∨ x.kind = 1) := fun x hx => by
    have := valid_counts hv x hx
    simp only [Book.isCount, Bool.and_eq_true, within_iff] at this
    omega
  have hsel : ∀ (x : Count), x ∈ b.counts → ∀ d : Nat, (d : Int) = x.day → (if x.kind = 0 then b.runK 0 (n 0) (f 0) dk (d + 1) else b.runK 1 (n 1) (f 1) dk (d + 1)) = b.runK x.kind (n x.kind) (f x.kind) dk (x.day.toNat + 1) := fun x hx d hd => by
    have e : x.day.toNat = d := by omega
    rcases (hk x hx).2 with h | h
    · rw [if_pos h, h, e]
    · rw [if_neg (by omega), h, e]
  constructor
  · intro h i x hx hb
    have hm := List.mem_of_getElem? hx
    obtain ⟨⟨h1, h2⟩, -⟩ := hk x hm
    have hr := h x.day.toNat (by omega)
    simp only [Book.rightOn, Option.isNone_iff_eq_none] at hr
    have := findFrom_none.1 hr i x hx
    simp only [Count.off, Nat.zero_add, hsel x hm x.day.toNat (by omega), hb] at this
    have e : decide (x.day = (x.day.toNat : Int)) = true := decide_eq_true (by omega)
    rw [e, Bool.true_and] at this
    simpa using this
  · intro h d hd
    simp only [Book.rightOn, Option.isNone_iff_eq_none]
    rw [findFrom_none]
    intro i x hx
    have hm := List.mem_of_getElem? hx
    simp only [Count.off, Nat.zero_add]
    by_cases hday : x.day = (d : Int)
    · rw [hsel x hm d hday.symm]
      cases hb : but.contains (i : Int) with
      | true => simp
      | false => simp [h i x hx hb]
    · simp [hday]

theorem truth_way {b : Book} (hv : b.sane = true) {but : List Int} {t : List Int} (ht : t ∈ b.truths but) : ∃ n f dk, Way b but n f dk ∧ Says b n f dk t := by
  obtain ⟨n0, f0, n1, f1, dk, h0, h1, h2, h3, hG⟩ := truth_good hv ht
  have hr := (right_iff hv but (fun k => if k = 0 then n0 else n1) (fun k => if k = 0 then f0 else f1) dk).1 (fun d hd => by
    have := hG.right d hd
    simp only [run_K] at this
    simpa using this)
  refine ⟨fun k => if k = 0 then n0 else n1, fun k => if k = 0 then f0 else f1, dk, ⟨?_, ?_, fun d x hx => hG.dark d x (List.getElem?_eq_some_iff.1 hx).1 hx, hr⟩, ⟨?_, ?_, ?_⟩⟩
  · rintro k (rfl | rfl)
    · exact h0
    · exact h2
  · rintro k (rfl | rfl)
    · exact h1
    · exact h3
  · rintro k (rfl | rfl)
    · exact hG.l0
    · exact hG.l1
  · rintro k (rfl | rfl) d hd0 hd
    · have := hG.a0 d.toNat (by omega)
      rw [run_K] at this
      exact this
    · have := hG.a1 d.toNat (by omega)
      rw [run_K] at this
      have e : 7 + d.toNat * 2 + (1 : Int).toNat = 7 + (d.toNat * 2 + 1) := by simp; omega
      simp only [tLeft]
      rw [e]; exact this
  · intro d hd0 hd
    exact hG.dks d.toNat (by omega)

theorem way_truth {b : Book} (hv : b.sane = true) {but : List Int} {n f : Int → Int} {dk : Nat → Int} (w : Way b but n f dk) : ∃ t, t ∈ b.truths but ∧ Says b n f dk t := by
  have hr := (right_iff hv but n f dk).2 w.right
  obtain ⟨t, ht, hG⟩ := truth_all hv but (n0 := n 0) (f0 := f 0) (n1 := n 1) (f1 := f 1) (dk := dk) (w.stock 0 (.inl rfl)) (w.life 0 (.inl rfl)) (w.stock 1 (.inr rfl)) (w.life 1 (.inr rfl)) w.dark (fun d hd => by
    have := hr d hd
    rw [run_K]; exact this)
  refine ⟨t, ht, ⟨?_, ?_, ?_⟩⟩
  · rintro k (rfl | rfl)
    · exact hG.l0
    · exact hG.l1
  · rintro k (rfl | rfl) d hd0 hd
    · have := hG.a0 d.toNat (by omega)
      rw [run_K] at this
      exact this
    · have := hG.a1 d.toNat (by omega)
      rw [run_K] at this
      have e : 7 + d.toNat * 2 + (1 : Int).toNat = 7 + (d.toNat * 2 + 1) := by simp; omega
      simp only [tLeft]
      rw [e]; exact this
  · intro d hd0 hd
    exact hG.dks d.toNat (by omega)

theorem truths_ne {b : Book} (hv : b.sane = true) (but : List Int) : b.truths but ≠ [] ↔ ∃ n f dk, Way b but n f dk := by
  constructor
  · intro h
    obtain ⟨t, ht⟩ := List.exists_mem_of_ne_nil _ h
    obtain ⟨n, f, dk, w, -⟩ := truth_way hv ht
    exact ⟨n, f, dk, w⟩
  · rintro ⟨n, f, dk, w⟩ e
    obtain ⟨t, ht, -⟩ := way_truth hv w
    rw [e] at ht; cases ht

theorem span_ways {b : Book} (hv : b.sane = true) {but : List Int} (hne : b.truths but ≠ []) (g : List Int → Int) (G : (Int → Int) → (Int → Int) → (Nat → Int) → Int) (hg : ∀ t n f dk, Says b n f dk t → g t = G n f dk) :
    (∀ n f dk, Way b but n f dk → (spanOf g (b.truths but)).1 ≤ G n f dk ∧ G n f dk ≤ (spanOf g (b.truths but)).2) ∧
    (∃ n f dk, Way b but n f dk ∧ (spanOf g (b.truths but)).1 = G n f dk) ∧ (∃ n f dk, Way b but n f dk ∧ (spanOf g (b.truths but)).2 = G n f dk) := by
  refine ⟨fun n f dk w => ?_, ?_, ?_⟩
  · obtain ⟨t, ht, hs⟩ := way_truth hv w
    rw [← hg t n f dk hs]
    exact span_le g _ ht
  · obtain ⟨t, ht, e⟩ := span_lo g _ hne
    obtain ⟨n, f, dk, w, hs⟩ := truth_way hv ht
    exact ⟨n, f, dk, w, by rw [e, hg t n f dk hs]⟩
  · obtain ⟨t, ht, e⟩ := span_hi g _ hne
    obtain ⟨n, f, dk, w, hs⟩ := truth_way hv ht
    exact ⟨n, f, dk, w, by rw [e, hg t n f dk hs]⟩
theorem left_ways {b : Book} (hv : b.sane = true) {but : List Int} (hne : b.truths but ≠ []) {k d : Int} (hk : k = 0 ∨ k = 1) (hd : 0 ≤ d) (hd' : d < b.days.length) : (∀ n f dk, Way b but n f dk → (spanOf (tLeft k d) (b.truths but)).1 ≤ b.runK k (n k) (f k) dk (d.toNat + 1) ∧ b.runK k (n k) (f k) dk (d.toNat + 1) ≤ (spanOf (tLeft k d) (b.truths but)).2) ∧
    (∃ n f dk, Way b but n f dk ∧ (spanOf (tLeft k d) (b.truths but)).1 = b.runK k (n k) (f k) dk (d.toNat + 1)) ∧ (∃ n f dk, Way b but n f dk ∧ (spanOf (tLeft k d) (b.truths but)).2 = b.runK k (n k) (f k) dk (d.toNat + 1)) :=
  span_ways hv hne (tLeft k d) (fun n f dk => b.runK k (n k) (f k) dk (d.toNat + 1)) (fun _ _ _ _ hs => hs.left k hk d hd hd')
theorem life_ways {b : Book} (hv : b.sane = true) {but : List Int} (hne : b.truths but ≠ []) {k : Int} (hk : k = 0 ∨ k = 1) : (∀ n f dk, Way b but n f dk → (spanOf (tLife k) (b.truths but)).1 ≤ f k ∧ f k ≤ (spanOf (tLife k) (b.truths but)).2) ∧
    (∃ n f dk, Way b but n f dk ∧ (spanOf (tLife k) (b.truths but)).1 = f k) ∧ (∃ n f dk, Way b but n f dk ∧ (spanOf (tLife k) (b.truths but)).2 = f k) :=
  span_ways hv hne (tLife k) (fun n f dk => f k) (fun _ _ _ _ hs => hs.life k hk)
theorem dark_ways {b : Book} (hv : b.sane = true) {but : List Int} (hne : b.truths but ≠ []) {d : Int} (hd : 0 ≤ d) (hd' : d < b.days.length) : (∀ n f dk, Way b but n f dk → (spanOf (tDark d) (b.truths but)).1 ≤ dk d.toNat ∧ dk d.toNat ≤ (spanOf (tDark d) (b.truths but)).2) ∧
    (∃ n f dk, Way b but n f dk ∧ (spanOf (tDark d) (b.truths but)).1 = dk d.toNat) ∧ (∃ n f dk, Way b but n f dk ∧ (spanOf (tDark d) (b.truths but)).2 = dk d.toNat) :=
  span_ways hv hne (tDark d) (fun n f dk => dk d.toNat) (fun _ _ _ _ hs => hs.dark d hd hd')

def Book.bare (b : Book) : Book := { b with kc := .nil, counts := [] }
@[go_sem] theorem bare_set (b : Book) : b.c.set 10 (C.sl .nil 4 []) = b.bare.c := nrfl rfl
theorem bare_way {b : Book} {n f : Int → Int} {dk : Nat → Int} (h0 : ∀ k, k = 0 ∨ k = 1 → (b.stock k).has (n k)) (h1 : ∀ k, k = 0 ∨ k = 1 → (b.life k).has (f k)) (h2 : ∀ (d : Nat) (x : Day), b.days[d]? = some x → x.dark.has (dk d)) : Way b.bare [] n f dk :=
  ⟨h0, h1, h2, fun i x hx => by simp [Book.bare] at hx⟩
theorem bare_valid {b : Book} (hv : b.valid = true) : b.bare.valid = true := by
  simp only [Book.valid, Bool.and_eq_true, decide_eq_true_eq] at hv ⊢
  refine ⟨⟨⟨⟨⟨⟨⟨⟨⟨hv.1.1.1.1.1.1.1.1.1, hv.1.1.1.1.1.1.1.1.2⟩, ?_⟩, hv.1.1.1.1.1.1.2⟩, hv.1.1.1.1.1.2⟩, hv.1.1.1.1.2⟩, hv.1.1.1.2⟩, hv.1.1.2⟩, hv.1.2⟩, ?_⟩
  · simp [Book.bare]
  · simp [Book.bare]
theorem bare_fits (b : Book) [hb : b.Fits] : b.bare.Fits := ⟨hb.1, hb.2, by simp [Book.bare]⟩
theorem span_has {b : Book} (hv : b.sane = true) : (∀ k, k = 0 ∨ k = 1 → (b.stock k).lo ≤ (b.stock k).hi) ∧ (∀ k, k = 0 ∨ k = 1 → (b.life k).lo ≤ (b.life k).hi ∧ 1 ≤ (b.life k).lo ∧ (b.life k).hi ≤ 6) := by
  have := valid_spans hv
  refine ⟨?_, ?_⟩
  · rintro k (rfl | rfl)
    · exact this.1.2.1
    · exact this.2.2.1.2.1
  · rintro k (rfl | rfl)
    · exact ⟨this.2.1.2.1, this.2.1.1, this.2.1.2.2.1⟩
    · exact ⟨this.2.2.2.2.1, this.2.2.2.1, this.2.2.2.2.2.1⟩
def Book.dusk (b : Book) (d : Nat) : Int := match b.days[d]? with | some x => x.dark.lo | none => 0
theorem bare_ne {b : Book} (hv : b.sane = true) (hv' : b.bare.sane = true) : b.bare.truths [] ≠ [] := by
  rw [truths_ne hv']
  have hs := span_has hv
  refine ⟨fun k => (b.stock k).lo, fun k => (b.life k).lo, b.dusk, bare_way (fun k hk => ⟨Int.le_refl _, hs.1 k hk⟩) (fun k hk => ⟨Int.le_refl _, (hs.2 k hk).1⟩) (fun d x hx => ?_)⟩
  have := (valid_day hv hx).2.1
  simp only [Book.dusk, hx]
  exact ⟨Int.le_refl _, by omega⟩

theorem burnt_ways {b : Book} (hv : b.sane = true) {n f : Int → Int} {dk : Nat → Int} {but : List Int} (w : Way b but n f dk) {d : Nat} {x : Day} (hx : b.days[d]? = some x) {k : Int} (hk : k = 0 ∨ k = 1) :
    ∃ u, 0 ≤ u ∧ u ≤ 54 ∧ b.runK k (n k) (f k) dk (d + 1) = b.runK k (n k) (f k) dk d + got2 b.comes k d - u ∧ (x.lights k = 0 ∨ x.hours = 0 ∨ x.dark.hi = 0 → u = 0) := by
  have hd := valid_day hv hx
  have hl := (span_has hv).2 k hk
  have hf := w.life k hk
  have hdk := w.dark d x hx
  have h1 := hf.1; have h2 := hf.2; have h3 := hdk.1; have h4 := hdk.2
  have hlt : 0 ≤ x.lights k ∧ x.lights k ≤ 9 := by
    rcases hk with rfl | rfl
    · exact hd.2.2.1
    · exact hd.2.2.2
  have hb := burnt_bound (f k) (x.lights k) (min x.hours (dk d)) (by omega) (by omega) hlt
  refine ⟨((min x.hours (dk d)) + f k - 1).tdiv (f k) * x.lights k, hb.1, hb.2, by rw [runK_succ b k _ _ dk hx]; rfl, ?_⟩
  rintro (h | h | h)
  · rw [h, Int.mul_zero]
  · have e : min x.hours (dk d) = 0 := by omega
    rw [e, Int.tdiv_eq_zero_of_lt (by omega) (by omega), Int.zero_mul]
  · have e : min x.hours (dk d) = 0 := by omega
    rw [e, Int.tdiv_eq_zero_of_lt (by omega) (by omega), Int.zero_mul]

theorem fin_true {B : Bool} (h : B = true) : some (V.sc (C.bool B), ([] : List Obj)) = some (vb true, []) := by rw [h]
theorem comes_bound {b : Book} (hv : b.sane = true) (k d : Int) : 0 ≤ got2 b.comes k d ∧ got2 b.comes k d ≤ 240 := by
  have := comesN_bound hv b.orders.length (Nat.le_refl _) k d
  rw [comesN_all] at this
  have := valid_days hv; omega
section
variable {Γ : Env} [P06 Γ] [G06 Γ]
theorem askE_yes {b : Book} (hv : b.valid = true) (ht : b.truths [] ≠ []) : b.askE true = 0 := by simp [Book.askE, hv, ht]
theorem isKind_yes {k : Int} (h : k = 0 ∨ k = 1) : isKind k = true := by simp only [isKind, within_iff]; omega
theorem isDay_yes {b : Book} {d : Int} (h : 0 ≤ d) (h' : d < b.days.length) : b.isDay d = true := by simp only [Book.isDay, within_iff]; omega
theorem Left_yes (b : Book) [hb : b.Fits] (hv : b.valid = true) (ht : b.truths [] ≠ []) {kind day : Int} (hk : kind = 0 ∨ kind = 1) (hd : 0 ≤ day) (hd' : day < b.days.length) :
    K Γ (.fn 6) [.agg b.c, vi kind, vi day] [] = some (.tup [.agg [ci (spanOf (tLeft kind day) (b.truths [])).1, ci (spanOf (tLeft kind day) (b.truths [])).2], vi 0], []) := by
  rw [Left_k, isKind_yes hk, isDay_yes hd hd', Bool.and_self, askE_yes hv ht]; rfl
theorem Life_yes (b : Book) [hb : b.Fits] (hv : b.valid = true) (ht : b.truths [] ≠ []) {kind : Int} (hk : kind = 0 ∨ kind = 1) :
    K Γ (.fn 8) [.agg b.c, vi kind] [] = some (.tup [.agg [ci (spanOf (tLife kind) (b.truths [])).1, ci (spanOf (tLife kind) (b.truths [])).2], vi 0], []) := by
  rw [Life_k, isKind_yes hk, askE_yes hv ht]; rfl
theorem Dark_yes (b : Book) [hb : b.Fits] (hv : b.valid = true) (ht : b.truths [] ≠ []) {day : Int} (hd : 0 ≤ day) (hd' : day < b.days.length) :
    K Γ (.fn 10) [.agg b.c, vi day] [] = some (.tup [.agg [ci (spanOf (tDark day) (b.truths [])).1, ci (spanOf (tDark day) (b.truths [])).2], vi 0], []) := by
  rw [Dark_k, isDay_yes hd hd', askE_yes hv ht]; rfl
theorem Buy_yes (b : Book) [hb : b.Fits] (hv : b.valid = true) (ht : b.truths [] ≠ []) {kind day : Int} (hk : kind = 0 ∨ kind = 1) (hd : 0 ≤ day) (hd' : day < b.days.length) :
    K Γ (.fn 17) [.agg b.c, vi kind, vi day] [] = some (.tup [vi (b.buyN kind day (b.days.length - day).toNat), vi 0], []) := by
  rw [Buy_k, Book.buy, isKind_yes hk, isDay_yes hd hd', Bool.and_self, askE_yes hv ht]; rfl
theorem Short_yes (b : Book) [hb : b.Fits] (hv : b.valid = true) (ht : b.truths [] ≠ []) {kind : Int} (hk : kind = 0 ∨ kind = 1) :
    K Γ (.fn 13) [.agg b.c, vi kind] [] = some (.tup [vi (b.firstOn (fun i => decide ((spanOf (tLeft kind i) (b.truths [])).1 < 0))).1, vi (b.firstOn (fun i => decide ((spanOf (tLeft kind i) (b.truths [])).1 < 0))).2], []) := by
  rw [Short_k, Book.short, isKind_yes hk, askE_yes hv ht]; rfl
theorem Surely_yes (b : Book) [hb : b.Fits] (hv : b.valid = true) (ht : b.truths [] ≠ []) {kind : Int} (hk : kind = 0 ∨ kind = 1) :
    K Γ (.fn 15) [.agg b.c, vi kind] [] = some (.tup [vi (b.firstOn (fun i => decide ((spanOf (tLeft kind i) (b.truths [])).2 < 0))).1, vi (b.firstOn (fun i => decide ((spanOf (tLeft kind i) (b.truths [])).2 < 0))).2], []) := by
  rw [Surely_k, Book.surely, isKind_yes hk, askE_yes hv ht]; rfl
theorem Right_yes (b : Book) [hb : b.Fits] (hv : b.valid = true) : K Γ (.fn 2) [.agg b.c] [] = some (.tup [vb (decide (b.truths [] ≠ [])), vi 0], []) := by
  rw [Right_k, hv]; rfl
end
end Go.Pm.Cd

namespace Go.Pm.Cd
open Ac
set_option maxRecDepth 100000
set_option linter.unusedSimpArgs false
set_option linter.unusedSectionVars false
set_option linter.unusedVariables false

def ownF (es : Nat) (L : List (List C)) : C := match L with | [] => .sl .full es [] | _ :: _ => .own es L
theorem appended_ownF0 (es : Nat) (k : SK) (L : List (List C)) (hr : L.length ≤ room) : appended es (.sc (.sl .full es [])) (.sc (.sl k es L)) = some (ownF es L) := by
  cases L with
  | nil => simp [appended, elems, ownF]
  | cons x l => simp only [appended, elems, ownF, if_true]; simp at hr; simp [hr]
theorem appended_ownF (es : Nat) (k : SK) (L : List (List C)) (x : List C) (hr : L.length + 1 ≤ room) : appended es (.sc (ownF es L)) (.sc (.sl k es [x])) = some (.own es (L ++ [x])) := by
  cases L with
  | nil => simp [appended, elems, ownF, room]
  | cons y l => simp only [appended, elems, ownF, if_true]; simp at hr; simp [hr]
@[go_sem] theorem cells_ownF (es : Nat) (L : List (List C)) : (V.sc (ownF es L)).cells = [ownF es L] := by cases L <;> rfl
@[go_sem] theorem under_ownF (n es : Nat) (L : List (List C)) : C.under n (ownF es L) = true := by cases L <;> simp [ownF, C.under]

def Book.withO (b : Book) (x : Order) : Book := { b with ko := .shared, orders := b.orders ++ [x] }
def ownO (b : Book) (x : Order) : List C := [ci b.s0.lo, ci b.s0.hi, ci b.s1.lo, ci b.s1.hi, ci b.f0.lo, ci b.f0.hi, ci b.f1.lo, ci b.f1.hi, .sl b.kd 5 (b.days.map Day.c), .own 3 (b.orders.map Order.c ++ [x.c]), .sl b.kc 4 (b.counts.map Count.c)]
@[go_sem] theorem ownO_set (b : Book) (x : Order) : b.c.set 9 (.own 3 (b.orders.map Order.c ++ [x.c])) = ownO b x := nrfl rfl
@[go_sem] theorem ownO_all (b : Book) (x : Order) : cellsAt (ownO b x) 0 11 = some (ownO b x) := nrfl rfl
@[go_sem] theorem ownO_un (b : Book) (x : Order) : (ownO b x).map unown = (b.withO x).c := by
  simp [ownO, Book.withO, Book.c, unown]
@[go_sem] theorem ownO_under (b : Book) (x : Order) (n : Nat) : C.underL n (ownO b x) = true := by simp [ownO, go_sem]

section
variable {Γ : Env} [P06 Γ] [G06 Γ]
@[go_sem] theorem with_k (b : Book) [hb : b.Fits] (x : Order) (ho : b.orders.length ≤ 4) : K Γ (.fn 32) [.agg b.c, .agg x.c] [] = some (.agg (b.withO x).c, []) := by
  have h0 := appended_ownF0 3 b.ko (b.orders.map Order.c) (by simp only [List.length_map, room]; omega)
  have h1 := appended_ownF 3 .full (b.orders.map Order.c) x.c (by simp only [List.length_map, room]; omega)
  rw [K_fn P06.f32 _ _ rfl]
  (simp only [go_sem, simprocAttr, decanilaw06_with, h0, h1]; repeat' (first | ((first | (refine br_yes (by omega) ?_) | (refine br_no (by omega) ?_) | (apply br_all; (· simp only [Bool.and_eq_true, decide_eq_true_eq]; omega)) | (apply br_free; (· simp [go_sem, Pm.acc, Acc.free, refsOf, keyEq, tagEq, cellsEq, cellEq]; done)) | ((first | apply br_mergeT | apply br_mergeF); (· intro h; simp only [go_sem, simprocAttr, sel_of h, decanilaw06_with, h0, h1]; exact rfl))); (try simp only [go_sem, simprocAttr, decanilaw06_with, h0, h1])) | ((first | apply onGuard_sel | (apply pickV_split; apply br_split) | apply br_split) <;> intro h <;> (try simp only [go_sem, simprocAttr, h, decanilaw06_with, h0, h1]))))
end
theorem withO_valid {b : Book} (hv : b.valid = true) (ho : b.orders.length ≤ 3) {x : Order} (hx : b.orderOk x = true) : (b.withO x).valid = true := by
  have e1 : (b.withO x).orderOk = b.orderOk := rfl
  have e2 : (b.withO x).isCount = b.isCount := rfl
  simp only [Book.valid, Bool.and_eq_true, decide_eq_true_eq, e1, e2] at hv ⊢
  refine ⟨⟨⟨⟨⟨⟨⟨⟨⟨hv.1.1.1.1.1.1.1.1.1, ?_⟩, hv.1.1.1.1.1.1.1.2⟩, hv.1.1.1.1.1.1.2⟩, hv.1.1.1.1.1.2⟩, hv.1.1.1.1.2⟩, hv.1.1.1.2⟩, hv.1.1.2⟩, ?_⟩, hv.2⟩
  · simp only [Book.withO, List.length_append, List.length_cons, List.length_nil]; omega
  · simp only [Book.withO, List.all_append, List.all_cons, List.all_nil, hv.1.2, hx]; rfl
theorem withO_fits {b : Book} (hv : b.valid = true) (x : Order) : (b.withO x).Fits := by
  have := valid_days (sane_of_valid hv)
  exact ⟨by simp only [Book.withO]; omega, by simp only [Book.withO, List.length_append, List.length_cons, List.length_nil]; omega, by simp only [Book.withO]; omega⟩
theorem withO_comes (b : Book) (x : Order) (k d : Int) : got2 (b.withO x).comes k d = if x.kind = k ∧ x.day = d then got2 b.comes k d + x.many else got2 b.comes k d := by
  simp only [Book.comes, Book.withO, List.foldl_append, List.foldl_cons, List.foldl_nil]
  rw [addOrder, got2_put]
  by_cases h : k = x.kind ∧ d = x.day
  · rw [if_pos h, if_pos ⟨h.1.symm, h.2.symm⟩, h.1, h.2]
  · rw [if_neg h, if_neg (fun e => h ⟨e.1.symm, e.2.symm⟩)]
theorem withO_run (b : Book) (x : Order) (k n f : Int) (dk : Nat → Int) (hx : 0 ≤ x.day) : ∀ d, d ≤ b.days.length → (b.withO x).runK k n f dk d = b.runK k n f dk d + if x.kind = k ∧ x.day < d then x.many else 0
  | 0, _ => by rw [if_neg (by omega)]; simp [Book.runK]
  | d + 1, hd => by
    obtain ⟨y, hy⟩ : ∃ y, b.days[d]? = some y := ⟨_, List.getElem?_eq_getElem (by omega)⟩
    rw [runK_succ b k n f dk hy, runK_succ (b.withO x) k n f dk (show (b.withO x).days[d]? = some y from hy), withO_run b x k n f dk hx d (by omega), withO_comes]
    simp only [after1]
    have c1 : (if x.kind = k ∧ x.day < ((d + 1 : Nat) : Int) then x.many else 0) = (if x.kind = k ∧ x.day < (d : Int) then x.many else 0) + (if x.kind = k ∧ x.day = (d : Int) then x.many else 0) := by
      by_cases h1 : x.kind = k
      · simp only [h1, true_and]
        by_cases h2 : x.day = d
        · rw [if_pos (by omega), if_neg (by omega), if_pos h2]; omega
        · by_cases h3 : x.day < d
          · rw [if_pos (by omega), if_pos h3, if_neg h2]; omega
          · rw [if_neg (by omega), if_neg h3, if_neg h2]; omega
      · simp [h1]
    rw [c1]
    by_cases h : x.kind = k ∧ x.day = (d : Int)
    · rw [if_pos h, if_pos h]; omega
    · rw [if_neg h, if_neg h]; omega
theorem withO_way (b : Book) (x : Order) {n f : Int → Int} {dk : Nat → Int} : Way (b.bare.withO x) [] n f dk ↔ Way b.bare [] n f dk := by
  constructor
  · intro w; exact ⟨w.stock, w.life, w.dark, fun i y hy => by simp [Book.bare] at hy⟩
  · intro w; exact ⟨w.stock, w.life, w.dark, fun i y hy => by simp [Book.bare, Book.withO] at hy⟩

theorem withO_span {b : Book} (hv : b.valid = true) (x : Order) (hx : b.orderOk x = true) (ho : b.orders.length ≤ 3) {k day : Int} (hk : k = 0 ∨ k = 1) (hd : 0 ≤ day) (hd' : day < b.days.length) :
    (b.bare.withO x).truths [] ≠ [] ∧ (spanOf (tLeft k day) ((b.bare.withO x).truths [])).1 = (spanOf (tLeft k day) (b.bare.truths [])).1 + (if x.kind = k ∧ x.day ≤ day then x.many else 0) ∧
    (spanOf (tLeft k day) ((b.bare.withO x).truths [])).2 = (spanOf (tLeft k day) (b.bare.truths [])).2 + (if x.kind = k ∧ x.day ≤ day then x.many else 0) := by
  have hvb := bare_valid hv
  have hvw : (b.bare.withO x).valid = true := withO_valid hvb ho hx
  have hs := sane_of_valid hvb
  have hne := bare_ne (sane_of_valid hv) hs
  have hne' : (b.bare.withO x).truths [] ≠ [] := by
    rw [truths_ne (sane_of_valid hvw)]
    obtain ⟨n, f, dk, w⟩ := (truths_ne hs []).1 hne
    exact ⟨n, f, dk, (withO_way b x).2 w⟩
  refine ⟨hne', ?_⟩
  have hxd : 0 ≤ x.day := by
    simp only [Book.orderOk, Bool.and_eq_true, within_iff] at hx; omega
  have hr (n f : Int → Int) (dk : Nat → Int) : (b.bare.withO x).runK k (n k) (f k) dk (day.toNat + 1) = b.bare.runK k (n k) (f k) dk (day.toNat + 1) + (if x.kind = k ∧ x.day ≤ day then x.many else 0) := by
    rw [withO_run b.bare x k _ _ dk hxd (day.toNat + 1) (by simp only [Book.bare]; omega)]
    have e : (x.kind = k ∧ x.day < ((day.toNat + 1 : Nat) : Int)) ↔ (x.kind = k ∧ x.day ≤ day) := by omega
    simp only [e]
  obtain ⟨p1, ⟨n1, f1, d1, w1, e1⟩, ⟨n2, f2, d2, w2, e2⟩⟩ := left_ways hs hne hk hd (show day < b.bare.days.length from hd')
  obtain ⟨q1, ⟨m1, g1, c1, v1, r1⟩, ⟨m2, g2, c2, v2, r2⟩⟩ := left_ways (sane_of_valid hvw) hne' hk hd (show day < (b.bare.withO x).days.length from hd')
  have a1 := q1 _ _ _ ((withO_way b x).2 w1)
  have a2 := q1 _ _ _ ((withO_way b x).2 w2)
  have a3 := p1 _ _ _ ((withO_way b x).1 v1)
  have a4 := p1 _ _ _ ((withO_way b x).1 v2)
  rw [hr] at a1 a2 r1 r2
  omega
end Go.Pm.Cd

namespace Go.Pm.Cd
open Ac
set_option maxRecDepth 100000
set_option linter.unusedSimpArgs false
set_option linter.unusedSectionVars false
set_option linter.unusedVariables false

@[go_sem] theorem bin_shl (k : IntKind) (x y : Int) : bin .shl (.sc (.int k x)) (.sc (.int .i64 y)) = br (decide (y < 0)) none (some (.int k (k.wrap (x * 2 ^ (Nat.min y.toNat k.bits))))) := by
  simp only [bin, shifted]; by_cases h : y < 0 <;> simp [h]
@[go_sem] theorem bin_shr (k : IntKind) (x y : Int) : bin .shr (.sc (.int k x)) (.sc (.int .i64 y)) = br (decide (y < 0)) none (some (.int k (x.fdiv (2 ^ (Nat.min y.toNat k.bits))))) := by
  simp only [bin, shifted]; by_cases h : y < 0 <;> simp [h]
@[go_sem] theorem bin_and (k : IntKind) (x y : Int) : bin .and (.sc (.int k x)) (.sc (.int k y)) = some (.int k (wrapBits k (BitVec.ofInt k.bits x &&& BitVec.ofInt k.bits y))) := by simp [bin, arith]

def hasBit (set n : Int) : Bool := decide (0 ≤ n) && decide (n < 62) && decide (wrapBits .i64 (BitVec.ofInt 64 (set.fdiv (2 ^ n.toNat)) &&& BitVec.ofInt 64 1) = 1)
def bitsN (set : Int) (i : Nat) : List Int := ((List.range i).filter fun (j : Nat) => hasBit set (j : Int)).map fun (j : Nat) => (j : Int)
theorem bitsN_succ (set : Int) (i : Nat) : bitsN set (i + 1) = if hasBit set i then bitsN set i ++ [(i : Int)] else bitsN set i := by
  simp only [bitsN, List.range_succ, List.filter_append, List.map_append]
  cases h : hasBit set (i : Int) <;> simp [h]
def kF {α : Type} (L : List α) : SK := match L with | [] => .full | _ :: _ => .shared
theorem unown_ownF (es : Nat) (L : List (List C)) : unown (ownF es L) = .sl (kF L) es L := by cases L <;> rfl
theorem ownF_app (es : Nat) (L : List (List C)) (x : List C) : ownF es (L ++ [x]) = .own es (L ++ [x]) := by cases L <;> rfl
theorem kF_map {α β : Type} (f : α → β) (L : List α) : kF (L.map f) = kF L := by cases L <;> rfl

def earlier (l m : List Int) : Bool := match findFrom (fun _ (p : Int × Int) => decide (p.1 ≠ p.2)) 0 (l.zip m) with | some (_, p) => decide (p.1 < p.2) | none => decide ((l.length : Int) < m.length)
def shorter (l m : List Int) : Bool := decide ((l.length : Int) < m.length) || (decide ((l.length : Int) = m.length) && earlier l m)
def orderedP (l : List Int) (below : Int) (i : Nat) (x : Int) : Bool := !within x 0 (below - 1) || (decide (0 < (i : Int)) && decide (x ≤ l.getD (i - 1) 0))
def ordered (l : List Int) (below : Int) : Bool := (findFrom (orderedP l below) 0 l).isNone
def whereOf (l : List Int) (n : Int) : Int := match findFrom (fun _ x => decide (x = n)) 0 l with | some (i, _) => i | none => -1
theorem whereOf_neg (l : List Int) (n : Int) : decide (whereOf l n < 0) = !l.contains n := by
  unfold whereOf
  cases h : findFrom (fun _ x => decide (x = n)) 0 l with
  | none =>
    have hc : l.contains n = false := by
      rw [Bool.eq_false_iff]
      intro hc; rw [List.contains_iff_mem, List.mem_iff_getElem?] at hc
      obtain ⟨i, hi⟩ := hc
      have := findFrom_none.1 h i n hi
      simp at this
    rw [hc]; rfl
  | some q =>
    obtain ⟨i, x⟩ := q
    obtain ⟨-, h2, h3, -⟩ := findFrom_some h
    simp only [decide_eq_true_eq] at h3
    subst h3
    rw [List.contains_iff_mem.2 (List.mem_iff_getElem?.2 ⟨_, h2⟩)]
    simp only [Bool.not_true, decide_eq_false_iff_not]; omega

section
variable {Γ : Env} [P06 Γ] [G06 Γ]
@[go_sem] theorem Where_k (k : SK) (l : List Int) (n : Int) (hl : l.length ≤ 1000000) : K Γ (.fn 66) [.sc (.sl k 1 (l.map fun x => [ci x])), vi n] [] = some (vi (whereOf l n), []) := by
  rw [K_fn P06.f66 _ _ rfl]
  (simp only [go_sem, simprocAttr, decaniref00_Where]; repeat' (first | ((first | (refine br_yes (by omega) ?_) | (refine br_no (by omega) ?_) | (apply br_all; (· simp only [Bool.and_eq_true, decide_eq_true_eq]; omega)) | (apply br_free; (· simp [go_sem, Pm.acc, Acc.free, refsOf, keyEq, tagEq, cellsEq, cellEq]; done)) | ((first | apply br_mergeT | apply br_mergeF); (· intro h; simp only [go_sem, simprocAttr, sel_of h, decaniref00_Where]; exact rfl))); (try simp only [go_sem, simprocAttr, decaniref00_Where])) | ((first | apply onGuard_sel | (apply pickV_split; apply br_split) | apply br_split) <;> intro h <;> (try simp only [go_sem, simprocAttr, h, decaniref00_Where]))))
  refine (E_find (fun i => ⟨[(0, .sc (.sl k 1 (l.map fun x => [ci x]))), (1, vi n), (5, vi i)], []⟩) l (fun _ x => decide (x = n))
    (fun i x => (.ret, ⟨[(4, vi i)], []⟩)) (.exit 0, ⟨[(0, .sc (.sl k 1 (l.map fun x => [ci x]))), (1, vi n), (5, vi l.length), (9, vb false)], []⟩) _ ?_ ?_ ?_).trans ?_
  · intro i x hx hf
    have hlt := decide_eq_true (show (i : Int) < l.length by have := (List.getElem?_eq_some_iff.1 hx).1; omega)
    have hlen := (List.getElem?_eq_some_iff.1 hx).1
    have hi : IntKind.i64.wrap ((i : Int) + 1) = i + 1 := wrap_i64 (by omega) (by omega)
    (simp only [go_sem, simprocAttr, decaniref00_Where_B0, hx, hi, hf, hlt]; repeat' (first | ((first | (refine br_yes (by omega) ?_) | (refine br_no (by omega) ?_) | (apply br_all; (· simp only [Bool.and_eq_true, decide_eq_true_eq]; omega)) | (apply br_free; (· simp [go_sem, Pm.acc, Acc.free, refsOf, keyEq, tagEq, cellsEq, cellEq]; done)) | ((first | apply br_mergeT | apply br_mergeF); (· intro h; simp only [go_sem, simprocAttr, sel_of h, decaniref00_Where_B0, hx, hi, hf, hlt]; exact rfl))); (try simp only [go_sem, simprocAttr, decaniref00_Where_B0, hx, hi, hf, hlt])) | ((first | apply onGuard_sel | (apply pickV_split; apply br_split) | apply br_split) <;> intro h <;> (try simp only [go_sem, simprocAttr, h, decaniref00_Where_B0, hx, hi, hf, hlt]))))
    rfl
  · intro i x hx hf
    have hlt := decide_eq_true (show (i : Int) < l.length by have := (List.getElem?_eq_some_iff.1 hx).1; omega)
    (simp only [go_sem, simprocAttr, decaniref00_Where_B0, hx, hf, hlt]; repeat' (first | ((first | (refine br_yes (by omega) ?_) | (refine br_no (by omega) ?_) | (apply br_all; (· simp only [Bool.and_eq_true, decide_eq_true_eq]; omega)) | (apply br_free; (· simp [go_sem, Pm.acc, Acc.free, refsOf, keyEq, tagEq, cellsEq, cellEq]; done)) | ((first | apply br_mergeT | apply br_mergeF); (· intro h; simp only [go_sem, simprocAttr, sel_of h, decaniref00_Where_B0, hx, hf, hlt]; exact rfl))); (try simp only [go_sem, simprocAttr, decaniref00_Where_B0, hx, hf, hlt])) | ((first | apply onGuard_sel | (apply pickV_split; apply br_split) | apply br_split) <;> intro h <;> (try simp only [go_sem, simprocAttr, h, decaniref00_Where_B0, hx, hf, hlt]))))
  · (simp only [go_sem, simprocAttr, decaniref00_Where_B0]; repeat' (first | ((first | (refine br_yes (by omega) ?_) | (refine br_no (by omega) ?_) | (apply br_all; (· simp only [Bool.and_eq_true, decide_eq_true_eq]; omega)) | (apply br_free; (· simp [go_sem, Pm.acc, Acc.free, refsOf, keyEq, tagEq, cellsEq, cellEq]; done)) | ((first | apply br_mergeT | apply br_mergeF); (· intro h; simp only [go_sem, simprocAttr, sel_of h, decaniref00_Where_B0]; exact rfl))); (try simp only [go_sem, simprocAttr, decaniref00_Where_B0])) | ((first | apply onGuard_sel | (apply pickV_split; apply br_split) | apply br_split) <;> intro h <;> (try simp only [go_sem, simprocAttr, h, decaniref00_Where_B0]))))
  · cases h : findFrom (fun _ x => decide (x = n)) 0 l with
    | none => (simp only [go_sem, simprocAttr, whereOf, h]; repeat' (first | ((first | (refine br_yes (by omega) ?_) | (refine br_no (by omega) ?_) | (apply br_all; (· simp only [Bool.and_eq_true, decide_eq_true_eq]; omega)) | (apply br_free; (· simp [go_sem, Pm.acc, Acc.free, refsOf, keyEq, tagEq, cellsEq, cellEq]; done)) | ((first | apply br_mergeT | apply br_mergeF); (· intro h; simp only [go_sem, simprocAttr, sel_of h, whereOf, h]; exact rfl))); (try simp only [go_sem, simprocAttr, whereOf, h])) | ((first | apply onGuard_sel | (apply pickV_split; apply br_split) | apply br_split) <;> intro h <;> (try simp only [go_sem, simprocAttr, h, whereOf, h]))))
    | some q => (simp only [go_sem, simprocAttr, whereOf, h]; repeat' (first | ((first | (refine br_yes (by omega) ?_) | (refine br_no (by omega) ?_) | (apply br_all; (· simp only [Bool.and_eq_true, decide_eq_true_eq]; omega)) | (apply br_free; (· simp [go_sem, Pm.acc, Acc.free, refsOf, keyEq, tagEq, cellsEq, cellEq]; done)) | ((first | apply br_mergeT | apply br_mergeF); (· intro h; simp only [go_sem, simprocAttr, sel_of h, whereOf, h]; exact rfl))); (try simp only [go_sem, simprocAttr, whereOf, h])) | ((first | apply onGuard_sel | (apply pickV_split; apply br_split) | apply br_split) <;> intro h <;> (try simp only [go_sem, simprocAttr, h, whereOf, h]))))

@[go_sem] theorem Has_k (set n : Int) : K Γ (.fn 65) [vi set, vi n] [] = some (vb (hasBit set n), []) := by
  rw [K_fn P06.f65 _ _ rfl]
  by_cases h0 : 0 ≤ n
  · by_cases h1 : n < 62
    · have hm : Nat.min n.toNat 64 = n.toNat := Nat.min_eq_left (by omega)
      have hn : decide (n < 0) = false := decide_eq_false (by omega)
      have d0 := decide_eq_true h0
      have d1 := decide_eq_true h1
      (simp only [go_sem, simprocAttr, decaniref00_Has, d0, d1, hn, hm, hasBit]; repeat' (first | ((first | (refine br_yes (by omega) ?_) | (refine br_no (by omega) ?_) | (apply br_all; (· simp only [Bool.and_eq_true, decide_eq_true_eq]; omega)) | (apply br_free; (· simp [go_sem, Pm.acc, Acc.free, refsOf, keyEq, tagEq, cellsEq, cellEq]; done)) | ((first | apply br_mergeT | apply br_mergeF); (· intro h; simp only [go_sem, simprocAttr, sel_of h, decaniref00_Has, d0, d1, hn, hm, hasBit]; exact rfl))); (try simp only [go_sem, simprocAttr, decaniref00_Has, d0, d1, hn, hm, hasBit])) | ((first | apply onGuard_sel | (apply pickV_split; apply br_split) | apply br_split) <;> intro h <;> (try simp only [go_sem, simprocAttr, h, decaniref00_Has, d0, d1, hn, hm, hasBit]))))
      rfl
    · have d0 := decide_eq_true h0
      have d1 := decide_eq_false h1
      (simp only [go_sem, simprocAttr, decaniref00_Has, d0, d1, hasBit, Bool.false_and]; repeat' (first | ((first | (refine br_yes (by omega) ?_) | (refine br_no (by omega) ?_) | (apply br_all; (· simp only [Bool.and_eq_true, decide_eq_true_eq]; omega)) | (apply br_free; (· simp [go_sem, Pm.acc, Acc.free, refsOf, keyEq, tagEq, cellsEq, cellEq]; done)) | ((first | apply br_mergeT | apply br_mergeF); (· intro h; simp only [go_sem, simprocAttr, sel_of h, decaniref00_Has, d0, d1, hasBit, Bool.false_and]; exact rfl))); (try simp only [go_sem, simprocAttr, decaniref00_Has, d0, d1, hasBit, Bool.false_and])) | ((first | apply onGuard_sel | (apply pickV_split; apply br_split) | apply br_split) <;> intro h <;> (try simp only [go_sem, simprocAttr, h, decaniref00_Has, d0, d1, hasBit, Bool.false_and]))))
  · have d0 := decide_eq_false h0
    (simp only [go_sem, simprocAttr, decaniref00_Has, d0, hasBit, Bool.false_and]; repeat' (first | ((first | (refine br_yes (by omega) ?_) | (refine br_no (by omega) ?_) | (apply br_all; (· simp only [Bool.and_eq_true, decide_eq_true_eq]; omega)) | (apply br_free; (· simp [go_sem, Pm.acc, Acc.free, refsOf, keyEq, tagEq, cellsEq, cellEq]; done)) | ((first | apply br_mergeT | apply br_mergeF); (· intro h; simp only [go_sem, simprocAttr, sel_of h, decaniref00_Has, d0, hasBit, Bool.false_and]; exact rfl))); (try simp only [go_sem, simprocAttr, decaniref00_Has, d0, hasBit, Bool.false_and])) | ((first | apply onGuard_sel | (apply pickV_split; apply br_split) | apply br_split) <;> intro h <;> (try simp only [go_sem, simprocAttr, h, decaniref00_Has, d0, hasBit, Bool.false_and]))))

@[go_sem] theorem Bits_k (set below : Int) (hb : 0 ≤ below ∧ below ≤ 1000) : K Γ (.fn 35) [vi set, vi below] [] = some (.sc (.sl (kF (bitsN set below.toNat)) 1 ((bitsN set below.toNat).map fun x => [ci x])), []) := by
  rw [K_fn P06.f35 _ _ rfl]
  (simp only [go_sem, simprocAttr, decaniref00_Bits]; repeat' (first | ((first | (refine br_yes (by omega) ?_) | (refine br_no (by omega) ?_) | (apply br_all; (· simp only [Bool.and_eq_true, decide_eq_true_eq]; omega)) | (apply br_free; (· simp [go_sem, Pm.acc, Acc.free, refsOf, keyEq, tagEq, cellsEq, cellEq]; done)) | ((first | apply br_mergeT | apply br_mergeF); (· intro h; simp only [go_sem, simprocAttr, sel_of h, decaniref00_Bits]; exact rfl))); (try simp only [go_sem, simprocAttr, decaniref00_Bits])) | ((first | apply onGuard_sel | (apply pickV_split; apply br_split) | apply br_split) <;> intro h <;> (try simp only [go_sem, simprocAttr, h, decaniref00_Bits]))))
  refine E_countS below.toNat (fun i (_ : Unit) => ⟨[(0, vi set), (1, vi below), (5, .sc (ownF 1 ((bitsN set i).map fun x => [ci x]))), (6, vi i)], []⟩) (fun i _ => (bitsN set i).length ≤ i)
    (fun _ => (.exit 0, ⟨[(0, vi set), (1, vi below), (5, .sc (ownF 1 ((bitsN set below.toNat).map fun x => [ci x]))), (6, vi below), (10, vb false)], []⟩)) () rfl (by simp [bitsN]) ?_ ?_ ?_
  · intro i _ hi hlen
    have hlt := decide_eq_true (show (i : Int) < below by omega)
    have hiw : IntKind.i64.wrap ((i : Int) + 1) = i + 1 := wrap_i64 (by omega) (by omega)
    have hA := appended_ownF 1 .full ((bitsN set i).map fun x => [ci x]) [ci i] (by simp only [List.length_map, room]; omega)
    refine ⟨(), ?_, ?_⟩
    · rw [bitsN_succ]; split
      · simp; omega
      · omega
    · rw [bitsN_succ]
      cases h : hasBit set (i : Int) with
      | true =>
        rw [if_pos rfl, List.map_append, List.map_cons, List.map_nil, ownF_app]
        (simp only [go_sem, simprocAttr, decaniref00_Bits_B0, hlt, h, hA, hiw]; repeat' (first | ((first | (refine br_yes (by omega) ?_) | (refine br_no (by omega) ?_) | (apply br_all; (· simp only [Bool.and_eq_true, decide_eq_true_eq]; omega)) | (apply br_free; (· simp [go_sem, Pm.acc, Acc.free, refsOf, keyEq, tagEq, cellsEq, cellEq]; done)) | ((first | apply br_mergeT | apply br_mergeF); (· intro h; simp only [go_sem, simprocAttr, sel_of h, decaniref00_Bits_B0, hlt, h, hA, hiw]; exact rfl))); (try simp only [go_sem, simprocAttr, decaniref00_Bits_B0, hlt, h, hA, hiw])) | ((first | apply onGuard_sel | (apply pickV_split; apply br_split) | apply br_split) <;> intro h <;> (try simp only [go_sem, simprocAttr, h, decaniref00_Bits_B0, hlt, h, hA, hiw]))))
        rfl
      | false =>
        rw [if_neg (by decide)]
        (simp only [go_sem, simprocAttr, decaniref00_Bits_B0, hlt, h, hiw]; repeat' (first | ((first | (refine br_yes (by omega) ?_) | (refine br_no (by omega) ?_) | (apply br_all; (· simp only [Bool.and_eq_true, decide_eq_true_eq]; omega)) | (apply br_free; (· simp [go_sem, Pm.acc, Acc.free, refsOf, keyEq, tagEq, cellsEq, cellEq]; done)) | ((first | apply br_mergeT | apply br_mergeF); (· intro h; simp only [go_sem, simprocAttr, sel_of h, decaniref00_Bits_B0, hlt, h, hiw]; exact rfl))); (try simp only [go_sem, simprocAttr, decaniref00_Bits_B0, hlt, h, hiw])) | ((first | apply onGuard_sel | (apply pickV_split; apply br_split) | apply br_split) <;> intro h <;> (try simp only [go_sem, simprocAttr, h, decaniref00_Bits_B0, hlt, h, hiw]))))
        rfl
  · intro _ _
    have hm : (below.toNat : Int) = below := by omega
    simp only [hm]
    (simp only [go_sem, simprocAttr, decaniref00_Bits_B0]; repeat' (first | ((first | (refine br_yes (by omega) ?_) | (refine br_no (by omega) ?_) | (apply br_all; (· simp only [Bool.and_eq_true, decide_eq_true_eq]; omega)) | (apply br_free; (· simp [go_sem, Pm.acc, Acc.free, refsOf, keyEq, tagEq, cellsEq, cellEq]; done)) | ((first | apply br_mergeT | apply br_mergeF); (· intro h; simp only [go_sem, simprocAttr, sel_of h, decaniref00_Bits_B0]; exact rfl))); (try simp only [go_sem, simprocAttr, decaniref00_Bits_B0])) | ((first | apply onGuard_sel | (apply pickV_split; apply br_split) | apply br_split) <;> intro h <;> (try simp only [go_sem, simprocAttr, h, decaniref00_Bits_B0]))))
  · intro _ _
    (simp only [go_sem, simprocAttr, unown_ownF, kF_map]; repeat' (first | ((first | (refine br_yes (by omega) ?_) | (refine br_no (by omega) ?_) | (apply br_all; (· simp only [Bool.and_eq_true, decide_eq_true_eq]; omega)) | (apply br_free; (· simp [go_sem, Pm.acc, Acc.free, refsOf, keyEq, tagEq, cellsEq, cellEq]; done)) | ((first | apply br_mergeT | apply br_mergeF); (· intro h; simp only [go_sem, simprocAttr, sel_of h, unown_ownF, kF_map]; exact rfl))); (try simp only [go_sem, simprocAttr, unown_ownF, kF_map])) | ((first | apply onGuard_sel | (apply pickV_split; apply br_split) | apply br_split) <;> intro h <;> (try simp only [go_sem, simprocAttr, h, unown_ownF, kF_map]))))

@[go_sem] theorem Ordered_k (k : SK) (l : List Int) (below : Int) (hl : l.length ≤ 1000000) (hb : 0 ≤ below ∧ below ≤ 1000000) : K Γ (.fn 34) [.sc (.sl k 1 (l.map fun x => [ci x])), vi below] [] = some (vb (ordered l below), []) := by
  rw [K_fn P06.f34 _ _ rfl]
  (simp only [go_sem, simprocAttr, decaniref00_Ordered]; repeat' (first | ((first | (refine br_yes (by omega) ?_) | (refine br_no (by omega) ?_) | (apply br_all; (· simp only [Bool.and_eq_true, decide_eq_true_eq]; omega)) | (apply br_free; (· simp [go_sem, Pm.acc, Acc.free, refsOf, keyEq, tagEq, cellsEq, cellEq]; done)) | ((first | apply br_mergeT | apply br_mergeF); (· intro h; simp only [go_sem, simprocAttr, sel_of h, decaniref00_Ordered]; exact rfl))); (try simp only [go_sem, simprocAttr, decaniref00_Ordered])) | ((first | apply onGuard_sel | (apply pickV_split; apply br_split) | apply br_split) <;> intro h <;> (try simp only [go_sem, simprocAttr, h, decaniref00_Ordered]))))
  have hbw : IntKind.i64.wrap (below - 1) = below - 1 := wrap_i64 (by omega) (by omega)
  refine (E_find (fun i => ⟨[(0, .sc (.sl k 1 (l.map fun x => [ci x]))), (1, vi below), (5, vi i)], []⟩) l (orderedP l below)
    (fun i x => (.ret, ⟨[(4, vb false)], []⟩)) (.exit 0, ⟨[(0, .sc (.sl k 1 (l.map fun x => [ci x]))), (1, vi below), (5, vi l.length), (9, vb false)], []⟩) _ ?_ ?_ ?_).trans ?_
  · intro i x hx hf
    have hlt := decide_eq_true (show (i : Int) < l.length by have := (List.getElem?_eq_some_iff.1 hx).1; omega)
    have hlen := (List.getElem?_eq_some_iff.1 hx).1
    have hi : IntKind.i64.wrap ((i : Int) + 1) = i + 1 := wrap_i64 (by omega) (by omega)
    simp only [orderedP, Bool.or_eq_false_iff, Bool.not_eq_false', Bool.and_eq_false_iff] at hf
    obtain ⟨hw, hf⟩ := hf
    by_cases h0 : 0 < (i : Int)
    · have d0 := decide_eq_true h0
      have hiw : IntKind.i64.wrap ((i : Int) - 1) = i - 1 := wrap_i64 (by omega) (by omega)
      have hin : ((i : Int) - 1).toNat = i - 1 := by omega
      have hg : l[i - 1]? = some (l.getD (i - 1) 0) := by
        have := (List.getElem?_eq_some_iff.1 hx).1
        simp only [List.getD, List.getElem?_eq_getElem (show i - 1 < l.length by omega), Option.getD_some]
      have hxl : decide (x ≤ l.getD (i - 1) 0) = false := by
        rcases hf with hf | hf
        · rw [d0] at hf; cases hf
        · exact hf
      (simp only [go_sem, simprocAttr, decaniref00_Ordered_B0, hx, hi, hw, hbw, hlt, d0, hiw, hin, hg, hxl]; repeat' (first | ((first | (refine br_yes (by omega) ?_) | (refine br_no (by omega) ?_) | (apply br_all; (· simp only [Bool.and_eq_true, decide_eq_true_eq]; omega)) | (apply br_free; (· simp [go_sem, Pm.acc, Acc.free, refsOf, keyEq, tagEq, cellsEq, cellEq]; done)) | ((first | apply br_mergeT | apply br_mergeF); (· intro h; simp only [go_sem, simprocAttr, sel_of h, decaniref00_Ordered_B0, hx, hi, hw, hbw, hlt, d0, hiw, hin, hg, hxl]; exact rfl))); (try simp only [go_sem, simprocAttr, decaniref00_Ordered_B0, hx, hi, hw, hbw, hlt, d0, hiw, hin, hg, hxl])) | ((first | apply onGuard_sel | (apply pickV_split; apply br_split) | apply br_split) <;> intro h <;> (try simp only [go_sem, simprocAttr, h, decaniref00_Ordered_B0, hx, hi, hw, hbw, hlt, d0, hiw, hin, hg, hxl]))))
      rfl
    · have d0 := decide_eq_false h0
      (simp only [go_sem, simprocAttr, decaniref00_Ordered_B0, hx, hi, hw, hbw, hlt, d0]; repeat' (first | ((first | (refine br_yes (by omega) ?_) | (refine br_no (by omega) ?_) | (apply br_all; (· simp only [Bool.and_eq_true, decide_eq_true_eq]; omega)) | (apply br_free; (· simp [go_sem, Pm.acc, Acc.free, refsOf, keyEq, tagEq, cellsEq, cellEq]; done)) | ((first | apply br_mergeT | apply br_mergeF); (· intro h; simp only [go_sem, simprocAttr, sel_of h, decaniref00_Ordered_B0, hx, hi, hw, hbw, hlt, d0]; exact rfl))); (try simp only [go_sem, simprocAttr, decaniref00_Ordered_B0, hx, hi, hw, hbw, hlt, d0])) | ((first | apply onGuard_sel | (apply pickV_split; apply br_split) | apply br_split) <;> intro h <;> (try simp only [go_sem, simprocAttr, h, decaniref00_Ordered_B0, hx, hi, hw, hbw, hlt, d0]))))
      rfl
  · intro i x hx hf
    have hlt := decide_eq_true (show (i : Int) < l.length by have := (List.getElem?_eq_some_iff.1 hx).1; omega)
    rcases Bool.eq_false_or_eq_true (within x 0 (below - 1)) with hw | hw
    rotate_left
    · (simp only [go_sem, simprocAttr, decaniref00_Ordered_B0, hx, hw, hbw, hlt]; repeat' (first | ((first | (refine br_yes (by omega) ?_) | (refine br_no (by omega) ?_) | (apply br_all; (· simp only [Bool.and_eq_true, decide_eq_true_eq]; omega)) | (apply br_free; (· simp [go_sem, Pm.acc, Acc.free, refsOf, keyEq, tagEq, cellsEq, cellEq]; done)) | ((first | apply br_mergeT | apply br_mergeF); (· intro h; simp only [go_sem, simprocAttr, sel_of h, decaniref00_Ordered_B0, hx, hw, hbw, hlt]; exact rfl))); (try simp only [go_sem, simprocAttr, decaniref00_Ordered_B0, hx, hw, hbw, hlt])) | ((first | apply onGuard_sel | (apply pickV_split; apply br_split) | apply br_split) <;> intro h <;> (try simp only [go_sem, simprocAttr, h, decaniref00_Ordered_B0, hx, hw, hbw, hlt]))))
    · simp only [orderedP, hw, Bool.not_true, Bool.false_or, Bool.and_eq_true] at hf
      have d0 := hf.1
      have h0 := of_decide_eq_true hf.1
      have hlen := (List.getElem?_eq_some_iff.1 hx).1
      have hiw : IntKind.i64.wrap ((i : Int) - 1) = i - 1 := wrap_i64 (by omega) (by omega)
      have hin : ((i : Int) - 1).toNat = i - 1 := by omega
      have hg : l[i - 1]? = some (l.getD (i - 1) 0) := by
        have := (List.getElem?_eq_some_iff.1 hx).1
        simp only [List.getD, List.getElem?_eq_getElem (show i - 1 < l.length by omega), Option.getD_some]
      have hxl := hf.2
      (simp only [go_sem, simprocAttr, decaniref00_Ordered_B0, hx, hw, hbw, hlt, d0, hiw, hin, hg, hxl]; repeat' (first | ((first | (refine br_yes (by omega) ?_) | (refine br_no (by omega) ?_) | (apply br_all; (· simp only [Bool.and_eq_true, decide_eq_true_eq]; omega)) | (apply br_free; (· simp [go_sem, Pm.acc, Acc.free, refsOf, keyEq, tagEq, cellsEq, cellEq]; done)) | ((first | apply br_mergeT | apply br_mergeF); (· intro h; simp only [go_sem, simprocAttr, sel_of h, decaniref00_Ordered_B0, hx, hw, hbw, hlt, d0, hiw, hin, hg, hxl]; exact rfl))); (try simp only [go_sem, simprocAttr, decaniref00_Ordered_B0, hx, hw, hbw, hlt, d0, hiw, hin, hg, hxl])) | ((first | apply onGuard_sel | (apply pickV_split; apply br_split) | apply br_split) <;> intro h <;> (try simp only [go_sem, simprocAttr, h, decaniref00_Ordered_B0, hx, hw, hbw, hlt, d0, hiw, hin, hg, hxl]))))
  · (simp only [go_sem, simprocAttr, decaniref00_Ordered_B0]; repeat' (first | ((first | (refine br_yes (by omega) ?_) | (refine br_no (by omega) ?_) | (apply br_all; (· simp only [Bool.and_eq_true, decide_eq_true_eq]; omega)) | (apply br_free; (· simp [go_sem, Pm.acc, Acc.free, refsOf, keyEq, tagEq, cellsEq, cellEq]; done)) | ((first | apply br_mergeT | apply br_mergeF); (· intro h; simp only [go_sem, simprocAttr, sel_of h, decaniref00_Ordered_B0]; exact rfl))); (try simp only [go_sem, simprocAttr, decaniref00_Ordered_B0])) | ((first | apply onGuard_sel | (apply pickV_split; apply br_split) | apply br_split) <;> intro h <;> (try simp only [go_sem, simprocAttr, h, decaniref00_Ordered_B0]))))
  · cases h : findFrom (orderedP l below) 0 l with
    | none => (simp only [go_sem, simprocAttr, ordered, h, Option.isNone_none]; repeat' (first | ((first | (refine br_yes (by omega) ?_) | (refine br_no (by omega) ?_) | (apply br_all; (· simp only [Bool.and_eq_true, decide_eq_true_eq]; omega)) | (apply br_free; (· simp [go_sem, Pm.acc, Acc.free, refsOf, keyEq, tagEq, cellsEq, cellEq]; done)) | ((first | apply br_mergeT | apply br_mergeF); (· intro h; simp only [go_sem, simprocAttr, sel_of h, ordered, h, Option.isNone_none]; exact rfl))); (try simp only [go_sem, simprocAttr, ordered, h, Option.isNone_none])) | ((first | apply onGuard_sel | (apply pickV_split; apply br_split) | apply br_split) <;> intro h <;> (try simp only [go_sem, simprocAttr, h, ordered, h, Option.isNone_none]))))
    | some q => (simp only [go_sem, simprocAttr, ordered, h, Option.isNone_some]; repeat' (first | ((first | (refine br_yes (by omega) ?_) | (refine br_no (by omega) ?_) | (apply br_all; (· simp only [Bool.and_eq_true, decide_eq_true_eq]; omega)) | (apply br_free; (· simp [go_sem, Pm.acc, Acc.free, refsOf, keyEq, tagEq, cellsEq, cellEq]; done)) | ((first | apply br_mergeT | apply br_mergeF); (· intro h; simp only [go_sem, simprocAttr, sel_of h, ordered, h, Option.isNone_some]; exact rfl))); (try simp only [go_sem, simprocAttr, ordered, h, Option.isNone_some])) | ((first | apply onGuard_sel | (apply pickV_split; apply br_split) | apply br_split) <;> intro h <;> (try simp only [go_sem, simprocAttr, h, ordered, h, Option.isNone_some]))))

@[go_sem] theorem Earlier_k (k k' : SK) (l m : List Int) (hl : l.length ≤ 1000000) (hm : m.length ≤ 1000000) : K Γ (.fn 67) [.sc (.sl k 1 (l.map fun x => [ci x])), .sc (.sl k' 1 (m.map fun x => [ci x]))] [] = some (vb (earlier l m), []) := by
  rw [K_fn P06.f67 _ _ rfl]
  (simp only [go_sem, simprocAttr, decaniref00_Earlier]; repeat' (first | ((first | (refine br_yes (by omega) ?_) | (refine br_no (by omega) ?_) | (apply br_all; (· simp only [Bool.and_eq_true, decide_eq_true_eq]; omega)) | (apply br_free; (· simp [go_sem, Pm.acc, Acc.free, refsOf, keyEq, tagEq, cellsEq, cellEq]; done)) | ((first | apply br_mergeT | apply br_mergeF); (· intro h; simp only [go_sem, simprocAttr, sel_of h, decaniref00_Earlier]; exact rfl))); (try simp only [go_sem, simprocAttr, decaniref00_Earlier])) | ((first | apply onGuard_sel | (apply pickV_split; apply br_split) | apply br_split) <;> intro h <;> (try simp only [go_sem, simprocAttr, h, decaniref00_Earlier]))))
  have hz : (l.zip m).length ≤ l.length ∧ (l.zip m).length ≤ m.length := by simp [List.length_zip]; omega
  have hzm : (l.zip m).length = l.length ∨ (l.zip m).length = m.length := by simp [List.length_zip]; omega
  obtain ⟨u, hu⟩ : ∃ u : Bool, decide (((l.zip m).length : Int) < l.length) = u := ⟨_, rfl⟩
  refine (E_find (fun i => ⟨[(0, .sc (.sl k 1 (l.map fun x => [ci x]))), (1, .sc (.sl k' 1 (m.map fun x => [ci x]))), (5, vi i)], []⟩) (l.zip m) (fun _ (p : Int × Int) => decide (p.1 ≠ p.2))
    (fun i p => (.ret, ⟨[(4, vb (decide (p.1 < p.2)))], []⟩)) (.exit 0, ⟨[(0, .sc (.sl k 1 (l.map fun x => [ci x]))), (1, .sc (.sl k' 1 (m.map fun x => [ci x]))), (5, vi (l.zip m).length), (15, vb false)], []⟩) _ ?_ ?_ ?_).trans ?_
  · intro i p hp hf
    obtain ⟨h1, h2⟩ := List.getElem?_zip_eq_some.1 hp
    have d1 := decide_eq_true (show (i : Int) < l.length by have := (List.getElem?_eq_some_iff.1 h1).1; omega)
    have d2 := decide_eq_true (show (i : Int) < m.length by have := (List.getElem?_eq_some_iff.1 h2).1; omega)
    have hi : IntKind.i64.wrap ((i : Int) + 1) = i + 1 := wrap_i64 (by have := (List.getElem?_eq_some_iff.1 h1).1; omega) (by have := (List.getElem?_eq_some_iff.1 h1).1; omega)
    have hne : decide (p.1 = p.2) = true := by
      simp only [ne_eq, decide_not, Bool.not_eq_false'] at hf; exact hf
    (simp only [go_sem, simprocAttr, decaniref00_Earlier_B0, h1, h2, d1, d2, hi, hne]; repeat' (first | ((first | (refine br_yes (by omega) ?_) | (refine br_no (by omega) ?_) | (apply br_all; (· simp only [Bool.and_eq_true, decide_eq_true_eq]; omega)) | (apply br_free; (· simp [go_sem, Pm.acc, Acc.free, refsOf, keyEq, tagEq, cellsEq, cellEq]; done)) | ((first | apply br_mergeT | apply br_mergeF); (· intro h; simp only [go_sem, simprocAttr, sel_of h, decaniref00_Earlier_B0, h1, h2, d1, d2, hi, hne]; exact rfl))); (try simp only [go_sem, simprocAttr, decaniref00_Earlier_B0, h1, h2, d1, d2, hi, hne])) | ((first | apply onGuard_sel | (apply pickV_split; apply br_split) | apply br_split) <;> intro h <;> (try simp only [go_sem, simprocAttr, h, decaniref00_Earlier_B0, h1, h2, d1, d2, hi, hne]))))
    rfl
  · intro i p hp hf
    obtain ⟨h1, h2⟩ := List.getElem?_zip_eq_some.1 hp
    have d1 := decide_eq_true (show (i : Int) < l.length by have := (List.getElem?_eq_some_iff.1 h1).1; omega)
    have d2 := decide_eq_true (show (i : Int) < m.length by have := (List.getElem?_eq_some_iff.1 h2).1; omega)
    have hne : decide (p.1 = p.2) = false := by
      simp only [ne_eq, decide_not, Bool.not_eq_true'] at hf; exact hf
    (simp only [go_sem, simprocAttr, decaniref00_Earlier_B0, h1, h2, d1, d2, hne]; repeat' (first | ((first | (refine br_yes (by omega) ?_) | (refine br_no (by omega) ?_) | (apply br_all; (· simp only [Bool.and_eq_true, decide_eq_true_eq]; omega)) | (apply br_free; (· simp [go_sem, Pm.acc, Acc.free, refsOf, keyEq, tagEq, cellsEq, cellEq]; done)) | ((first | apply br_mergeT | apply br_mergeF); (· intro h; simp only [go_sem, simprocAttr, sel_of h, decaniref00_Earlier_B0, h1, h2, d1, d2, hne]; exact rfl))); (try simp only [go_sem, simprocAttr, decaniref00_Earlier_B0, h1, h2, d1, d2, hne])) | ((first | apply onGuard_sel | (apply pickV_split; apply br_split) | apply br_split) <;> intro h <;> (try simp only [go_sem, simprocAttr, h, decaniref00_Earlier_B0, h1, h2, d1, d2, hne]))))
  · by_cases hlm : ((l.zip m).length : Int) < l.length
    · have d1 := decide_eq_true hlm
      have d2 : decide (((l.zip m).length : Int) < m.length) = false := decide_eq_false (by omega)
      (simp only [go_sem, simprocAttr, decaniref00_Earlier_B0, d1, d2]; repeat' (first | ((first | (refine br_yes (by omega) ?_) | (refine br_no (by omega) ?_) | (apply br_all; (· simp only [Bool.and_eq_true, decide_eq_true_eq]; omega)) | (apply br_free; (· simp [go_sem, Pm.acc, Acc.free, refsOf, keyEq, tagEq, cellsEq, cellEq]; done)) | ((first | apply br_mergeT | apply br_mergeF); (· intro h; simp only [go_sem, simprocAttr, sel_of h, decaniref00_Earlier_B0, d1, d2]; exact rfl))); (try simp only [go_sem, simprocAttr, decaniref00_Earlier_B0, d1, d2])) | ((first | apply onGuard_sel | (apply pickV_split; apply br_split) | apply br_split) <;> intro h <;> (try simp only [go_sem, simprocAttr, h, decaniref00_Earlier_B0, d1, d2]))))
    · have d1 := decide_eq_false hlm
      (simp only [go_sem, simprocAttr, decaniref00_Earlier_B0, d1]; repeat' (first | ((first | (refine br_yes (by omega) ?_) | (refine br_no (by omega) ?_) | (apply br_all; (· simp only [Bool.and_eq_true, decide_eq_true_eq]; omega)) | (apply br_free; (· simp [go_sem, Pm.acc, Acc.free, refsOf, keyEq, tagEq, cellsEq, cellEq]; done)) | ((first | apply br_mergeT | apply br_mergeF); (· intro h; simp only [go_sem, simprocAttr, sel_of h, decaniref00_Earlier_B0, d1]; exact rfl))); (try simp only [go_sem, simprocAttr, decaniref00_Earlier_B0, d1])) | ((first | apply onGuard_sel | (apply pickV_split; apply br_split) | apply br_split) <;> intro h <;> (try simp only [go_sem, simprocAttr, h, decaniref00_Earlier_B0, d1]))))
  · cases h : findFrom (fun _ (p : Int × Int) => decide (p.1 ≠ p.2)) 0 (l.zip m) with
    | none => (simp only [go_sem, simprocAttr, earlier, h]; repeat' (first | ((first | (refine br_yes (by omega) ?_) | (refine br_no (by omega) ?_) | (apply br_all; (· simp only [Bool.and_eq_true, decide_eq_true_eq]; omega)) | (apply br_free; (· simp [go_sem, Pm.acc, Acc.free, refsOf, keyEq, tagEq, cellsEq, cellEq]; done)) | ((first | apply br_mergeT | apply br_mergeF); (· intro h; simp only [go_sem, simprocAttr, sel_of h, earlier, h]; exact rfl))); (try simp only [go_sem, simprocAttr, earlier, h])) | ((first | apply onGuard_sel | (apply pickV_split; apply br_split) | apply br_split) <;> intro h <;> (try simp only [go_sem, simprocAttr, h, earlier, h]))))
    | some q => (simp only [go_sem, simprocAttr, earlier, h]; repeat' (first | ((first | (refine br_yes (by omega) ?_) | (refine br_no (by omega) ?_) | (apply br_all; (· simp only [Bool.and_eq_true, decide_eq_true_eq]; omega)) | (apply br_free; (· simp [go_sem, Pm.acc, Acc.free, refsOf, keyEq, tagEq, cellsEq, cellEq]; done)) | ((first | apply br_mergeT | apply br_mergeF); (· intro h; simp only [go_sem, simprocAttr, sel_of h, earlier, h]; exact rfl))); (try simp only [go_sem, simprocAttr, earlier, h])) | ((first | apply onGuard_sel | (apply pickV_split; apply br_split) | apply br_split) <;> intro h <;> (try simp only [go_sem, simprocAttr, h, earlier, h]))))

@[go_sem] theorem Shorter_k (k k' : SK) (l m : List Int) (hl : l.length ≤ 1000000) (hm : m.length ≤ 1000000) : K Γ (.fn 37) [.sc (.sl k 1 (l.map fun x => [ci x])), .sc (.sl k' 1 (m.map fun x => [ci x]))] [] = some (vb (shorter l m), []) := by
  have hE := Earlier_k (Γ := Γ) k k' l m hl hm
  rw [K_fn P06.f37 _ _ rfl]
  by_cases h1 : (l.length : Int) < m.length
  · have d1 := decide_eq_true h1
    (simp only [go_sem, simprocAttr, decaniref00_Shorter, d1, shorter, Bool.true_or]; repeat' (first | ((first | (refine br_yes (by omega) ?_) | (refine br_no (by omega) ?_) | (apply br_all; (· simp only [Bool.and_eq_true, decide_eq_true_eq]; omega)) | (apply br_free; (· simp [go_sem, Pm.acc, Acc.free, refsOf, keyEq, tagEq, cellsEq, cellEq]; done)) | ((first | apply br_mergeT | apply br_mergeF); (· intro h; simp only [go_sem, simprocAttr, sel_of h, decaniref00_Shorter, d1, shorter, Bool.true_or]; exact rfl))); (try simp only [go_sem, simprocAttr, decaniref00_Shorter, d1, shorter, Bool.true_or])) | ((first | apply onGuard_sel | (apply pickV_split; apply br_split) | apply br_split) <;> intro h <;> (try simp only [go_sem, simprocAttr, h, decaniref00_Shorter, d1, shorter, Bool.true_or]))))
  · have d1 := decide_eq_false h1
    by_cases h2 : (l.length : Int) = m.length
    · have d2 := decide_eq_true h2
      (simp only [go_sem, simprocAttr, decaniref00_Shorter, d1, d2, hE, shorter, Bool.false_or]; repeat' (first | ((first | (refine br_yes (by omega) ?_) | (refine br_no (by omega) ?_) | (apply br_all; (· simp only [Bool.and_eq_true, decide_eq_true_eq]; omega)) | (apply br_free; (· simp [go_sem, Pm.acc, Acc.free, refsOf, keyEq, tagEq, cellsEq, cellEq]; done)) | ((first | apply br_mergeT | apply br_mergeF); (· intro h; simp only [go_sem, simprocAttr, sel_of h, decaniref00_Shorter, d1, d2, hE, shorter, Bool.false_or]; exact rfl))); (try simp only [go_sem, simprocAttr, decaniref00_Shorter, d1, d2, hE, shorter, Bool.false_or])) | ((first | apply onGuard_sel | (apply pickV_split; apply br_split) | apply br_split) <;> intro h <;> (try simp only [go_sem, simprocAttr, h, decaniref00_Shorter, d1, d2, hE, shorter, Bool.false_or]))))
    · have d2 := decide_eq_false h2
      (simp only [go_sem, simprocAttr, decaniref00_Shorter, d1, d2, shorter, Bool.false_or, Bool.false_and]; repeat' (first | ((first | (refine br_yes (by omega) ?_) | (refine br_no (by omega) ?_) | (apply br_all; (· simp only [Bool.and_eq_true, decide_eq_true_eq]; omega)) | (apply br_free; (· simp [go_sem, Pm.acc, Acc.free, refsOf, keyEq, tagEq, cellsEq, cellEq]; done)) | ((first | apply br_mergeT | apply br_mergeF); (· intro h; simp only [go_sem, simprocAttr, sel_of h, decaniref00_Shorter, d1, d2, shorter, Bool.false_or, Bool.false_and]; exact rfl))); (try simp only [go_sem, simprocAttr, decaniref00_Shorter, d1, d2, shorter, Bool.false_or, Bool.false_and])) | ((first | apply onGuard_sel | (apply pickV_split; apply br_split) | apply br_split) <;> intro h <;> (try simp only [go_sem, simprocAttr, h, decaniref00_Shorter, d1, d2, shorter, Bool.false_or, Bool.false_and]))))

@[go_sem] theorem Equal_k (k k' : SK) (l m : List Int) (hl : l.length ≤ 1000000) (hm : m.length ≤ 1000000) : K Γ (.fn 23) [.sc (.sl k 1 (l.map fun x => [ci x])), .sc (.sl k' 1 (m.map fun x => [ci x]))] [] = some (vb (decide (l = m)), []) := by
  rw [K_fn P06.f23 _ _ rfl]
  by_cases hlm : (l.length : Int) = m.length
  · have d1 := decide_eq_true hlm
    have hz : (l.zip m).length = l.length := by simp [List.length_zip]; omega
    (simp only [go_sem, simprocAttr, decaniref00_Equal, d1]; repeat' (first | ((first | (refine br_yes (by omega) ?_) | (refine br_no (by omega) ?_) | (apply br_all; (· simp only [Bool.and_eq_true, decide_eq_true_eq]; omega)) | (apply br_free; (· simp [go_sem, Pm.acc, Acc.free, refsOf, keyEq, tagEq, cellsEq, cellEq]; done)) | ((first | apply br_mergeT | apply br_mergeF); (· intro h; simp only [go_sem, simprocAttr, sel_of h, decaniref00_Equal, d1]; exact rfl))); (try simp only [go_sem, simprocAttr, decaniref00_Equal, d1])) | ((first | apply onGuard_sel | (apply pickV_split; apply br_split) | apply br_split) <;> intro h <;> (try simp only [go_sem, simprocAttr, h, decaniref00_Equal, d1]))))
    refine (E_range (fun i (a : Bool) => ⟨[(0, .sc (.sl k 1 (l.map fun x => [ci x]))), (1, .sc (.sl k' 1 (m.map fun x => [ci x]))), (5, vb a), (6, vi i)], []⟩) (l.zip m)
      (fun i a p => if a then .inl (decide (p.1 = p.2)) else .inr (.exit 0, ⟨[(0, .sc (.sl k 1 (l.map fun x => [ci x]))), (1, .sc (.sl k' 1 (m.map fun x => [ci x]))), (5, vb false), (6, vi i), (18, vb false)], []⟩))
      (fun a => (.exit 0, ⟨[(0, .sc (.sl k 1 (l.map fun x => [ci x]))), (1, .sc (.sl k' 1 (m.map fun x => [ci x]))), (5, vb a), (6, vi (l.zip m).length), (18, vb false)], []⟩)) _ ?_ ?_ ?_ true).trans ?_
    · intro i a p a' hp hf
      obtain ⟨h1, h2⟩ := List.getElem?_zip_eq_some.1 hp
      have d1 := decide_eq_true (show (i : Int) < l.length by have := (List.getElem?_eq_some_iff.1 h1).1; omega)
      have hi : IntKind.i64.wrap ((i : Int) + 1) = i + 1 := wrap_i64 (by have := (List.getElem?_eq_some_iff.1 h1).1; omega) (by have := (List.getElem?_eq_some_iff.1 h1).1; omega)
      cases a with
      | false => simp at hf
      | true =>
        simp only [if_true, Sum.inl.injEq] at hf
        subst hf
        (simp only [go_sem, simprocAttr, decaniref00_Equal_B0, h1, h2, d1, hi]; repeat' (first | ((first | (refine br_yes (by omega) ?_) | (refine br_no (by omega) ?_) | (apply br_all; (· simp only [Bool.and_eq_true, decide_eq_true_eq]; omega)) | (apply br_free; (· simp [go_sem, Pm.acc, Acc.free, refsOf, keyEq, tagEq, cellsEq, cellEq]; done)) | ((first | apply br_mergeT | apply br_mergeF); (· intro h; simp only [go_sem, simprocAttr, sel_of h, decaniref00_Equal_B0, h1, h2, d1, hi]; exact rfl))); (try simp only [go_sem, simprocAttr, decaniref00_Equal_B0, h1, h2, d1, hi])) | ((first | apply onGuard_sel | (apply pickV_split; apply br_split) | apply br_split) <;> intro h <;> (try simp only [go_sem, simprocAttr, h, decaniref00_Equal_B0, h1, h2, d1, hi]))))
        rfl
    · intro i a p r hp hf
      cases a with
      | true => simp at hf
      | false =>
        simp only [Bool.false_eq_true, if_false, Sum.inr.injEq] at hf
        subst hf
        (simp only [go_sem, simprocAttr, decaniref00_Equal_B0]; repeat' (first | ((first | (refine br_yes (by omega) ?_) | (refine br_no (by omega) ?_) | (apply br_all; (· simp only [Bool.and_eq_true, decide_eq_true_eq]; omega)) | (apply br_free; (· simp [go_sem, Pm.acc, Acc.free, refsOf, keyEq, tagEq, cellsEq, cellEq]; done)) | ((first | apply br_mergeT | apply br_mergeF); (· intro h; simp only [go_sem, simprocAttr, sel_of h, decaniref00_Equal_B0]; exact rfl))); (try simp only [go_sem, simprocAttr, decaniref00_Equal_B0])) | ((first | apply onGuard_sel | (apply pickV_split; apply br_split) | apply br_split) <;> intro h <;> (try simp only [go_sem, simprocAttr, h, decaniref00_Equal_B0]))))
    · intro a
      have d1 : decide (((l.zip m).length : Int) < l.length) = false := decide_eq_false (by omega)
      cases a with
      | true => (simp only [go_sem, simprocAttr, decaniref00_Equal_B0, d1]; repeat' (first | ((first | (refine br_yes (by omega) ?_) | (refine br_no (by omega) ?_) | (apply br_all; (· simp only [Bool.and_eq_true, decide_eq_true_eq]; omega)) | (apply br_free; (· simp [go_sem, Pm.acc, Acc.free, refsOf, keyEq, tagEq, cellsEq, cellEq]; done)) | ((first | apply br_mergeT | apply br_mergeF); (· intro h; simp only [go_sem, simprocAttr, sel_of h, decaniref00_Equal_B0, d1]; exact rfl))); (try simp only [go_sem, simprocAttr, decaniref00_Equal_B0, d1])) | ((first | apply onGuard_sel | (apply pickV_split; apply br_split) | apply br_split) <;> intro h <;> (try simp only [go_sem, simprocAttr, h, decaniref00_Equal_B0, d1]))))
      | false => (simp only [go_sem, simprocAttr, decaniref00_Equal_B0]; repeat' (first | ((first | (refine br_yes (by omega) ?_) | (refine br_no (by omega) ?_) | (apply br_all; (· simp only [Bool.and_eq_true, decide_eq_true_eq]; omega)) | (apply br_free; (· simp [go_sem, Pm.acc, Acc.free, refsOf, keyEq, tagEq, cellsEq, cellEq]; done)) | ((first | apply br_mergeT | apply br_mergeF); (· intro h; simp only [go_sem, simprocAttr, sel_of h, decaniref00_Equal_B0]; exact rfl))); (try simp only [go_sem, simprocAttr, decaniref00_Equal_B0])) | ((first | apply onGuard_sel | (apply pickV_split; apply br_split) | apply br_split) <;> intro h <;> (try simp only [go_sem, simprocAttr, h, decaniref00_Equal_B0]))))
    · have key : ∀ (ps : List (Int × Int)) (n : Nat) (a : Bool), ∃ j e, goFold (fun (i : Nat) (a : Bool) (p : Int × Int) => if a then Sum.inl (decide (p.1 = p.2)) else Sum.inr (Ex.exit 0, (⟨[(0, .sc (.sl k 1 (l.map fun x => [ci x]))), (1, .sc (.sl k' 1 (m.map fun x => [ci x]))), (5, vb false), (6, vi i), (18, vb false)], []⟩ : St)))
          (fun a => (.exit 0, ⟨[(0, .sc (.sl k 1 (l.map fun x => [ci x]))), (1, .sc (.sl k' 1 (m.map fun x => [ci x]))), (5, vb a), (6, vi (l.zip m).length), (18, vb false)], []⟩)) n a ps =
          (.exit 0, ⟨[(0, .sc (.sl k 1 (l.map fun x => [ci x]))), (1, .sc (.sl k' 1 (m.map fun x => [ci x]))), (5, vb e), (6, vi j), (18, vb false)], []⟩) ∧ e = (a && decide (∀ p, p ∈ ps → p.1 = p.2)) := by
        intro ps
        induction ps with
        | nil => intro n a; exact ⟨_, a, rfl, by simp⟩
        | cons p ps ih =>
          intro n a
          cases a with
          | false => exact ⟨n, false, rfl, by simp⟩
          | true =>
            obtain ⟨j, e, h1, h2⟩ := ih (n + 1) (decide (p.1 = p.2))
            refine ⟨j, e, by simp only [goFold, if_true]; exact h1, ?_⟩
            rw [h2, Bool.true_and]
            by_cases hp : p.1 = p.2
            · have e1 : (∀ q, q ∈ p :: ps → q.1 = q.2) ↔ (∀ q, q ∈ ps → q.1 = q.2) := by simp [hp]
              rw [decide_eq_true hp, Bool.true_and, decide_eq_decide.2 e1]
            · have e1 : ¬ (∀ q, q ∈ p :: ps → q.1 = q.2) := fun h => hp (h p (by simp))
              rw [decide_eq_false hp, Bool.false_and, decide_eq_false e1]
      obtain ⟨j, e, h1, h2⟩ := key (l.zip m) 0 true
      rw [h1]
      have he : e = decide (l = m) := by
        rw [h2, Bool.true_and, decide_eq_decide]
        constructor
        · intro h
          apply List.ext_getElem?
          intro i
          by_cases hi : i < l.length
          · have hi' : i < m.length := by omega
            have := h (l[i], m[i]) (List.mem_of_getElem? (List.getElem?_zip_eq_some.2 ⟨List.getElem?_eq_getElem hi, List.getElem?_eq_getElem hi'⟩))
            rw [List.getElem?_eq_getElem hi, List.getElem?_eq_getElem hi']
            exact congrArg some this
          · rw [List.getElem?_eq_none (by omega), List.getElem?_eq_none (by omega)]
        · rintro rfl p hp
          obtain ⟨i, hi⟩ := List.getElem?_of_mem hp
          obtain ⟨a1, a2⟩ := List.getElem?_zip_eq_some.1 hi
          rw [a1] at a2; exact Option.some.inj a2
      subst he
      (simp only [go_sem, simprocAttr]; repeat' (first | ((first | (refine br_yes (by omega) ?_) | (refine br_no (by omega) ?_) | (apply br_all; (· simp only [Bool.and_eq_true, decide_eq_true_eq]; omega)) | (apply br_free; (· simp [go_sem, Pm.acc, Acc.free, refsOf, keyEq, tagEq, cellsEq, cellEq]; done)) | ((first | apply br_mergeT | apply br_mergeF); (· intro h; simp only [go_sem, simprocAttr, sel_of h]; exact rfl))); (try simp only [go_sem, simprocAttr])) | ((first | apply onGuard_sel | (apply pickV_split; apply br_split) | apply br_split) <;> intro h <;> (try simp only [go_sem, simprocAttr, h]))))
  · have d1 := decide_eq_false hlm
    have hne : decide (l = m) = false := decide_eq_false (fun e => hlm (by rw [e]))
    (simp only [go_sem, simprocAttr, decaniref00_Equal, d1, hne, decaniref00_Equal_L0, decaniref00_Equal_B0, E_loop]; repeat' (first | ((first | (refine br_yes (by omega) ?_) | (refine br_no (by omega) ?_) | (apply br_all; (· simp only [Bool.and_eq_true, decide_eq_true_eq]; omega)) | (apply br_free; (· simp [go_sem, Pm.acc, Acc.free, refsOf, keyEq, tagEq, cellsEq, cellEq]; done)) | ((first | apply br_mergeT | apply br_mergeF); (· intro h; simp only [go_sem, simprocAttr, sel_of h, decaniref00_Equal, d1, hne, decaniref00_Equal_L0, decaniref00_Equal_B0, E_loop]; exact rfl))); (try simp only [go_sem, simprocAttr, decaniref00_Equal, d1, hne, decaniref00_Equal_L0, decaniref00_Equal_B0, E_loop])) | ((first | apply onGuard_sel | (apply pickV_split; apply br_split) | apply br_split) <;> intro h <;> (try simp only [go_sem, simprocAttr, h, decaniref00_Equal, d1, hne, decaniref00_Equal_L0, decaniref00_Equal_B0, E_loop]))))
end
end Go.Pm.Cd

namespace Go.Pm.Cd
open Ac
set_option maxRecDepth 100000
set_option linter.unusedSimpArgs false
set_option linter.unusedSectionVars false
set_option linter.unusedVariables false

def Incr (f n : Int) : List Int → Prop
  | [] => True
  | x :: xs => f ≤ x ∧ x < n ∧ Incr (x + 1) n xs
theorem Incr.mem {n : Int} : ∀ {f : Int} {l : List Int}, Incr f n l → ∀ x, x ∈ l → f ≤ x ∧ x < n
  | f, [], _, x, h => by simp at h
  | f, y :: l, hi, x, h => by
    obtain ⟨h1, h2, h3⟩ := hi
    rcases List.mem_cons.1 h with rfl | h
    · exact ⟨h1, h2⟩
    · have := h3.mem x h; omega
theorem incr_of {n : Int} : ∀ {f : Int} {l : List Int}, (∀ x, x ∈ l → f ≤ x ∧ x < n) → l.Pairwise (· < ·) → Incr f n l
  | f, [], _, _ => trivial
  | f, x :: l, h, hp => by
    rw [List.pairwise_cons] at hp
    have hx := h x (by simp)
    exact ⟨hx.1, hx.2, incr_of (fun y hy => ⟨by have := hp.1 y hy; omega, (h y (by simp [hy])).2⟩) hp.2⟩
theorem Incr.pair {n : Int} : ∀ {f : Int} {l : List Int}, Incr f n l → l.Pairwise (· < ·)
  | f, [], _ => List.Pairwise.nil
  | f, x :: l, h => by
    rw [List.pairwise_cons]
    exact ⟨fun y hy => by have := (h.2.2.mem y hy).1; omega, h.2.2.pair⟩
theorem ordered_incr {n : Int} {l : List Int} (h : Incr 0 n l) : ordered l n = true := by
  simp only [ordered, Option.isNone_iff_eq_none]
  rw [findFrom_none]
  intro i x hx
  have hm := h.mem x (List.mem_of_getElem? hx)
  simp only [orderedP, Nat.zero_add, Bool.or_eq_false_iff, Bool.not_eq_false', Bool.and_eq_false_iff, within_iff, decide_eq_false_iff_not]
  refine ⟨by omega, ?_⟩
  by_cases h0 : 0 < (i : Int)
  · right
    have hlt := (List.getElem?_eq_some_iff.1 hx).1
    have hp := List.pairwise_iff_getElem.1 h.pair (i - 1) i (by omega) hlt (by omega)
    have e : l.getD (i - 1) 0 = l[i - 1] := by simp only [List.getD, List.getElem?_eq_getElem (show i - 1 < l.length by omega), Option.getD_some]
    rw [List.getElem?_eq_getElem hlt] at hx
    have := Option.some.inj hx
    rw [e]; omega
  · exact .inl h0
theorem bitsN_incr (set : Int) (m : Nat) : Incr 0 m (bitsN set m) := by
  refine incr_of (fun x hx => ?_) ?_
  · simp only [bitsN, List.mem_map, List.mem_filter, List.mem_range] at hx
    obtain ⟨j, ⟨hj, -⟩, rfl⟩ := hx
    omega
  · simp only [bitsN]
    rw [List.pairwise_map]
    exact (List.Pairwise.filter _ (List.pairwise_lt_range (n := m))).imp (fun h => by omega)

def before : List Int → List Int → Bool
  | [], [] => false
  | [], _ :: _ => true
  | _ :: _, [] => false
  | x :: xs, y :: ys => if x = y then before xs ys else decide (x < y)
theorem findFrom_shift {α : Type} (p : α → Bool) : ∀ (l : List α) (n m : Nat), (findFrom (fun _ x => p x) n l).map Prod.snd = (findFrom (fun _ x => p x) m l).map Prod.snd
  | [], _, _ => rfl
  | x :: l, n, m => by
    by_cases h : p x = true
    · simp only [findFrom, h, if_true, Option.map_some]
    · simp only [findFrom, h, if_false]; exact findFrom_shift p l (n + 1) (m + 1)
theorem earlier_map (l m : List Int) (n : Nat) : earlier l m = match (findFrom (fun _ (p : Int × Int) => decide (p.1 ≠ p.2)) n (l.zip m)).map Prod.snd with | some p => decide (p.1 < p.2) | none => decide ((l.length : Int) < m.length) := by
  rw [findFrom_shift (fun p : Int × Int => decide (p.1 ≠ p.2)) (l.zip m) n 0]
  unfold earlier
  cases findFrom (fun _ (p : Int × Int) => decide (p.1 ≠ p.2)) 0 (l.zip m) with
  | none => rfl
  | some q => rfl
theorem earlier_before : ∀ (l m : List Int), earlier l m = before l m
  | [], [] => rfl
  | [], y :: ys => by simp [earlier, findFrom, before]; try omega
  | x :: xs, [] => by simp [earlier, findFrom, before]; try omega
  | x :: xs, y :: ys => by
    have ih := earlier_before xs ys
    rw [earlier_map xs ys 1] at ih
    rw [earlier_map (x :: xs) (y :: ys) 0]
    simp only [List.zip_cons_cons, findFrom, before]
    by_cases h : x = y
    · have d : decide (x ≠ y) = false := decide_eq_false (fun e => e h)
      simp only [d, Bool.false_eq_true, if_false, if_pos h, Nat.zero_add]
      rw [← ih]
      cases (findFrom (fun _ (p : Int × Int) => decide (p.1 ≠ p.2)) 1 (xs.zip ys)).map Prod.snd with
      | none => simp only [List.length_cons, decide_eq_decide]; omega
      | some p => rfl
    · have d : decide (x ≠ y) = true := decide_eq_true h
      simp only [d, if_true, Option.map_some, if_neg h]

theorem fromOf_snoc (l : List Int) (x : Int) : fromOf (l ++ [x]) = x + 1 := by
  have : l ++ [x] ≠ [] := by simp
  simp [fromOf]

theorem choose_spec (b : Book) : ∀ (r : Nat) (l : List Int),
    ((b.choose r l).2 = true → ∃ e, (b.choose r l).1 = l ++ e ∧ e.length = r ∧ Incr (fromOf l) b.counts.length e ∧ b.truths (l ++ e) ≠ [] ∧ ∀ e', e'.length = r → Incr (fromOf l) b.counts.length e' → b.truths (l ++ e') ≠ [] → before e' e = false) ∧
    ((b.choose r l).2 = false → ∀ e', e'.length = r → Incr (fromOf l) b.counts.length e' → b.truths (l ++ e') = [])
  | 0, l => by
    refine ⟨fun h => ?_, fun h => ?_⟩
    · simp only [Book.choose, decide_eq_true_eq] at h
      exact ⟨[], by simp [Book.choose], rfl, trivial, by simpa using h, fun e' he' _ _ => by cases e' with | nil => rfl | cons => simp at he'⟩
    · intro e' he' _
      simp only [Book.choose, decide_eq_false_iff_not, Decidable.not_not] at h
      cases e' with
      | nil => simpa using h
      | cons => simp at he'
  | r + 1, l => by
    have hr : ∀ i : Nat, i < (b.counts.length - fromOf l).toNat → (List.range (b.counts.length - fromOf l).toNat)[i]? = some i := fun i hi => List.getElem?_range hi
    cases hf : findFrom (fun i _ => (b.choose r (l ++ [fromOf l + (i : Nat)])).2) 0 (List.range (b.counts.length - fromOf l).toNat) with
    | none =>
      have hc : b.choose (r + 1) l = ([], false) := by simp only [Book.choose, hf]
      rw [hc]
      refine ⟨fun h => (by cases h), fun _ e' he' hi => ?_⟩
      cases e' with
      | nil => simp at he'
      | cons x xs =>
        obtain ⟨h1, h2, h3⟩ := hi
        have hx : x = fromOf l + ((x - fromOf l).toNat : Int) := by omega
        have := findFrom_none.1 hf (x - fromOf l).toNat _ (hr _ (by omega))
        rw [Nat.zero_add, ← hx] at this
        have hq := (choose_spec b r (l ++ [x])).2 this xs (by simpa using he') (by rw [fromOf_snoc]; exact h3)
        simpa using hq
    | some q =>
      obtain ⟨i, j⟩ := q
      obtain ⟨-, g2, g3, g4⟩ := findFrom_some hf
      have hil : i < (b.counts.length - fromOf l).toNat := by have := (List.getElem?_eq_some_iff.1 g2).1; simp at this; omega
      have hc : b.choose (r + 1) l = ((b.choose r (l ++ [fromOf l + (i : Nat)])).1, true) := by simp only [Book.choose, hf]
      rw [hc]
      refine ⟨fun _ => ?_, fun h => (by cases h)⟩
      obtain ⟨e, h1, h2, h3, h4, h5⟩ := (choose_spec b r (l ++ [fromOf l + (i : Nat)])).1 g3
      rw [fromOf_snoc] at h3 h5
      refine ⟨(fromOf l + (i : Nat)) :: e, by rw [h1]; simp, by simp [h2], ⟨by omega, by omega, h3⟩, by simpa using h4, ?_⟩
      intro e' he' hi' ht'
      cases e' with
      | nil => simp at he'
      | cons x xs =>
        obtain ⟨k1, k2, k3⟩ := hi'
        simp only [before]
        by_cases hxe : x = fromOf l + (i : Nat)
        · rw [if_pos hxe]
          subst hxe
          exact h5 xs (by simpa using he') k3 (by simpa using ht')
        · rw [if_neg hxe]
          by_cases hlt : x < fromOf l + (i : Nat)
          · have hx : x = fromOf l + ((x - fromOf l).toNat : Int) := by omega
            have := g4 (x - fromOf l).toNat _ (by omega) (hr _ (by omega))
            rw [Nat.zero_add, ← hx] at this
            have hq := (choose_spec b r (l ++ [x])).2 this xs (by simpa using he') (by rw [fromOf_snoc]; exact k3)
            exact absurd (by simpa using hq) ht'
          · exact decide_eq_false hlt

theorem all_but {b : Book} (hv : b.valid = true) : b.truths ((List.range b.counts.length).map fun (j : Nat) => (j : Int)) ≠ [] := by
  have hs := sane_of_valid hv
  rw [truths_ne hs]
  obtain ⟨n, f, dk, w⟩ := (truths_ne (sane_of_valid (bare_valid hv)) []).1 (bare_ne hs (sane_of_valid (bare_valid hv)))
  refine ⟨n, f, dk, w.stock, w.life, w.dark, fun i x hx hb => ?_⟩
  have : ((List.range b.counts.length).map fun (j : Nat) => (j : Int)).contains (i : Int) = true := by
    rw [List.contains_iff_mem, List.mem_map]
    exact ⟨i, List.mem_range.2 (List.getElem?_eq_some_iff.1 hx).1, rfl⟩
  rw [this] at hb; cases hb

theorem wrong_spec {b : Book} (hv : b.valid = true) : b.wrong.2 = 0 ∧ Incr 0 b.counts.length b.wrong.1 ∧ b.truths b.wrong.1 ≠ [] ∧ b.wrong.1.length ≤ b.counts.length ∧
    ∀ l, Incr 0 b.counts.length l → b.truths l ≠ [] → shorter l b.wrong.1 = false := by
  have hall : (b.choose b.counts.length []).2 = true := by
    cases h : (b.choose b.counts.length []).2 with
    | true => rfl
    | false =>
      have := (choose_spec b b.counts.length []).2 h ((List.range b.counts.length).map fun (j : Nat) => (j : Int)) (by simp) (incr_of (fun x hx => by
        simp only [List.mem_map, List.mem_range] at hx
        obtain ⟨j, hj, rfl⟩ := hx
        simp [fromOf]; omega) (by rw [List.pairwise_map]; exact List.pairwise_lt_range.imp (fun h => by omega)))
      exact absurd (by simpa using this) (all_but hv)
  cases hf : findFrom (fun m _ => (b.choose m []).2) 0 (List.range (b.counts.length + 1)) with
  | none =>
    have := findFrom_none.1 hf b.counts.length b.counts.length (List.getElem?_range (by omega))
    rw [Nat.zero_add, hall] at this; cases this
  | some q =>
    obtain ⟨m, j⟩ := q
    obtain ⟨-, g2, g3, g4⟩ := findFrom_some hf
    have hm : m < b.counts.length + 1 := by have := (List.getElem?_eq_some_iff.1 g2).1; simp at this; omega
    have hw : b.wrong = ((b.choose m []).1, 0) := by simp only [Book.wrong, hv, if_true, hf]
    rw [hw]
    obtain ⟨e, h1, h2, h3, h4, h5⟩ := (choose_spec b m []).1 g3
    have hf0 : fromOf [] = 0 := rfl
    rw [hf0] at h3 h5
    simp only [List.nil_append] at h1 h4 h5
    refine ⟨rfl, by rw [h1]; exact h3, by rw [h1]; exact h4, by rw [h1, h2]; omega, fun l hl ht => ?_⟩
    simp only [h1, shorter, Bool.or_eq_false_iff, Bool.and_eq_false_iff, decide_eq_false_iff_not]
    constructor
    · intro hlt
      have hq := g4 l.length l.length (by omega) (List.getElem?_range (by omega))
      rw [Nat.zero_add] at hq
      have := (choose_spec b l.length []).2 hq l rfl hl
      exact ht (by simpa using this)
    · by_cases hle : (l.length : Int) = e.length
      · right
        rw [earlier_before]
        exact h5 l (by omega) hl ht
      · exact .inl hle

def Book.keptN (b : Book) (l : List Int) (i : Nat) : List Count := (List.range i).foldl (fun acc (j : Nat) => match b.counts[j]? with | some x => if l.contains (j : Int) then acc else acc ++ [x] | none => acc) []
theorem keptN_succ (b : Book) (l : List Int) {i : Nat} {x : Count} (hx : b.counts[i]? = some x) : b.keptN l (i + 1) = if l.contains (i : Int) then b.keptN l i else b.keptN l i ++ [x] := by
  simp only [Book.keptN, List.range_succ, List.foldl_append, List.foldl_cons, List.foldl_nil, hx]
theorem keptN_mem (b : Book) (l : List Int) : ∀ (m : Nat) (x : Count), x ∈ b.keptN l m ↔ ∃ i, i < m ∧ b.counts[i]? = some x ∧ l.contains (i : Int) = false
  | 0, x => by simp [Book.keptN]
  | m + 1, x => by
    have ih := keptN_mem b l m x
    cases hm : b.counts[m]? with
    | none =>
      have e : b.keptN l (m + 1) = b.keptN l m := by simp only [Book.keptN, List.range_succ, List.foldl_append, List.foldl_cons, List.foldl_nil, hm]
      rw [e, ih]
      constructor
      · rintro ⟨i, h1, h2, h3⟩; exact ⟨i, by omega, h2, h3⟩
      · rintro ⟨i, h1, h2, h3⟩
        by_cases e : i = m
        · subst e; rw [hm] at h2; cases h2
        · exact ⟨i, by omega, h2, h3⟩
    | some y =>
      rw [keptN_succ b l hm]
      cases hc : l.contains (m : Int) with
      | true =>
        rw [if_pos rfl, ih]
        constructor
        · rintro ⟨i, h1, h2, h3⟩; exact ⟨i, by omega, h2, h3⟩
        · rintro ⟨i, h1, h2, h3⟩
          by_cases e : i = m
          · subst e; rw [hc] at h3; cases h3
          · exact ⟨i, by omega, h2, h3⟩
      | false =>
        rw [if_neg (by decide), List.mem_append, List.mem_singleton, ih]
        constructor
        · rintro (⟨i, h1, h2, h3⟩ | rfl)
          · exact ⟨i, by omega, h2, h3⟩
          · exact ⟨m, by omega, hm, hc⟩
        · rintro ⟨i, h1, h2, h3⟩
          by_cases e : i = m
          · subst e; rw [hm] at h2; exact .inr (Option.some.inj h2).symm
          · exact .inl ⟨i, by omega, h2, h3⟩
theorem keptN_len (b : Book) (l : List Int) : ∀ (m : Nat), (b.keptN l m).length ≤ m
  | 0 => by simp [Book.keptN]
  | m + 1 => by
    have ih := keptN_len b l m
    cases hm : b.counts[m]? with
    | none =>
      have e : b.keptN l (m + 1) = b.keptN l m := by simp only [Book.keptN, List.range_succ, List.foldl_append, List.foldl_cons, List.foldl_nil, hm]
      rw [e]; omega
    | some y =>
      rw [keptN_succ b l hm]
      split
      · omega
      · simp; omega
def Book.withC (b : Book) (L : List Count) : Book := { b with kc := if L = [] then .nil else .shared, counts := L }
def Book.without (b : Book) (l : List Int) : Book := b.withC (b.keptN l b.counts.length)
theorem withC_valid {b : Book} (hv : b.valid = true) {L : List Count} (h5 : L.length ≤ 5) (hL : ∀ x, x ∈ L → b.isCount x = true) : (b.withC L).valid = true := by
  have e1 : (b.withC L).orderOk = b.orderOk := rfl
  have e2 : (b.withC L).isCount = b.isCount := rfl
  simp only [Book.valid, Bool.and_eq_true, decide_eq_true_eq, e1, e2] at hv ⊢
  refine ⟨⟨⟨⟨⟨⟨⟨⟨⟨hv.1.1.1.1.1.1.1.1.1, hv.1.1.1.1.1.1.1.1.2⟩, ?_⟩, hv.1.1.1.1.1.1.2⟩, hv.1.1.1.1.1.2⟩, hv.1.1.1.1.2⟩, hv.1.1.1.2⟩, hv.1.1.2⟩, hv.1.2⟩, ?_⟩
  · simp only [Book.withC]; omega
  · simp only [List.all_eq_true, Book.withC]; exact hL
theorem withC_fits {b : Book} [hb : b.Fits] {L : List Count} (h5 : L.length ≤ 5) : (b.withC L).Fits := ⟨hb.1, hb.2, by simp only [Book.withC]; omega⟩
theorem withC_run (b : Book) (L : List Count) (k n f : Int) (dk : Nat → Int) (d : Nat) : (b.withC L).runK k n f dk d = b.runK k n f dk d := by
  induction d with
  | zero => rfl
  | succ d ih =>
    have hc : (b.withC L).comes = b.comes := rfl
    have hd : (b.withC L).days = b.days := rfl
    simp only [Book.runK, hd, hc, ih]
theorem valid_counts5 {b : Book} (hv : b.valid = true) : b.counts.length ≤ 5 := by
  simp only [Book.valid, Bool.and_eq_true, decide_eq_true_eq] at hv
  have := hv.1.1.1.1.1.1.1.2; omega
theorem without_valid {b : Book} (hv : b.valid = true) (l : List Int) : (b.without l).valid = true := by
  have hk := keptN_len b l b.counts.length
  have h5 := valid_counts5 hv
  refine withC_valid hv (by omega) fun x hx => ?_
  obtain ⟨i, -, hi, -⟩ := (keptN_mem b l _ x).1 hx
  exact valid_counts (sane_of_valid hv) x (List.mem_of_getElem? hi)
theorem without_way (b : Book) (l : List Int) {n f : Int → Int} {dk : Nat → Int} : Way (b.without l) [] n f dk ↔ Way b l n f dk := by
  constructor
  · intro w
    refine ⟨w.stock, w.life, w.dark, fun i x hx hb => ?_⟩
    have hm : x ∈ b.keptN l b.counts.length := (keptN_mem b l _ x).2 ⟨i, (List.getElem?_eq_some_iff.1 hx).1, hx, hb⟩
    obtain ⟨j, hj⟩ := List.getElem?_of_mem hm
    have := w.right j x hj rfl
    unfold Book.without at this
    rwa [withC_run] at this
  · intro w
    refine ⟨w.stock, w.life, w.dark, fun i x hx _ => ?_⟩
    obtain ⟨j, -, hj, hc⟩ := (keptN_mem b l _ x).1 (List.mem_of_getElem? hx)
    unfold Book.without
    rw [withC_run]
    exact w.right j x hj hc
theorem without_ne {b : Book} (hv : b.valid = true) (l : List Int) : (b.without l).truths [] ≠ [] ↔ b.truths l ≠ [] := by
  rw [truths_ne (sane_of_valid (without_valid hv l)), truths_ne (sane_of_valid hv)]
  constructor
  · rintro ⟨n, f, dk, w⟩; exact ⟨n, f, dk, (without_way b l).1 w⟩
  · rintro ⟨n, f, dk, w⟩; exact ⟨n, f, dk, (without_way b l).2 w⟩

def B10 (b : Book) (c : C) : List C := [ci b.s0.lo, ci b.s0.hi, ci b.s1.lo, ci b.s1.hi, ci b.f0.lo, ci b.f0.hi, ci b.f1.lo, ci b.f1.hi, .sl b.kd 5 (b.days.map Day.c), .sl b.ko 3 (b.orders.map Order.c), c]
section
variable (b : Book) (c c' : C)
@[go_sem] theorem B10_get : (B10 b c)[10]? = some c := nrfl rfl
@[go_sem] theorem B10_set : (B10 b c).set 10 c' = B10 b c' := nrfl rfl
@[go_sem] theorem B10_under (n : Nat) : C.underL n (B10 b c) = C.underL n [c] := by simp [B10, C.underL, C.under]
@[go_sem] theorem B10_len : (B10 b c).length = 11 := nrfl rfl
@[go_sem] theorem B10_all : cellsAt (B10 b c) 0 11 = some (B10 b c) := nrfl rfl
end
theorem B10_un (b : Book) (L : List Count) : (B10 b (ownC 4 (L.map Count.c))).map unown = (b.withC L).c := by
  cases L with
  | nil => rfl
  | cons x L => simp [B10, Book.withC, Book.c, ownC, unown]
theorem bare_B10 (b : Book) : b.bare.c = B10 b (ownC 4 (([] : List Count).map Count.c)) := rfl

section
variable {Γ : Env} [P06 Γ] [G06 Γ]
theorem without_L0 (b : Book) [hb : b.Fits] (hv : b.valid = true) (k : SK) (l : List Int) (hl : l.length ≤ 1000000) (z : Obj) (hz : z.under 3 = true) {β : Type} (Q : Ex → St → Option β) :
    E Γ decanilaw06_without_L0 ⟨[(1, .sc (.sl k 1 (l.map fun x => [ci x]))), (2, .sc (.ptr 0 0)), (4, .sc (.ptr 1 0)), (5, .sc (.ptr 2 0)), (6, vi 0)], [.var b.c, z, .var b.bare.c]⟩ Q =
      Q (.exit 0) ⟨[(1, .sc (.sl k 1 (l.map fun x => [ci x]))), (2, .sc (.ptr 0 0)), (4, .sc (.ptr 1 0)), (5, .sc (.ptr 2 0)), (6, vi b.counts.length), (13, vb false)], [.var b.c, z, .var (B10 b (ownC 4 ((b.keptN l b.counts.length).map Count.c)))]⟩ := by
  have h5 := valid_counts5 hv
  refine E_countS b.counts.length (fun i (_ : Unit) => ⟨[(1, .sc (.sl k 1 (l.map fun x => [ci x]))), (2, .sc (.ptr 0 0)), (4, .sc (.ptr 1 0)), (5, .sc (.ptr 2 0)), (6, vi i)], [.var b.c, z, .var (B10 b (ownC 4 ((b.keptN l i).map Count.c)))]⟩) (fun _ _ => True)
    (fun _ => (.exit 0, ⟨[(1, .sc (.sl k 1 (l.map fun x => [ci x]))), (2, .sc (.ptr 0 0)), (4, .sc (.ptr 1 0)), (5, .sc (.ptr 2 0)), (6, vi b.counts.length), (13, vb false)], [.var b.c, z, .var (B10 b (ownC 4 ((b.keptN l b.counts.length).map Count.c)))]⟩)) () rfl trivial ?_ ?_ ?_
  · intro i _ hi _
    refine ⟨(), trivial, ?_⟩
    obtain ⟨x, hx⟩ : ∃ x, b.counts[i]? = some x := ⟨_, List.getElem?_eq_getElem hi⟩
    have hlt := decide_eq_true (show (i : Int) < b.counts.length by omega)
    have hiw : IntKind.i64.wrap ((i : Int) + 1) = i + 1 := wrap_i64 (by omega) (by omega)
    have hkl := keptN_len b l i
    have hA := appended_ownC 4 ((b.keptN l i).map Count.c) .full x.c (by simp only [List.length_map, room]; omega)
    rw [keptN_succ b l hx]
    cases hc : l.contains (i : Int) with
    | true =>
      rw [if_pos rfl]
      (simp only [go_sem, simprocAttr, decanilaw06_without_B0, hx, hlt, hiw, hl, whereOf_neg, hc, hz]; repeat' (first | ((first | (refine br_yes (by omega) ?_) | (refine br_no (by omega) ?_) | (apply br_all; (· simp only [Bool.and_eq_true, decide_eq_true_eq]; omega)) | (apply br_free; (· simp [go_sem, Pm.acc, Acc.free, refsOf, keyEq, tagEq, cellsEq, cellEq]; done)) | ((first | apply br_mergeT | apply br_mergeF); (· intro h; simp only [go_sem, simprocAttr, sel_of h, decanilaw06_without_B0, hx, hlt, hiw, hl, whereOf_neg, hc, hz]; exact rfl))); (try simp only [go_sem, simprocAttr, decanilaw06_without_B0, hx, hlt, hiw, hl, whereOf_neg, hc, hz])) | ((first | apply onGuard_sel | (apply pickV_split; apply br_split) | apply br_split) <;> intro h <;> (try simp only [go_sem, simprocAttr, h, decanilaw06_without_B0, hx, hlt, hiw, hl, whereOf_neg, hc, hz]))))
      rfl
    | false =>
      rw [if_neg (by decide), List.map_append, List.map_cons, List.map_nil]
      (simp only [go_sem, simprocAttr, decanilaw06_without_B0, hx, hlt, hiw, hl, whereOf_neg, hc, hz, hA]; repeat' (first | ((first | (refine br_yes (by omega) ?_) | (refine br_no (by omega) ?_) | (apply br_all; (· simp only [Bool.and_eq_true, decide_eq_true_eq]; omega)) | (apply br_free; (· simp [go_sem, Pm.acc, Acc.free, refsOf, keyEq, tagEq, cellsEq, cellEq]; done)) | ((first | apply br_mergeT | apply br_mergeF); (· intro h; simp only [go_sem, simprocAttr, sel_of h, decanilaw06_without_B0, hx, hlt, hiw, hl, whereOf_neg, hc, hz, hA]; exact rfl))); (try simp only [go_sem, simprocAttr, decanilaw06_without_B0, hx, hlt, hiw, hl, whereOf_neg, hc, hz, hA])) | ((first | apply onGuard_sel | (apply pickV_split; apply br_split) | apply br_split) <;> intro h <;> (try simp only [go_sem, simprocAttr, h, decanilaw06_without_B0, hx, hlt, hiw, hl, whereOf_neg, hc, hz, hA]))))
      rfl
  · intro _ _
    have hlt := decide_eq_false (show ¬ (b.counts.length : Int) < b.counts.length by omega)
    (simp only [go_sem, simprocAttr, decanilaw06_without_B0, hlt]; repeat' (first | ((first | (refine br_yes (by omega) ?_) | (refine br_no (by omega) ?_) | (apply br_all; (· simp only [Bool.and_eq_true, decide_eq_true_eq]; omega)) | (apply br_free; (· simp [go_sem, Pm.acc, Acc.free, refsOf, keyEq, tagEq, cellsEq, cellEq]; done)) | ((first | apply br_mergeT | apply br_mergeF); (· intro h; simp only [go_sem, simprocAttr, sel_of h, decanilaw06_without_B0, hlt]; exact rfl))); (try simp only [go_sem, simprocAttr, decanilaw06_without_B0, hlt])) | ((first | apply onGuard_sel | (apply pickV_split; apply br_split) | apply br_split) <;> intro h <;> (try simp only [go_sem, simprocAttr, h, decanilaw06_without_B0, hlt]))))
  · intro _ _
    rfl
theorem without_k (b : Book) [hb : b.Fits] (hv : b.valid = true) (k : SK) (l : List Int) (hl : l.length ≤ 1000000) : K Γ (.fn 36) [.agg b.c, .sc (.sl k 1 (l.map fun x => [ci x]))] [] = some (.agg (b.without l).c, []) := by
  have hL {β : Type} (z : Obj) (hz : z.under 3 = true) (Q : Ex → St → Option β) := without_L0 (Γ := Γ) b hv k l hl z hz Q
  have hU : (B10 b (ownC 4 ((b.keptN l b.counts.length).map Count.c))).map unown = (b.without l).c := B10_un b _
  rw [K_fn P06.f36 _ _ rfl]
  (simp only [go_sem, simprocAttr, decanilaw06_without, hL, hU]; repeat' (first | ((first | (refine br_yes (by omega) ?_) | (refine br_no (by omega) ?_) | (apply br_all; (· simp only [Bool.and_eq_true, decide_eq_true_eq]; omega)) | (apply br_free; (· simp [go_sem, Pm.acc, Acc.free, refsOf, keyEq, tagEq, cellsEq, cellEq]; done)) | ((first | apply br_mergeT | apply br_mergeF); (· intro h; simp only [go_sem, simprocAttr, sel_of h, decanilaw06_without, hL, hU]; exact rfl))); (try simp only [go_sem, simprocAttr, decanilaw06_without, hL, hU])) | ((first | apply onGuard_sel | (apply pickV_split; apply br_split) | apply br_split) <;> intro h <;> (try simp only [go_sem, simprocAttr, h, decanilaw06_without, hL, hU]))))
end
end Go.Pm.Cd

namespace Go.Pm.Cd
open Ac
set_option maxRecDepth 100000
set_option linter.unusedSimpArgs false
set_option linter.unusedSectionVars false
set_option linter.unusedVariables false
section
variable {Γ : Env} [P06 Γ] [G06 Γ]
theorem CandleWrong_k (b : Book) [hb : b.Fits] (n : Int) : K Γ (.fn 97) [.agg b.c, vi n] [] = some (vb true, []) := by
  rw [K_fn P06.f97 _ _ rfl]
  rcases Bool.eq_false_or_eq_true b.valid with hv | hv
  rotate_left
  · have hw1 : b.wrong = ([], 60) := by simp [Book.wrong, hv]
    have hW := Wrong_k (Γ := Γ) b
    simp only [hw1, iC, List.map_nil] at hW
    (simp only [go_sem, simprocAttr, decanilaw06_CandleWrong, hv, hW]; repeat' (first | ((first | (refine br_yes (by omega) ?_) | (refine br_no (by omega) ?_) | (apply br_all; (· simp only [Bool.and_eq_true, decide_eq_true_eq]; omega)) | (apply br_free; (· simp [go_sem, Pm.acc, Acc.free, refsOf, keyEq, tagEq, cellsEq, cellEq]; done)) | ((first | apply br_mergeT | apply br_mergeF); (· intro h; simp only [go_sem, simprocAttr, sel_of h, decanilaw06_CandleWrong, hv, hW]; exact rfl))); (try simp only [go_sem, simprocAttr, decanilaw06_CandleWrong, hv, hW])) | ((first | apply onGuard_sel | (apply pickV_split; apply br_split) | apply br_split) <;> intro h <;> (try simp only [go_sem, simprocAttr, h, decanilaw06_CandleWrong, hv, hW]))))
  have hs := sane_of_valid hv
  have h5 := valid_counts5 hv
  obtain ⟨w1, w2, w3, w4, w5⟩ := wrong_spec hv
  have hW := Wrong_k (Γ := Γ) b
  rw [w1] at hW
  obtain ⟨w, hw⟩ : ∃ w, b.wrong.1 = w := ⟨_, rfl⟩
  rw [hw] at w2 w3 w4 w5 hW
  simp only [iC] at hW
  have hR := Right_yes (Γ := Γ) b hv
  have hO := ordered_incr w2
  have hz : decide ((w.length : Int) = 0) = decide (b.truths [] ≠ []) := by
    rw [decide_eq_decide]
    constructor
    · intro h
      have : w = [] := List.length_eq_zero_iff.1 (by omega)
      rw [this] at w3; exact w3
    · intro h
      have := w5 [] trivial h
      simp only [shorter, Bool.or_eq_false_iff, decide_eq_false_iff_not, List.length_nil] at this
      omega
  have hsh : IntKind.i64.wrap (1 * 2 ^ Nat.min b.counts.length 64) = 2 ^ b.counts.length := by
    have hm : Nat.min b.counts.length 64 = b.counts.length := Nat.min_eq_left (by omega)
    rw [hm, Int.one_mul]
    have hc : b.counts.length = 0 ∨ b.counts.length = 1 ∨ b.counts.length = 2 ∨ b.counts.length = 3 ∨ b.counts.length = 4 ∨ b.counts.length = 5 := by omega
    rcases hc with h | h | h | h | h | h <;> rw [h] <;> exact wrap_i64 (by decide) (by decide)
  have hle : (2 : Int) ^ b.counts.length ≤ 1000000 := by
    have hc : b.counts.length = 0 ∨ b.counts.length = 1 ∨ b.counts.length = 2 ∨ b.counts.length = 3 ∨ b.counts.length = 4 ∨ b.counts.length = 5 := by omega
    rcases hc with h | h | h | h | h | h <;> rw [h] <;> decide
  obtain ⟨s, hs'⟩ : ∃ s, turn n (2 ^ b.counts.length) = s := ⟨_, rfl⟩
  have hB := Bits_k (Γ := Γ) s b.counts.length (by omega)
  simp only [Int.toNat_natCast] at hB
  obtain ⟨o, ho⟩ : ∃ o, bitsN s b.counts.length = o := ⟨_, rfl⟩
  have hoi := bitsN_incr s b.counts.length
  rw [ho] at hB hoi
  have holen : o.length ≤ 1000000 := by
    have : o.length ≤ b.counts.length := by
      rw [← ho]; simp only [bitsN, List.length_map]
      exact Nat.le_trans (List.length_filter_le _ _) (by simp)
    omega
  have hU1 := without_k (Γ := Γ) b hv (wrongK b) w (by omega)
  have hU2 := without_k (Γ := Γ) b hv (kF o) o holen
  haveI : (b.without w).Fits := withC_fits (by have := keptN_len b w b.counts.length; omega)
  haveI : (b.without o).Fits := withC_fits (by have := keptN_len b o b.counts.length; omega)
  have hR1 := Right_yes (Γ := Γ) (b.without w) (without_valid hv w)
  have hR2 := Right_yes (Γ := Γ) (b.without o) (without_valid hv o)
  rw [decide_eq_true ((without_ne hv w).2 w3)] at hR1
  have hS := Shorter_k (Γ := Γ) (kF o) (wrongK b) o w holen (by omega)
  have hwl : w.length ≤ 1000000 := by omega
  have hcl : (b.counts.length : Int) ≤ 1000000 := by omega
  have hOk := Ordered_k (Γ := Γ) (wrongK b) w b.counts.length hwl (by omega)
  rw [hO] at hOk
  by_cases ht : (b.without o).truths [] = []
  · rw [decide_eq_false (fun h => h ht)] at hR2
    (simp only [go_sem, simprocAttr, decanilaw06_CandleWrong, hv, hW, hR, hOk, hz, hsh, hle, hs', hB, hU1, hU2, hR1, hR2, hS, hwl, hcl, beq_self_eq_true]; repeat' (first | ((first | (refine br_yes (by omega) ?_) | (refine br_no (by omega) ?_) | (apply br_all; (· simp only [Bool.and_eq_true, decide_eq_true_eq]; omega)) | (apply br_free; (· simp [go_sem, Pm.acc, Acc.free, refsOf, keyEq, tagEq, cellsEq, cellEq]; done)) | ((first | apply br_mergeT | apply br_mergeF); (· intro h; simp only [go_sem, simprocAttr, sel_of h, decanilaw06_CandleWrong, hv, hW, hR, hOk, hz, hsh, hle, hs', hB, hU1, hU2, hR1, hR2, hS, hwl, hcl, beq_self_eq_true]; exact rfl))); (try simp only [go_sem, simprocAttr, decanilaw06_CandleWrong, hv, hW, hR, hOk, hz, hsh, hle, hs', hB, hU1, hU2, hR1, hR2, hS, hwl, hcl, beq_self_eq_true])) | ((first | apply onGuard_sel | (apply pickV_split; apply br_split) | apply br_split) <;> intro h <;> (try simp only [go_sem, simprocAttr, h, decanilaw06_CandleWrong, hv, hW, hR, hOk, hz, hsh, hle, hs', hB, hU1, hU2, hR1, hR2, hS, hwl, hcl, beq_self_eq_true]))))
    all_goals (first | rfl | (refine fin_true ?_; simp only [Bool.and_eq_true, Bool.or_eq_true, Bool.not_eq_true', Bool.and_eq_false_iff, Bool.or_eq_false_iff, Bool.not_eq_false', Bool.not_eq_true, decide_eq_true_eq, decide_eq_false_iff_not, Bool.false_eq_true] at * <;> omega))
  · have hsf := w5 o hoi ((without_ne hv o).1 ht)
    rw [decide_eq_true ht] at hR2
    rw [hsf] at hS
    (simp only [go_sem, simprocAttr, decanilaw06_CandleWrong, hv, hW, hR, hOk, hz, hsh, hle, hs', hB, hU1, hU2, hR1, hR2, hS, hwl, hcl, beq_self_eq_true]; repeat' (first | ((first | (refine br_yes (by omega) ?_) | (refine br_no (by omega) ?_) | (apply br_all; (· simp only [Bool.and_eq_true, decide_eq_true_eq]; omega)) | (apply br_free; (· simp [go_sem, Pm.acc, Acc.free, refsOf, keyEq, tagEq, cellsEq, cellEq]; done)) | ((first | apply br_mergeT | apply br_mergeF); (· intro h; simp only [go_sem, simprocAttr, sel_of h, decanilaw06_CandleWrong, hv, hW, hR, hOk, hz, hsh, hle, hs', hB, hU1, hU2, hR1, hR2, hS, hwl, hcl, beq_self_eq_true]; exact rfl))); (try simp only [go_sem, simprocAttr, decanilaw06_CandleWrong, hv, hW, hR, hOk, hz, hsh, hle, hs', hB, hU1, hU2, hR1, hR2, hS, hwl, hcl, beq_self_eq_true])) | ((first | apply onGuard_sel | (apply pickV_split; apply br_split) | apply br_split) <;> intro h <;> (try simp only [go_sem, simprocAttr, h, decanilaw06_CandleWrong, hv, hW, hR, hOk, hz, hsh, hle, hs', hB, hU1, hU2, hR1, hR2, hS, hwl, hcl, beq_self_eq_true]))))
    all_goals (first | rfl | (refine fin_true ?_; simp only [Bool.and_eq_true, Bool.or_eq_true, Bool.not_eq_true', Bool.and_eq_false_iff, Bool.or_eq_false_iff, Bool.not_eq_false', Bool.not_eq_true, decide_eq_true_eq, decide_eq_false_iff_not, Bool.false_eq_true] at * <;> omega))
end
end Go.Pm.Cd

namespace Go.Proofs.YtdndhpoinffpbaaDoor
open Go Go.Pm Go.Pm.Cd Go.ChangeShapes Go.WideShapes Go.ChangeAt Go.RowKit
set_option maxRecDepth 100000

theorem lifted (os : Os) (started : os.Started) (H : Type) (enc : TypeId × Value → H) :
    ReturnsInHanded {} Tryd.checked os 13 .any (fun w args => (Rows.candleWrongSpec.pre enc Tryd.prog Tryd.f13 [] false w args ∧ laidMetH Tryd.prog laidL w) ∧ sizedMet enc Tryd.prog Tryd.f13 (OpenSpec.ofChange Rows.candleWrongSpec) false w args)
      (Rows.candleWrongSpec.post enc Tryd.prog Tryd.f13 false true false false) := by
  refine returnsInHanded_of_change_and (C := Tryd.checked) (X := fun w _ => laidMetH Tryd.prog laidL w) (fun _ _ _ hh h => h.of_heap hh) own started (by kernel_rfl) Tryd.func13
    (ChangeSpec.witness_shaped (enc := enc) (C := Tryd.checked) (os := os) (X := fun w _ => laidMetH Tryd.prog laidL w) false (World.doorLaid Tryd.prog 600 os) #[.agg #[.int .i64 0, .int .i64 0, .int .i64 0, .int .i64 0, .int .i64 0, .int .i64 0, .int .i64 0, .int .i64 0, .slice none 0 0, .slice none 0 0, .slice none 0 0], .int .i64 0] 8 rfl (World.shaped_of_RefB (by kernel_rfl) (by kernel_rfl)) (by kernel_rfl) (by kernel_rfl) (by kernel_rfl) (door_met os _)) ?_
  intro W base args ds gs before hval hW _ _ hL _
  refine law_contract (S := S1) (G := G1) (id := 97) (tb := 4) (base := base) seat_ok 8 [bookT, i1] (by kernel_rfl) (by kernel_rfl) laidOut (by kernel_rfl) (by kernel_rfl) rfl ?_ ?_ hval hW (globs hL)
  · intro ds hd
    match ds, hd with
    | [d0, d1], _ => rfl
  · show ∀ vs, HasVs [bookT, i1] vs → K Γ1 (.fn 97) vs [] = some (.sc (.bool true), [])
    intro vs hvs
    simp only [HasVs] at hvs
    obtain ⟨v0, r0, rfl, h0, v1, r1, rfl, h1, rfl⟩ := hvs
    obtain ⟨b, rfl, hb⟩ := book_of _ h0
    haveI := hb
    obtain ⟨n, hn, rfl⟩ := int_of _ h1
    exact CandleWrong_k (Γ := Γ1) b n

theorem row_holds : Rows.CandleWrongSaid :=
  OpenClaim.holds_of_wide 13 Tryd.f13 rfl rfl rfl rfl rfl rfl rfl ⟨rfl, rfl, rfl, rfl, rfl⟩ rfl rfl rfl rfl rfl (by kernel_rfl) Tryd.func13 (by kernel_rfl)
    (of_decide_eq_true (by kernel_rfl)) (by unfold Func.isWrapper; first | (rw [if_pos (by decide +kernel)]; kernel_rfl) | (rw [if_neg (by decide +kernel)]; exact ⟨rfl, rfl⟩))
    (fun os started H enc _ => lifted os started H enc)

theorem candleWrong_card_holds : Rows.CandleWrongCardSaid :=
  Claim7.holds_tied_plain_at .later [] [.data, .funcs] true (true, "60d50f35f64f42411113777cba31078ec0ca6d528e83348940a62dd418a71482") false
    row_holds (fun _ h => by cases h) (by kernel_rfl) (fun _ h => by cases h) candleWrong_row_tie rfl ⟨rfl, rfl⟩ (by kernel_rfl) rfl
    (fun f fn hf hfn => by
      obtain rfl : f = 13 := Option.some.inj ((show Tryd.prog.funcNamed "decani/decanilaw06.CandleWrong" = some 13 by kernel_rfl).symm.trans hf) |>.symm
      obtain rfl : fn = Tryd.f13 := (Option.some.inj (Tryd.func13.symm.trans hfn)).symm
      exact ⟨by kernel_rfl, fun j t ht => by
        have hp : Tryd.f13.params = #[29, 3] := by kernel_rfl
        rw [hp] at ht
        have hm : t ∈ ([29, 3] : List TypeId) := by simpa using Array.mem_of_getElem? ht
        have hall : (([29, 3] : List TypeId).all fun u => !Tryd.prog.wantsStandIn u) = true := by kernel_rfl
        exact (show Tryd.prog.wantsStandIn t = false by simpa using List.all_eq_true.1 hall t hm)⟩)
    (by kernel_rfl)
#print axioms candleWrong_card_holds
end Go.Proofs.YtdndhpoinffpbaaDoor
