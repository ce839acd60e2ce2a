/- The statement CandleTrue: whatever its arguments, the call returns true, and each argument reads as before. No condition beside the row's own. -/
import Derived.Test.YtdndhpoinffpbaaDoorCandleTrueL4
import Derived.Test.YtdndhpoinffpbaaDoorTie
import Derived.Test.YtdndhpoinffpbaaDoorCards
import Derived.ProofKit
import Derived.LaidMore
import Derived.OpenShut
import Derived.Stop.Joined
import Derived.SevenTiedAt
set_option linter.all false
namespace Go.Pm.Cd
open Ac
set_option maxRecDepth 100000
set_option linter.unusedSimpArgs false
set_option linter.unusedSectionVars false
set_option linter.unusedVariables false

def Span.has (s : Span) (n : Int) : Prop := s.lo ≤ n ∧ n ≤ s.hi

theorem whole_mem {α : Type} (C : List α → Int → Int → List α) (M : Int → Int → α → Prop) (sp tp : Span) (h : ∀ s a c x, x ∈ C s a c ↔ x ∈ s ∨ M a c x) (s : List α) (x : α) :
    x ∈ whole C sp tp s ↔ x ∈ s ∨ ∃ a c, sp.has a ∧ tp.has c ∧ M a c x := by
  have hin : ∀ (k i : Nat) (s : List α), x ∈ inner C sp tp s i k ↔ x ∈ s ∨ ∃ j, j < k ∧ M (sp.lo + i) (tp.lo + (j : Nat)) x := by
    intro k i
    induction k with
    | zero => intro s; simp [inner]
    | succ k ih =>
      intro s
      have : inner C sp tp s i (k + 1) = C (inner C sp tp s i k) (sp.lo + i) (tp.lo + (k : Nat)) := by simp [inner, List.range_succ]
      rw [this, h, ih]
      constructor
      · rintro ((hs | ⟨j, hj, hM⟩) | hM)
        · exact .inl hs
        · exact .inr ⟨j, by omega, hM⟩
        · exact .inr ⟨k, by omega, hM⟩
      · rintro (hs | ⟨j, hj, hM⟩)
        · exact .inl (.inl hs)
        · by_cases e : j = k
          · subst e; exact .inr hM
          · exact .inl (.inr ⟨j, by omega, hM⟩)
  have hou : ∀ (i : Nat), x ∈ outer C sp tp s i ↔ x ∈ s ∨ ∃ m, m < i ∧ ∃ j, j < (tp.hi - tp.lo + 1).toNat ∧ M (sp.lo + (m : Nat)) (tp.lo + (j : Nat)) x := by
    intro i
    induction i with
    | zero => simp [outer]
    | succ i ih =>
      have : outer C sp tp s (i + 1) = inner C sp tp (outer C sp tp s i) i (tp.hi - tp.lo + 1).toNat := by simp [outer, List.range_succ]
      rw [this, hin, ih]
      constructor
      · rintro ((hs | ⟨m, hm, hM⟩) | hM)
        · exact .inl hs
        · exact .inr ⟨m, by omega, hM⟩
        · exact .inr ⟨i, by omega, hM⟩
      · rintro (hs | ⟨m, hm, hM⟩)
        · exact .inl (.inl hs)
        · by_cases e : m = i
          · subst e; exact .inr hM
          · exact .inl (.inr ⟨m, by omega, hM⟩)
  rw [whole, hou]
  constructor
  · rintro (hs | ⟨m, hm, j, hj, hM⟩)
    · exact .inl hs
    · exact .inr ⟨_, _, ⟨by omega, by omega⟩, ⟨by omega, by omega⟩, hM⟩
  · rintro (hs | ⟨a, c, ha, hc, hM⟩)
    · exact .inl hs
    · refine .inr ⟨(a - sp.lo).toNat, by have := ha.1; have := ha.2; omega, (c - tp.lo).toNat, by have := hc.1; have := hc.2; omega, ?_⟩
      have e1 : sp.lo + ((a - sp.lo).toNat : Int) = a := by have := ha.1; omega
      have e2 : tp.lo + ((c - tp.lo).toNat : Int) = c := by have := hc.1; omega
      rw [e1, e2]; exact hM

theorem mem_truths (b : Book) (but : List Int) (t : List Int) : t ∈ b.truths but ↔ ∃ n0 f0, b.s0.has n0 ∧ b.f0.has f0 ∧ ∃ n1 f1, b.s1.has n1 ∧ b.f1.has f1 ∧ t ∈ b.live b.comes but b.days.length (T0 f0 f1) n0 n1 0 := by
  unfold Book.truths all4
  rw [whole_mem _ (fun n0 f0 t => ∃ n1 f1, b.s1.has n1 ∧ b.f1.has f1 ∧ t ∈ b.live b.comes but b.days.length (T0 f0 f1) n0 n1 0)]
  · simp
  · intro s n0 f0 x
    unfold C1
    rw [whole_mem _ (fun n1 f1 t => t ∈ b.live b.comes but b.days.length (T0 f0 f1) n0 n1 0)]
    intro s n1 f1 x
    simp [Book.addAll]

theorem live_mem_len (b : Book) (l : List (Int × Int × Int)) (but : List Int) : ∀ (j : Nat) (t : List Int) (n0 n1 : Int) (day : Nat) (u : List Int), u ∈ b.live l but j t n0 n1 day → u.length = t.length
  | 0, t, _, _, _, u, h => by simp only [Book.live, List.mem_singleton] at h; rw [h]
  | j + 1, t, n0, n1, day, u, h => by
    simp only [Book.live] at h
    cases hx : b.days[day]? with
    | none => rw [hx] at h; simp at h
    | some x =>
      rw [hx] at h
      simp only [List.mem_flatMap] at h
      obtain ⟨i, _, h⟩ := h
      split at h
      · rw [live_mem_len b l but j _ _ _ _ u h, next_len]
      · simp at h

theorem truths_len (b : Book) (but : List Int) (t : List Int) (h : t ∈ b.truths but) : t.length = 17 := by
  rw [mem_truths] at h
  obtain ⟨n0, f0, _, _, n1, f1, _, _, h⟩ := h
  exact live_mem_len b _ but _ _ _ _ _ t h

theorem whole_len {α : Type} (C : List α → Int → Int → List α) (sp tp : Span) (m : Nat) (hs : sp.hi - sp.lo ≤ 2) (ht : tp.hi - tp.lo ≤ 1) (h : ∀ s a c, (C s a c).length ≤ s.length + m) (s : List α) : (whole C sp tp s).length ≤ s.length + 6 * m := by
  have hin : ∀ (k i : Nat) (s : List α), (inner C sp tp s i k).length ≤ s.length + k * m := by
    intro k i
    induction k with
    | zero => intro s; simp [inner]
    | succ k ih =>
      intro s
      have e : inner C sp tp s i (k + 1) = C (inner C sp tp s i k) (sp.lo + i) (tp.lo + (k : Nat)) := by simp [inner, List.range_succ]
      rw [e]
      have h1 := h (inner C sp tp s i k) (sp.lo + i) (tp.lo + (k : Nat))
      have h2 := ih s
      rw [Nat.add_mul, Nat.one_mul]; omega
  have hin2 : ∀ (i : Nat) (s : List α), (inner C sp tp s i (tp.hi - tp.lo + 1).toNat).length ≤ s.length + 2 * m := by
    intro i s
    refine Nat.le_trans (hin _ i s) ?_
    have : (tp.hi - tp.lo + 1).toNat * m ≤ 2 * m := Nat.mul_le_mul_right _ (by omega)
    omega
  have hou : ∀ (i : Nat), (outer C sp tp s i).length ≤ s.length + i * (2 * m) := by
    intro i
    induction i with
    | zero => simp [outer]
    | succ i ih =>
      have e : outer C sp tp s (i + 1) = inner C sp tp (outer C sp tp s i) i (tp.hi - tp.lo + 1).toNat := by simp [outer, List.range_succ]
      rw [e]
      have := hin2 i (outer C sp tp s i)
      rw [Nat.add_mul, Nat.one_mul]; omega
  refine Nat.le_trans (hou _) ?_
  have : (sp.hi - sp.lo + 1).toNat * (2 * m) ≤ 3 * (2 * m) := Nat.mul_le_mul_right _ (by omega)
  omega

theorem valid_spans {b : Book} (hv : b.sane = true) : (0 ≤ b.s0.lo ∧ b.s0.lo ≤ b.s0.hi ∧ b.s0.hi ≤ 60 ∧ b.s0.hi - b.s0.lo ≤ 2) ∧ (1 ≤ b.f0.lo ∧ b.f0.lo ≤ b.f0.hi ∧ b.f0.hi ≤ 6 ∧ b.f0.hi - b.f0.lo ≤ 1) ∧
    (0 ≤ b.s1.lo ∧ b.s1.lo ≤ b.s1.hi ∧ b.s1.hi ≤ 60 ∧ b.s1.hi - b.s1.lo ≤ 2) ∧ (1 ≤ b.f1.lo ∧ b.f1.lo ≤ b.f1.hi ∧ b.f1.hi ≤ 6 ∧ b.f1.hi - b.f1.lo ≤ 1) := by
  simp only [Book.sane, Bool.and_eq_true, Span.is, decide_eq_true_eq] at hv
  omega

theorem truths_room {b : Book} (hv : b.sane = true) (but : List Int) : (b.truths but).length ≤ 8748 := by
  have hs := valid_spans hv
  refine Nat.le_trans (whole_len _ b.s0 b.f0 (6 * 243) (by omega) (by omega) (fun s a c => ?_) []) (by simp)
  refine whole_len _ b.s1 b.f1 243 (by omega) (by omega) (fun s a c => ?_) s
  simp only [Book.addAll, List.length_append]
  have := live_len b hv b.comes but
  exact Nat.add_le_add_left (this _ _ _ _) _
end Go.Pm.Cd

namespace Go.Pm.Cd
open Ac
set_option maxRecDepth 100000
set_option linter.unusedSimpArgs false
set_option linter.unusedSectionVars false
set_option linter.unusedVariables false

def tLeft (kind day : Int) (t : List Int) : Int := t.getD (7 + day.toNat * 2 + kind.toNat) 0
def tLife (kind : Int) (t : List Int) : Int := t.getD (5 + kind.toNat) 0
def tDark (day : Int) (t : List Int) : Int := t.getD day.toNat 0

section
variable {Γ : Env} [P06 Γ] [G06 Γ]

theorem left1_k (t : List Int) (ht : t.length = 17) (kind day : Int) (hk : 0 ≤ kind ∧ kind ≤ 1) (hd : 0 ≤ day ∧ day ≤ 4) :
    K Γ (.fn 73) [.agg (iv t), .sc (.eptr [ci day] 0), .sc (.eptr [ci kind] 0)] [] = some (vi (tLeft kind day t), []) := by
  have hat := iv_at1 t (7 + day.toNat * 2 + kind.toNat) (by omega)
  rw [K_fn P06.f73 _ _ rfl]
  (simp only [go_sem, simprocAttr, candle_book_left_1, hat, ht, tLeft]; repeat' (first | ((first | (refine br_yes (by omega) ?_) | (refine br_no (by omega) ?_) | (apply br_all; (· simp only [Bool.and_eq_true, decide_eq_true_eq]; omega)) | (apply br_free; (· simp [go_sem, Pm.acc, Acc.free, refsOf, offOf, keyEq, tagEq, cellsEq, cellEq]; done)) | ((first | apply br_mergeT | apply br_mergeF); (· intro h; simp only [go_sem, simprocAttr, sel_of h, candle_book_left_1, hat, ht, tLeft]; exact rfl))); (try simp only [go_sem, simprocAttr, candle_book_left_1, hat, ht, tLeft])) | ((first | apply onGuard_sel | (apply pickV_split; apply br_split) | apply br_split) <;> intro h <;> (try simp only [go_sem, simprocAttr, h, candle_book_left_1, hat, ht, tLeft]))))

theorem life1_k (t : List Int) (ht : t.length = 17) (kind : Int) (hk : 0 ≤ kind ∧ kind ≤ 1) :
    K Γ (.fn 57) [.agg (iv t), .sc (.eptr [ci kind] 0)] [] = some (vi (tLife kind t), []) := by
  have hat := iv_at1 t (5 + kind.toNat) (by omega)
  rw [K_fn P06.f57 _ _ rfl]
  (simp only [go_sem, simprocAttr, candle_Life_1, hat, ht, tLife]; repeat' (first | ((first | (refine br_yes (by omega) ?_) | (refine br_no (by omega) ?_) | (apply br_all; (· simp only [Bool.and_eq_true, decide_eq_true_eq]; omega)) | (apply br_free; (· simp [go_sem, Pm.acc, Acc.free, refsOf, offOf, keyEq, tagEq, cellsEq, cellEq]; done)) | ((first | apply br_mergeT | apply br_mergeF); (· intro h; simp only [go_sem, simprocAttr, sel_of h, candle_Life_1, hat, ht, tLife]; exact rfl))); (try simp only [go_sem, simprocAttr, candle_Life_1, hat, ht, tLife])) | ((first | apply onGuard_sel | (apply pickV_split; apply br_split) | apply br_split) <;> intro h <;> (try simp only [go_sem, simprocAttr, h, candle_Life_1, hat, ht, tLife]))))

theorem dark1_k (t : List Int) (ht : t.length = 17) (day : Int) (hd : 0 ≤ day ∧ day ≤ 4) :
    K Γ (.fn 60) [.agg (iv t), .sc (.eptr [ci day] 0)] [] = some (vi (tDark day t), []) := by
  have hat := iv_at1 t day.toNat (by omega)
  rw [K_fn P06.f60 _ _ rfl]
  (simp only [go_sem, simprocAttr, candle_Dark_1, hat, ht, tDark]; repeat' (first | ((first | (refine br_yes (by omega) ?_) | (refine br_no (by omega) ?_) | (apply br_all; (· simp only [Bool.and_eq_true, decide_eq_true_eq]; omega)) | (apply br_free; (· simp [go_sem, Pm.acc, Acc.free, refsOf, offOf, keyEq, tagEq, cellsEq, cellEq]; done)) | ((first | apply br_mergeT | apply br_mergeF); (· intro h; simp only [go_sem, simprocAttr, sel_of h, candle_Dark_1, hat, ht, tDark]; exact rfl))); (try simp only [go_sem, simprocAttr, candle_Dark_1, hat, ht, tDark])) | ((first | apply onGuard_sel | (apply pickV_split; apply br_split) | apply br_split) <;> intro h <;> (try simp only [go_sem, simprocAttr, h, candle_Dark_1, hat, ht, tDark]))))

theorem left_k (b : Book) (hv : b.sane = true) (but : List Int) (hts : b.truths but ≠ []) (kind day : Int) (hk : 0 ≤ kind ∧ kind ≤ 1) (hd : 0 ≤ day ∧ day ≤ 4) :
    K Γ (.fn 54) [.agg (b.open13 but), vi kind, vi day] [] = some (.agg [ci (spanOf (tLeft kind day) (b.truths but)).1, ci (spanOf (tLeft kind day) (b.truths but)).2], []) := by
  have hr := truths_room hv but
  have hS := span_k (Γ := Γ) b (.imap true false (enc2 b.comes)) rfl (b.truths but) hts (by simp only [room]; omega) (fun t h => truths_len b but t h) (kT (b.truths but)) 73 [.eptr [ci day] 0, .eptr [ci kind] 0] rfl (tLeft kind day) (fun t h => left1_k t (truths_len b but t h) kind day hk hd)
  rw [K_fn P06.f54 _ _ rfl]
  (simp only [go_sem, simprocAttr, candle_book_left, hS]; repeat' (first | ((first | (refine br_yes (by omega) ?_) | (refine br_no (by omega) ?_) | (apply br_all; (· simp only [Bool.and_eq_true, decide_eq_true_eq]; omega)) | (apply br_free; (· simp [go_sem, Pm.acc, Acc.free, refsOf, offOf, keyEq, tagEq, cellsEq, cellEq]; done)) | ((first | apply br_mergeT | apply br_mergeF); (· intro h; simp only [go_sem, simprocAttr, sel_of h, candle_book_left, hS]; exact rfl))); (try simp only [go_sem, simprocAttr, candle_book_left, hS])) | ((first | apply onGuard_sel | (apply pickV_split; apply br_split) | apply br_split) <;> intro h <;> (try simp only [go_sem, simprocAttr, h, candle_book_left, hS]))))

theorem may_k (b : Book) (hv : b.sane = true) (but : List Int) (hts : b.truths but ≠ []) (kind day : Int) (hk : 0 ≤ kind ∧ kind ≤ 1) (hd : 0 ≤ day ∧ day ≤ 4) :
    K Γ (.fn 85) [.agg (b.open13 but), vi kind, vi day] [] = some (vb (decide ((spanOf (tLeft kind day) (b.truths but)).1 < 0)), []) := by
  have hS := left_k (Γ := Γ) b hv but hts kind day hk hd
  rw [K_fn P06.f85 _ _ rfl]
  (simp only [go_sem, simprocAttr, candle_book_may, hS]; repeat' (first | ((first | (refine br_yes (by omega) ?_) | (refine br_no (by omega) ?_) | (apply br_all; (· simp only [Bool.and_eq_true, decide_eq_true_eq]; omega)) | (apply br_free; (· simp [go_sem, Pm.acc, Acc.free, refsOf, offOf, keyEq, tagEq, cellsEq, cellEq]; done)) | ((first | apply br_mergeT | apply br_mergeF); (· intro h; simp only [go_sem, simprocAttr, sel_of h, candle_book_may, hS]; exact rfl))); (try simp only [go_sem, simprocAttr, candle_book_may, hS])) | ((first | apply onGuard_sel | (apply pickV_split; apply br_split) | apply br_split) <;> intro h <;> (try simp only [go_sem, simprocAttr, h, candle_book_may, hS]))))

theorem must_k (b : Book) (hv : b.sane = true) (but : List Int) (hts : b.truths but ≠ []) (kind day : Int) (hk : 0 ≤ kind ∧ kind ≤ 1) (hd : 0 ≤ day ∧ day ≤ 4) :
    K Γ (.fn 86) [.agg (b.open13 but), vi kind, vi day] [] = some (vb (decide ((spanOf (tLeft kind day) (b.truths but)).2 < 0)), []) := by
  have hS := left_k (Γ := Γ) b hv but hts kind day hk hd
  rw [K_fn P06.f86 _ _ rfl]
  (simp only [go_sem, simprocAttr, candle_book_must, hS]; repeat' (first | ((first | (refine br_yes (by omega) ?_) | (refine br_no (by omega) ?_) | (apply br_all; (· simp only [Bool.and_eq_true, decide_eq_true_eq]; omega)) | (apply br_free; (· simp [go_sem, Pm.acc, Acc.free, refsOf, offOf, keyEq, tagEq, cellsEq, cellEq]; done)) | ((first | apply br_mergeT | apply br_mergeF); (· intro h; simp only [go_sem, simprocAttr, sel_of h, candle_book_must, hS]; exact rfl))); (try simp only [go_sem, simprocAttr, candle_book_must, hS])) | ((first | apply onGuard_sel | (apply pickV_split; apply br_split) | apply br_split) <;> intro h <;> (try simp only [go_sem, simprocAttr, h, candle_book_must, hS]))))

theorem asked_bad (b : Book) [hb : b.Fits] (hv : b.valid = false) (is : Bool) : K Γ (.fn 53) [.agg b.c, vb is] [] = some (.tup [.agg Z13, vi 60], []) := by
  rw [K_fn P06.f53 _ _ rfl]
  (simp only [go_sem, simprocAttr, candle_asked, hv]; repeat' (first | ((first | (refine br_yes (by omega) ?_) | (refine br_no (by omega) ?_) | (apply br_all; (· simp only [Bool.and_eq_true, decide_eq_true_eq]; omega)) | (apply br_free; (· simp [go_sem, Pm.acc, Acc.free, refsOf, offOf, keyEq, tagEq, cellsEq, cellEq]; done)) | ((first | apply br_mergeT | apply br_mergeF); (· intro h; simp only [go_sem, simprocAttr, sel_of h, candle_asked, hv]; exact rfl))); (try simp only [go_sem, simprocAttr, candle_asked, hv])) | ((first | apply onGuard_sel | (apply pickV_split; apply br_split) | apply br_split) <;> intro h <;> (try simp only [go_sem, simprocAttr, h, candle_asked, hv]))))
  rfl
theorem asked_ask (b : Book) [hb : b.Fits] (hv : b.valid = true) : K Γ (.fn 53) [.agg b.c, vb false] [] = some (.tup [.agg Z13, vi 61], []) := by
  rw [K_fn P06.f53 _ _ rfl]
  (simp only [go_sem, simprocAttr, candle_asked, hv]; repeat' (first | ((first | (refine br_yes (by omega) ?_) | (refine br_no (by omega) ?_) | (apply br_all; (· simp only [Bool.and_eq_true, decide_eq_true_eq]; omega)) | (apply br_free; (· simp [go_sem, Pm.acc, Acc.free, refsOf, offOf, keyEq, tagEq, cellsEq, cellEq]; done)) | ((first | apply br_mergeT | apply br_mergeF); (· intro h; simp only [go_sem, simprocAttr, sel_of h, candle_asked, hv]; exact rfl))); (try simp only [go_sem, simprocAttr, candle_asked, hv])) | ((first | apply onGuard_sel | (apply pickV_split; apply br_split) | apply br_split) <;> intro h <;> (try simp only [go_sem, simprocAttr, h, candle_asked, hv]))))
  rfl
theorem asked_no (b : Book) [hb : b.Fits] (hv : b.valid = true) (ht : b.truths [] = []) : K Γ (.fn 53) [.agg b.c, vb true] [] = some (.tup [.agg (b.open13 []), vi 62], []) := by
  have h0 : decide (((b.truths []).length : Int) = 0) = true := by rw [ht]; rfl
  rw [K_fn P06.f53 _ _ rfl]
  (simp only [go_sem, simprocAttr, candle_asked, hv, sane_of_valid hv, h0]; repeat' (first | ((first | (refine br_yes (by omega) ?_) | (refine br_no (by omega) ?_) | (apply br_all; (· simp only [Bool.and_eq_true, decide_eq_true_eq]; omega)) | (apply br_free; (· simp [go_sem, Pm.acc, Acc.free, refsOf, offOf, keyEq, tagEq, cellsEq, cellEq]; done)) | ((first | apply br_mergeT | apply br_mergeF); (· intro h; simp only [go_sem, simprocAttr, sel_of h, candle_asked, hv, sane_of_valid hv, h0]; exact rfl))); (try simp only [go_sem, simprocAttr, candle_asked, hv, sane_of_valid hv, h0])) | ((first | apply onGuard_sel | (apply pickV_split; apply br_split) | apply br_split) <;> intro h <;> (try simp only [go_sem, simprocAttr, h, candle_asked, hv, sane_of_valid hv, h0]))))
theorem asked_ok (b : Book) [hb : b.Fits] (hv : b.valid = true) (ht : b.truths [] ≠ []) : K Γ (.fn 53) [.agg b.c, vb true] [] = some (.tup [.agg (b.open13 []), vi 0], []) := by
  have h0 : decide (((b.truths []).length : Int) = 0) = false := by
    apply decide_eq_false
    intro h; exact ht (List.length_eq_zero_iff.1 (by omega))
  rw [K_fn P06.f53 _ _ rfl]
  (simp only [go_sem, simprocAttr, candle_asked, hv, sane_of_valid hv, h0]; repeat' (first | ((first | (refine br_yes (by omega) ?_) | (refine br_no (by omega) ?_) | (apply br_all; (· simp only [Bool.and_eq_true, decide_eq_true_eq]; omega)) | (apply br_free; (· simp [go_sem, Pm.acc, Acc.free, refsOf, offOf, keyEq, tagEq, cellsEq, cellEq]; done)) | ((first | apply br_mergeT | apply br_mergeF); (· intro h; simp only [go_sem, simprocAttr, sel_of h, candle_asked, hv, sane_of_valid hv, h0]; exact rfl))); (try simp only [go_sem, simprocAttr, candle_asked, hv, sane_of_valid hv, h0])) | ((first | apply onGuard_sel | (apply pickV_split; apply br_split) | apply br_split) <;> intro h <;> (try simp only [go_sem, simprocAttr, h, candle_asked, hv, sane_of_valid hv, h0]))))

def Book.askE (b : Book) (is : Bool) : Int := if b.valid then (if is then (if b.truths [] = [] then 62 else 0) else 61) else 60
def Book.isDay (b : Book) (day : Int) : Bool := within day 0 (b.days.length - 1)
def isKind (kind : Int) : Bool := within kind 0 1
def told (e : Int) (s : Int × Int) : Int × Int := if e = 0 then s else (0, 0)

theorem within_iff (n a c : Int) : within n a c = true ↔ a ≤ n ∧ n ≤ c := by simp [within]

@[go_sem] theorem Right_k (b : Book) [hb : b.Fits] : K Γ (.fn 2) [.agg b.c] [] = some (.tup [vb (b.valid && decide (b.truths [] ≠ [])), vi (if b.valid then 0 else 60)], []) := by
  rw [K_fn P06.f2 _ _ rfl]
  cases hv : b.valid with
  | false =>
    (simp only [go_sem, simprocAttr, candle_Right, hv, Bool.false_and]; repeat' (first | ((first | (refine br_yes (by omega) ?_) | (refine br_no (by omega) ?_) | (apply br_all; (· simp only [Bool.and_eq_true, decide_eq_true_eq]; omega)) | (apply br_free; (· simp [go_sem, Pm.acc, Acc.free, refsOf, offOf, keyEq, tagEq, cellsEq, cellEq]; done)) | ((first | apply br_mergeT | apply br_mergeF); (· intro h; simp only [go_sem, simprocAttr, sel_of h, candle_Right, hv, Bool.false_and]; exact rfl))); (try simp only [go_sem, simprocAttr, candle_Right, hv, Bool.false_and])) | ((first | apply onGuard_sel | (apply pickV_split; apply br_split) | apply br_split) <;> intro h <;> (try simp only [go_sem, simprocAttr, h, candle_Right, hv, Bool.false_and]))))
  | true =>
    have h0 : decide ((0 : Int) < ((b.truths []).length : Int)) = decide (b.truths [] ≠ []) := by
      rw [decide_eq_decide]
      constructor
      · intro h e; rw [e] at h; simp at h
      · intro h
        have : (b.truths []).length ≠ 0 := fun e => h (List.length_eq_zero_iff.1 e)
        omega
    (simp only [go_sem, simprocAttr, candle_Right, hv, sane_of_valid hv, h0]; repeat' (first | ((first | (refine br_yes (by omega) ?_) | (refine br_no (by omega) ?_) | (apply br_all; (· simp only [Bool.and_eq_true, decide_eq_true_eq]; omega)) | (apply br_free; (· simp [go_sem, Pm.acc, Acc.free, refsOf, offOf, keyEq, tagEq, cellsEq, cellEq]; done)) | ((first | apply br_mergeT | apply br_mergeF); (· intro h; simp only [go_sem, simprocAttr, sel_of h, candle_Right, hv, sane_of_valid hv, h0]; exact rfl))); (try simp only [go_sem, simprocAttr, candle_Right, hv, sane_of_valid hv, h0])) | ((first | apply onGuard_sel | (apply pickV_split; apply br_split) | apply br_split) <;> intro h <;> (try simp only [go_sem, simprocAttr, h, candle_Right, hv, sane_of_valid hv, h0]))))

@[go_sem] theorem Left_k (b : Book) [hb : b.Fits] (kind day : Int) : K Γ (.fn 6) [.agg b.c, vi kind, vi day] [] =
    some (.tup [.agg [ci (told (b.askE (isKind kind && b.isDay day)) (spanOf (tLeft kind day) (b.truths []))).1, ci (told (b.askE (isKind kind && b.isDay day)) (spanOf (tLeft kind day) (b.truths []))).2], vi (b.askE (isKind kind && b.isDay day))], []) := by
  rw [K_fn P06.f6 _ _ rfl]
  simp only [isKind, Book.isDay, Book.askE]
  cases hv : b.valid with
  | false =>
    have hA (is : Bool) := asked_bad (Γ := Γ) b hv is
    simp only [Z13] at hA
    (simp only [go_sem, simprocAttr, candle_Left, hA, told]; repeat' (first | ((first | (refine br_yes (by omega) ?_) | (refine br_no (by omega) ?_) | (apply br_all; (· simp only [Bool.and_eq_true, decide_eq_true_eq]; omega)) | (apply br_free; (· simp [go_sem, Pm.acc, Acc.free, refsOf, offOf, keyEq, tagEq, cellsEq, cellEq]; done)) | ((first | apply br_mergeT | apply br_mergeF); (· intro h; simp only [go_sem, simprocAttr, sel_of h, candle_Left, hA, told]; exact rfl))); (try simp only [go_sem, simprocAttr, candle_Left, hA, told])) | ((first | apply onGuard_sel | (apply pickV_split; apply br_split) | apply br_split) <;> intro h <;> (try simp only [go_sem, simprocAttr, h, candle_Left, hA, told]))))
  | true =>
    have hA := asked_ask (Γ := Γ) b hv
    simp only [Z13] at hA
    rcases Bool.eq_false_or_eq_true (within kind 0 1) with hk | hk
    rotate_left
    · (simp only [go_sem, simprocAttr, candle_Left, hA, hk, told, Bool.false_and, Bool.false_eq_true]; repeat' (first | ((first | (refine br_yes (by omega) ?_) | (refine br_no (by omega) ?_) | (apply br_all; (· simp only [Bool.and_eq_true, decide_eq_true_eq]; omega)) | (apply br_free; (· simp [go_sem, Pm.acc, Acc.free, refsOf, offOf, keyEq, tagEq, cellsEq, cellEq]; done)) | ((first | apply br_mergeT | apply br_mergeF); (· intro h; simp only [go_sem, simprocAttr, sel_of h, candle_Left, hA, hk, told, Bool.false_and, Bool.false_eq_true]; exact rfl))); (try simp only [go_sem, simprocAttr, candle_Left, hA, hk, told, Bool.false_and, Bool.false_eq_true])) | ((first | apply onGuard_sel | (apply pickV_split; apply br_split) | apply br_split) <;> intro h <;> (try simp only [go_sem, simprocAttr, h, candle_Left, hA, hk, told, Bool.false_and, Bool.false_eq_true]))))
    · rcases Bool.eq_false_or_eq_true (within day 0 (b.days.length - 1)) with hd | hd
      rotate_left
      · (simp only [go_sem, simprocAttr, candle_Left, hA, hk, hd, told, Bool.false_eq_true]; repeat' (first | ((first | (refine br_yes (by omega) ?_) | (refine br_no (by omega) ?_) | (apply br_all; (· simp only [Bool.and_eq_true, decide_eq_true_eq]; omega)) | (apply br_free; (· simp [go_sem, Pm.acc, Acc.free, refsOf, offOf, keyEq, tagEq, cellsEq, cellEq]; done)) | ((first | apply br_mergeT | apply br_mergeF); (· intro h; simp only [go_sem, simprocAttr, sel_of h, candle_Left, hA, hk, hd, told, Bool.false_eq_true]; exact rfl))); (try simp only [go_sem, simprocAttr, candle_Left, hA, hk, hd, told, Bool.false_eq_true])) | ((first | apply onGuard_sel | (apply pickV_split; apply br_split) | apply br_split) <;> intro h <;> (try simp only [go_sem, simprocAttr, h, candle_Left, hA, hk, hd, told, Bool.false_eq_true]))))
      · have hk' := (within_iff _ _ _).1 hk
        have hd' := (within_iff _ _ _).1 hd
        have hdl := valid_days (sane_of_valid hv)
        by_cases ht : b.truths [] = []
        · have hN := asked_no (Γ := Γ) b hv ht
          (simp only [go_sem, simprocAttr, candle_Left, hN, hk, hd, told, ht]; repeat' (first | ((first | (refine br_yes (by omega) ?_) | (refine br_no (by omega) ?_) | (apply br_all; (· simp only [Bool.and_eq_true, decide_eq_true_eq]; omega)) | (apply br_free; (· simp [go_sem, Pm.acc, Acc.free, refsOf, offOf, keyEq, tagEq, cellsEq, cellEq]; done)) | ((first | apply br_mergeT | apply br_mergeF); (· intro h; simp only [go_sem, simprocAttr, sel_of h, candle_Left, hN, hk, hd, told, ht]; exact rfl))); (try simp only [go_sem, simprocAttr, candle_Left, hN, hk, hd, told, ht])) | ((first | apply onGuard_sel | (apply pickV_split; apply br_split) | apply br_split) <;> intro h <;> (try simp only [go_sem, simprocAttr, h, candle_Left, hN, hk, hd, told, ht]))))
        · have hN := asked_ok (Γ := Γ) b hv ht
          have hS := left_k (Γ := Γ) b (sane_of_valid hv) [] ht kind day hk' (by omega)
          (simp only [go_sem, simprocAttr, candle_Left, hN, hk, hd, told, ht, hS]; repeat' (first | ((first | (refine br_yes (by omega) ?_) | (refine br_no (by omega) ?_) | (apply br_all; (· simp only [Bool.and_eq_true, decide_eq_true_eq]; omega)) | (apply br_free; (· simp [go_sem, Pm.acc, Acc.free, refsOf, offOf, keyEq, tagEq, cellsEq, cellEq]; done)) | ((first | apply br_mergeT | apply br_mergeF); (· intro h; simp only [go_sem, simprocAttr, sel_of h, candle_Left, hN, hk, hd, told, ht, hS]; exact rfl))); (try simp only [go_sem, simprocAttr, candle_Left, hN, hk, hd, told, ht, hS])) | ((first | apply onGuard_sel | (apply pickV_split; apply br_split) | apply br_split) <;> intro h <;> (try simp only [go_sem, simprocAttr, h, candle_Left, hN, hk, hd, told, ht, hS]))))

@[go_sem] theorem Life_k (b : Book) [hb : b.Fits] (kind : Int) : K Γ (.fn 8) [.agg b.c, vi kind] [] =
    some (.tup [.agg [ci (told (b.askE (isKind kind)) (spanOf (tLife kind) (b.truths []))).1, ci (told (b.askE (isKind kind)) (spanOf (tLife kind) (b.truths []))).2], vi (b.askE (isKind kind))], []) := by
  rw [K_fn P06.f8 _ _ rfl]
  simp only [isKind, Book.isDay, Book.askE]
  cases hv : b.valid with
  | false =>
    have hA (is : Bool) := asked_bad (Γ := Γ) b hv is
    simp only [Z13] at hA
    (simp only [go_sem, simprocAttr, candle_Life, hA, told]; repeat' (first | ((first | (refine br_yes (by omega) ?_) | (refine br_no (by omega) ?_) | (apply br_all; (· simp only [Bool.and_eq_true, decide_eq_true_eq]; omega)) | (apply br_free; (· simp [go_sem, Pm.acc, Acc.free, refsOf, offOf, keyEq, tagEq, cellsEq, cellEq]; done)) | ((first | apply br_mergeT | apply br_mergeF); (· intro h; simp only [go_sem, simprocAttr, sel_of h, candle_Life, hA, told]; exact rfl))); (try simp only [go_sem, simprocAttr, candle_Life, hA, told])) | ((first | apply onGuard_sel | (apply pickV_split; apply br_split) | apply br_split) <;> intro h <;> (try simp only [go_sem, simprocAttr, h, candle_Life, hA, told]))))
  | true =>
    have hA := asked_ask (Γ := Γ) b hv
    simp only [Z13] at hA
    rcases Bool.eq_false_or_eq_true (within kind 0 1) with hk | hk
    rotate_left
    · (simp only [go_sem, simprocAttr, candle_Life, hA, hk, told, Bool.false_and, Bool.false_eq_true]; repeat' (first | ((first | (refine br_yes (by omega) ?_) | (refine br_no (by omega) ?_) | (apply br_all; (· simp only [Bool.and_eq_true, decide_eq_true_eq]; omega)) | (apply br_free; (· simp [go_sem, Pm.acc, Acc.free, refsOf, offOf, keyEq, tagEq, cellsEq, cellEq]; done)) | ((first | apply br_mergeT | apply br_mergeF); (· intro h; simp only [go_sem, simprocAttr, sel_of h, candle_Life, hA, hk, told, Bool.false_and, Bool.false_eq_true]; exact rfl))); (try simp only [go_sem, simprocAttr, candle_Life, hA, hk, told, Bool.false_and, Bool.false_eq_true])) | ((first | apply onGuard_sel | (apply pickV_split; apply br_split) | apply br_split) <;> intro h <;> (try simp only [go_sem, simprocAttr, h, candle_Life, hA, hk, told, Bool.false_and, Bool.false_eq_true]))))
    · have hk' := (within_iff _ _ _).1 hk
      by_cases ht : b.truths [] = []
      · have hN := asked_no (Γ := Γ) b hv ht
        (simp only [go_sem, simprocAttr, candle_Life, hN, hk, told, ht]; repeat' (first | ((first | (refine br_yes (by omega) ?_) | (refine br_no (by omega) ?_) | (apply br_all; (· simp only [Bool.and_eq_true, decide_eq_true_eq]; omega)) | (apply br_free; (· simp [go_sem, Pm.acc, Acc.free, refsOf, offOf, keyEq, tagEq, cellsEq, cellEq]; done)) | ((first | apply br_mergeT | apply br_mergeF); (· intro h; simp only [go_sem, simprocAttr, sel_of h, candle_Life, hN, hk, told, ht]; exact rfl))); (try simp only [go_sem, simprocAttr, candle_Life, hN, hk, told, ht])) | ((first | apply onGuard_sel | (apply pickV_split; apply br_split) | apply br_split) <;> intro h <;> (try simp only [go_sem, simprocAttr, h, candle_Life, hN, hk, told, ht]))))
      · have hN := asked_ok (Γ := Γ) b hv ht
        have hr := truths_room (sane_of_valid hv) []
        have hS := span_k (Γ := Γ) b (.imap true false (enc2 b.comes)) rfl (b.truths []) ht (by simp only [room]; omega) (fun t h => truths_len b [] t h) (kT (b.truths [])) 57 [.eptr [ci kind] 0] rfl (tLife kind) (fun t h => life1_k t (truths_len b [] t h) kind hk')
        (simp only [go_sem, simprocAttr, candle_Life, hN, hk, told, ht, hS]; repeat' (first | ((first | (refine br_yes (by omega) ?_) | (refine br_no (by omega) ?_) | (apply br_all; (· simp only [Bool.and_eq_true, decide_eq_true_eq]; omega)) | (apply br_free; (· simp [go_sem, Pm.acc, Acc.free, refsOf, offOf, keyEq, tagEq, cellsEq, cellEq]; done)) | ((first | apply br_mergeT | apply br_mergeF); (· intro h; simp only [go_sem, simprocAttr, sel_of h, candle_Life, hN, hk, told, ht, hS]; exact rfl))); (try simp only [go_sem, simprocAttr, candle_Life, hN, hk, told, ht, hS])) | ((first | apply onGuard_sel | (apply pickV_split; apply br_split) | apply br_split) <;> intro h <;> (try simp only [go_sem, simprocAttr, h, candle_Life, hN, hk, told, ht, hS]))))

@[go_sem] theorem Dark_k (b : Book) [hb : b.Fits] (day : Int) : K Γ (.fn 10) [.agg b.c, vi day] [] =
    some (.tup [.agg [ci (told (b.askE (b.isDay day)) (spanOf (tDark day) (b.truths []))).1, ci (told (b.askE (b.isDay day)) (spanOf (tDark day) (b.truths []))).2], vi (b.askE (b.isDay day))], []) := by
  rw [K_fn P06.f10 _ _ rfl]
  simp only [isKind, Book.isDay, Book.askE]
  cases hv : b.valid with
  | false =>
    have hA (is : Bool) := asked_bad (Γ := Γ) b hv is
    simp only [Z13] at hA
    (simp only [go_sem, simprocAttr, candle_Dark, hA, told]; repeat' (first | ((first | (refine br_yes (by omega) ?_) | (refine br_no (by omega) ?_) | (apply br_all; (· simp only [Bool.and_eq_true, decide_eq_true_eq]; omega)) | (apply br_free; (· simp [go_sem, Pm.acc, Acc.free, refsOf, offOf, keyEq, tagEq, cellsEq, cellEq]; done)) | ((first | apply br_mergeT | apply br_mergeF); (· intro h; simp only [go_sem, simprocAttr, sel_of h, candle_Dark, hA, told]; exact rfl))); (try simp only [go_sem, simprocAttr, candle_Dark, hA, told])) | ((first | apply onGuard_sel | (apply pickV_split; apply br_split) | apply br_split) <;> intro h <;> (try simp only [go_sem, simprocAttr, h, candle_Dark, hA, told]))))
  | true =>
    have hA := asked_ask (Γ := Γ) b hv
    simp only [Z13] at hA
    rcases Bool.eq_false_or_eq_true (within day 0 (b.days.length - 1)) with hk | hk
    rotate_left
    · (simp only [go_sem, simprocAttr, candle_Dark, hA, hk, told, Bool.false_and, Bool.false_eq_true]; repeat' (first | ((first | (refine br_yes (by omega) ?_) | (refine br_no (by omega) ?_) | (apply br_all; (· simp only [Bool.and_eq_true, decide_eq_true_eq]; omega)) | (apply br_free; (· simp [go_sem, Pm.acc, Acc.free, refsOf, offOf, keyEq, tagEq, cellsEq, cellEq]; done)) | ((first | apply br_mergeT | apply br_mergeF); (· intro h; simp only [go_sem, simprocAttr, sel_of h, candle_Dark, hA, hk, told, Bool.false_and, Bool.false_eq_true]; exact rfl))); (try simp only [go_sem, simprocAttr, candle_Dark, hA, hk, told, Bool.false_and, Bool.false_eq_true])) | ((first | apply onGuard_sel | (apply pickV_split; apply br_split) | apply br_split) <;> intro h <;> (try simp only [go_sem, simprocAttr, h, candle_Dark, hA, hk, told, Bool.false_and, Bool.false_eq_true]))))
    · have hk' := (within_iff _ _ _).1 hk
      have hdl := valid_days (sane_of_valid hv)
      by_cases ht : b.truths [] = []
      · have hN := asked_no (Γ := Γ) b hv ht
        (simp only [go_sem, simprocAttr, candle_Dark, hN, hk, told, ht]; repeat' (first | ((first | (refine br_yes (by omega) ?_) | (refine br_no (by omega) ?_) | (apply br_all; (· simp only [Bool.and_eq_true, decide_eq_true_eq]; omega)) | (apply br_free; (· simp [go_sem, Pm.acc, Acc.free, refsOf, offOf, keyEq, tagEq, cellsEq, cellEq]; done)) | ((first | apply br_mergeT | apply br_mergeF); (· intro h; simp only [go_sem, simprocAttr, sel_of h, candle_Dark, hN, hk, told, ht]; exact rfl))); (try simp only [go_sem, simprocAttr, candle_Dark, hN, hk, told, ht])) | ((first | apply onGuard_sel | (apply pickV_split; apply br_split) | apply br_split) <;> intro h <;> (try simp only [go_sem, simprocAttr, h, candle_Dark, hN, hk, told, ht]))))
      · have hN := asked_ok (Γ := Γ) b hv ht
        have hr := truths_room (sane_of_valid hv) []
        have hS := span_k (Γ := Γ) b (.imap true false (enc2 b.comes)) rfl (b.truths []) ht (by simp only [room]; omega) (fun t h => truths_len b [] t h) (kT (b.truths [])) 60 [.eptr [ci day] 0] rfl (tDark day) (fun t h => dark1_k t (truths_len b [] t h) day (by omega))
        (simp only [go_sem, simprocAttr, candle_Dark, hN, hk, told, ht, hS]; repeat' (first | ((first | (refine br_yes (by omega) ?_) | (refine br_no (by omega) ?_) | (apply br_all; (· simp only [Bool.and_eq_true, decide_eq_true_eq]; omega)) | (apply br_free; (· simp [go_sem, Pm.acc, Acc.free, refsOf, offOf, keyEq, tagEq, cellsEq, cellEq]; done)) | ((first | apply br_mergeT | apply br_mergeF); (· intro h; simp only [go_sem, simprocAttr, sel_of h, candle_Dark, hN, hk, told, ht, hS]; exact rfl))); (try simp only [go_sem, simprocAttr, candle_Dark, hN, hk, told, ht, hS])) | ((first | apply onGuard_sel | (apply pickV_split; apply br_split) | apply br_split) <;> intro h <;> (try simp only [go_sem, simprocAttr, h, candle_Dark, hN, hk, told, ht, hS]))))
end
end Go.Pm.Cd

namespace Go.Pm.Cd
open Ac
set_option maxRecDepth 100000
set_option linter.unusedSimpArgs false
set_option linter.unusedSectionVars false
set_option linter.unusedVariables false

def Book.firstOn (b : Book) (q : Nat → Bool) : Int × Int := match findFrom (fun i _ => q i) 0 b.days with | some (i, _) => ((i : Int), 0) | none => (0, 4)
def Book.short (b : Book) (kind : Int) : Int × Int :=
  if b.askE (isKind kind) = 0 then b.firstOn (fun i => decide ((spanOf (tLeft kind i) (b.truths [])).1 < 0)) else (0, b.askE (isKind kind))
def Book.surely (b : Book) (kind : Int) : Int × Int :=
  if b.askE (isKind kind) = 0 then b.firstOn (fun i => decide ((spanOf (tLeft kind i) (b.truths [])).2 < 0)) else (0, b.askE (isKind kind))

section
variable {Γ : Env} [P06 Γ] [G06 Γ]

theorem first_L0 (b : Book) [hb : b.Fits] (hv : b.valid = true) (ht : b.truths [] ≠ []) (kind ask : Int) (q : Nat → Bool)
    (id : Nat) (hask : (ask = 0 ∧ id = 85) ∨ (ask = 1 ∧ id = 86))
    (hq : ∀ i : Nat, i < b.days.length → K Γ (.fn id) [.agg (b.open13 []), vi kind, vi i] [] = some (vb (q i), [])) {β : Type} (Q : Ex → St → Option β) :
    E Γ candle_first_L0 ⟨[(1, vi kind), (2, vi ask), (8, .sc (.ptr 1 0)), (23, vi b.days.length), (24, vi 0)], [.var b.c, .var (b.open13 [])]⟩ Q =
      match findFrom (fun i _ => q i) 0 b.days with
      | some (i, _) => Q .ret ⟨[(6, vi i), (7, vi 0)], [.var b.c, .var (b.open13 [])]⟩
      | none => Q (.exit 0) ⟨[(1, vi kind), (2, vi ask), (8, .sc (.ptr 1 0)), (23, vi b.days.length), (24, vi b.days.length), (25, vb false)], [.var b.c, .var (b.open13 [])]⟩ := by
  have hg2 : Γ.glob 2 = [.fn (.fn 85) [] [] [], .fn (.fn 86) [] [] []] := G06.g2
  have hdl := valid_days (sane_of_valid hv)
  refine (E_find (fun i => ⟨[(1, vi kind), (2, vi ask), (8, .sc (.ptr 1 0)), (23, vi b.days.length), (24, vi i)], [.var b.c, .var (b.open13 [])]⟩) b.days (fun i _ => q i)
    (fun i x => (.ret, ⟨[(6, vi i), (7, vi 0)], [.var b.c, .var (b.open13 [])]⟩))
    (.exit 0, ⟨[(1, vi kind), (2, vi ask), (8, .sc (.ptr 1 0)), (23, vi b.days.length), (24, vi b.days.length), (25, vb false)], [.var b.c, .var (b.open13 [])]⟩) Q ?_ ?_ ?_).trans ?_
  · intro i x hx hqi
    have hlt : i < b.days.length := (List.getElem?_eq_some_iff.1 hx).1
    have hiw : IntKind.i64.wrap ((i : Int) + 1) = i + 1 := wrap_i64 (by omega) (by omega)
    have hK := hq i hlt
    rcases hask with ⟨rfl, rfl⟩ | ⟨rfl, rfl⟩
    · (simp only [go_sem, simprocAttr, candle_first_B0, hiw, hg2, hK, hqi]; repeat' (first | ((first | (refine br_yes (by omega) ?_) | (refine br_no (by omega) ?_) | (apply br_all; (· simp only [Bool.and_eq_true, decide_eq_true_eq]; omega)) | (apply br_free; (· simp [go_sem, Pm.acc, Acc.free, refsOf, offOf, keyEq, tagEq, cellsEq, cellEq]; done)) | ((first | apply br_mergeT | apply br_mergeF); (· intro h; simp only [go_sem, simprocAttr, sel_of h, candle_first_B0, hiw, hg2, hK, hqi]; exact rfl))); (try simp only [go_sem, simprocAttr, candle_first_B0, hiw, hg2, hK, hqi])) | ((first | apply onGuard_sel | (apply pickV_split; apply br_split) | apply br_split) <;> intro h <;> (try simp only [go_sem, simprocAttr, h, candle_first_B0, hiw, hg2, hK, hqi]))))
      rfl
    · (simp only [go_sem, simprocAttr, candle_first_B0, hiw, hg2, hK, hqi]; repeat' (first | ((first | (refine br_yes (by omega) ?_) | (refine br_no (by omega) ?_) | (apply br_all; (· simp only [Bool.and_eq_true, decide_eq_true_eq]; omega)) | (apply br_free; (· simp [go_sem, Pm.acc, Acc.free, refsOf, offOf, keyEq, tagEq, cellsEq, cellEq]; done)) | ((first | apply br_mergeT | apply br_mergeF); (· intro h; simp only [go_sem, simprocAttr, sel_of h, candle_first_B0, hiw, hg2, hK, hqi]; exact rfl))); (try simp only [go_sem, simprocAttr, candle_first_B0, hiw, hg2, hK, hqi])) | ((first | apply onGuard_sel | (apply pickV_split; apply br_split) | apply br_split) <;> intro h <;> (try simp only [go_sem, simprocAttr, h, candle_first_B0, hiw, hg2, hK, hqi]))))
      rfl
  · intro i x hx hqi
    have hlt : i < b.days.length := (List.getElem?_eq_some_iff.1 hx).1
    have hK := hq i hlt
    rcases hask with ⟨rfl, rfl⟩ | ⟨rfl, rfl⟩
    · (simp only [go_sem, simprocAttr, candle_first_B0, hg2, hK, hqi]; repeat' (first | ((first | (refine br_yes (by omega) ?_) | (refine br_no (by omega) ?_) | (apply br_all; (· simp only [Bool.and_eq_true, decide_eq_true_eq]; omega)) | (apply br_free; (· simp [go_sem, Pm.acc, Acc.free, refsOf, offOf, keyEq, tagEq, cellsEq, cellEq]; done)) | ((first | apply br_mergeT | apply br_mergeF); (· intro h; simp only [go_sem, simprocAttr, sel_of h, candle_first_B0, hg2, hK, hqi]; exact rfl))); (try simp only [go_sem, simprocAttr, candle_first_B0, hg2, hK, hqi])) | ((first | apply onGuard_sel | (apply pickV_split; apply br_split) | apply br_split) <;> intro h <;> (try simp only [go_sem, simprocAttr, h, candle_first_B0, hg2, hK, hqi]))))
    · (simp only [go_sem, simprocAttr, candle_first_B0, hg2, hK, hqi]; repeat' (first | ((first | (refine br_yes (by omega) ?_) | (refine br_no (by omega) ?_) | (apply br_all; (· simp only [Bool.and_eq_true, decide_eq_true_eq]; omega)) | (apply br_free; (· simp [go_sem, Pm.acc, Acc.free, refsOf, offOf, keyEq, tagEq, cellsEq, cellEq]; done)) | ((first | apply br_mergeT | apply br_mergeF); (· intro h; simp only [go_sem, simprocAttr, sel_of h, candle_first_B0, hg2, hK, hqi]; exact rfl))); (try simp only [go_sem, simprocAttr, candle_first_B0, hg2, hK, hqi])) | ((first | apply onGuard_sel | (apply pickV_split; apply br_split) | apply br_split) <;> intro h <;> (try simp only [go_sem, simprocAttr, h, candle_first_B0, hg2, hK, hqi]))))
  · (simp only [go_sem, simprocAttr, candle_first_B0]; repeat' (first | ((first | (refine br_yes (by omega) ?_) | (refine br_no (by omega) ?_) | (apply br_all; (· simp only [Bool.and_eq_true, decide_eq_true_eq]; omega)) | (apply br_free; (· simp [go_sem, Pm.acc, Acc.free, refsOf, offOf, keyEq, tagEq, cellsEq, cellEq]; done)) | ((first | apply br_mergeT | apply br_mergeF); (· intro h; simp only [go_sem, simprocAttr, sel_of h, candle_first_B0]; exact rfl))); (try simp only [go_sem, simprocAttr, candle_first_B0])) | ((first | apply onGuard_sel | (apply pickV_split; apply br_split) | apply br_split) <;> intro h <;> (try simp only [go_sem, simprocAttr, h, candle_first_B0]))))
  · cases findFrom (fun i _ => q i) 0 b.days <;> rfl

theorem first_k (b : Book) [hb : b.Fits] (kind ask : Int) (q : Nat → Bool) (id : Nat) (hask : (ask = 0 ∧ id = 85) ∨ (ask = 1 ∧ id = 86))
    (hq : b.valid = true → b.truths [] ≠ [] → within kind 0 1 = true → ∀ i : Nat, i < b.days.length → K Γ (.fn id) [.agg (b.open13 []), vi kind, vi i] [] = some (vb (q i), [])) :
    K Γ (.fn 61) [.agg b.c, vi kind, vi ask] [] = some (.tup [vi (if b.askE (isKind kind) = 0 then b.firstOn q else (0, b.askE (isKind kind))).1, vi (if b.askE (isKind kind) = 0 then b.firstOn q else (0, b.askE (isKind kind))).2], []) := by
  rw [K_fn P06.f61 _ _ rfl]
  simp only [isKind, Book.isDay, Book.askE]
  rcases Bool.eq_false_or_eq_true b.valid with hv | hv
  rotate_left
  · have hA (is : Bool) := asked_bad (Γ := Γ) b hv is
    simp only [Z13] at hA
    (simp only [go_sem, simprocAttr, candle_first, hA, hv, Bool.false_eq_true]; repeat' (first | ((first | (refine br_yes (by omega) ?_) | (refine br_no (by omega) ?_) | (apply br_all; (· simp only [Bool.and_eq_true, decide_eq_true_eq]; omega)) | (apply br_free; (· simp [go_sem, Pm.acc, Acc.free, refsOf, offOf, keyEq, tagEq, cellsEq, cellEq]; done)) | ((first | apply br_mergeT | apply br_mergeF); (· intro h; simp only [go_sem, simprocAttr, sel_of h, candle_first, hA, hv, Bool.false_eq_true]; exact rfl))); (try simp only [go_sem, simprocAttr, candle_first, hA, hv, Bool.false_eq_true])) | ((first | apply onGuard_sel | (apply pickV_split; apply br_split) | apply br_split) <;> intro h <;> (try simp only [go_sem, simprocAttr, h, candle_first, hA, hv, Bool.false_eq_true]))))
  · have hA := asked_ask (Γ := Γ) b hv
    simp only [Z13] at hA
    rcases Bool.eq_false_or_eq_true (within kind 0 1) with hk | hk
    rotate_left
    · (simp only [go_sem, simprocAttr, candle_first, hA, hv, hk, Bool.false_and, Bool.false_eq_true]; repeat' (first | ((first | (refine br_yes (by omega) ?_) | (refine br_no (by omega) ?_) | (apply br_all; (· simp only [Bool.and_eq_true, decide_eq_true_eq]; omega)) | (apply br_free; (· simp [go_sem, Pm.acc, Acc.free, refsOf, offOf, keyEq, tagEq, cellsEq, cellEq]; done)) | ((first | apply br_mergeT | apply br_mergeF); (· intro h; simp only [go_sem, simprocAttr, sel_of h, candle_first, hA, hv, hk, Bool.false_and, Bool.false_eq_true]; exact rfl))); (try simp only [go_sem, simprocAttr, candle_first, hA, hv, hk, Bool.false_and, Bool.false_eq_true])) | ((first | apply onGuard_sel | (apply pickV_split; apply br_split) | apply br_split) <;> intro h <;> (try simp only [go_sem, simprocAttr, h, candle_first, hA, hv, hk, Bool.false_and, Bool.false_eq_true]))))
    · by_cases ht : b.truths [] = []
      · have hN := asked_no (Γ := Γ) b hv ht
        (simp only [go_sem, simprocAttr, candle_first, hN, hv, hk, ht]; repeat' (first | ((first | (refine br_yes (by omega) ?_) | (refine br_no (by omega) ?_) | (apply br_all; (· simp only [Bool.and_eq_true, decide_eq_true_eq]; omega)) | (apply br_free; (· simp [go_sem, Pm.acc, Acc.free, refsOf, offOf, keyEq, tagEq, cellsEq, cellEq]; done)) | ((first | apply br_mergeT | apply br_mergeF); (· intro h; simp only [go_sem, simprocAttr, sel_of h, candle_first, hN, hv, hk, ht]; exact rfl))); (try simp only [go_sem, simprocAttr, candle_first, hN, hv, hk, ht])) | ((first | apply onGuard_sel | (apply pickV_split; apply br_split) | apply br_split) <;> intro h <;> (try simp only [go_sem, simprocAttr, h, candle_first, hN, hv, hk, ht]))))
      · have hN := asked_ok (Γ := Γ) b hv ht
        have hL {β : Type} (Q : Ex → St → Option β) := first_L0 b hv ht kind ask q id hask (hq hv ht hk) Q
        cases hf : findFrom (fun i _ => q i) 0 b.days with
        | none =>
          simp only [hf] at hL
          (simp only [go_sem, simprocAttr, candle_first, hN, hv, hk, ht, hL, Book.firstOn, hf]; repeat' (first | ((first | (refine br_yes (by omega) ?_) | (refine br_no (by omega) ?_) | (apply br_all; (· simp only [Bool.and_eq_true, decide_eq_true_eq]; omega)) | (apply br_free; (· simp [go_sem, Pm.acc, Acc.free, refsOf, offOf, keyEq, tagEq, cellsEq, cellEq]; done)) | ((first | apply br_mergeT | apply br_mergeF); (· intro h; simp only [go_sem, simprocAttr, sel_of h, candle_first, hN, hv, hk, ht, hL, Book.firstOn, hf]; exact rfl))); (try simp only [go_sem, simprocAttr, candle_first, hN, hv, hk, ht, hL, Book.firstOn, hf])) | ((first | apply onGuard_sel | (apply pickV_split; apply br_split) | apply br_split) <;> intro h <;> (try simp only [go_sem, simprocAttr, h, candle_first, hN, hv, hk, ht, hL, Book.firstOn, hf]))))
        | some p =>
          simp only [hf] at hL
          (simp only [go_sem, simprocAttr, candle_first, hN, hv, hk, ht, hL, Book.firstOn, hf]; repeat' (first | ((first | (refine br_yes (by omega) ?_) | (refine br_no (by omega) ?_) | (apply br_all; (· simp only [Bool.and_eq_true, decide_eq_true_eq]; omega)) | (apply br_free; (· simp [go_sem, Pm.acc, Acc.free, refsOf, offOf, keyEq, tagEq, cellsEq, cellEq]; done)) | ((first | apply br_mergeT | apply br_mergeF); (· intro h; simp only [go_sem, simprocAttr, sel_of h, candle_first, hN, hv, hk, ht, hL, Book.firstOn, hf]; exact rfl))); (try simp only [go_sem, simprocAttr, candle_first, hN, hv, hk, ht, hL, Book.firstOn, hf])) | ((first | apply onGuard_sel | (apply pickV_split; apply br_split) | apply br_split) <;> intro h <;> (try simp only [go_sem, simprocAttr, h, candle_first, hN, hv, hk, ht, hL, Book.firstOn, hf]))))

@[go_sem] theorem Short_k (b : Book) [hb : b.Fits] (kind : Int) : K Γ (.fn 13) [.agg b.c, vi kind] [] = some (.tup [vi (b.short kind).1, vi (b.short kind).2], []) := by
  have hF := first_k (Γ := Γ) b kind 0 (fun i => decide ((spanOf (tLeft kind i) (b.truths [])).1 < 0)) 85 (.inl ⟨rfl, rfl⟩) (fun hv ht hk i hi =>
    may_k b (sane_of_valid hv) [] ht kind i ((within_iff _ _ _).1 hk) (by have := valid_days (sane_of_valid hv); omega))
  rw [K_fn P06.f13 _ _ rfl]
  (simp only [go_sem, simprocAttr, candle_Short, hF]; repeat' (first | ((first | (refine br_yes (by omega) ?_) | (refine br_no (by omega) ?_) | (apply br_all; (· simp only [Bool.and_eq_true, decide_eq_true_eq]; omega)) | (apply br_free; (· simp [go_sem, Pm.acc, Acc.free, refsOf, offOf, keyEq, tagEq, cellsEq, cellEq]; done)) | ((first | apply br_mergeT | apply br_mergeF); (· intro h; simp only [go_sem, simprocAttr, sel_of h, candle_Short, hF]; exact rfl))); (try simp only [go_sem, simprocAttr, candle_Short, hF])) | ((first | apply onGuard_sel | (apply pickV_split; apply br_split) | apply br_split) <;> intro h <;> (try simp only [go_sem, simprocAttr, h, candle_Short, hF]))))
  rfl
@[go_sem] theorem Surely_k (b : Book) [hb : b.Fits] (kind : Int) : K Γ (.fn 15) [.agg b.c, vi kind] [] = some (.tup [vi (b.surely kind).1, vi (b.surely kind).2], []) := by
  have hF := first_k (Γ := Γ) b kind 1 (fun i => decide ((spanOf (tLeft kind i) (b.truths [])).2 < 0)) 86 (.inr ⟨rfl, rfl⟩) (fun hv ht hk i hi =>
    must_k b (sane_of_valid hv) [] ht kind i ((within_iff _ _ _).1 hk) (by have := valid_days (sane_of_valid hv); omega))
  rw [K_fn P06.f15 _ _ rfl]
  (simp only [go_sem, simprocAttr, candle_Surely, hF]; repeat' (first | ((first | (refine br_yes (by omega) ?_) | (refine br_no (by omega) ?_) | (apply br_all; (· simp only [Bool.and_eq_true, decide_eq_true_eq]; omega)) | (apply br_free; (· simp [go_sem, Pm.acc, Acc.free, refsOf, offOf, keyEq, tagEq, cellsEq, cellEq]; done)) | ((first | apply br_mergeT | apply br_mergeF); (· intro h; simp only [go_sem, simprocAttr, sel_of h, candle_Surely, hF]; exact rfl))); (try simp only [go_sem, simprocAttr, candle_Surely, hF])) | ((first | apply onGuard_sel | (apply pickV_split; apply br_split) | apply br_split) <;> intro h <;> (try simp only [go_sem, simprocAttr, h, candle_Surely, hF]))))
  rfl
end
end Go.Pm.Cd

namespace Go.Pm.Cd
open Ac
set_option maxRecDepth 100000
set_option linter.unusedSimpArgs false
set_option linter.unusedSectionVars false
set_option linter.unusedVariables false

def topK (k : SK) : SK := match k with | .nil => .nil | _ => .full
theorem sliced_top (es : Nat) (k : SK) (l : List (List C)) (n : Nat) (hn : l.length = n) : sliced es (.sc (.sl k es l)) none (some (.sc (.int .i64 n))) (some (.sc (.int .i64 n))) = some (.sl (topK k) es l) := by
  subst hn
  cases k <;> simp [sliced, bounds, boundM, boundH, boundL, bound, capOf, slKind, topK]
theorem appended_top (es : Nat) (k k' : SK) (l : List (List C)) (x : List C) (hr : l.length + 1 ≤ room) : appended es (.sc (.sl (topK k) es l)) (.sc (.sl k' es [x])) = some (.own es (l ++ [x])) := by
  cases k <;> simp [appended, elems, topK, hr]

def Book.add (b : Book) (x : Count) : Book := { b with kc := .shared, counts := b.counts ++ [x] }
def ownB (b : Book) (x : Count) : List C := [ci b.s0.lo, ci b.s0.hi, ci b.s1.lo, ci b.s1.hi, ci b.f0.lo, ci b.f0.hi, ci b.f1.lo, ci b.f1.hi, .sl b.kd 5 (b.days.map Day.c), .sl b.ko 3 (b.orders.map Order.c), .own 4 (b.counts.map Count.c ++ [x.c])]
@[go_sem] theorem ownB_set (b : Book) (x : Count) : b.c.set 10 (.own 4 (b.counts.map Count.c ++ [x.c])) = ownB b x := nrfl rfl
@[go_sem] theorem ownB_all (b : Book) (x : Count) : cellsAt (ownB b x) 0 11 = some (ownB b x) := nrfl rfl
@[go_sem] theorem ownB_un (b : Book) (x : Count) : (ownB b x).map unown = (b.add x).c := by
  simp [ownB, Book.add, Book.c, unown]
@[go_sem] theorem ownB_under (b : Book) (x : Count) (n : Nat) : C.underL n (ownB b x) = true := by simp [ownB, go_sem]

theorem sane_add {b : Book} (hv : b.valid = true) {x : Count} (hx : b.isCount x = true) : (b.add x).sane = true := by
  have e1 : (b.add x).orderOk = b.orderOk := rfl
  have e2 : (b.add x).isCount = b.isCount := rfl
  simp only [Book.valid, Book.sane, Bool.and_eq_true, decide_eq_true_eq, e1, e2] at hv ⊢
  refine ⟨⟨⟨⟨⟨⟨⟨⟨⟨hv.1.1.1.1.1.1.1.1.1, hv.1.1.1.1.1.1.1.1.2⟩, ?_⟩, hv.1.1.1.1.1.1.2⟩, hv.1.1.1.1.1.2⟩, hv.1.1.1.1.2⟩, hv.1.1.1.2⟩, hv.1.1.2⟩, hv.1.2⟩, ?_⟩
  · have := hv.1.1.1.1.1.1.1.2
    simp only [Book.add, List.length_append, List.length_cons, List.length_nil]; omega
  · simp only [Book.add, List.all_append, List.all_cons, List.all_nil, hv.2, hx]; rfl

section
variable {Γ : Env} [P06 Γ] [G06 Γ]

theorem fits_add {b : Book} (hv : b.valid = true) (x : Count) : (b.add x).Fits := by
  have := valid_days (sane_of_valid hv)
  exact ⟨by simp only [Book.add]; omega, by simp only [Book.add]; omega, by simp only [Book.add, List.length_append, List.length_cons, List.length_nil]; omega⟩

def Book.fits (b : Book) (x : Count) : Bool × Int := if b.askE (b.isCount x) = 0 then (decide ((b.add x).truths [] ≠ []), 0) else (false, b.askE (b.isCount x))

@[go_sem] theorem Fits_k (b : Book) [hb : b.Fits] (x : Count) : K Γ (.fn 19) [.agg b.c, .agg x.c] [] = some (.tup [vb (b.fits x).1, vi (b.fits x).2], []) := by
  rw [K_fn P06.f19 _ _ rfl]
  simp only [Book.fits, Book.askE]
  rcases Bool.eq_false_or_eq_true b.valid with hv | hv
  rotate_left
  · have hA (is : Bool) := asked_bad (Γ := Γ) b hv is
    simp only [Z13] at hA
    (simp only [go_sem, simprocAttr, candle_Fits, hA, hv, Bool.false_eq_true]; repeat' (first | ((first | (refine br_yes (by omega) ?_) | (refine br_no (by omega) ?_) | (apply br_all; (· simp only [Bool.and_eq_true, decide_eq_true_eq]; omega)) | (apply br_free; (· simp [go_sem, Pm.acc, Acc.free, refsOf, offOf, keyEq, tagEq, cellsEq, cellEq]; done)) | ((first | apply br_mergeT | apply br_mergeF); (· intro h; simp only [go_sem, simprocAttr, sel_of h, candle_Fits, hA, hv, Bool.false_eq_true]; exact rfl))); (try simp only [go_sem, simprocAttr, candle_Fits, hA, hv, Bool.false_eq_true])) | ((first | apply onGuard_sel | (apply pickV_split; apply br_split) | apply br_split) <;> intro h <;> (try simp only [go_sem, simprocAttr, h, candle_Fits, hA, hv, Bool.false_eq_true]))))
  · have hA := asked_ask (Γ := Γ) b hv
    simp only [Z13] at hA
    rcases Bool.eq_false_or_eq_true (b.isCount x) with hk | hk
    rotate_left
    · (simp only [go_sem, simprocAttr, candle_Fits, hA, hv, hk, Bool.false_and, Bool.false_eq_true]; repeat' (first | ((first | (refine br_yes (by omega) ?_) | (refine br_no (by omega) ?_) | (apply br_all; (· simp only [Bool.and_eq_true, decide_eq_true_eq]; omega)) | (apply br_free; (· simp [go_sem, Pm.acc, Acc.free, refsOf, offOf, keyEq, tagEq, cellsEq, cellEq]; done)) | ((first | apply br_mergeT | apply br_mergeF); (· intro h; simp only [go_sem, simprocAttr, sel_of h, candle_Fits, hA, hv, hk, Bool.false_and, Bool.false_eq_true]; exact rfl))); (try simp only [go_sem, simprocAttr, candle_Fits, hA, hv, hk, Bool.false_and, Bool.false_eq_true])) | ((first | apply onGuard_sel | (apply pickV_split; apply br_split) | apply br_split) <;> intro h <;> (try simp only [go_sem, simprocAttr, h, candle_Fits, hA, hv, hk, Bool.false_and, Bool.false_eq_true]))))
    · by_cases ht : b.truths [] = []
      · have hN := asked_no (Γ := Γ) b hv ht
        (simp only [go_sem, simprocAttr, candle_Fits, hN, hv, hk, ht]; repeat' (first | ((first | (refine br_yes (by omega) ?_) | (refine br_no (by omega) ?_) | (apply br_all; (· simp only [Bool.and_eq_true, decide_eq_true_eq]; omega)) | (apply br_free; (· simp [go_sem, Pm.acc, Acc.free, refsOf, offOf, keyEq, tagEq, cellsEq, cellEq]; done)) | ((first | apply br_mergeT | apply br_mergeF); (· intro h; simp only [go_sem, simprocAttr, sel_of h, candle_Fits, hN, hv, hk, ht]; exact rfl))); (try simp only [go_sem, simprocAttr, candle_Fits, hN, hv, hk, ht])) | ((first | apply onGuard_sel | (apply pickV_split; apply br_split) | apply br_split) <;> intro h <;> (try simp only [go_sem, simprocAttr, h, candle_Fits, hN, hv, hk, ht]))))
      · have hN := asked_ok (Γ := Γ) b hv ht
        have hs := sane_add hv hk
        haveI := fits_add hv x
        have hc := (valid_days (sane_of_valid hv)).2.2.2
        have hS := sliced_top 4 b.kc (b.counts.map Count.c) b.counts.length (by simp)
        have hP := appended_top 4 b.kc .full (b.counts.map Count.c) x.c (by simp only [List.length_map, room]; omega)
        have h0 : decide ((0 : Int) < (((b.add x).truths []).length : Int)) = decide ((b.add x).truths [] ≠ []) := by
          rw [decide_eq_decide]
          constructor
          · intro h e; rw [e] at h; simp at h
          · intro h
            have : ((b.add x).truths []).length ≠ 0 := fun e => h (List.length_eq_zero_iff.1 e)
            omega
        (simp only [go_sem, simprocAttr, candle_Fits, hN, hv, hk, ht, hs, hS, hP, h0]; repeat' (first | ((first | (refine br_yes (by omega) ?_) | (refine br_no (by omega) ?_) | (apply br_all; (· simp only [Bool.and_eq_true, decide_eq_true_eq]; omega)) | (apply br_free; (· simp [go_sem, Pm.acc, Acc.free, refsOf, offOf, keyEq, tagEq, cellsEq, cellEq]; done)) | ((first | apply br_mergeT | apply br_mergeF); (· intro h; simp only [go_sem, simprocAttr, sel_of h, candle_Fits, hN, hv, hk, ht, hs, hS, hP, h0]; exact rfl))); (try simp only [go_sem, simprocAttr, candle_Fits, hN, hv, hk, ht, hs, hS, hP, h0])) | ((first | apply onGuard_sel | (apply pickV_split; apply br_split) | apply br_split) <;> intro h <;> (try simp only [go_sem, simprocAttr, h, candle_Fits, hN, hv, hk, ht, hs, hS, hP, h0]))))
end
end Go.Pm.Cd

namespace Go.Pm.Cd
open Ac
set_option maxRecDepth 100000
set_option linter.unusedSimpArgs false
set_option linter.unusedSectionVars false
set_option linter.unusedVariables false

def fromOf (l : List Int) : Int := if l = [] then 0 else l.getD (l.length - 1) 0 + 1
def Book.choose (b : Book) : Nat → List Int → List Int × Bool
  | 0, l => (l, decide (b.truths l ≠ []))
  | r + 1, l => match findFrom (fun i _ => (b.choose r (l ++ [fromOf l + (i : Nat)])).2) 0 (List.range (b.counts.length - fromOf l).toNat) with
    | some (i, _) => ((b.choose r (l ++ [fromOf l + (i : Nat)])).1, true)
    | none => ([], false)
def iC (k : SK) (l : List Int) : C := .sl k 1 (l.map fun x => [ci x])
def chooseK (b : Book) (k : SK) : Nat → List Int → SK
  | 0, l => k
  | r + 1, l => if (b.choose (r + 1) l).2 then .shared else .nil

section
variable {Γ : Env} [P06 Γ] [G06 Γ]

theorem chooseK_shared (b : Book) (r : Nat) (l : List Int) (h : (b.choose r l).2 = true) : chooseK b .shared r l = .shared := by
  cases r with
  | zero => rfl
  | succ r => simp only [chooseK, h, if_true]

theorem choose_L0 (b : Book) [hb : b.Fits] (hv : b.sane = true) (q : Nat) (many r : Nat) (l : List Int) (k : SK) (H : List Obj) (n : Nat) (hl6 : l.length ≤ 6) (from' : Int) (hfr : 0 ≤ from' ∧ from' ≤ 7) (hn : H.length = n) (hq : q < n)
    (hhq : H[q]? = some (.var [.fn (.fn 62) [] [] [.eptr b.c 0, .ptr q 0]])) (hu : H.all (Obj.under n) = true)
    (hK : ∀ i : Nat, from' + i < b.counts.length → K Γ (.fn 62) [.sc (.sl .shared 1 ((l ++ [from' + (i : Nat)]).map fun x => [ci x])), vi many, .sc (.eptr b.c 0), .sc (.ptr q 0)] H =
      some (.tup [.sc (iC (chooseK b .shared r (l ++ [from' + (i : Nat)])) (b.choose r (l ++ [from' + (i : Nat)])).1), vb (b.choose r (l ++ [from' + (i : Nat)])).2], H)) {β : Type} (Q : Ex → St → Option β) :
    E Γ candle_Wrong_1_L0 ⟨[(0, .sc (.sl k 1 (l.map fun x => [ci x]))), (1, vi many), (2, .sc (.eptr b.c 0)), (3, .sc (.ptr q 0)), (8, vi l.length), (10, vi from')], H⟩ Q =
      match findFrom (fun i _ => (b.choose r (l ++ [from' + (i : Nat)])).2) 0 (List.range (b.counts.length - from').toNat) with
      | some (i, _) => Q .ret ⟨[(6, .sc (iC .shared (b.choose r (l ++ [from' + (i : Nat)])).1)), (7, vb true)], H⟩
      | none => Q (.exit 0) ⟨[(0, .sc (.sl k 1 (l.map fun x => [ci x]))), (1, vi many), (2, .sc (.eptr b.c 0)), (3, .sc (.ptr q 0)), (8, vi l.length), (10, vi (from' + (b.counts.length - from').toNat)), (38, vb false)], H⟩ := by
  have hvd := valid_days hv
  have hS := sliced_top 1 k (l.map fun x => [ci x]) l.length (by simp)
  have hts : H.take n = H := by rw [← hn]; exact List.take_length
  refine Eq.trans (congrArg (fun s => E Γ candle_Wrong_1_L0 s Q) (?_ : _ = (⟨[(0, .sc (.sl k 1 (l.map fun x => [ci x]))), (1, vi many), (2, .sc (.eptr b.c 0)), (3, .sc (.ptr q 0)), (8, vi l.length), (10, vi (from' + (0 : Nat)))], H⟩ : St))) ?_
  · simp
  refine (E_find (fun i => ⟨[(0, .sc (.sl k 1 (l.map fun x => [ci x]))), (1, vi many), (2, .sc (.eptr b.c 0)), (3, .sc (.ptr q 0)), (8, vi l.length), (10, vi (from' + (i : Nat)))], H⟩) (List.range (b.counts.length - from').toNat) (fun i _ => (b.choose r (l ++ [from' + (i : Nat)])).2)
    (fun i x => (.ret, ⟨[(6, .sc (iC .shared (b.choose r (l ++ [from' + (i : Nat)])).1)), (7, vb true)], H⟩))
    (.exit 0, ⟨[(0, .sc (.sl k 1 (l.map fun x => [ci x]))), (1, vi many), (2, .sc (.eptr b.c 0)), (3, .sc (.ptr q 0)), (8, vi l.length), (10, vi (from' + (b.counts.length - from').toNat)), (38, vb false)], H⟩) Q ?_ ?_ ?_).trans ?_
  · intro i x hx hqi
    have hlt : i < (b.counts.length - from').toNat := by
      have := (List.getElem?_eq_some_iff.1 hx).1; simpa using this
    have hlt2 : from' + (i : Int) < b.counts.length := by omega
    have hP := appended_top 1 k .full (l.map fun x => [ci x]) [ci (from' + (i : Nat))] (by simp only [List.length_map, room]; omega)
    have hiw : IntKind.i64.wrap (from' + (i : Int) + 1) = from' + (i + 1 : Nat) := by rw [wrap_i64 (by omega) (by omega)]; omega
    have hKi := hK i hlt2
    simp only [List.map_append, List.map_cons, List.map_nil] at hKi
    (simp only [go_sem, simprocAttr, candle_Wrong_1_B0, hn, heapB, hhq, hu, hS, hP, hKi, hqi, hiw, hq, hts, iC]; repeat' (first | ((first | (refine br_yes (by omega) ?_) | (refine br_no (by omega) ?_) | (apply br_all; (· simp only [Bool.and_eq_true, decide_eq_true_eq]; omega)) | (apply br_free; (· simp [go_sem, Pm.acc, Acc.free, refsOf, offOf, keyEq, tagEq, cellsEq, cellEq]; done)) | ((first | apply br_mergeT | apply br_mergeF); (· intro h; simp only [go_sem, simprocAttr, sel_of h, candle_Wrong_1_B0, hn, heapB, hhq, hu, hS, hP, hKi, hqi, hiw, hq, hts, iC]; exact rfl))); (try simp only [go_sem, simprocAttr, candle_Wrong_1_B0, hn, heapB, hhq, hu, hS, hP, hKi, hqi, hiw, hq, hts, iC])) | ((first | apply onGuard_sel | (apply pickV_split; apply br_split) | apply br_split) <;> intro h <;> (try simp only [go_sem, simprocAttr, h, candle_Wrong_1_B0, hn, heapB, hhq, hu, hS, hP, hKi, hqi, hiw, hq, hts, iC]))))
  · intro i x hx hqi
    have hlt : i < (b.counts.length - from').toNat := by
      have := (List.getElem?_eq_some_iff.1 hx).1; simpa using this
    have hlt2 : from' + (i : Int) < b.counts.length := by omega
    have hP := appended_top 1 k .full (l.map fun x => [ci x]) [ci (from' + (i : Nat))] (by simp only [List.length_map, room]; omega)
    have hKi := hK i hlt2
    have hsh := chooseK_shared b r _ hqi
    rw [hsh] at hKi
    simp only [List.map_append, List.map_cons, List.map_nil] at hKi
    (simp only [go_sem, simprocAttr, candle_Wrong_1_B0, hn, heapB, hhq, hu, hS, hP, hKi, hqi, hq, hts, iC]; repeat' (first | ((first | (refine br_yes (by omega) ?_) | (refine br_no (by omega) ?_) | (apply br_all; (· simp only [Bool.and_eq_true, decide_eq_true_eq]; omega)) | (apply br_free; (· simp [go_sem, Pm.acc, Acc.free, refsOf, offOf, keyEq, tagEq, cellsEq, cellEq]; done)) | ((first | apply br_mergeT | apply br_mergeF); (· intro h; simp only [go_sem, simprocAttr, sel_of h, candle_Wrong_1_B0, hn, heapB, hhq, hu, hS, hP, hKi, hqi, hq, hts, iC]; exact rfl))); (try simp only [go_sem, simprocAttr, candle_Wrong_1_B0, hn, heapB, hhq, hu, hS, hP, hKi, hqi, hq, hts, iC])) | ((first | apply onGuard_sel | (apply pickV_split; apply br_split) | apply br_split) <;> intro h <;> (try simp only [go_sem, simprocAttr, h, candle_Wrong_1_B0, hn, heapB, hhq, hu, hS, hP, hKi, hqi, hq, hts, iC]))))
  · have hnlt : ¬ (from' + ((b.counts.length - from').toNat : Int) < b.counts.length) := by omega
    have hdd := decide_eq_false hnlt
    simp only [List.length_range]
    (simp only [go_sem, simprocAttr, candle_Wrong_1_B0, hdd]; repeat' (first | ((first | (refine br_yes (by omega) ?_) | (refine br_no (by omega) ?_) | (apply br_all; (· simp only [Bool.and_eq_true, decide_eq_true_eq]; omega)) | (apply br_free; (· simp [go_sem, Pm.acc, Acc.free, refsOf, offOf, keyEq, tagEq, cellsEq, cellEq]; done)) | ((first | apply br_mergeT | apply br_mergeF); (· intro h; simp only [go_sem, simprocAttr, sel_of h, candle_Wrong_1_B0, hdd]; exact rfl))); (try simp only [go_sem, simprocAttr, candle_Wrong_1_B0, hdd])) | ((first | apply onGuard_sel | (apply pickV_split; apply br_split) | apply br_split) <;> intro h <;> (try simp only [go_sem, simprocAttr, h, candle_Wrong_1_B0, hdd]))))
  · cases findFrom (fun i _ => (b.choose r (l ++ [from' + (i : Nat)])).2) 0 (List.range (b.counts.length - from').toNat) <;> rfl

theorem choose_k (b : Book) [hb : b.Fits] (hv : b.sane = true) (q : Nat) (many : Nat) (hm : many ≤ 6) : ∀ (r : Nat) (l : List Int) (k : SK) (H : List Obj) (n : Nat), l.length + r = many → (∀ x, x ∈ l → 0 ≤ x ∧ x ≤ 6) → H.length = n → q < n →
    H[q]? = some (.var [.fn (.fn 62) [] [] [.eptr b.c 0, .ptr q 0]]) → H.all (Obj.under n) = true →
    K Γ (.fn 62) [.sc (iC k l), vi many, .sc (.eptr b.c 0), .sc (.ptr q 0)] H = some (.tup [.sc (iC (chooseK b k r l) (b.choose r l).1), vb (b.choose r l).2], H) := by
  intro r
  induction r with
  | zero =>
    intro l k H n hlr hl hn hq hhq hu
    have hll : (l.length : Int) = many := by omega
    have h0 : decide ((0 : Int) < ((b.truths l).length : Int)) = decide (b.truths l ≠ []) := by
      rw [decide_eq_decide]
      constructor
      · intro h e; rw [e] at h; simp at h
      · intro h
        have : (b.truths l).length ≠ 0 := fun e => h (List.length_eq_zero_iff.1 e)
        omega
    have hO := opened_but (Γ := Γ) b hv k l (by omega)
    simp only [iC]
    rw [K_fn P06.f62 _ _ rfl]
    (simp only [go_sem, simprocAttr, candle_Wrong_1, hn, heapB, hhq, hu, hO, h0, hll, Book.choose, chooseK, (by rw [← hn]; exact List.take_length : H.take n = H)]; repeat' (first | ((first | (refine br_yes (by omega) ?_) | (refine br_no (by omega) ?_) | (apply br_all; (· simp only [Bool.and_eq_true, decide_eq_true_eq]; omega)) | (apply br_free; (· simp [go_sem, Pm.acc, Acc.free, refsOf, offOf, keyEq, tagEq, cellsEq, cellEq]; done)) | ((first | apply br_mergeT | apply br_mergeF); (· intro h; simp only [go_sem, simprocAttr, sel_of h, candle_Wrong_1, hn, heapB, hhq, hu, hO, h0, hll, Book.choose, chooseK, (by rw [← hn]; exact List.take_length : H.take n = H)]; exact rfl))); (try simp only [go_sem, simprocAttr, candle_Wrong_1, hn, heapB, hhq, hu, hO, h0, hll, Book.choose, chooseK, (by rw [← hn]; exact List.take_length : H.take n = H)])) | ((first | apply onGuard_sel | (apply pickV_split; apply br_split) | apply br_split) <;> intro h <;> (try simp only [go_sem, simprocAttr, h, candle_Wrong_1, hn, heapB, hhq, hu, hO, h0, hll, Book.choose, chooseK, (by rw [← hn]; exact List.take_length : H.take n = H)]))))
  | succ r ih =>
    intro l k H n hlr hl hn hq hhq hu
    have hll : ¬ (l.length : Int) = many := by omega
    have hvd := valid_days hv
    have hts : H.take n = H := by rw [← hn]; exact List.take_length
    have hne : decide ((l.length : Int) = many) = false := decide_eq_false hll
    have hfr : 0 ≤ fromOf l ∧ fromOf l ≤ 7 := by
      by_cases he : l = []
      · simp [fromOf, he]
      · have hlp : l.length - 1 < l.length := by
          have : l.length ≠ 0 := fun e => he (List.length_eq_zero_iff.1 e)
          omega
        have hm' := hl (l.getD (l.length - 1) 0) (by simp only [List.getD, List.getElem?_eq_getElem hlp, Option.getD_some]; exact List.getElem_mem hlp)
        simp only [fromOf, if_neg he]; omega
    have hL {β : Type} (Q : Ex → St → Option β) := choose_L0 (Γ := Γ) b hv q many r l k H n (by omega) (fromOf l) hfr hn hq hhq hu (fun i hi => by
      have := ih (l ++ [fromOf l + (i : Nat)]) .shared H n (by simp; omega) (fun x hx => by
        rcases List.mem_append.1 hx with hx | hx
        · exact hl x hx
        · rw [List.mem_singleton] at hx; subst hx; omega) hn hq hhq hu
      exact this) Q
    have main : (match findFrom (fun i _ => (b.choose r (l ++ [fromOf l + (i : Nat)])).2) 0 (List.range (b.counts.length - fromOf l).toNat) with
        | some (i, _) => some (V.tup [.sc (iC .shared (b.choose r (l ++ [fromOf l + (i : Nat)])).1), vb true], H)
        | none => some (V.tup [.sc (.sl .nil 1 []), vb false], H)) = some (V.tup [.sc (iC (chooseK b k (r + 1) l) (b.choose (r + 1) l).1), vb (b.choose (r + 1) l).2], H) := by
      simp only [chooseK, Book.choose]
      obtain ⟨o, ho⟩ : ∃ o, findFrom (fun i _ => (b.choose r (l ++ [fromOf l + (i : Nat)])).2) 0 (List.range (b.counts.length - fromOf l).toNat) = o := ⟨_, rfl⟩
      simp only [ho]
      cases o <;> rfl
    rw [← main]
    clear main
    simp only [iC]
    rw [K_fn P06.f62 _ _ rfl]
    by_cases he : l = []
    · have hf0 : fromOf l = 0 := by simp [fromOf, he]
      have hl0 : decide ((0 : Int) < (l.length : Int)) = false := decide_eq_false (by rw [he]; simp)
      simp only [hf0] at hL ⊢
      cases hff : findFrom (fun i _ => (b.choose r (l ++ [0 + ((i : Nat) : Int)])).2) 0 (List.range ((b.counts.length : Int) - 0).toNat) with
      | none =>
        simp only [hff] at hL
        (simp only [go_sem, simprocAttr, candle_Wrong_1, hn, heapB, hhq, hu, hne, hl0, hL, hts]; repeat' (first | ((first | (refine br_yes (by omega) ?_) | (refine br_no (by omega) ?_) | (apply br_all; (· simp only [Bool.and_eq_true, decide_eq_true_eq]; omega)) | (apply br_free; (· simp [go_sem, Pm.acc, Acc.free, refsOf, offOf, keyEq, tagEq, cellsEq, cellEq]; done)) | ((first | apply br_mergeT | apply br_mergeF); (· intro h; simp only [go_sem, simprocAttr, sel_of h, candle_Wrong_1, hn, heapB, hhq, hu, hne, hl0, hL, hts]; exact rfl))); (try simp only [go_sem, simprocAttr, candle_Wrong_1, hn, heapB, hhq, hu, hne, hl0, hL, hts])) | ((first | apply onGuard_sel | (apply pickV_split; apply br_split) | apply br_split) <;> intro h <;> (try simp only [go_sem, simprocAttr, h, candle_Wrong_1, hn, heapB, hhq, hu, hne, hl0, hL, hts]))))
      | some p =>
        simp only [hff] at hL
        (simp only [go_sem, simprocAttr, candle_Wrong_1, hn, heapB, hhq, hu, hne, hl0, hL, hts, iC]; repeat' (first | ((first | (refine br_yes (by omega) ?_) | (refine br_no (by omega) ?_) | (apply br_all; (· simp only [Bool.and_eq_true, decide_eq_true_eq]; omega)) | (apply br_free; (· simp [go_sem, Pm.acc, Acc.free, refsOf, offOf, keyEq, tagEq, cellsEq, cellEq]; done)) | ((first | apply br_mergeT | apply br_mergeF); (· intro h; simp only [go_sem, simprocAttr, sel_of h, candle_Wrong_1, hn, heapB, hhq, hu, hne, hl0, hL, hts, iC]; exact rfl))); (try simp only [go_sem, simprocAttr, candle_Wrong_1, hn, heapB, hhq, hu, hne, hl0, hL, hts, iC])) | ((first | apply onGuard_sel | (apply pickV_split; apply br_split) | apply br_split) <;> intro h <;> (try simp only [go_sem, simprocAttr, h, candle_Wrong_1, hn, heapB, hhq, hu, hne, hl0, hL, hts, iC]))))
    · have hlp : l.length - 1 < l.length := by
        have : l.length ≠ 0 := fun e => he (List.length_eq_zero_iff.1 e)
        omega
      have hl0 : decide ((0 : Int) < (l.length : Int)) = true := decide_eq_true (by omega)
      have hlw : IntKind.i64.wrap ((l.length : Int) - 1) = l.length - 1 := wrap_i64 (by omega) (by omega)
      have hlt : ((l.length : Int) - 1).toNat = l.length - 1 := by omega
      have hget : l[l.length - 1]? = some (l.getD (l.length - 1) 0) := by simp only [List.getD, List.getElem?_eq_getElem hlp, Option.getD_some]
      have hfw : IntKind.i64.wrap (l.getD (l.length - 1) 0 + 1) = fromOf l := by
        have e : fromOf l = l.getD (l.length - 1) 0 + 1 := by simp only [fromOf, if_neg he]
        rw [e] at hfr ⊢
        exact wrap_i64 (by omega) (by omega)
      cases hff : findFrom (fun i _ => (b.choose r (l ++ [fromOf l + ((i : Nat) : Int)])).2) 0 (List.range ((b.counts.length : Int) - fromOf l).toNat) with
      | none =>
        simp only [hff] at hL
        (simp only [go_sem, simprocAttr, candle_Wrong_1, hn, heapB, hhq, hu, hne, hl0, hlw, hlt, hget, hfw, hL, hts]; repeat' (first | ((first | (refine br_yes (by omega) ?_) | (refine br_no (by omega) ?_) | (apply br_all; (· simp only [Bool.and_eq_true, decide_eq_true_eq]; omega)) | (apply br_free; (· simp [go_sem, Pm.acc, Acc.free, refsOf, offOf, keyEq, tagEq, cellsEq, cellEq]; done)) | ((first | apply br_mergeT | apply br_mergeF); (· intro h; simp only [go_sem, simprocAttr, sel_of h, candle_Wrong_1, hn, heapB, hhq, hu, hne, hl0, hlw, hlt, hget, hfw, hL, hts]; exact rfl))); (try simp only [go_sem, simprocAttr, candle_Wrong_1, hn, heapB, hhq, hu, hne, hl0, hlw, hlt, hget, hfw, hL, hts])) | ((first | apply onGuard_sel | (apply pickV_split; apply br_split) | apply br_split) <;> intro h <;> (try simp only [go_sem, simprocAttr, h, candle_Wrong_1, hn, heapB, hhq, hu, hne, hl0, hlw, hlt, hget, hfw, hL, hts]))))
      | some p =>
        simp only [hff] at hL
        (simp only [go_sem, simprocAttr, candle_Wrong_1, hn, heapB, hhq, hu, hne, hl0, hlw, hlt, hget, hfw, hL, hts, iC]; repeat' (first | ((first | (refine br_yes (by omega) ?_) | (refine br_no (by omega) ?_) | (apply br_all; (· simp only [Bool.and_eq_true, decide_eq_true_eq]; omega)) | (apply br_free; (· simp [go_sem, Pm.acc, Acc.free, refsOf, offOf, keyEq, tagEq, cellsEq, cellEq]; done)) | ((first | apply br_mergeT | apply br_mergeF); (· intro h; simp only [go_sem, simprocAttr, sel_of h, candle_Wrong_1, hn, heapB, hhq, hu, hne, hl0, hlw, hlt, hget, hfw, hL, hts, iC]; exact rfl))); (try simp only [go_sem, simprocAttr, candle_Wrong_1, hn, heapB, hhq, hu, hne, hl0, hlw, hlt, hget, hfw, hL, hts, iC])) | ((first | apply onGuard_sel | (apply pickV_split; apply br_split) | apply br_split) <;> intro h <;> (try simp only [go_sem, simprocAttr, h, candle_Wrong_1, hn, heapB, hhq, hu, hne, hl0, hlw, hlt, hget, hfw, hL, hts, iC]))))

def Book.wrong (b : Book) : List Int × Int := if b.valid then (match findFrom (fun m _ => (b.choose m []).2) 0 (List.range (b.counts.length + 1)) with | some (m, _) => (b.choose m []).1 | none => [], 0) else ([], 60)
def wrongK (b : Book) : SK := if b.valid then (match findFrom (fun m _ => (b.choose m []).2) 0 (List.range (b.counts.length + 1)) with | some (m, _) => topK (chooseK b .nil m []) | none => .nil) else .nil

theorem wrong_L0 (b : Book) [hb : b.Fits] (hv : b.sane = true) (hvc : b.counts.length ≤ 5) {β : Type} (Q : Ex → St → Option β) :
    E Γ candle_Wrong_L0 ⟨[(5, .sc (.ptr 1 0)), (18, vi (b.counts.length + 1)), (19, vi 0)], [.dead, .var [.fn (.fn 62) [] [] [.eptr b.c 0, .ptr 1 0]]]⟩ Q =
      match findFrom (fun m _ => (b.choose m []).2) 0 (List.range (b.counts.length + 1)) with
      | some (m, _) => Q .ret ⟨[(2, .sc (.sl (topK (chooseK b .nil m [])) 1 ((b.choose m []).1.map fun x => [ci x]))), (3, vi 0)], [.dead, .var [.fn (.fn 62) [] [] [.eptr b.c 0, .ptr 1 0]]]⟩
      | none => Q (.exit 0) ⟨[(5, .sc (.ptr 1 0)), (18, vi (b.counts.length + 1)), (19, vi (b.counts.length + 1)), (20, vb false)], [.dead, .var [.fn (.fn 62) [] [] [.eptr b.c 0, .ptr 1 0]]]⟩ := by
  have hK (i : Nat) (hi : i ≤ 6) := choose_k (Γ := Γ) b hv 1 i hi i [] .nil [.dead, .var [.fn (.fn 62) [] [] [.eptr b.c 0, .ptr 1 0]]] 2 (by simp) (by simp) rfl (by decide) rfl (by simp [go_sem])
  simp only [iC, List.map_nil] at hK
  refine (E_find (fun i => ⟨[(5, .sc (.ptr 1 0)), (18, vi (b.counts.length + 1)), (19, vi i)], [.dead, .var [.fn (.fn 62) [] [] [.eptr b.c 0, .ptr 1 0]]]⟩) (List.range (b.counts.length + 1)) (fun m _ => (b.choose m []).2)
    (fun m x => (.ret, ⟨[(2, .sc (.sl (topK (chooseK b .nil m [])) 1 ((b.choose m []).1.map fun x => [ci x]))), (3, vi 0)], [.dead, .var [.fn (.fn 62) [] [] [.eptr b.c 0, .ptr 1 0]]]⟩))
    (.exit 0, ⟨[(5, .sc (.ptr 1 0)), (18, vi (b.counts.length + 1)), (19, vi (b.counts.length + 1)), (20, vb false)], [.dead, .var [.fn (.fn 62) [] [] [.eptr b.c 0, .ptr 1 0]]]⟩) Q ?_ ?_ ?_).trans ?_
  · intro i x hx hqi
    have hlt : i < b.counts.length + 1 := by have := (List.getElem?_eq_some_iff.1 hx).1; simpa using this
    have hiw : IntKind.i64.wrap ((i : Int) + 1) = i + 1 := wrap_i64 (by omega) (by omega)
    have hKi := hK i (by omega)
    rw [hqi] at hKi
    (simp only [go_sem, simprocAttr, candle_Wrong_B0, hKi, hiw]; repeat' (first | ((first | (refine br_yes (by omega) ?_) | (refine br_no (by omega) ?_) | (apply br_all; (· simp only [Bool.and_eq_true, decide_eq_true_eq]; omega)) | (apply br_free; (· simp [go_sem, Pm.acc, Acc.free, refsOf, offOf, keyEq, tagEq, cellsEq, cellEq]; done)) | ((first | apply br_mergeT | apply br_mergeF); (· intro h; simp only [go_sem, simprocAttr, sel_of h, candle_Wrong_B0, hKi, hiw]; exact rfl))); (try simp only [go_sem, simprocAttr, candle_Wrong_B0, hKi, hiw])) | ((first | apply onGuard_sel | (apply pickV_split; apply br_split) | apply br_split) <;> intro h <;> (try simp only [go_sem, simprocAttr, h, candle_Wrong_B0, hKi, hiw]))))
    rfl
  · intro i x hx hqi
    have hlt : i < b.counts.length + 1 := by have := (List.getElem?_eq_some_iff.1 hx).1; simpa using this
    have hKi := hK i (by omega)
    rw [hqi] at hKi
    have hS := sliced_top 1 (chooseK b .nil i []) ((b.choose i []).1.map fun x => [ci x]) (b.choose i []).1.length (by simp)
    (simp only [go_sem, simprocAttr, candle_Wrong_B0, hKi, hS]; repeat' (first | ((first | (refine br_yes (by omega) ?_) | (refine br_no (by omega) ?_) | (apply br_all; (· simp only [Bool.and_eq_true, decide_eq_true_eq]; omega)) | (apply br_free; (· simp [go_sem, Pm.acc, Acc.free, refsOf, offOf, keyEq, tagEq, cellsEq, cellEq]; done)) | ((first | apply br_mergeT | apply br_mergeF); (· intro h; simp only [go_sem, simprocAttr, sel_of h, candle_Wrong_B0, hKi, hS]; exact rfl))); (try simp only [go_sem, simprocAttr, candle_Wrong_B0, hKi, hS])) | ((first | apply onGuard_sel | (apply pickV_split; apply br_split) | apply br_split) <;> intro h <;> (try simp only [go_sem, simprocAttr, h, candle_Wrong_B0, hKi, hS]))))
  · simp only [List.length_range]
    have hdd : decide (((b.counts.length + 1 : Nat) : Int) < b.counts.length + 1) = false := decide_eq_false (by omega)
    (simp only [go_sem, simprocAttr, candle_Wrong_B0, hdd]; repeat' (first | ((first | (refine br_yes (by omega) ?_) | (refine br_no (by omega) ?_) | (apply br_all; (· simp only [Bool.and_eq_true, decide_eq_true_eq]; omega)) | (apply br_free; (· simp [go_sem, Pm.acc, Acc.free, refsOf, offOf, keyEq, tagEq, cellsEq, cellEq]; done)) | ((first | apply br_mergeT | apply br_mergeF); (· intro h; simp only [go_sem, simprocAttr, sel_of h, candle_Wrong_B0, hdd]; exact rfl))); (try simp only [go_sem, simprocAttr, candle_Wrong_B0, hdd])) | ((first | apply onGuard_sel | (apply pickV_split; apply br_split) | apply br_split) <;> intro h <;> (try simp only [go_sem, simprocAttr, h, candle_Wrong_B0, hdd]))))
    rfl
  · obtain ⟨o, ho⟩ : ∃ o, findFrom (fun m _ => (b.choose m []).2) 0 (List.range (b.counts.length + 1)) = o := ⟨_, rfl⟩
    simp only [ho]
    cases o <;> rfl

@[go_sem] theorem Wrong_k (b : Book) [hb : b.Fits] : K Γ (.fn 21) [.agg b.c] [] = some (.tup [.sc (iC (wrongK b) b.wrong.1), vi b.wrong.2], []) := by
  rw [K_fn P06.f21 _ _ rfl]
  rcases Bool.eq_false_or_eq_true b.valid with hv | hv
  rotate_left
  · simp only [Book.wrong, wrongK, hv, Bool.false_eq_true, if_false, iC]
    (simp only [go_sem, simprocAttr, candle_Wrong, hv, Bool.false_eq_true]; repeat' (first | ((first | (refine br_yes (by omega) ?_) | (refine br_no (by omega) ?_) | (apply br_all; (· simp only [Bool.and_eq_true, decide_eq_true_eq]; omega)) | (apply br_free; (· simp [go_sem, Pm.acc, Acc.free, refsOf, offOf, keyEq, tagEq, cellsEq, cellEq]; done)) | ((first | apply br_mergeT | apply br_mergeF); (· intro h; simp only [go_sem, simprocAttr, sel_of h, candle_Wrong, hv, Bool.false_eq_true]; exact rfl))); (try simp only [go_sem, simprocAttr, candle_Wrong, hv, Bool.false_eq_true])) | ((first | apply onGuard_sel | (apply pickV_split; apply br_split) | apply br_split) <;> intro h <;> (try simp only [go_sem, simprocAttr, h, candle_Wrong, hv, Bool.false_eq_true]))))
  · simp only [Book.wrong, wrongK, hv, if_true, iC]
    have hvd := valid_days (sane_of_valid hv)
    have hvc : b.counts.length ≤ 5 := by
      simp only [Book.valid, Bool.and_eq_true, decide_eq_true_eq] at hv
      have := hv.1.1.1.1.1.1.1.2; omega
    have hcw : IntKind.i64.wrap ((b.counts.length : Int) + 1) = b.counts.length + 1 := wrap_i64 (by omega) (by omega)
    have hL {β : Type} (Q : Ex → St → Option β) := wrong_L0 (Γ := Γ) b (sane_of_valid hv) hvc Q
    obtain ⟨o, ho⟩ : ∃ o, findFrom (fun m _ => (b.choose m []).2) 0 (List.range (b.counts.length + 1)) = o := ⟨_, rfl⟩
    simp only [ho] at hL ⊢
    cases o with
    | none => (simp only [go_sem, simprocAttr, candle_Wrong, hv, hcw, hL, List.map_nil]; repeat' (first | ((first | (refine br_yes (by omega) ?_) | (refine br_no (by omega) ?_) | (apply br_all; (· simp only [Bool.and_eq_true, decide_eq_true_eq]; omega)) | (apply br_free; (· simp [go_sem, Pm.acc, Acc.free, refsOf, offOf, keyEq, tagEq, cellsEq, cellEq]; done)) | ((first | apply br_mergeT | apply br_mergeF); (· intro h; simp only [go_sem, simprocAttr, sel_of h, candle_Wrong, hv, hcw, hL, List.map_nil]; exact rfl))); (try simp only [go_sem, simprocAttr, candle_Wrong, hv, hcw, hL, List.map_nil])) | ((first | apply onGuard_sel | (apply pickV_split; apply br_split) | apply br_split) <;> intro h <;> (try simp only [go_sem, simprocAttr, h, candle_Wrong, hv, hcw, hL, List.map_nil]))))
    | some p => (simp only [go_sem, simprocAttr, candle_Wrong, hv, hcw, hL]; repeat' (first | ((first | (refine br_yes (by omega) ?_) | (refine br_no (by omega) ?_) | (apply br_all; (· simp only [Bool.and_eq_true, decide_eq_true_eq]; omega)) | (apply br_free; (· simp [go_sem, Pm.acc, Acc.free, refsOf, offOf, keyEq, tagEq, cellsEq, cellEq]; done)) | ((first | apply br_mergeT | apply br_mergeF); (· intro h; simp only [go_sem, simprocAttr, sel_of h, candle_Wrong, hv, hcw, hL]; exact rfl))); (try simp only [go_sem, simprocAttr, candle_Wrong, hv, hcw, hL])) | ((first | apply onGuard_sel | (apply pickV_split; apply br_split) | apply br_split) <;> intro h <;> (try simp only [go_sem, simprocAttr, h, candle_Wrong, hv, hcw, hL]))))
end
end Go.Pm.Cd

namespace Go.Pm.Cd
open Ac
set_option maxRecDepth 100000
set_option linter.unusedSimpArgs false
set_option linter.unusedSectionVars false
set_option linter.unusedVariables false

def Book.run (b : Book) (n0 f0 n1 f1 : Int) (dk : Nat → Int) : Nat → Int × Int
  | 0 => (n0, n1)
  | d + 1 => match b.days[d]? with
    | none => b.run n0 f0 n1 f1 dk d
    | some x => (after1 (b.run n0 f0 n1 f1 dk d).1 (got2 b.comes 0 d) f0 x.l0 (min x.hours (dk d)), after1 (b.run n0 f0 n1 f1 dk d).2 (got2 b.comes 1 d) f1 x.l1 (min x.hours (dk d)))

theorem run_agree (b : Book) (n0 f0 n1 f1 : Int) (dk dk' : Nat → Int) : ∀ (d : Nat), (∀ e, e < d → dk e = dk' e) → b.run n0 f0 n1 f1 dk d = b.run n0 f0 n1 f1 dk' d
  | 0, _ => rfl
  | d + 1, h => by
    have ih := run_agree b n0 f0 n1 f1 dk dk' d (fun e he => h e (by omega))
    simp only [Book.run, ih, h d (by omega)]

structure Good (b : Book) (but : List Int) (n0 f0 n1 f1 : Int) (dk : Nat → Int) (D : Nat) (t : List Int) : Prop where
  len : t.length = 17
  l0 : t.getD 5 0 = f0
  l1 : t.getD 6 0 = f1
  dark : ∀ d x, d < D → b.days[d]? = some x → x.dark.has (dk d)
  dks : ∀ d, d < D → t.getD d 0 = dk d
  a0 : ∀ d, d < D → t.getD (7 + d * 2) 0 = (b.run n0 f0 n1 f1 dk (d + 1)).1
  a1 : ∀ d, d < D → t.getD (7 + (d * 2 + 1)) 0 = (b.run n0 f0 n1 f1 dk (d + 1)).2
  right : ∀ d, d < D → b.rightOn but d (b.run n0 f0 n1 f1 dk (d + 1)).1 (b.run n0 f0 n1 f1 dk (d + 1)).2 = true

theorem getD_set (t : List Int) (i j : Nat) (v : Int) (hi : i < t.length) : (t.set i v).getD j 0 = if i = j then v else t.getD j 0 := by
  simp only [List.getD, List.getElem?_set]
  by_cases h : i = j
  · subst h; simp [hi]
  · simp [h]
theorem getD_next (t : List Int) (day j : Nat) (dk a0 a1 : Int) (ht : t.length = 17) (hd : day < 5) : (next t day dk a0 a1).getD j 0 = if 7 + (day * 2 + 1) = j then a1 else if 7 + day * 2 = j then a0 else if day = j then dk else t.getD j 0 := by
  unfold next
  rw [getD_set _ _ _ _ (by simp; omega), getD_set _ _ _ _ (by simp; omega), getD_set _ _ _ _ (by omega)]

theorem live_good {b : Book} (hv : b.sane = true) (but : List Int) (n0 f0 n1 f1 : Int) : ∀ (j day : Nat) (dk : Nat → Int) (t u : List Int), day + j = b.days.length → Good b but n0 f0 n1 f1 dk day t →
    u ∈ b.live b.comes but j t (b.run n0 f0 n1 f1 dk day).1 (b.run n0 f0 n1 f1 dk day).2 day → ∃ dk', (∀ e, e < day → dk' e = dk e) ∧ Good b but n0 f0 n1 f1 dk' b.days.length u
  | 0, day, dk, t, u, hd, hG, hu => by
    simp only [Book.live, List.mem_singleton] at hu
    subst hu
    obtain rfl : day = b.days.length := by omega
    exact ⟨dk, fun _ _ => rfl, hG⟩
  | j + 1, day, dk, t, u, hd, hG, hu => by
    have hvd := valid_days hv
    obtain ⟨x, hx⟩ : ∃ x, b.days[day]? = some x := ⟨_, List.getElem?_eq_getElem (by omega)⟩
    simp only [Book.live, hx, List.mem_flatMap, List.mem_range] at hu
    obtain ⟨i, hi, hu⟩ := hu
    have hxd := (valid_day hv hx).2.1
    let dk1 : Nat → Int := fun e => if e = day then x.dark.lo + i else dk e
    have hag : ∀ e, e < day → dk1 e = dk e := fun e he => by simp only [dk1]; rw [if_neg (by omega)]
    have hday : dk1 day = x.dark.lo + i := by simp [dk1]
    have hrun : b.run n0 f0 n1 f1 dk1 day = b.run n0 f0 n1 f1 dk day := run_agree b n0 f0 n1 f1 dk1 dk day hag
    have hrun1 : b.run n0 f0 n1 f1 dk1 (day + 1) = (after1 (b.run n0 f0 n1 f1 dk day).1 (got2 b.comes 0 day) f0 x.l0 (min x.hours (x.dark.lo + i)), after1 (b.run n0 f0 n1 f1 dk day).2 (got2 b.comes 1 day) f1 x.l1 (min x.hours (x.dark.lo + i))) := by
      simp only [Book.run, hx, hrun, hday]
    split at hu
    · rename_i hro
      rw [hG.l0, hG.l1] at hu hro
      have hG1 : Good b but n0 f0 n1 f1 dk1 (day + 1) (next t day (x.dark.lo + i) (b.run n0 f0 n1 f1 dk1 (day + 1)).1 (b.run n0 f0 n1 f1 dk1 (day + 1)).2) := by
        have hrunE (d : Nat) (h : d < day) : b.run n0 f0 n1 f1 dk1 (d + 1) = b.run n0 f0 n1 f1 dk (d + 1) := run_agree b n0 f0 n1 f1 dk1 dk (d + 1) (fun e he => hag e (by omega))
        refine ⟨by rw [next_len, hG.len], ?_, ?_, ?_, ?_, ?_, ?_, ?_⟩
        · rw [next_get5 _ _ _ _ _ (by omega), hG.l0]
        · rw [next_get6 _ _ _ _ _ (by omega), hG.l1]
        · intro d y hdd hy
          by_cases e : d = day
          · subst e; rw [hx] at hy; cases hy; rw [hday]; exact ⟨by omega, by omega⟩
          · rw [hag d (by omega)]; exact hG.dark d y (by omega) hy
        · intro d hdd
          rw [getD_next _ _ _ _ _ _ hG.len (by omega), if_neg (by omega), if_neg (by omega)]
          by_cases e : d = day
          · subst e; rw [if_pos rfl, hday]
          · rw [if_neg (by omega), hag d (by omega)]; exact hG.dks d (by omega)
        · intro d hdd
          rw [getD_next _ _ _ _ _ _ hG.len (by omega), if_neg (by omega)]
          by_cases e : d = day
          · subst e; rw [if_pos rfl]
          · rw [if_neg (by omega), if_neg (by omega), hrunE d (by omega)]; exact hG.a0 d (by omega)
        · intro d hdd
          rw [getD_next _ _ _ _ _ _ hG.len (by omega)]
          by_cases e : d = day
          · subst e; rw [if_pos rfl]
          · rw [if_neg (by omega), if_neg (by omega), if_neg (by omega), hrunE d (by omega)]; exact hG.a1 d (by omega)
        · intro d hdd
          by_cases e : d = day
          · subst e; rw [hrun1]; exact hro
          · rw [hrunE d (by omega)]; exact hG.right d (by omega)
      have hu' : u ∈ b.live b.comes but j (next t day (x.dark.lo + i) (b.run n0 f0 n1 f1 dk1 (day + 1)).1 (b.run n0 f0 n1 f1 dk1 (day + 1)).2) (b.run n0 f0 n1 f1 dk1 (day + 1)).1 (b.run n0 f0 n1 f1 dk1 (day + 1)).2 (day + 1) := by
        rw [hrun1]; exact hu
      obtain ⟨dk', ha, hg⟩ := live_good hv but n0 f0 n1 f1 j (day + 1) dk1 _ u (by omega) hG1 hu'
      exact ⟨dk', fun e he => by rw [ha e (by omega), hag e he], hg⟩
    · simp at hu

theorem truth_good {b : Book} (hv : b.sane = true) {but : List Int} {t : List Int} (ht : t ∈ b.truths but) : ∃ n0 f0 n1 f1 dk, b.s0.has n0 ∧ b.f0.has f0 ∧ b.s1.has n1 ∧ b.f1.has f1 ∧ Good b but n0 f0 n1 f1 dk b.days.length t := by
  rw [mem_truths] at ht
  obtain ⟨n0, f0, h0, h1, n1, f1, h2, h3, hl⟩ := ht
  obtain ⟨dk, -, hg⟩ := live_good hv but n0 f0 n1 f1 b.days.length 0 (fun _ => 0) (T0 f0 f1) t (by omega) ⟨rfl, rfl, rfl, fun _ _ h => absurd h (by omega), fun _ h => absurd h (by omega), fun _ h => absurd h (by omega), fun _ h => absurd h (by omega), fun _ h => absurd h (by omega)⟩ hl
  exact ⟨n0, f0, n1, f1, dk, h0, h1, h2, h3, hg⟩

theorem live_all {b : Book} (hv : b.sane = true) (but : List Int) (n0 f0 n1 f1 : Int) (dk : Nat → Int) (hdark : ∀ (d : Nat) (x : Day), b.days[d]? = some x → x.dark.has (dk d))
    (hright : ∀ d, d < b.days.length → b.rightOn but d (b.run n0 f0 n1 f1 dk (d + 1)).1 (b.run n0 f0 n1 f1 dk (d + 1)).2 = true) : ∀ (j day : Nat) (t : List Int), day + j = b.days.length → Good b but n0 f0 n1 f1 dk day t →
    ∃ u, u ∈ b.live b.comes but j t (b.run n0 f0 n1 f1 dk day).1 (b.run n0 f0 n1 f1 dk day).2 day ∧ Good b but n0 f0 n1 f1 dk b.days.length u
  | 0, day, t, hd, hG => by
    obtain rfl : day = b.days.length := by omega
    exact ⟨t, by simp [Book.live], hG⟩
  | j + 1, day, t, hd, hG => by
    have hvd := valid_days hv
    obtain ⟨x, hx⟩ : ∃ x, b.days[day]? = some x := ⟨_, List.getElem?_eq_getElem (by omega)⟩
    have hxd := (valid_day hv hx).2.1
    have hdx := hdark day x hx
    have hrun1 : b.run n0 f0 n1 f1 dk (day + 1) = (after1 (b.run n0 f0 n1 f1 dk day).1 (got2 b.comes 0 day) f0 x.l0 (min x.hours (dk day)), after1 (b.run n0 f0 n1 f1 dk day).2 (got2 b.comes 1 day) f1 x.l1 (min x.hours (dk day))) := by
      simp only [Book.run, hx]
    have hG1 : Good b but n0 f0 n1 f1 dk (day + 1) (next t day (dk day) (b.run n0 f0 n1 f1 dk (day + 1)).1 (b.run n0 f0 n1 f1 dk (day + 1)).2) := by
      refine ⟨by rw [next_len, hG.len], ?_, ?_, fun d y _ hy => hdark d y hy, ?_, ?_, ?_, fun d hdd => hright d (by omega)⟩
      · rw [next_get5 _ _ _ _ _ (by omega), hG.l0]
      · rw [next_get6 _ _ _ _ _ (by omega), hG.l1]
      · intro d hdd
        rw [getD_next _ _ _ _ _ _ hG.len (by omega), if_neg (by omega), if_neg (by omega)]
        by_cases e : d = day
        · subst e; rw [if_pos rfl]
        · rw [if_neg (by omega)]; exact hG.dks d (by omega)
      · intro d hdd
        rw [getD_next _ _ _ _ _ _ hG.len (by omega), if_neg (by omega)]
        by_cases e : d = day
        · subst e; rw [if_pos rfl]
        · rw [if_neg (by omega), if_neg (by omega)]; exact hG.a0 d (by omega)
      · intro d hdd
        rw [getD_next _ _ _ _ _ _ hG.len (by omega)]
        by_cases e : d = day
        · subst e; rw [if_pos rfl]
        · rw [if_neg (by omega), if_neg (by omega), if_neg (by omega)]; exact hG.a1 d (by omega)
    obtain ⟨u, hu, hg⟩ := live_all hv but n0 f0 n1 f1 dk hdark hright j (day + 1) _ (by omega) hG1
    refine ⟨u, ?_, hg⟩
    simp only [Book.live, hx, List.mem_flatMap, List.mem_range]
    have h1 := hdx.1
    have h2 := hdx.2
    refine ⟨(dk day - x.dark.lo).toNat, by omega, ?_⟩
    have e : x.dark.lo + ((dk day - x.dark.lo).toNat : Int) = dk day := by omega
    have hr := hright day (by omega)
    rw [hrun1] at hr hu
    rw [hG.l0, hG.l1, e, if_pos hr]
    exact hu

theorem truth_all {b : Book} (hv : b.sane = true) (but : List Int) {n0 f0 n1 f1 : Int} {dk : Nat → Int} (h0 : b.s0.has n0) (h1 : b.f0.has f0) (h2 : b.s1.has n1) (h3 : b.f1.has f1) (hdark : ∀ (d : Nat) (x : Day), b.days[d]? = some x → x.dark.has (dk d))
    (hright : ∀ d, d < b.days.length → b.rightOn but d (b.run n0 f0 n1 f1 dk (d + 1)).1 (b.run n0 f0 n1 f1 dk (d + 1)).2 = true) : ∃ t, t ∈ b.truths but ∧ Good b but n0 f0 n1 f1 dk b.days.length t := by
  obtain ⟨u, hu, hg⟩ := live_all hv but n0 f0 n1 f1 dk hdark hright b.days.length 0 (T0 f0 f1) (by omega) ⟨rfl, rfl, rfl, fun _ _ h => absurd h (by omega), fun _ h => absurd h (by omega), fun _ h => absurd h (by omega), fun _ h => absurd h (by omega), fun _ h => absurd h (by omega)⟩
  exact ⟨u, by rw [mem_truths]; exact ⟨n0, f0, h0, h1, n1, f1, h2, h3, hu⟩, hg⟩

theorem run_bound {b : Book} (hv : b.sane = true) {n0 f0 n1 f1 : Int} {dk : Nat → Int} (h0 : b.s0.has n0) (h1 : b.f0.has f0) (h2 : b.s1.has n1) (h3 : b.f1.has f1) (hdark : ∀ (d : Nat) (x : Day), b.days[d]? = some x → x.dark.has (dk d)) :
    ∀ (d : Nat), (-54 * d ≤ (b.run n0 f0 n1 f1 dk d).1 ∧ (b.run n0 f0 n1 f1 dk d).1 ≤ 60 + 240 * d) ∧ (-54 * d ≤ (b.run n0 f0 n1 f1 dk d).2 ∧ (b.run n0 f0 n1 f1 dk d).2 ≤ 60 + 240 * d)
  | 0 => by
    have hs := valid_spans hv
    have a := h0.1; have a' := h0.2; have c := h2.1; have c' := h2.2
    simp only [Book.run]; omega
  | d + 1 => by
    have ih := run_bound hv h0 h1 h2 h3 hdark d
    simp only [Book.run]
    cases hx : b.days[d]? with
    | none => simp only; omega
    | some x =>
      have hvx := valid_day hv hx
      have hs := valid_spans hv
      have hdx := hdark d x hx
      have a := h1.1; have a' := h1.2; have c := h3.1; have c' := h3.2; have e := hdx.1; have e' := hdx.2
      have hb0 := burnt_bound f0 x.l0 (min x.hours (dk d)) (by omega) (by omega) hvx.2.2.1
      have hb1 := burnt_bound f1 x.l1 (min x.hours (dk d)) (by omega) (by omega) hvx.2.2.2
      have hc (k d : Int) : 0 ≤ got2 b.comes k d ∧ got2 b.comes k d ≤ 240 := by
        have := comesN_bound hv b.orders.length (Nat.le_refl _) k d
        rw [comesN_all] at this
        have := valid_days hv; omega
      have hc0 := hc 0 d
      have hc1 := hc 1 d
      simp only [after1]
      omega
end Go.Pm.Cd

namespace Go.Pm.Cd
open Ac
set_option maxRecDepth 100000
set_option linter.unusedSimpArgs false
set_option linter.unusedSectionVars false
set_option linter.unusedVariables false

theorem span_fold (f : List Int → Int) : ∀ (ts : List (List Int)) (a : Int × Int), (∀ t, t ∈ ts → (ts.foldl (fun a t => (min a.1 (f t), max a.2 (f t))) a).1 ≤ f t ∧ f t ≤ (ts.foldl (fun a t => (min a.1 (f t), max a.2 (f t))) a).2) ∧
    (ts.foldl (fun a t => (min a.1 (f t), max a.2 (f t))) a).1 ≤ a.1 ∧ a.2 ≤ (ts.foldl (fun a t => (min a.1 (f t), max a.2 (f t))) a).2 ∧
    ((ts.foldl (fun a t => (min a.1 (f t), max a.2 (f t))) a).1 = a.1 ∨ ∃ t, t ∈ ts ∧ (ts.foldl (fun a t => (min a.1 (f t), max a.2 (f t))) a).1 = f t) ∧
    ((ts.foldl (fun a t => (min a.1 (f t), max a.2 (f t))) a).2 = a.2 ∨ ∃ t, t ∈ ts ∧ (ts.foldl (fun a t => (min a.1 (f t), max a.2 (f t))) a).2 = f t)
  | [], a => by simp
  | u :: ts, a => by
    obtain ⟨h1, h2, h3, h4, h5⟩ := span_fold f ts (min a.1 (f u), max a.2 (f u))
    simp only [List.foldl_cons]
    generalize List.foldl _ _ ts = r at h1 h2 h3 h4 h5 ⊢
    simp only at h2 h3 h4 h5
    refine ⟨?_, by clear h4 h5; omega, by clear h4 h5; omega, ?_, ?_⟩
    · clear h4 h5
      intro t ht
      rcases List.mem_cons.1 ht with rfl | ht
      · omega
      · exact h1 t ht
    · clear h5
      rcases h4 with h4 | ⟨t, ht, h4⟩
      · by_cases e : a.1 ≤ f u
        · exact .inl (by omega)
        · exact .inr ⟨u, by simp, by omega⟩
      · exact .inr ⟨t, by simp [ht], h4⟩
    · clear h4
      rcases h5 with h5 | ⟨t, ht, h5⟩
      · by_cases e : f u ≤ a.2
        · exact .inl (by omega)
        · exact .inr ⟨u, by simp, by omega⟩
      · exact .inr ⟨t, by simp [ht], h5⟩

theorem span_le (f : List Int → Int) (ts : List (List Int)) {t : List Int} (ht : t ∈ ts) : (spanOf f ts).1 ≤ f t ∧ f t ≤ (spanOf f ts).2 := by
  cases ts with
  | nil => cases ht
  | cons u ts => exact (span_fold f (u :: ts) (f u, f u)).1 t ht
theorem span_lo (f : List Int → Int) (ts : List (List Int)) (h : ts ≠ []) : ∃ t, t ∈ ts ∧ (spanOf f ts).1 = f t := by
  cases ts with
  | nil => exact absurd rfl h
  | cons u ts =>
    rcases (span_fold f (u :: ts) (f u, f u)).2.2.2.1 with h | h
    · exact ⟨u, by simp, h⟩
    · exact h
theorem span_hi (f : List Int → Int) (ts : List (List Int)) (h : ts ≠ []) : ∃ t, t ∈ ts ∧ (spanOf f ts).2 = f t := by
  cases ts with
  | nil => exact absurd rfl h
  | cons u ts =>
    rcases (span_fold f (u :: ts) (f u, f u)).2.2.2.2 with h | h
    · exact ⟨u, by simp, h⟩
    · exact h

theorem left_bound {b : Book} (hv : b.sane = true) {but : List Int} {t : List Int} (ht : t ∈ b.truths but) (kind day : Int) (hk : 0 ≤ kind ∧ kind ≤ 1) (hd : 0 ≤ day ∧ day < b.days.length) : -300 ≤ tLeft kind day t ∧ tLeft kind day t ≤ 1300 := by
  obtain ⟨n0, f0, n1, f1, dk, h0, h1, h2, h3, hG⟩ := truth_good hv ht
  have hvd := valid_days hv
  have hlt : day.toNat < b.days.length := by omega
  have hB := run_bound (n0 := n0) (f0 := f0) (n1 := n1) (f1 := f1) (dk := fun d => if d < b.days.length then dk d else 0) hv h0 h1 h2 h3 (fun d x hx => by
    have hd := (List.getElem?_eq_some_iff.1 hx).1
    rw [if_pos hd]; exact hG.dark d x hd hx) (day.toNat + 1)
  rw [run_agree b n0 f0 n1 f1 _ dk (day.toNat + 1) (fun e he => by rw [if_pos (by omega)])] at hB
  have ha := hG.a0 day.toNat hlt
  have hc := hG.a1 day.toNat hlt
  have hk' : kind = 0 ∨ kind = 1 := by omega
  rcases hk' with rfl | rfl
  · simp only [tLeft, Int.toNat_zero, Nat.add_zero]
    rw [ha]; omega
  · have e : 7 + day.toNat * 2 + (1 : Int).toNat = 7 + (day.toNat * 2 + 1) := by simp; omega
    simp only [tLeft]
    rw [e, hc]; omega

theorem span_bound {b : Book} (hv : b.sane = true) {but : List Int} (hts : b.truths but ≠ []) (kind day : Int) (hk : 0 ≤ kind ∧ kind ≤ 1) (hd : 0 ≤ day ∧ day < b.days.length) :
    (-300 ≤ (spanOf (tLeft kind day) (b.truths but)).1 ∧ (spanOf (tLeft kind day) (b.truths but)).1 ≤ 1300) ∧ (-300 ≤ (spanOf (tLeft kind day) (b.truths but)).2 ∧ (spanOf (tLeft kind day) (b.truths but)).2 ≤ 1300) := by
  obtain ⟨t, ht, e⟩ := span_lo (tLeft kind day) (b.truths but) hts
  obtain ⟨u, hu, e'⟩ := span_hi (tLeft kind day) (b.truths but) hts
  rw [e, e']
  exact ⟨left_bound hv ht kind day hk hd, left_bound hv hu kind day hk hd⟩

def Book.buyN (b : Book) (kind day : Int) (i : Nat) : Int := (List.range i).foldl (fun m (j : Nat) => max m (-(spanOf (tLeft kind (day + j)) (b.truths [])).1)) 0
def Book.buy (b : Book) (kind day : Int) : Int × Int :=
  if b.askE (isKind kind && b.isDay day) = 0 then (b.buyN kind day (b.days.length - day).toNat, 0) else (0, b.askE (isKind kind && b.isDay day))

section
variable {Γ : Env} [P06 Γ] [G06 Γ]

theorem buy_L0 (b : Book) [hb : b.Fits] (hv : b.sane = true) (ht : b.truths [] ≠ []) (kind day : Int) (hk : 0 ≤ kind ∧ kind ≤ 1) (hd : 0 ≤ day ∧ day ≤ b.days.length - 1) {β : Type} (Q : Ex → St → Option β) :
    E Γ candle_Buy_L0 ⟨[(1, vi kind), (3, .sc (.ptr 0 0)), (8, .sc (.ptr 1 0)), (10, vi 0), (11, vi day)], [.var b.c, .var (b.open13 [])]⟩ Q =
      Q (.exit 0) ⟨[(1, vi kind), (3, .sc (.ptr 0 0)), (8, .sc (.ptr 1 0)), (10, vi (b.buyN kind day (b.days.length - day).toNat)), (11, vi b.days.length), (32, vb false)], [.var b.c, .var (b.open13 [])]⟩ := by
  have hdl := valid_days hv
  refine E_countS (b.days.length - day).toNat (fun i (_ : Unit) => ⟨[(1, vi kind), (3, .sc (.ptr 0 0)), (8, .sc (.ptr 1 0)), (10, vi (b.buyN kind day i)), (11, vi (day + (i : Nat)))], [.var b.c, .var (b.open13 [])]⟩) (fun _ _ => True)
    (fun _ => (.exit 0, ⟨[(1, vi kind), (3, .sc (.ptr 0 0)), (8, .sc (.ptr 1 0)), (10, vi (b.buyN kind day (b.days.length - day).toNat)), (11, vi b.days.length), (32, vb false)], [.var b.c, .var (b.open13 [])]⟩)) () ?_ trivial ?_ ?_ ?_
  · simp [Book.buyN]
  · intro i _ hi _
    refine ⟨(), trivial, ?_⟩
    have hlt : day + (i : Int) < b.days.length := by omega
    have hS := left_k (Γ := Γ) b hv [] ht kind (day + (i : Nat)) hk (by omega)
    have hB := span_bound hv ht kind (day + (i : Nat)) hk (by omega)
    have hiw : IntKind.i64.wrap (day + (i : Int) + 1) = day + (i + 1 : Nat) := by rw [wrap_i64 (by omega) (by omega)]; omega
    have hnw : IntKind.i64.wrap (0 - (spanOf (tLeft kind (day + (i : Nat))) (b.truths [])).1) = -(spanOf (tLeft kind (day + (i : Nat))) (b.truths [])).1 := by rw [wrap_i64 (by omega) (by omega)]; omega
    have hN : b.buyN kind day (i + 1) = max (b.buyN kind day i) (-(spanOf (tLeft kind (day + (i : Nat))) (b.truths [])).1) := by simp [Book.buyN, List.range_succ]
    rw [hN]
    (simp only [go_sem, simprocAttr, candle_Buy_B0, hS, hiw, hnw]; repeat' (first | ((first | (refine br_yes (by omega) ?_) | (refine br_no (by omega) ?_) | (apply br_all; (· simp only [Bool.and_eq_true, decide_eq_true_eq]; omega)) | (apply br_free; (· simp [go_sem, Pm.acc, Acc.free, refsOf, offOf, keyEq, tagEq, cellsEq, cellEq]; done)) | ((first | apply br_mergeT | apply br_mergeF); (· intro h; simp only [go_sem, simprocAttr, sel_of h, candle_Buy_B0, hS, hiw, hnw]; exact rfl))); (try simp only [go_sem, simprocAttr, candle_Buy_B0, hS, hiw, hnw])) | ((first | apply onGuard_sel | (apply pickV_split; apply br_split) | apply br_split) <;> intro h <;> (try simp only [go_sem, simprocAttr, h, candle_Buy_B0, hS, hiw, hnw]))))
  · intro _ _
    have hm : day + ((b.days.length - day).toNat : Int) = b.days.length := by omega
    simp only [hm]
    (simp only [go_sem, simprocAttr, candle_Buy_B0]; repeat' (first | ((first | (refine br_yes (by omega) ?_) | (refine br_no (by omega) ?_) | (apply br_all; (· simp only [Bool.and_eq_true, decide_eq_true_eq]; omega)) | (apply br_free; (· simp [go_sem, Pm.acc, Acc.free, refsOf, offOf, keyEq, tagEq, cellsEq, cellEq]; done)) | ((first | apply br_mergeT | apply br_mergeF); (· intro h; simp only [go_sem, simprocAttr, sel_of h, candle_Buy_B0]; exact rfl))); (try simp only [go_sem, simprocAttr, candle_Buy_B0])) | ((first | apply onGuard_sel | (apply pickV_split; apply br_split) | apply br_split) <;> intro h <;> (try simp only [go_sem, simprocAttr, h, candle_Buy_B0]))))
  · intro _ _
    rfl

@[go_sem] theorem Buy_k (b : Book) [hb : b.Fits] (kind day : Int) : K Γ (.fn 17) [.agg b.c, vi kind, vi day] [] = some (.tup [vi (b.buy kind day).1, vi (b.buy kind day).2], []) := by
  rw [K_fn P06.f17 _ _ rfl]
  simp only [isKind, Book.isDay, Book.askE, Book.buy]
  rcases Bool.eq_false_or_eq_true b.valid with hv | hv
  rotate_left
  · have hA (is : Bool) := asked_bad (Γ := Γ) b hv is
    simp only [Z13] at hA
    (simp only [go_sem, simprocAttr, candle_Buy, hA, hv, Bool.false_eq_true]; repeat' (first | ((first | (refine br_yes (by omega) ?_) | (refine br_no (by omega) ?_) | (apply br_all; (· simp only [Bool.and_eq_true, decide_eq_true_eq]; omega)) | (apply br_free; (· simp [go_sem, Pm.acc, Acc.free, refsOf, offOf, keyEq, tagEq, cellsEq, cellEq]; done)) | ((first | apply br_mergeT | apply br_mergeF); (· intro h; simp only [go_sem, simprocAttr, sel_of h, candle_Buy, hA, hv, Bool.false_eq_true]; exact rfl))); (try simp only [go_sem, simprocAttr, candle_Buy, hA, hv, Bool.false_eq_true])) | ((first | apply onGuard_sel | (apply pickV_split; apply br_split) | apply br_split) <;> intro h <;> (try simp only [go_sem, simprocAttr, h, candle_Buy, hA, hv, Bool.false_eq_true]))))
  · have hA := asked_ask (Γ := Γ) b hv
    simp only [Z13] at hA
    rcases Bool.eq_false_or_eq_true (within kind 0 1) with hk | hk
    rotate_left
    · (simp only [go_sem, simprocAttr, candle_Buy, hA, hv, hk, Bool.false_and, Bool.false_eq_true]; repeat' (first | ((first | (refine br_yes (by omega) ?_) | (refine br_no (by omega) ?_) | (apply br_all; (· simp only [Bool.and_eq_true, decide_eq_true_eq]; omega)) | (apply br_free; (· simp [go_sem, Pm.acc, Acc.free, refsOf, offOf, keyEq, tagEq, cellsEq, cellEq]; done)) | ((first | apply br_mergeT | apply br_mergeF); (· intro h; simp only [go_sem, simprocAttr, sel_of h, candle_Buy, hA, hv, hk, Bool.false_and, Bool.false_eq_true]; exact rfl))); (try simp only [go_sem, simprocAttr, candle_Buy, hA, hv, hk, Bool.false_and, Bool.false_eq_true])) | ((first | apply onGuard_sel | (apply pickV_split; apply br_split) | apply br_split) <;> intro h <;> (try simp only [go_sem, simprocAttr, h, candle_Buy, hA, hv, hk, Bool.false_and, Bool.false_eq_true]))))
    · rcases Bool.eq_false_or_eq_true (within day 0 (b.days.length - 1)) with hd | hd
      rotate_left
      · (simp only [go_sem, simprocAttr, candle_Buy, hA, hv, hk, hd, Bool.false_eq_true]; repeat' (first | ((first | (refine br_yes (by omega) ?_) | (refine br_no (by omega) ?_) | (apply br_all; (· simp only [Bool.and_eq_true, decide_eq_true_eq]; omega)) | (apply br_free; (· simp [go_sem, Pm.acc, Acc.free, refsOf, offOf, keyEq, tagEq, cellsEq, cellEq]; done)) | ((first | apply br_mergeT | apply br_mergeF); (· intro h; simp only [go_sem, simprocAttr, sel_of h, candle_Buy, hA, hv, hk, hd, Bool.false_eq_true]; exact rfl))); (try simp only [go_sem, simprocAttr, candle_Buy, hA, hv, hk, hd, Bool.false_eq_true])) | ((first | apply onGuard_sel | (apply pickV_split; apply br_split) | apply br_split) <;> intro h <;> (try simp only [go_sem, simprocAttr, h, candle_Buy, hA, hv, hk, hd, Bool.false_eq_true]))))
      · have hk' := (within_iff _ _ _).1 hk
        have hd' := (within_iff _ _ _).1 hd
        by_cases ht : b.truths [] = []
        · have hN := asked_no (Γ := Γ) b hv ht
          (simp only [go_sem, simprocAttr, candle_Buy, hN, hv, hk, hd, ht]; repeat' (first | ((first | (refine br_yes (by omega) ?_) | (refine br_no (by omega) ?_) | (apply br_all; (· simp only [Bool.and_eq_true, decide_eq_true_eq]; omega)) | (apply br_free; (· simp [go_sem, Pm.acc, Acc.free, refsOf, offOf, keyEq, tagEq, cellsEq, cellEq]; done)) | ((first | apply br_mergeT | apply br_mergeF); (· intro h; simp only [go_sem, simprocAttr, sel_of h, candle_Buy, hN, hv, hk, hd, ht]; exact rfl))); (try simp only [go_sem, simprocAttr, candle_Buy, hN, hv, hk, hd, ht])) | ((first | apply onGuard_sel | (apply pickV_split; apply br_split) | apply br_split) <;> intro h <;> (try simp only [go_sem, simprocAttr, h, candle_Buy, hN, hv, hk, hd, ht]))))
        · have hN := asked_ok (Γ := Γ) b hv ht
          have hL {β : Type} (Q : Ex → St → Option β) := buy_L0 (Γ := Γ) b (sane_of_valid hv) ht kind day hk' hd' Q
          (simp only [go_sem, simprocAttr, candle_Buy, hN, hv, hk, hd, ht, hL]; repeat' (first | ((first | (refine br_yes (by omega) ?_) | (refine br_no (by omega) ?_) | (apply br_all; (· simp only [Bool.and_eq_true, decide_eq_true_eq]; omega)) | (apply br_free; (· simp [go_sem, Pm.acc, Acc.free, refsOf, offOf, keyEq, tagEq, cellsEq, cellEq]; done)) | ((first | apply br_mergeT | apply br_mergeF); (· intro h; simp only [go_sem, simprocAttr, sel_of h, candle_Buy, hN, hv, hk, hd, ht, hL]; exact rfl))); (try simp only [go_sem, simprocAttr, candle_Buy, hN, hv, hk, hd, ht, hL])) | ((first | apply onGuard_sel | (apply pickV_split; apply br_split) | apply br_split) <;> intro h <;> (try simp only [go_sem, simprocAttr, h, candle_Buy, hN, hv, hk, hd, ht, hL]))))
end
end Go.Pm.Cd

namespace Go.Pm.Cd
open Ac
set_option maxRecDepth 100000
set_option linter.unusedSimpArgs false
set_option linter.unusedSectionVars false
set_option linter.unusedVariables false

def turn (n below : Int) : Int := if below < 1 then 0 else if n.tmod below < 0 then n.tmod below + below else n.tmod below
theorem turn_lt (n below : Int) (h : 1 ≤ below) : 0 ≤ turn n below ∧ turn n below < below := by
  have h1 := Int.tmod_lt_of_pos n (show 0 < below by omega)
  have h2 : -below < n.tmod below := by
    have := Int.tmod_lt_of_pos (-n) (show 0 < below by omega)
    rw [Int.neg_tmod] at this; omega
  unfold turn
  rw [if_neg (by omega)]
  split <;> omega
def nth (l : List Int) (n : Int) : Int := if l = [] then 0 else l.getD (turn n l.length).toNat 0
def drawn (s : Span) (n : Int) : Int := s.lo + turn n (s.hi - s.lo + 1)

section
variable {Γ : Env} [P06 Γ] [G06 Γ]

@[go_sem] theorem Lies_k (a b c : Int) : K Γ (.fn 29) [vi a, vi b, vi c] [] = some (vb (within a b c), []) := by
  rw [K_fn P06.f29 _ _ rfl]
  (simp only [go_sem, simprocAttr, decaniref00_Lies]; repeat' (first | ((first | (refine br_yes (by omega) ?_) | (refine br_no (by omega) ?_) | (apply br_all; (· simp only [Bool.and_eq_true, decide_eq_true_eq]; omega)) | (apply br_free; (· simp [go_sem, Pm.acc, Acc.free, refsOf, offOf, keyEq, tagEq, cellsEq, cellEq]; done)) | ((first | apply br_mergeT | apply br_mergeF); (· intro h; simp only [go_sem, simprocAttr, sel_of h, decaniref00_Lies]; exact rfl))); (try simp only [go_sem, simprocAttr, decaniref00_Lies])) | ((first | apply onGuard_sel | (apply pickV_split; apply br_split) | apply br_split) <;> intro h <;> (try simp only [go_sem, simprocAttr, h, decaniref00_Lies]))))
  all_goals (simp_all [within]; try (intros; omega))
@[go_sem] theorem Bounds_k (a b : Int) : K Γ (.fn 33) [vi a, vi b] [] = some (.agg [ci a, ci b], []) := by
  rw [K_fn P06.f33 _ _ rfl]
  (simp only [go_sem, simprocAttr, decaniref00_Bounds]; repeat' (first | ((first | (refine br_yes (by omega) ?_) | (refine br_no (by omega) ?_) | (apply br_all; (· simp only [Bool.and_eq_true, decide_eq_true_eq]; omega)) | (apply br_free; (· simp [go_sem, Pm.acc, Acc.free, refsOf, offOf, keyEq, tagEq, cellsEq, cellEq]; done)) | ((first | apply br_mergeT | apply br_mergeF); (· intro h; simp only [go_sem, simprocAttr, sel_of h, decaniref00_Bounds]; exact rfl))); (try simp only [go_sem, simprocAttr, decaniref00_Bounds])) | ((first | apply onGuard_sel | (apply pickV_split; apply br_split) | apply br_split) <;> intro h <;> (try simp only [go_sem, simprocAttr, h, decaniref00_Bounds]))))
@[go_sem] theorem Only_k (a : Int) : K Γ (.fn 30) [vi a] [] = some (.agg [ci a, ci a], []) := by
  rw [K_fn P06.f30 _ _ rfl]
  (simp only [go_sem, simprocAttr, decaniref00_Only]; repeat' (first | ((first | (refine br_yes (by omega) ?_) | (refine br_no (by omega) ?_) | (apply br_all; (· simp only [Bool.and_eq_true, decide_eq_true_eq]; omega)) | (apply br_free; (· simp [go_sem, Pm.acc, Acc.free, refsOf, offOf, keyEq, tagEq, cellsEq, cellEq]; done)) | ((first | apply br_mergeT | apply br_mergeF); (· intro h; simp only [go_sem, simprocAttr, sel_of h, decaniref00_Only]; exact rfl))); (try simp only [go_sem, simprocAttr, decaniref00_Only])) | ((first | apply onGuard_sel | (apply pickV_split; apply br_split) | apply br_split) <;> intro h <;> (try simp only [go_sem, simprocAttr, h, decaniref00_Only]))))
@[go_sem] theorem Covers_k (a b n : Int) : K Γ (.fn 28) [.agg [ci a, ci b], vi n] [] = some (vb (within n a b), []) := by
  rw [K_fn P06.f28 _ _ rfl]
  (simp only [go_sem, simprocAttr, decaniref00_Covers]; repeat' (first | ((first | (refine br_yes (by omega) ?_) | (refine br_no (by omega) ?_) | (apply br_all; (· simp only [Bool.and_eq_true, decide_eq_true_eq]; omega)) | (apply br_free; (· simp [go_sem, Pm.acc, Acc.free, refsOf, offOf, keyEq, tagEq, cellsEq, cellEq]; done)) | ((first | apply br_mergeT | apply br_mergeF); (· intro h; simp only [go_sem, simprocAttr, sel_of h, decaniref00_Covers]; exact rfl))); (try simp only [go_sem, simprocAttr, decaniref00_Covers])) | ((first | apply onGuard_sel | (apply pickV_split; apply br_split) | apply br_split) <;> intro h <;> (try simp only [go_sem, simprocAttr, h, decaniref00_Covers]))))
theorem Fair_k (s : Span) (low high wide : Int) (hl : 0 ≤ low) (hh : high ≤ 1000) :
    K Γ (.fn 49) [.agg [ci s.lo, ci s.hi], vi low, vi high, vi wide] [] = some (vb (s.is low high wide), []) := by
  rw [K_fn P06.f49 _ _ rfl]
  (simp only [go_sem, simprocAttr, decaniref00_Fair]; repeat' (first | ((first | (refine br_yes (by omega) ?_) | (refine br_no (by omega) ?_) | (apply br_all; (· simp only [Bool.and_eq_true, decide_eq_true_eq]; omega)) | (apply br_free; (· simp [go_sem, Pm.acc, Acc.free, refsOf, offOf, keyEq, tagEq, cellsEq, cellEq]; done)) | ((first | apply br_mergeT | apply br_mergeF); (· intro h; simp only [go_sem, simprocAttr, sel_of h, decaniref00_Fair]; exact rfl))); (try simp only [go_sem, simprocAttr, decaniref00_Fair])) | ((first | apply onGuard_sel | (apply pickV_split; apply br_split) | apply br_split) <;> intro h <;> (try simp only [go_sem, simprocAttr, h, decaniref00_Fair]))))
  by_cases h : low ≤ s.lo ∧ s.lo ≤ s.hi ∧ s.hi ≤ high
  · rw [wrap_i64 (by omega) (by omega)]; rfl
  · simp only [Span.is]
    have e : (decide (low ≤ s.lo) && decide (s.lo ≤ s.hi) && decide (s.hi ≤ high)) = false := by
      rw [Bool.eq_false_iff]; intro e; simp only [Bool.and_eq_true, decide_eq_true_eq] at e; omega
    simp only [e, Bool.false_and]
@[go_sem] theorem Fair_k1 (s : Span) : K Γ (.fn 49) [.agg [ci s.lo, ci s.hi], vi 0, vi 60, vi 2] [] = some (vb (s.is 0 60 2), []) := Fair_k s _ _ _ (by decide) (by decide)
@[go_sem] theorem Fair_k2 (s : Span) : K Γ (.fn 49) [.agg [ci s.lo, ci s.hi], vi 1, vi 6, vi 1] [] = some (vb (s.is 1 6 1), []) := Fair_k s _ _ _ (by decide) (by decide)
@[go_sem] theorem Fair_k3 (s : Span) : K Γ (.fn 49) [.agg [ci s.lo, ci s.hi], vi 0, vi 6, vi 2] [] = some (vb (s.is 0 6 2), []) := Fair_k s _ _ _ (by decide) (by decide)

@[go_sem] theorem Turn_k (n below : Int) (hb : below ≤ 1000000) : K Γ (.fn 27) [vi n, vi below] [] = some (vi (turn n below), []) := by
  rw [K_fn P06.f27 _ _ rfl]
  by_cases h : below < 1
  · have hd := decide_eq_true h
    (simp only [go_sem, simprocAttr, decaniref00_Turn, hd, turn, h]; repeat' (first | ((first | (refine br_yes (by omega) ?_) | (refine br_no (by omega) ?_) | (apply br_all; (· simp only [Bool.and_eq_true, decide_eq_true_eq]; omega)) | (apply br_free; (· simp [go_sem, Pm.acc, Acc.free, refsOf, offOf, keyEq, tagEq, cellsEq, cellEq]; done)) | ((first | apply br_mergeT | apply br_mergeF); (· intro h; simp only [go_sem, simprocAttr, sel_of h, decaniref00_Turn, hd, turn, h]; exact rfl))); (try simp only [go_sem, simprocAttr, decaniref00_Turn, hd, turn, h])) | ((first | apply onGuard_sel | (apply pickV_split; apply br_split) | apply br_split) <;> intro h <;> (try simp only [go_sem, simprocAttr, h, decaniref00_Turn, hd, turn, h]))))
  · have hd := decide_eq_false h
    have hz : decide (below = 0) = false := decide_eq_false (by omega)
    have h1 := Int.tmod_lt_of_pos n (show 0 < below by omega)
    have h2 : -below < n.tmod below := by
      have := Int.tmod_lt_of_pos (-n) (show 0 < below by omega)
      rw [Int.neg_tmod] at this; omega
    have hw : IntKind.i64.wrap (n.tmod below + below) = n.tmod below + below := wrap_i64 (by omega) (by omega)
    by_cases hneg : n.tmod below < 0
    · have hd2 := decide_eq_true hneg
      (simp only [go_sem, simprocAttr, decaniref00_Turn, hd, hz, hd2, hw, turn, h, hneg]; repeat' (first | ((first | (refine br_yes (by omega) ?_) | (refine br_no (by omega) ?_) | (apply br_all; (· simp only [Bool.and_eq_true, decide_eq_true_eq]; omega)) | (apply br_free; (· simp [go_sem, Pm.acc, Acc.free, refsOf, offOf, keyEq, tagEq, cellsEq, cellEq]; done)) | ((first | apply br_mergeT | apply br_mergeF); (· intro h; simp only [go_sem, simprocAttr, sel_of h, decaniref00_Turn, hd, hz, hd2, hw, turn, h, hneg]; exact rfl))); (try simp only [go_sem, simprocAttr, decaniref00_Turn, hd, hz, hd2, hw, turn, h, hneg])) | ((first | apply onGuard_sel | (apply pickV_split; apply br_split) | apply br_split) <;> intro h <;> (try simp only [go_sem, simprocAttr, h, decaniref00_Turn, hd, hz, hd2, hw, turn, h, hneg]))))
    · have hd2 := decide_eq_false hneg
      (simp only [go_sem, simprocAttr, decaniref00_Turn, hd, hz, hd2, hw, turn, h, hneg]; repeat' (first | ((first | (refine br_yes (by omega) ?_) | (refine br_no (by omega) ?_) | (apply br_all; (· simp only [Bool.and_eq_true, decide_eq_true_eq]; omega)) | (apply br_free; (· simp [go_sem, Pm.acc, Acc.free, refsOf, offOf, keyEq, tagEq, cellsEq, cellEq]; done)) | ((first | apply br_mergeT | apply br_mergeF); (· intro h; simp only [go_sem, simprocAttr, sel_of h, decaniref00_Turn, hd, hz, hd2, hw, turn, h, hneg]; exact rfl))); (try simp only [go_sem, simprocAttr, decaniref00_Turn, hd, hz, hd2, hw, turn, h, hneg])) | ((first | apply onGuard_sel | (apply pickV_split; apply br_split) | apply br_split) <;> intro h <;> (try simp only [go_sem, simprocAttr, h, decaniref00_Turn, hd, hz, hd2, hw, turn, h, hneg]))))

@[go_sem] theorem Nth_k (k : SK) (l : List Int) (n : Int) (hl : l.length ≤ 1000000) : K Γ (.fn 63) [.sc (.sl k 1 (l.map fun x => [ci x])), vi n] [] = some (vi (nth l n), []) := by
  rw [K_fn P06.f63 _ _ rfl]
  by_cases h : l = []
  · subst h
    (simp only [go_sem, simprocAttr, decaniref00_Nth, nth, List.map_nil, List.length_nil]; repeat' (first | ((first | (refine br_yes (by omega) ?_) | (refine br_no (by omega) ?_) | (apply br_all; (· simp only [Bool.and_eq_true, decide_eq_true_eq]; omega)) | (apply br_free; (· simp [go_sem, Pm.acc, Acc.free, refsOf, offOf, keyEq, tagEq, cellsEq, cellEq]; done)) | ((first | apply br_mergeT | apply br_mergeF); (· intro h; simp only [go_sem, simprocAttr, sel_of h, decaniref00_Nth, nth, List.map_nil, List.length_nil]; exact rfl))); (try simp only [go_sem, simprocAttr, decaniref00_Nth, nth, List.map_nil, List.length_nil])) | ((first | apply onGuard_sel | (apply pickV_split; apply br_split) | apply br_split) <;> intro h <;> (try simp only [go_sem, simprocAttr, h, decaniref00_Nth, nth, List.map_nil, List.length_nil]))))
  · have hp : l.length ≠ 0 := fun e => h (List.length_eq_zero_iff.1 e)
    have hz : decide ((l.length : Int) = 0) = false := decide_eq_false (by omega)
    have ht := turn_lt n l.length (by omega)
    have hg : l[(turn n l.length).toNat]? = some (l.getD (turn n l.length).toNat 0) := by
      simp only [List.getD, List.getElem?_eq_getElem (show (turn n l.length).toNat < l.length by omega), Option.getD_some]
    have hle : (l.length : Int) ≤ 1000000 := by omega
    (simp only [go_sem, simprocAttr, decaniref00_Nth, hz, hle, hg, nth, h]; repeat' (first | ((first | (refine br_yes (by omega) ?_) | (refine br_no (by omega) ?_) | (apply br_all; (· simp only [Bool.and_eq_true, decide_eq_true_eq]; omega)) | (apply br_free; (· simp [go_sem, Pm.acc, Acc.free, refsOf, offOf, keyEq, tagEq, cellsEq, cellEq]; done)) | ((first | apply br_mergeT | apply br_mergeF); (· intro h; simp only [go_sem, simprocAttr, sel_of h, decaniref00_Nth, hz, hle, hg, nth, h]; exact rfl))); (try simp only [go_sem, simprocAttr, decaniref00_Nth, hz, hle, hg, nth, h])) | ((first | apply onGuard_sel | (apply pickV_split; apply br_split) | apply br_split) <;> intro h <;> (try simp only [go_sem, simprocAttr, h, decaniref00_Nth, hz, hle, hg, nth, h]))))

@[go_sem] theorem Draw_k (s : Span) (n : Int) (hs : -1000 ≤ s.lo ∧ s.lo ≤ 1000) (hh : -1000 ≤ s.hi ∧ s.hi ≤ 1000) : K Γ (.fn 64) [.agg [ci s.lo, ci s.hi], vi n] [] = some (vi (drawn s n), []) := by
  have hw : IntKind.i64.wrap (IntKind.i64.wrap (s.hi - s.lo) + 1) = s.hi - s.lo + 1 := by
    rw [wrap_i64 (x := s.hi - s.lo) (by omega) (by omega), wrap_i64 (by omega) (by omega)]
  have hle : s.hi - s.lo + 1 ≤ 1000000 := by omega
  have hb : -10000 ≤ turn n (s.hi - s.lo + 1) ∧ turn n (s.hi - s.lo + 1) ≤ 10000 := by
    by_cases h : 1 ≤ s.hi - s.lo + 1
    · have := turn_lt n _ h; omega
    · simp only [turn, if_pos (show s.hi - s.lo + 1 < 1 by omega)]; omega
  have hw2 : IntKind.i64.wrap (s.lo + turn n (s.hi - s.lo + 1)) = s.lo + turn n (s.hi - s.lo + 1) := wrap_i64 (by omega) (by omega)
  rw [K_fn P06.f64 _ _ rfl]
  (simp only [go_sem, simprocAttr, decaniref00_Draw, hw, hle, hw2, drawn]; repeat' (first | ((first | (refine br_yes (by omega) ?_) | (refine br_no (by omega) ?_) | (apply br_all; (· simp only [Bool.and_eq_true, decide_eq_true_eq]; omega)) | (apply br_free; (· simp [go_sem, Pm.acc, Acc.free, refsOf, offOf, keyEq, tagEq, cellsEq, cellEq]; done)) | ((first | apply br_mergeT | apply br_mergeF); (· intro h; simp only [go_sem, simprocAttr, sel_of h, decaniref00_Draw, hw, hle, hw2, drawn]; exact rfl))); (try simp only [go_sem, simprocAttr, decaniref00_Draw, hw, hle, hw2, drawn])) | ((first | apply onGuard_sel | (apply pickV_split; apply br_split) | apply br_split) <;> intro h <;> (try simp only [go_sem, simprocAttr, h, decaniref00_Draw, hw, hle, hw2, drawn]))))

def litB (k : SK) (cs : List Count) : Book := ⟨⟨10, 11⟩, ⟨30, 30⟩, ⟨2, 3⟩, ⟨4, 4⟩, .full, [⟨4, ⟨3, 4⟩, 2, 6⟩, ⟨3, ⟨5, 5⟩, 2, 6⟩, ⟨6, ⟨4, 6⟩, 4, 6⟩], .full, [⟨2, 0, 4⟩], k, cs⟩
@[go_sem] theorem book_k (k : SK) (cs : List Count) : K Γ (.fn 39) [.sc (.sl k 4 (cs.map Count.c))] [] = some (.agg (litB k cs).c, []) := by
  rw [K_fn P06.f39 _ _ rfl]
  (simp only [go_sem, simprocAttr, decanilaw06_book]; repeat' (first | ((first | (refine br_yes (by omega) ?_) | (refine br_no (by omega) ?_) | (apply br_all; (· simp only [Bool.and_eq_true, decide_eq_true_eq]; omega)) | (apply br_free; (· simp [go_sem, Pm.acc, Acc.free, refsOf, offOf, keyEq, tagEq, cellsEq, cellEq]; done)) | ((first | apply br_mergeT | apply br_mergeF); (· intro h; simp only [go_sem, simprocAttr, sel_of h, decanilaw06_book]; exact rfl))); (try simp only [go_sem, simprocAttr, decanilaw06_book])) | ((first | apply onGuard_sel | (apply pickV_split; apply br_split) | apply br_split) <;> intro h <;> (try simp only [go_sem, simprocAttr, h, decanilaw06_book]))))
  rfl
@[go_sem] theorem book_nil_k (k : SK) : K Γ (.fn 39) [.sc (.sl k 4 [])] [] = some (.agg (litB k []).c, []) := book_k k []
@[go_sem] theorem own_k : K Γ (.fn 38) [] [] = some (.agg (litB .nil []).c, []) := by
  rw [K_fn P06.f38 _ _ rfl]
  (simp only [go_sem, simprocAttr, decanilaw06_own]; repeat' (first | ((first | (refine br_yes (by omega) ?_) | (refine br_no (by omega) ?_) | (apply br_all; (· simp only [Bool.and_eq_true, decide_eq_true_eq]; omega)) | (apply br_free; (· simp [go_sem, Pm.acc, Acc.free, refsOf, offOf, keyEq, tagEq, cellsEq, cellEq]; done)) | ((first | apply br_mergeT | apply br_mergeF); (· intro h; simp only [go_sem, simprocAttr, sel_of h, decanilaw06_own]; exact rfl))); (try simp only [go_sem, simprocAttr, decanilaw06_own])) | ((first | apply onGuard_sel | (apply pickV_split; apply br_split) | apply br_split) <;> intro h <;> (try simp only [go_sem, simprocAttr, h, decanilaw06_own]))))
def cnt8 : Count := ⟨0, 0, 8, 0⟩
def cnt3 : Count := ⟨1, 0, 3, 0⟩
@[go_sem] theorem counted_k : K Γ (.fn 41) [] [] = some (.agg (litB .full [cnt8]).c, []) := by
  have h : K Γ (.fn 39) [.sc (.sl .full 4 [[ci 0, ci 0, ci 8, ci 0]])] [] = some (.agg (litB .full [cnt8]).c, []) := book_k .full [cnt8]
  rw [K_fn P06.f41 _ _ rfl]
  (simp only [go_sem, simprocAttr, decanilaw06_counted, h]; repeat' (first | ((first | (refine br_yes (by omega) ?_) | (refine br_no (by omega) ?_) | (apply br_all; (· simp only [Bool.and_eq_true, decide_eq_true_eq]; omega)) | (apply br_free; (· simp [go_sem, Pm.acc, Acc.free, refsOf, offOf, keyEq, tagEq, cellsEq, cellEq]; done)) | ((first | apply br_mergeT | apply br_mergeF); (· intro h; simp only [go_sem, simprocAttr, sel_of h, decanilaw06_counted, h]; exact rfl))); (try simp only [go_sem, simprocAttr, decanilaw06_counted, h])) | ((first | apply onGuard_sel | (apply pickV_split; apply br_split) | apply br_split) <;> intro h <;> (try simp only [go_sem, simprocAttr, h, decanilaw06_counted, h]))))
@[go_sem] theorem torn_k : K Γ (.fn 40) [] [] = some (.agg (litB .full [cnt8, cnt3]).c, []) := by
  have h : K Γ (.fn 39) [.sc (.sl .full 4 [[ci 0, ci 0, ci 8, ci 0], [ci 1, ci 0, ci 3, ci 0]])] [] = some (.agg (litB .full [cnt8, cnt3]).c, []) := book_k .full [cnt8, cnt3]
  rw [K_fn P06.f40 _ _ rfl]
  (simp only [go_sem, simprocAttr, decanilaw06_torn, h]; repeat' (first | ((first | (refine br_yes (by omega) ?_) | (refine br_no (by omega) ?_) | (apply br_all; (· simp only [Bool.and_eq_true, decide_eq_true_eq]; omega)) | (apply br_free; (· simp [go_sem, Pm.acc, Acc.free, refsOf, offOf, keyEq, tagEq, cellsEq, cellEq]; done)) | ((first | apply br_mergeT | apply br_mergeF); (· intro h; simp only [go_sem, simprocAttr, sel_of h, decanilaw06_torn, h]; exact rfl))); (try simp only [go_sem, simprocAttr, decanilaw06_torn, h])) | ((first | apply onGuard_sel | (apply pickV_split; apply br_split) | apply br_split) <;> intro h <;> (try simp only [go_sem, simprocAttr, h, decanilaw06_torn, h]))))
end
end Go.Pm.Cd

namespace Go.Pm.Cd
open Ac
set_option maxRecDepth 100000
set_option linter.unusedSimpArgs false
set_option linter.unusedSectionVars false
set_option linter.unusedVariables false

instance fits_own (k : SK) : (litB k []).Fits := ⟨by simp [litB], by simp [litB], by simp [litB]⟩
instance fits_counted (k : SK) (x : Count) : (litB k [x]).Fits := ⟨by simp [litB], by simp [litB], by simp [litB]⟩
instance fits_torn (k : SK) (x y : Count) : (litB k [x, y]).Fits := ⟨by simp [litB], by simp [litB], by simp [litB]⟩
def dimB : Book := { litB .nil [] with s1 := ⟨5, 5⟩ }
instance fits_dim : dimB.Fits := ⟨by simp [dimB, litB], by simp [dimB, litB], by simp [dimB, litB]⟩

section
variable {Γ : Env} [P06 Γ] [G06 Γ]

theorem lit_left0 : K Γ (.fn 6) [.agg (litB .nil []).c, vi 0, vi 2] [] = some (.tup [.agg [ci (-6), ci 3], vi 0], []) := by
  have e : told ((litB .nil []).askE (isKind 0 && (litB .nil []).isDay 2)) (spanOf (tLeft 0 2) ((litB .nil []).truths [])) = (-6, 3) := by decide +kernel
  have a : (litB .nil []).askE (isKind 0 && (litB .nil []).isDay 2) = 0 := by decide +kernel
  rw [Left_k, e, a]
theorem lit_left1 : K Γ (.fn 6) [.agg (litB .nil []).c, vi 1, vi 2] [] = some (.tup [.agg [ci 6, ci 12], vi 0], []) := by
  have e : told ((litB .nil []).askE (isKind 1 && (litB .nil []).isDay 2)) (spanOf (tLeft 1 2) ((litB .nil []).truths [])) = (6, 12) := by decide +kernel
  have a : (litB .nil []).askE (isKind 1 && (litB .nil []).isDay 2) = 0 := by decide +kernel
  rw [Left_k, e, a]
theorem lit_life : K Γ (.fn 8) [.agg (litB .full [cnt8]).c, vi 0] [] = some (.tup [.agg [ci 3, ci 3], vi 0], []) := by
  have e : told ((litB .full [cnt8]).askE (isKind 0)) (spanOf (tLife 0) ((litB .full [cnt8]).truths [])) = (3, 3) := by decide +kernel
  have a : (litB .full [cnt8]).askE (isKind 0) = 0 := by decide +kernel
  rw [Life_k, e, a]
theorem lit_dark : K Γ (.fn 10) [.agg (litB .full [cnt8]).c, vi 0] [] = some (.tup [.agg [ci 3, ci 3], vi 0], []) := by
  have e : told ((litB .full [cnt8]).askE ((litB .full [cnt8]).isDay 0)) (spanOf (tDark 0) ((litB .full [cnt8]).truths [])) = (3, 3) := by decide +kernel
  have a : (litB .full [cnt8]).askE ((litB .full [cnt8]).isDay 0) = 0 := by decide +kernel
  rw [Dark_k, e, a]
theorem lit_short : K Γ (.fn 13) [.agg (litB .nil []).c, vi 0] [] = some (.tup [vi 2, vi 0], []) := by
  have e : (litB .nil []).short 0 = (2, 0) := by decide +kernel
  rw [Short_k, e]
theorem lit_buy : K Γ (.fn 17) [.agg (litB .nil []).c, vi 0, vi 2] [] = some (.tup [vi 6, vi 0], []) := by
  have e : (litB .nil []).buy 0 2 = (6, 0) := by decide +kernel
  rw [Buy_k, e]
theorem lit_fits : K Γ (.fn 19) [.agg (litB .nil []).c, .agg [ci 0, ci 0, ci 5, ci 1]] [] = some (.tup [vb true, vi 0], []) := by
  have e : (litB .nil []).fits ⟨0, 0, 5, 1⟩ = (true, 0) := by decide +kernel
  have := Fits_k (Γ := Γ) (litB .nil []) ⟨0, 0, 5, 1⟩
  rw [e] at this; exact this
theorem lit_wrong : K Γ (.fn 21) [.agg (litB .full [cnt8, cnt3]).c] [] = some (.tup [.sc (.sl .full 1 [[ci 0]]), vi 0], []) := by
  have e : (litB .full [cnt8, cnt3]).wrong = ([0], 0) := by decide +kernel
  have e2 : wrongK (litB .full [cnt8, cnt3]) = .full := by decide +kernel
  rw [Wrong_k, e, e2]; rfl
theorem lit_right : K Γ (.fn 2) [.agg (litB .nil []).c] [] = some (.tup [vb true, vi 0], []) := by
  have e : ((litB .nil []).valid && decide ((litB .nil []).truths [] ≠ [])) = true := by decide +kernel
  have a : (if (litB .nil []).valid then (0 : Int) else 60) = 0 := by decide +kernel
  rw [Right_k, e, a]
theorem lit_dim : K Γ (.fn 15) [.agg dimB.c, vi 1] [] = some (.tup [vi 0, vi 0], []) := by
  have e : dimB.surely 1 = (0, 0) := by decide +kernel
  rw [Surely_k, e]
theorem equal_00 (k k' : SK) : K Γ (.fn 23) [.sc (.sl k 1 [[ci 0]]), .sc (.sl k' 1 [[ci 0]])] [] = some (vb true, []) := by
  rw [K_fn P06.f23 _ _ rfl]
  (simp only [go_sem, simprocAttr, decaniref00_Equal, decaniref00_Equal_L0, decaniref00_Equal_B0, E_loop, List.length_cons, List.length_nil, List.getElem?_cons_zero]; repeat' (first | ((first | (refine br_yes (by omega) ?_) | (refine br_no (by omega) ?_) | (apply br_all; (· simp only [Bool.and_eq_true, decide_eq_true_eq]; omega)) | (apply br_free; (· simp [go_sem, Pm.acc, Acc.free, refsOf, offOf, keyEq, tagEq, cellsEq, cellEq]; done)) | ((first | apply br_mergeT | apply br_mergeF); (· intro h; simp only [go_sem, simprocAttr, sel_of h, decaniref00_Equal, decaniref00_Equal_L0, decaniref00_Equal_B0, E_loop, List.length_cons, List.length_nil, List.getElem?_cons_zero]; exact rfl))); (try simp only [go_sem, simprocAttr, decaniref00_Equal, decaniref00_Equal_L0, decaniref00_Equal_B0, E_loop, List.length_cons, List.length_nil, List.getElem?_cons_zero])) | ((first | apply onGuard_sel | (apply pickV_split; apply br_split) | apply br_split) <;> intro h <;> (try simp only [go_sem, simprocAttr, h, decaniref00_Equal, decaniref00_Equal_L0, decaniref00_Equal_B0, E_loop, List.length_cons, List.length_nil, List.getElem?_cons_zero]))))

theorem own_set : setAll (litB .nil []).c 2 [ci 5, ci 5] = dimB.c := rfl
theorem own_set' : ((litB .nil []).c.set 2 (ci 5)).set 3 (ci 5) = dimB.c := rfl

@[go_sem] theorem lit_k : K Γ (.fn 12) [] [] = some (vb true, []) := by
  rw [K_fn P06.f12 _ _ rfl]
  (simp only [go_sem, simprocAttr, decanilaw06_lit, lit_left0, lit_left1, lit_life, lit_dark, lit_short, lit_buy, lit_fits, lit_wrong, lit_right, lit_dim, equal_00, own_set, own_set', keyEq2]; repeat' (first | ((first | (refine br_yes (by omega) ?_) | (refine br_no (by omega) ?_) | (apply br_all; (· simp only [Bool.and_eq_true, decide_eq_true_eq]; omega)) | (apply br_free; (· simp [go_sem, Pm.acc, Acc.free, refsOf, offOf, keyEq, tagEq, cellsEq, cellEq]; done)) | ((first | apply br_mergeT | apply br_mergeF); (· intro h; simp only [go_sem, simprocAttr, sel_of h, decanilaw06_lit, lit_left0, lit_left1, lit_life, lit_dark, lit_short, lit_buy, lit_fits, lit_wrong, lit_right, lit_dim, equal_00, own_set, own_set', keyEq2]; exact rfl))); (try simp only [go_sem, simprocAttr, decanilaw06_lit, lit_left0, lit_left1, lit_life, lit_dark, lit_short, lit_buy, lit_fits, lit_wrong, lit_right, lit_dim, equal_00, own_set, own_set', keyEq2])) | ((first | apply onGuard_sel | (apply pickV_split; apply br_split) | apply br_split) <;> intro h <;> (try simp only [go_sem, simprocAttr, h, decanilaw06_lit, lit_left0, lit_left1, lit_life, lit_dark, lit_short, lit_buy, lit_fits, lit_wrong, lit_right, lit_dim, equal_00, own_set, own_set', keyEq2]))))
end
end Go.Pm.Cd

namespace Go.Pm.Cd
open Ac
set_option maxRecDepth 100000
set_option linter.unusedSimpArgs false
set_option linter.unusedSectionVars false
set_option linter.unusedVariables false
section
variable {Γ : Env} [P06 Γ] [G06 Γ]

theorem small_no (b : Book) [hb : b.Fits] (hv : b.valid = false) : K Γ (.fn 24) [.agg b.c] [] = some (vb false, []) := by
  rw [K_fn P06.f24 _ _ rfl]
  (simp only [go_sem, simprocAttr, decanilaw06_small, hv, Bool.false_eq_true, Bool.false_and, decanilaw06_small_L0, decanilaw06_small_B0, decanilaw06_small_L1, decanilaw06_small_B1, decanilaw06_small_L2, decanilaw06_small_B2, decanilaw06_small_L3, decanilaw06_small_B3, E_loop]; repeat' (first | ((first | (refine br_yes (by omega) ?_) | (refine br_no (by omega) ?_) | (apply br_all; (· simp only [Bool.and_eq_true, decide_eq_true_eq]; omega)) | (apply br_free; (· simp [go_sem, Pm.acc, Acc.free, refsOf, offOf, keyEq, tagEq, cellsEq, cellEq]; done)) | ((first | apply br_mergeT | apply br_mergeF); (· intro h; simp only [go_sem, simprocAttr, sel_of h, decanilaw06_small, hv, Bool.false_eq_true, Bool.false_and, decanilaw06_small_L0, decanilaw06_small_B0, decanilaw06_small_L1, decanilaw06_small_B1, decanilaw06_small_L2, decanilaw06_small_B2, decanilaw06_small_L3, decanilaw06_small_B3, E_loop]; exact rfl))); (try simp only [go_sem, simprocAttr, decanilaw06_small, hv, Bool.false_eq_true, Bool.false_and, decanilaw06_small_L0, decanilaw06_small_B0, decanilaw06_small_L1, decanilaw06_small_B1, decanilaw06_small_L2, decanilaw06_small_B2, decanilaw06_small_L3, decanilaw06_small_B3, E_loop])) | ((first | apply onGuard_sel | (apply pickV_split; apply br_split) | apply br_split) <;> intro h <;> (try simp only [go_sem, simprocAttr, h, decanilaw06_small, hv, Bool.false_eq_true, Bool.false_and, decanilaw06_small_L0, decanilaw06_small_B0, decanilaw06_small_L1, decanilaw06_small_B1, decanilaw06_small_L2, decanilaw06_small_B2, decanilaw06_small_L3, decanilaw06_small_B3, E_loop]))))

theorem small_L1 (b : Book) [hb : b.Fits] (hv : b.valid = true) {β : Type} (Q : Ex → St → Option β) :
    E Γ decanilaw06_small_L1 ⟨[(1, .sc (.ptr 0 0)), (3, vb true), (5, vi 0)], [.var b.c]⟩ Q = Q (.exit 2) ⟨[(1, .sc (.ptr 0 0)), (3, vb true), (5, vi b.days.length), (57, vb false)], [.var b.c]⟩ := by
  have hvd := valid_days (sane_of_valid hv)
  refine E_countS b.days.length (fun i (_ : Unit) => ⟨[(1, .sc (.ptr 0 0)), (3, vb true), (5, vi i)], [.var b.c]⟩) (fun _ _ => True)
    (fun _ => (.exit 2, ⟨[(1, .sc (.ptr 0 0)), (3, vb true), (5, vi b.days.length), (57, vb false)], [.var b.c]⟩)) () rfl trivial ?_ ?_ ?_
  · intro i _ hi _
    refine ⟨(), trivial, ?_⟩
    obtain ⟨x, hx⟩ : ∃ x, b.days[i]? = some x := ⟨_, List.getElem?_eq_getElem hi⟩
    have hlt : (i : Int) < b.days.length := by omega
    have hiw : IntKind.i64.wrap ((i : Int) + 1) = i + 1 := wrap_i64 (by omega) (by omega)
    have hld := decide_eq_true hlt
    have hall := hv
    simp only [Book.valid, Bool.and_eq_true, List.all_eq_true] at hall
    have hok := hall.1.1.2 x (List.mem_of_getElem? hx)
    simp only [Day.ok, Bool.and_eq_true] at hok
    obtain ⟨⟨⟨k1, k2⟩, k3⟩, k4⟩ := hok
    (simp only [go_sem, simprocAttr, decanilaw06_small_B1, hx, hiw, hld, k1, k2, k3, k4]; repeat' (first | ((first | (refine br_yes (by omega) ?_) | (refine br_no (by omega) ?_) | (apply br_all; (· simp only [Bool.and_eq_true, decide_eq_true_eq]; omega)) | (apply br_free; (· simp [go_sem, Pm.acc, Acc.free, refsOf, offOf, keyEq, tagEq, cellsEq, cellEq]; done)) | ((first | apply br_mergeT | apply br_mergeF); (· intro h; simp only [go_sem, simprocAttr, sel_of h, decanilaw06_small_B1, hx, hiw, hld, k1, k2, k3, k4]; exact rfl))); (try simp only [go_sem, simprocAttr, decanilaw06_small_B1, hx, hiw, hld, k1, k2, k3, k4])) | ((first | apply onGuard_sel | (apply pickV_split; apply br_split) | apply br_split) <;> intro h <;> (try simp only [go_sem, simprocAttr, h, decanilaw06_small_B1, hx, hiw, hld, k1, k2, k3, k4]))))
    rfl
  · intro _ _
    have hld := decide_eq_false (show ¬ (b.days.length : Int) < b.days.length by omega)
    (simp only [go_sem, simprocAttr, decanilaw06_small_B1, hld]; repeat' (first | ((first | (refine br_yes (by omega) ?_) | (refine br_no (by omega) ?_) | (apply br_all; (· simp only [Bool.and_eq_true, decide_eq_true_eq]; omega)) | (apply br_free; (· simp [go_sem, Pm.acc, Acc.free, refsOf, offOf, keyEq, tagEq, cellsEq, cellEq]; done)) | ((first | apply br_mergeT | apply br_mergeF); (· intro h; simp only [go_sem, simprocAttr, sel_of h, decanilaw06_small_B1, hld]; exact rfl))); (try simp only [go_sem, simprocAttr, decanilaw06_small_B1, hld])) | ((first | apply onGuard_sel | (apply pickV_split; apply br_split) | apply br_split) <;> intro h <;> (try simp only [go_sem, simprocAttr, h, decanilaw06_small_B1, hld]))))
  · intro _ _
    rfl

theorem small_L2 (b : Book) [hb : b.Fits] (hv : b.valid = true) {β : Type} (Q : Ex → St → Option β) :
    E Γ decanilaw06_small_L2 ⟨[(1, .sc (.ptr 0 0)), (3, vb true), (7, vi 0)], [.var b.c]⟩ Q = Q (.exit 4) ⟨[(1, .sc (.ptr 0 0)), (3, vb true), (7, vi b.orders.length), (92, vb false)], [.var b.c]⟩ := by
  have hvd := valid_days (sane_of_valid hv)
  refine E_countS b.orders.length (fun i (_ : Unit) => ⟨[(1, .sc (.ptr 0 0)), (3, vb true), (7, vi i)], [.var b.c]⟩) (fun _ _ => True)
    (fun _ => (.exit 4, ⟨[(1, .sc (.ptr 0 0)), (3, vb true), (7, vi b.orders.length), (92, vb false)], [.var b.c]⟩)) () rfl trivial ?_ ?_ ?_
  · intro i _ hi _
    refine ⟨(), trivial, ?_⟩
    obtain ⟨x, hx⟩ : ∃ x, b.orders[i]? = some x := ⟨_, List.getElem?_eq_getElem hi⟩
    have hlt : (i : Int) < b.orders.length := by omega
    have hiw : IntKind.i64.wrap ((i : Int) + 1) = i + 1 := wrap_i64 (by omega) (by omega)
    have hld := decide_eq_true hlt
    have hall := hv
    simp only [Book.valid, Bool.and_eq_true, List.all_eq_true] at hall
    have hok := hall.1.2 x (List.mem_of_getElem? hx)
    simp only [Book.orderOk, Bool.and_eq_true] at hok
    obtain ⟨⟨k1, k2⟩, k3⟩ := hok
    (simp only [go_sem, simprocAttr, decanilaw06_small_B2, hx, hiw, hld, k1, k2, k3]; repeat' (first | ((first | (refine br_yes (by omega) ?_) | (refine br_no (by omega) ?_) | (apply br_all; (· simp only [Bool.and_eq_true, decide_eq_true_eq]; omega)) | (apply br_free; (· simp [go_sem, Pm.acc, Acc.free, refsOf, offOf, keyEq, tagEq, cellsEq, cellEq]; done)) | ((first | apply br_mergeT | apply br_mergeF); (· intro h; simp only [go_sem, simprocAttr, sel_of h, decanilaw06_small_B2, hx, hiw, hld, k1, k2, k3]; exact rfl))); (try simp only [go_sem, simprocAttr, decanilaw06_small_B2, hx, hiw, hld, k1, k2, k3])) | ((first | apply onGuard_sel | (apply pickV_split; apply br_split) | apply br_split) <;> intro h <;> (try simp only [go_sem, simprocAttr, h, decanilaw06_small_B2, hx, hiw, hld, k1, k2, k3]))))
    rfl
  · intro _ _
    have hld := decide_eq_false (show ¬ (b.orders.length : Int) < b.orders.length by omega)
    (simp only [go_sem, simprocAttr, decanilaw06_small_B2, hld]; repeat' (first | ((first | (refine br_yes (by omega) ?_) | (refine br_no (by omega) ?_) | (apply br_all; (· simp only [Bool.and_eq_true, decide_eq_true_eq]; omega)) | (apply br_free; (· simp [go_sem, Pm.acc, Acc.free, refsOf, offOf, keyEq, tagEq, cellsEq, cellEq]; done)) | ((first | apply br_mergeT | apply br_mergeF); (· intro h; simp only [go_sem, simprocAttr, sel_of h, decanilaw06_small_B2, hld]; exact rfl))); (try simp only [go_sem, simprocAttr, decanilaw06_small_B2, hld])) | ((first | apply onGuard_sel | (apply pickV_split; apply br_split) | apply br_split) <;> intro h <;> (try simp only [go_sem, simprocAttr, h, decanilaw06_small_B2, hld]))))
  · intro _ _
    rfl

theorem small_L3 (b : Book) [hb : b.Fits] (hv : b.valid = true) {β : Type} (Q : Ex → St → Option β) :
    E Γ decanilaw06_small_L3 ⟨[(1, .sc (.ptr 0 0)), (3, vb true), (8, vi 0)], [.var b.c]⟩ Q = Q (.exit 6) ⟨[(1, .sc (.ptr 0 0)), (3, vb true), (8, vi b.counts.length), (109, vb false)], [.var b.c]⟩ := by
  have hvd := valid_days (sane_of_valid hv)
  refine E_countS b.counts.length (fun i (_ : Unit) => ⟨[(1, .sc (.ptr 0 0)), (3, vb true), (8, vi i)], [.var b.c]⟩) (fun _ _ => True)
    (fun _ => (.exit 6, ⟨[(1, .sc (.ptr 0 0)), (3, vb true), (8, vi b.counts.length), (109, vb false)], [.var b.c]⟩)) () rfl trivial ?_ ?_ ?_
  · intro i _ hi _
    refine ⟨(), trivial, ?_⟩
    obtain ⟨x, hx⟩ : ∃ x, b.counts[i]? = some x := ⟨_, List.getElem?_eq_getElem hi⟩
    have hlt : (i : Int) < b.counts.length := by omega
    have hiw : IntKind.i64.wrap ((i : Int) + 1) = i + 1 := wrap_i64 (by omega) (by omega)
    have hld := decide_eq_true hlt
    have hall := hv
    simp only [Book.valid, Bool.and_eq_true, List.all_eq_true] at hall
    have hok := hall.2 x (List.mem_of_getElem? hx)
    simp only [Book.isCount, Bool.and_eq_true] at hok
    obtain ⟨⟨⟨k1, k2⟩, k3⟩, k4⟩ := hok
    have hdw : IntKind.i64.wrap ((b.days.length : Int) - 1) = b.days.length - 1 := wrap_i64 (by omega) (by omega)
    (simp only [go_sem, simprocAttr, decanilaw06_small_B3, hx, hiw, hld, k1, k2, k3, k4, hdw]; repeat' (first | ((first | (refine br_yes (by omega) ?_) | (refine br_no (by omega) ?_) | (apply br_all; (· simp only [Bool.and_eq_true, decide_eq_true_eq]; omega)) | (apply br_free; (· simp [go_sem, Pm.acc, Acc.free, refsOf, offOf, keyEq, tagEq, cellsEq, cellEq]; done)) | ((first | apply br_mergeT | apply br_mergeF); (· intro h; simp only [go_sem, simprocAttr, sel_of h, decanilaw06_small_B3, hx, hiw, hld, k1, k2, k3, k4, hdw]; exact rfl))); (try simp only [go_sem, simprocAttr, decanilaw06_small_B3, hx, hiw, hld, k1, k2, k3, k4, hdw])) | ((first | apply onGuard_sel | (apply pickV_split; apply br_split) | apply br_split) <;> intro h <;> (try simp only [go_sem, simprocAttr, h, decanilaw06_small_B3, hx, hiw, hld, k1, k2, k3, k4, hdw]))))
    rfl
  · intro _ _
    have hld := decide_eq_false (show ¬ (b.counts.length : Int) < b.counts.length by omega)
    (simp only [go_sem, simprocAttr, decanilaw06_small_B3, hld]; repeat' (first | ((first | (refine br_yes (by omega) ?_) | (refine br_no (by omega) ?_) | (apply br_all; (· simp only [Bool.and_eq_true, decide_eq_true_eq]; omega)) | (apply br_free; (· simp [go_sem, Pm.acc, Acc.free, refsOf, offOf, keyEq, tagEq, cellsEq, cellEq]; done)) | ((first | apply br_mergeT | apply br_mergeF); (· intro h; simp only [go_sem, simprocAttr, sel_of h, decanilaw06_small_B3, hld]; exact rfl))); (try simp only [go_sem, simprocAttr, decanilaw06_small_B3, hld])) | ((first | apply onGuard_sel | (apply pickV_split; apply br_split) | apply br_split) <;> intro h <;> (try simp only [go_sem, simprocAttr, h, decanilaw06_small_B3, hld]))))
  · intro _ _
    rfl

theorem small_yes (b : Book) [hb : b.Fits] (hv : b.valid = true) : K Γ (.fn 24) [.agg b.c] [] = some (vb true, []) := by
  have hvs := hv
  simp only [Book.valid, Bool.and_eq_true, decide_eq_true_eq] at hvs
  obtain ⟨⟨⟨⟨⟨⟨⟨⟨⟨h1, h2⟩, h3⟩, h4⟩, h5⟩, h6⟩, h7⟩, h8⟩, h9⟩, h10⟩ := hvs
  have h2' := decide_eq_true h2
  have h3' := decide_eq_true h3
  rw [K_fn P06.f24 _ _ rfl]
  have e1 {β : Type} (Q : Ex → St → Option β) := small_L1 (Γ := Γ) b hv Q
  have e2 {β : Type} (Q : Ex → St → Option β) := small_L2 (Γ := Γ) b hv Q
  have e3 {β : Type} (Q : Ex → St → Option β) := small_L3 (Γ := Γ) b hv Q
  (simp only [go_sem, simprocAttr, decanilaw06_small, hv, h1, h2', h3', h4, h5, h6, h7, decanilaw06_small_L0, decanilaw06_small_B0, E_loop, e1, e2, e3]; repeat' (first | ((first | (refine br_yes (by omega) ?_) | (refine br_no (by omega) ?_) | (apply br_all; (· simp only [Bool.and_eq_true, decide_eq_true_eq]; omega)) | (apply br_free; (· simp [go_sem, Pm.acc, Acc.free, refsOf, offOf, keyEq, tagEq, cellsEq, cellEq]; done)) | ((first | apply br_mergeT | apply br_mergeF); (· intro h; simp only [go_sem, simprocAttr, sel_of h, decanilaw06_small, hv, h1, h2', h3', h4, h5, h6, h7, decanilaw06_small_L0, decanilaw06_small_B0, E_loop, e1, e2, e3]; exact rfl))); (try simp only [go_sem, simprocAttr, decanilaw06_small, hv, h1, h2', h3', h4, h5, h6, h7, decanilaw06_small_L0, decanilaw06_small_B0, E_loop, e1, e2, e3])) | ((first | apply onGuard_sel | (apply pickV_split; apply br_split) | apply br_split) <;> intro h <;> (try simp only [go_sem, simprocAttr, h, decanilaw06_small, hv, h1, h2', h3', h4, h5, h6, h7, decanilaw06_small_L0, decanilaw06_small_B0, E_loop, e1, e2, e3]))))

@[go_sem] theorem small_k (b : Book) [hb : b.Fits] : K Γ (.fn 24) [.agg b.c] [] = some (vb b.valid, []) := by
  rcases Bool.eq_false_or_eq_true b.valid with hv | hv
  · rw [small_yes b hv, hv]
  · rw [small_no b hv, hv]
end
end Go.Pm.Cd

namespace Go.Pm.Cd
open Ac
set_option maxRecDepth 100000
set_option linter.unusedSimpArgs false
set_option linter.unusedSectionVars false
set_option linter.unusedVariables false

section
variable {Γ : Env} [P06 Γ] [G06 Γ]

end
end Go.Pm.Cd

namespace Go.Pm
open T
theorem hasL_int (k : IntKind) (ts : List T) (cs : List C) : T.hasL (.int k :: ts) cs ↔ ∃ n r, cs = .int k n :: r ∧ (Lit.int k n).wf = true ∧ T.hasL ts r := by
  simp only [T.hasL, T.has]
  constructor
  · rintro ⟨a, r, rfl, ⟨n, rfl, hn⟩, h⟩; exact ⟨n, r, rfl, hn, h⟩
  · rintro ⟨n, r, rfl, hn, h⟩; exact ⟨[.int k n], r, rfl, ⟨n, rfl, hn⟩, h⟩
theorem hasL_nil (cs : List C) : T.hasL [] cs ↔ cs = [] := by simp only [T.hasL]
theorem hasL_app : ∀ (us ts : List T) (cs : List C), T.hasL (us ++ ts) cs ↔ ∃ a r, cs = a ++ r ∧ T.hasL us a ∧ T.hasL ts r
  | [], ts, cs => by
    simp only [List.nil_append, T.hasL]
    constructor
    · intro h; exact ⟨[], cs, rfl, rfl, h⟩
    · rintro ⟨a, r, rfl, rfl, h⟩; exact h
  | u :: us, ts, cs => by
    simp only [List.cons_append, T.hasL, hasL_app us ts]
    constructor
    · rintro ⟨a, r, rfl, hu, b, c, rfl, h1, h2⟩; exact ⟨a ++ b, c, by simp, ⟨a, b, rfl, hu, h1⟩, h2⟩
    · rintro ⟨_, c, rfl, ⟨a, b, rfl, hu, h1⟩, h2⟩; exact ⟨a, b ++ c, by simp, hu, b, c, rfl, h1, h2⟩
theorem hasL_st (us ts : List T) (cs : List C) : T.hasL (.st us :: ts) cs ↔ T.hasL (us ++ ts) cs := by
  rw [hasL_app]; simp only [T.hasL, T.has]
theorem hasL_sl (es : Nat) (e : T) (ts : List T) (cs : List C) : T.hasL (.sl es e :: ts) cs ↔ ∃ k l r, cs = .sl k es l :: r ∧ l.length ≤ maxLen ∧ (∀ x ∈ l, T.has e x) ∧ (k = .nil → l = []) ∧ (l = [] → True) ∧ T.hasL ts r := by
  simp only [T.hasL, T.has]
  constructor
  · rintro ⟨a, r, rfl, ha, h⟩
    rcases ha with rfl | ⟨k, l, rfl, hk, hl, hx⟩
    · exact ⟨.nil, [], r, rfl, Nat.zero_le _, by simp, fun _ => rfl, fun _ => trivial, h⟩
    · exact ⟨k, l, r, rfl, hl, hx, fun e => absurd e hk, fun _ => trivial, h⟩
  · rintro ⟨k, l, r, rfl, hl, hx, hk, -, h⟩
    refine ⟨[.sl k es l], r, rfl, ?_, h⟩
    by_cases e : k = .nil
    · have := hk e; subst this; subst e; exact .inl rfl
    · exact .inr ⟨k, l, rfl, e, hl, hx⟩
theorem all_map {α : Type} (e : T) (c : α → List C) (h : ∀ x, T.has e x → ∃ a, x = c a) : ∀ (l : List (List C)), (∀ x ∈ l, T.has e x) → ∃ ys : List α, l = ys.map c
  | [], _ => ⟨[], rfl⟩
  | x :: l, hl => by
    obtain ⟨a, rfl⟩ := h x (hl x (by simp))
    obtain ⟨ys, rfl⟩ := all_map e c h l (fun y hy => hl y (by simp [hy]))
    exact ⟨a :: ys, rfl⟩
end Go.Pm
namespace Go.Pm.Cd
def i1 : T := .int .i64
def spanT : T := .st [i1, i1]
def dayT : T := .st [i1, spanT, .st [i1, i1]]
def orderT : T := .st [i1, i1, i1]
def countT : T := .st [i1, i1, i1, i1]
def bookT : T := .st [.st [spanT, spanT], .st [spanT, spanT], .sl 5 dayT, .sl 3 orderT, .sl 4 countT]
theorem day_of (x : List C) (h : T.has dayT x) : ∃ d : Day, x = d.c := by
  simp only [dayT, spanT, i1, T.has, hasL_int, hasL_st, List.cons_append, List.nil_append, hasL_nil] at h
  obtain ⟨n, r, rfl, -, n2, r2, rfl, -, n3, r3, rfl, -, n4, r4, rfl, -, n5, r5, rfl, -, rfl⟩ := h
  exact ⟨⟨n, ⟨n2, n3⟩, n4, n5⟩, rfl⟩
theorem order_of (x : List C) (h : T.has orderT x) : ∃ d : Order, x = d.c := by
  simp only [orderT, i1, T.has, hasL_int, hasL_st, List.cons_append, List.nil_append, hasL_nil] at h
  obtain ⟨n, r, rfl, -, n2, r2, rfl, -, n3, r3, rfl, -, rfl⟩ := h
  exact ⟨⟨n, n2, n3⟩, rfl⟩
theorem count_of (x : List C) (h : T.has countT x) : ∃ d : Count, x = d.c := by
  simp only [countT, i1, T.has, hasL_int, hasL_st, List.cons_append, List.nil_append, hasL_nil] at h
  obtain ⟨n, r, rfl, -, n2, r2, rfl, -, n3, r3, rfl, -, n4, r4, rfl, -, rfl⟩ := h
  exact ⟨⟨n, n2, n3, n4⟩, rfl⟩
theorem book_of (v : V) (h : bookT.hasV v) : ∃ b : Book, v = .agg b.c ∧ b.Fits := by
  simp only [bookT, T.hasV] at h
  obtain ⟨cl, rfl, h⟩ := h
  simp only [spanT, i1, hasL_int, hasL_st, hasL_sl, List.cons_append, List.nil_append, hasL_nil] at h
  obtain ⟨n, r, rfl, -, n2, r2, rfl, -, n3, r3, rfl, -, n4, r4, rfl, -, n5, r5, rfl, -, n6, r6, rfl, -, n7, r7, rfl, -, n8, r8, rfl, -, k1, l1, r9, rfl, m1, a1, -, -, k2, l2, r10, rfl, m2, a2, -, -, k3, l3, r11, rfl, m3, a3, -, -, rfl⟩ := h
  obtain ⟨ds, rfl⟩ := all_map dayT Day.c day_of l1 a1
  obtain ⟨os, rfl⟩ := all_map orderT Order.c order_of l2 a2
  obtain ⟨xs, rfl⟩ := all_map countT Count.c count_of l3 a3
  refine ⟨⟨⟨n, n2⟩, ⟨n3, n4⟩, ⟨n5, n6⟩, ⟨n7, n8⟩, k1, ds, k2, os, k3, xs⟩, rfl, ⟨?_, ?_, ?_⟩⟩
  · simpa [maxLen] using m1
  · simpa [maxLen] using m2
  · simpa [maxLen] using m3
theorem bits_of (v : V) (h : (T.sl 1 i1).hasV v) : ∃ (k : SK) (l : List Int), (l.length ≤ maxLen ∧ ∀ n, n ∈ l → (Lit.int .i64 n).wf = true) ∧ v = .sc (.sl k 1 (l.map fun x => [ci x])) := by
  simp only [T.hasV] at h
  obtain ⟨c, rfl, h⟩ := h
  have h' := (hasL_sl 1 i1 [] [c]).1 (by simp only [T.hasL]; exact ⟨[c], [], rfl, h, rfl⟩)
  obtain ⟨k, l, r, hc, hl, hx, -, -, hr⟩ := h'
  rw [hasL_nil] at hr
  subst hr
  simp only [List.cons.injEq, and_true] at hc
  subst hc
  obtain ⟨ys, rfl⟩ := all_map i1 (fun n : Int => [ci n]) (fun x hx => by
    simp only [i1, T.has] at hx
    obtain ⟨n, rfl, -⟩ := hx
    exact ⟨n, rfl⟩) l hx
  refine ⟨k, ys, ⟨by simpa using hl, fun n hn => ?_⟩, rfl⟩
  have := hx [ci n] (List.mem_map.2 ⟨n, hn, rfl⟩)
  simp only [i1, T.has] at this
  obtain ⟨m, hm, hw⟩ := this
  cases hm
  exact hw
theorem ints2_of (v : V) (h : (T.st [i1, i1]).hasV v) : ∃ a c : Int, v = .agg [ci a, ci c] := by
  simp only [T.hasV, i1] at h
  obtain ⟨cl, rfl, h⟩ := h
  simp only [hasL_int, hasL_nil] at h
  obtain ⟨n, r, rfl, -, n2, r2, rfl, -, rfl⟩ := h
  exact ⟨n, n2, rfl⟩
end Go.Pm.Cd

namespace Go.Proofs.YtdndhpoinffpbaaDoor
open Go Go.Pm Go.ChangeShapes Go.WideShapes Go.ChangeAt Go.RowKit
set_option maxRecDepth 100000

instance p06 : P06 Γ1 := by constructor <;> rfl
instance g06 : Cd.G06 Γ1 := ⟨rfl, rfl⟩

theorem own : ownKnob Tryd.prog.godebug = none := by kernel_rfl
theorem laidOut : laidOutB Tryd.prog = true := by kernel_rfl
def laidL : List (String × DataW Unit) := [("decani/candle.nowhere", Rows.laid_decani_candle_nowhere), ("decani/candle.lacks", Rows.laid_decani_candle_lacks)]
theorem door_met (os : Os) (args : Array Value) : laidMetH Tryd.prog laidL ((World.doorLaid Tryd.prog 600 os).forCall (fun _ _ => 0) ⟨#[], args, []⟩).memory :=
  laidMetH_of_parts3 (fuel := 8) (laidMet_of_run' 8 (by kernel_rfl) (by kernel_rfl)) (by kernel_rfl) (by kernel_rfl)

def nameMay : List UInt8 := [40, 100, 101, 99, 97, 110, 105, 47, 99, 97, 110, 100, 108, 101, 46, 98, 111, 111, 107, 41, 46, 109, 97, 121]
def nameMust : List UInt8 := [40, 100, 101, 99, 97, 110, 105, 47, 99, 97, 110, 100, 108, 101, 46, 98, 111, 111, 107, 41, 46, 109, 117, 115, 116]
theorem globs {w : World} (h : laidMetH Tryd.prog laidL w) : ∀ id ∈ G1, RC S1 (.start w) (.eptr (S1.Γ.glob id) 0) (.pointer (some ⟨S1.gm id, 0, none⟩)) := by
  intro id hid
  have : id = 1 ∨ id = 2 := by simpa [G1] using hid
  rcases this with rfl | rfl
  · exact glob_ints (S := S1) (n := "decani/candle.nowhere") (b := 0) (t := 114) (k := 2) (d := 8) (zs := [-1, -1]) h (List.Mem.head _) (by kernel_rfl) (by kernel_rfl) (by kernel_rfl)
  · exact glob_funcs (S := S1) (n := "decani/candle.lacks") (b := 1) (t := 126) (e := 125) (k := 2) (ps := #[85, 3, 3]) (rs := #[4]) (va := false) (ids := [85, 86]) (names := [nameMay, nameMust]) h (List.Mem.tail _ (List.Mem.head _)) (by kernel_rfl) (by kernel_rfl) (by kernel_rfl) (by kernel_rfl) (by kernel_rfl) (by kernel_rfl) rfl rfl (by kernel_rfl)
end Go.Proofs.YtdndhpoinffpbaaDoor

namespace Go.Pm.Cd
open Ac
set_option maxRecDepth 100000
set_option linter.unusedSimpArgs false
set_option linter.unusedSectionVars false
set_option linter.unusedVariables false

def Book.stock (b : Book) (k : Int) : Span := if k = 0 then b.s0 else b.s1
def Book.life (b : Book) (k : Int) : Span := if k = 0 then b.f0 else b.f1
def Day.lights (x : Day) (k : Int) : Int := if k = 0 then x.l0 else x.l1
def Book.runK (b : Book) (k n f : Int) (dk : Nat → Int) : Nat → Int
  | 0 => n
  | d + 1 => match b.days[d]? with
    | none => b.runK k n f dk d
    | some x => after1 (b.runK k n f dk d) (got2 b.comes k d) f (x.lights k) (min x.hours (dk d))
theorem runK_succ (b : Book) (k n f : Int) (dk : Nat → Int) {d : Nat} {x : Day} (hx : b.days[d]? = some x) : b.runK k n f dk (d + 1) = after1 (b.runK k n f dk d) (got2 b.comes k d) f (x.lights k) (min x.hours (dk d)) := by
  simp only [Book.runK, hx]
theorem run_K (b : Book) (n0 f0 n1 f1 : Int) (dk : Nat → Int) : ∀ d, b.run n0 f0 n1 f1 dk d = (b.runK 0 n0 f0 dk d, b.runK 1 n1 f1 dk d)
  | 0 => rfl
  | d + 1 => by
    simp only [Book.run, Book.runK, run_K b n0 f0 n1 f1 dk d]
    cases b.days[d]? with
    | none => rfl
    | some x => rfl
structure Way (b : Book) (but : List Int) (n f : Int → Int) (dk : Nat → Int) : Prop where
  stock : ∀ k, k = 0 ∨ k = 1 → (b.stock k).has (n k)
  life : ∀ k, k = 0 ∨ k = 1 → (b.life k).has (f k)
  dark : ∀ (d : Nat) (x : Day), b.days[d]? = some x → x.dark.has (dk d)
  right : ∀ (i : Nat) (x : Count), b.counts[i]? = some x → but.contains (i : Int) = false → within (x.left - b.runK x.kind (n x.kind) (f x.kind) dk (x.day.toNat + 1)) (-x.err) x.err = true

structure Says (b : Book) (n f : Int → Int) (dk : Nat → Int) (t : List Int) : Prop where
  life : ∀ k, k = 0 ∨ k = 1 → tLife k t = f k
  left : ∀ k, k = 0 ∨ k = 1 → ∀ d : Int, 0 ≤ d → d < b.days.length → tLeft k d t = b.runK k (n k) (f k) dk (d.toNat + 1)
  dark : ∀ d : Int, 0 ≤ d → d < b.days.length → tDark d t = dk d.toNat

theorem right_iff {b : Book} (hv : b.sane = true) (but : List Int) (n f : Int → Int) (dk : Nat → Int) :
    (∀ d, d < b.days.length → b.rightOn but d (b.runK 0 (n 0) (f 0) dk (d + 1)) (b.runK 1 (n 1) (f 1) dk (d + 1)) = true) ↔
    (∀ (i : Nat) (x : Count), b.counts[i]? = some x → but.contains (i : Int) = false → within (x.left - b.runK x.kind (n x.kind) (f x.kind) dk (x.day.toNat + 1)) (-x.err) x.err = true) := by
  have hk : ∀ (x : Count), x ∈ b.counts → (0 ≤ x.day ∧ x.day ≤ b.days.length - 1) ∧ (x.kind = 0 ∨ x.kind = 1) := fun x hx => by
    have := valid_counts hv x hx
    simp only [Book.isCount, Bool.and_eq_true, within_iff] at this
    omega
  have hsel : ∀ (x : Count), x ∈ b.counts → ∀ d : Nat, (d : Int) = x.day → (if x.kind = 0 then b.runK 0 (n 0) (f 0) dk (d + 1) else b.runK 1 (n 1) (f 1) dk (d + 1)) = b.runK x.kind (n x.kind) (f x.kind) dk (x.day.toNat + 1) := fun x hx d hd => by
    have e : x.day.toNat = d := by omega
    rcases (hk x hx).2 with h | h
    · rw [if_pos h, h, e]
    · rw [if_neg (by omega), h, e]
  constructor
  · intro h i x hx hb
    have hm := List.mem_of_getElem? hx
    obtain ⟨⟨h1, h2⟩, -⟩ := hk x hm
    have hr := h x.day.toNat (by omega)
    simp only [Book.rightOn, Option.isNone_iff_eq_none] at hr
    have := findFrom_none.1 hr i x hx
    simp only [Count.off, Nat.zero_add, hsel x hm x.day.toNat (by omega), hb] at this
    have e : decide (x.day = (x.day.toNat : Int)) = true := decide_eq_true (by omega)
    rw [e, Bool.true_and] at this
    simpa using this
  · intro h d hd
    simp only [Book.rightOn, Option.isNone_iff_eq_none]
    rw [findFrom_none]
    intro i x hx
    have hm := List.mem_of_getElem? hx
    simp only [Count.off, Nat.zero_add]
    by_cases hday : x.day = (d : Int)
    · rw [hsel x hm d hday.symm]
      cases hb : but.contains (i : Int) with
      | true => simp
      | false => simp [h i x hx hb]
    · simp [hday]

theorem truth_way {b : Book} (hv : b.sane = true) {but : List Int} {t : List Int} (ht : t ∈ b.truths but) : ∃ n f dk, Way b but n f dk ∧ Says b n f dk t := by
  obtain ⟨n0, f0, n1, f1, dk, h0, h1, h2, h3, hG⟩ := truth_good hv ht
  have hr := (right_iff hv but (fun k => if k = 0 then n0 else n1) (fun k => if k = 0 then f0 else f1) dk).1 (fun d hd => by
    have := hG.right d hd
    simp only [run_K] at this
    simpa using this)
  refine ⟨fun k => if k = 0 then n0 else n1, fun k => if k = 0 then f0 else f1, dk, ⟨?_, ?_, fun d x hx => hG.dark d x (List.getElem?_eq_some_iff.1 hx).1 hx, hr⟩, ⟨?_, ?_, ?_⟩⟩
  · rintro k (rfl | rfl)
    · exact h0
    · exact h2
  · rintro k (rfl | rfl)
    · exact h1
    · exact h3
  · rintro k (rfl | rfl)
    · exact hG.l0
    · exact hG.l1
  · rintro k (rfl | rfl) d hd0 hd
    · have := hG.a0 d.toNat (by omega)
      rw [run_K] at this
      exact this
    · have := hG.a1 d.toNat (by omega)
      rw [run_K] at this
      have e : 7 + d.toNat * 2 + (1 : Int).toNat = 7 + (d.toNat * 2 + 1) := by simp; omega
      simp only [tLeft]
      rw [e]; exact this
  · intro d hd0 hd
    exact hG.dks d.toNat (by omega)

theorem way_truth {b : Book} (hv : b.sane = true) {but : List Int} {n f : Int → Int} {dk : Nat → Int} (w : Way b but n f dk) : ∃ t, t ∈ b.truths but ∧ Says b n f dk t := by
  have hr := (right_iff hv but n f dk).2 w.right
  obtain ⟨t, ht, hG⟩ := truth_all hv but (n0 := n 0) (f0 := f 0) (n1 := n 1) (f1 := f 1) (dk := dk) (w.stock 0 (.inl rfl)) (w.life 0 (.inl rfl)) (w.stock 1 (.inr rfl)) (w.life 1 (.inr rfl)) w.dark (fun d hd => by
    have := hr d hd
    rw [run_K]; exact this)
  refine ⟨t, ht, ⟨?_, ?_, ?_⟩⟩
  · rintro k (rfl | rfl)
    · exact hG.l0
    · exact hG.l1
  · rintro k (rfl | rfl) d hd0 hd
    · have := hG.a0 d.toNat (by omega)
      rw [run_K] at this
      exact this
    · have := hG.a1 d.toNat (by omega)
      rw [run_K] at this
      have e : 7 + d.toNat * 2 + (1 : Int).toNat = 7 + (d.toNat * 2 + 1) := by simp; omega
      simp only [tLeft]
      rw [e]; exact this
  · intro d hd0 hd
    exact hG.dks d.toNat (by omega)

theorem truths_ne {b : Book} (hv : b.sane = true) (but : List Int) : b.truths but ≠ [] ↔ ∃ n f dk, Way b but n f dk := by
  constructor
  · intro h
    obtain ⟨t, ht⟩ := List.exists_mem_of_ne_nil _ h
    obtain ⟨n, f, dk, w, -⟩ := truth_way hv ht
    exact ⟨n, f, dk, w⟩
  · rintro ⟨n, f, dk, w⟩ e
    obtain ⟨t, ht, -⟩ := way_truth hv w
    rw [e] at ht; cases ht

theorem span_ways {b : Book} (hv : b.sane = true) {but : List Int} (hne : b.truths but ≠ []) (g : List Int → Int) (G : (Int → Int) → (Int → Int) → (Nat → Int) → Int) (hg : ∀ t n f dk, Says b n f dk t → g t = G n f dk) :
    (∀ n f dk, Way b but n f dk → (spanOf g (b.truths but)).1 ≤ G n f dk ∧ G n f dk ≤ (spanOf g (b.truths but)).2) ∧
    (∃ n f dk, Way b but n f dk ∧ (spanOf g (b.truths but)).1 = G n f dk) ∧ (∃ n f dk, Way b but n f dk ∧ (spanOf g (b.truths but)).2 = G n f dk) := by
  refine ⟨fun n f dk w => ?_, ?_, ?_⟩
  · obtain ⟨t, ht, hs⟩ := way_truth hv w
    rw [← hg t n f dk hs]
    exact span_le g _ ht
  · obtain ⟨t, ht, e⟩ := span_lo g _ hne
    obtain ⟨n, f, dk, w, hs⟩ := truth_way hv ht
    exact ⟨n, f, dk, w, by rw [e, hg t n f dk hs]⟩
  · obtain ⟨t, ht, e⟩ := span_hi g _ hne
    obtain ⟨n, f, dk, w, hs⟩ := truth_way hv ht
    exact ⟨n, f, dk, w, by rw [e, hg t n f dk hs]⟩
theorem left_ways {b : Book} (hv : b.sane = true) {but : List Int} (hne : b.truths but ≠ []) {k d : Int} (hk : k = 0 ∨ k = 1) (hd : 0 ≤ d) (hd' : d < b.days.length) : (∀ n f dk, Way b but n f dk → (spanOf (tLeft k d) (b.truths but)).1 ≤ b.runK k (n k) (f k) dk (d.toNat + 1) ∧ b.runK k (n k) (f k) dk (d.toNat + 1) ≤ (spanOf (tLeft k d) (b.truths but)).2) ∧
    (∃ n f dk, Way b but n f dk ∧ (spanOf (tLeft k d) (b.truths but)).1 = b.runK k (n k) (f k) dk (d.toNat + 1)) ∧ (∃ n f dk, Way b but n f dk ∧ (spanOf (tLeft k d) (b.truths but)).2 = b.runK k (n k) (f k) dk (d.toNat + 1)) :=
  span_ways hv hne (tLeft k d) (fun n f dk => b.runK k (n k) (f k) dk (d.toNat + 1)) (fun _ _ _ _ hs => hs.left k hk d hd hd')
theorem life_ways {b : Book} (hv : b.sane = true) {but : List Int} (hne : b.truths but ≠ []) {k : Int} (hk : k = 0 ∨ k = 1) : (∀ n f dk, Way b but n f dk → (spanOf (tLife k) (b.truths but)).1 ≤ f k ∧ f k ≤ (spanOf (tLife k) (b.truths but)).2) ∧
    (∃ n f dk, Way b but n f dk ∧ (spanOf (tLife k) (b.truths but)).1 = f k) ∧ (∃ n f dk, Way b but n f dk ∧ (spanOf (tLife k) (b.truths but)).2 = f k) :=
  span_ways hv hne (tLife k) (fun n f dk => f k) (fun _ _ _ _ hs => hs.life k hk)
theorem dark_ways {b : Book} (hv : b.sane = true) {but : List Int} (hne : b.truths but ≠ []) {d : Int} (hd : 0 ≤ d) (hd' : d < b.days.length) : (∀ n f dk, Way b but n f dk → (spanOf (tDark d) (b.truths but)).1 ≤ dk d.toNat ∧ dk d.toNat ≤ (spanOf (tDark d) (b.truths but)).2) ∧
    (∃ n f dk, Way b but n f dk ∧ (spanOf (tDark d) (b.truths but)).1 = dk d.toNat) ∧ (∃ n f dk, Way b but n f dk ∧ (spanOf (tDark d) (b.truths but)).2 = dk d.toNat) :=
  span_ways hv hne (tDark d) (fun n f dk => dk d.toNat) (fun _ _ _ _ hs => hs.dark d hd hd')

def Book.bare (b : Book) : Book := { b with kc := .nil, counts := [] }
@[go_sem] theorem bare_set (b : Book) : b.c.set 10 (C.sl .nil 4 []) = b.bare.c := nrfl rfl
theorem bare_way {b : Book} {n f : Int → Int} {dk : Nat → Int} (h0 : ∀ k, k = 0 ∨ k = 1 → (b.stock k).has (n k)) (h1 : ∀ k, k = 0 ∨ k = 1 → (b.life k).has (f k)) (h2 : ∀ (d : Nat) (x : Day), b.days[d]? = some x → x.dark.has (dk d)) : Way b.bare [] n f dk :=
  ⟨h0, h1, h2, fun i x hx => by simp [Book.bare] at hx⟩
theorem bare_valid {b : Book} (hv : b.valid = true) : b.bare.valid = true := by
  simp only [Book.valid, Bool.and_eq_true, decide_eq_true_eq] at hv ⊢
  refine ⟨⟨⟨⟨⟨⟨⟨⟨⟨hv.1.1.1.1.1.1.1.1.1, hv.1.1.1.1.1.1.1.1.2⟩, ?_⟩, hv.1.1.1.1.1.1.2⟩, hv.1.1.1.1.1.2⟩, hv.1.1.1.1.2⟩, hv.1.1.1.2⟩, hv.1.1.2⟩, hv.1.2⟩, ?_⟩
  · simp [Book.bare]
  · simp [Book.bare]
theorem span_has {b : Book} (hv : b.sane = true) : (∀ k, k = 0 ∨ k = 1 → (b.stock k).lo ≤ (b.stock k).hi) ∧ (∀ k, k = 0 ∨ k = 1 → (b.life k).lo ≤ (b.life k).hi ∧ 1 ≤ (b.life k).lo ∧ (b.life k).hi ≤ 6) := by
  have := valid_spans hv
  refine ⟨?_, ?_⟩
  · rintro k (rfl | rfl)
    · exact this.1.2.1
    · exact this.2.2.1.2.1
  · rintro k (rfl | rfl)
    · exact ⟨this.2.1.2.1, this.2.1.1, this.2.1.2.2.1⟩
    · exact ⟨this.2.2.2.2.1, this.2.2.2.1, this.2.2.2.2.2.1⟩
def Book.dusk (b : Book) (d : Nat) : Int := match b.days[d]? with | some x => x.dark.lo | none => 0
theorem bare_ne {b : Book} (hv : b.sane = true) (hv' : b.bare.sane = true) : b.bare.truths [] ≠ [] := by
  rw [truths_ne hv']
  have hs := span_has hv
  refine ⟨fun k => (b.stock k).lo, fun k => (b.life k).lo, b.dusk, bare_way (fun k hk => ⟨Int.le_refl _, hs.1 k hk⟩) (fun k hk => ⟨Int.le_refl _, (hs.2 k hk).1⟩) (fun d x hx => ?_)⟩
  have := (valid_day hv hx).2.1
  simp only [Book.dusk, hx]
  exact ⟨Int.le_refl _, by omega⟩

theorem comes_bound {b : Book} (hv : b.sane = true) (k d : Int) : 0 ≤ got2 b.comes k d ∧ got2 b.comes k d ≤ 240 := by
  have := comesN_bound hv b.orders.length (Nat.le_refl _) k d
  rw [comesN_all] at this
  have := valid_days hv; omega
section
variable {Γ : Env} [P06 Γ] [G06 Γ]
theorem askE_yes {b : Book} (hv : b.valid = true) (ht : b.truths [] ≠ []) : b.askE true = 0 := by simp [Book.askE, hv, ht]
theorem isKind_yes {k : Int} (h : k = 0 ∨ k = 1) : isKind k = true := by simp only [isKind, within_iff]; omega
theorem isDay_yes {b : Book} {d : Int} (h : 0 ≤ d) (h' : d < b.days.length) : b.isDay d = true := by simp only [Book.isDay, within_iff]; omega
theorem Left_yes (b : Book) [hb : b.Fits] (hv : b.valid = true) (ht : b.truths [] ≠ []) {kind day : Int} (hk : kind = 0 ∨ kind = 1) (hd : 0 ≤ day) (hd' : day < b.days.length) :
    K Γ (.fn 6) [.agg b.c, vi kind, vi day] [] = some (.tup [.agg [ci (spanOf (tLeft kind day) (b.truths [])).1, ci (spanOf (tLeft kind day) (b.truths [])).2], vi 0], []) := by
  rw [Left_k, isKind_yes hk, isDay_yes hd hd', Bool.and_self, askE_yes hv ht]; rfl
theorem Life_yes (b : Book) [hb : b.Fits] (hv : b.valid = true) (ht : b.truths [] ≠ []) {kind : Int} (hk : kind = 0 ∨ kind = 1) :
    K Γ (.fn 8) [.agg b.c, vi kind] [] = some (.tup [.agg [ci (spanOf (tLife kind) (b.truths [])).1, ci (spanOf (tLife kind) (b.truths [])).2], vi 0], []) := by
  rw [Life_k, isKind_yes hk, askE_yes hv ht]; rfl
theorem Dark_yes (b : Book) [hb : b.Fits] (hv : b.valid = true) (ht : b.truths [] ≠ []) {day : Int} (hd : 0 ≤ day) (hd' : day < b.days.length) :
    K Γ (.fn 10) [.agg b.c, vi day] [] = some (.tup [.agg [ci (spanOf (tDark day) (b.truths [])).1, ci (spanOf (tDark day) (b.truths [])).2], vi 0], []) := by
  rw [Dark_k, isDay_yes hd hd', askE_yes hv ht]; rfl
theorem Buy_yes (b : Book) [hb : b.Fits] (hv : b.valid = true) (ht : b.truths [] ≠ []) {kind day : Int} (hk : kind = 0 ∨ kind = 1) (hd : 0 ≤ day) (hd' : day < b.days.length) :
    K Γ (.fn 17) [.agg b.c, vi kind, vi day] [] = some (.tup [vi (b.buyN kind day (b.days.length - day).toNat), vi 0], []) := by
  rw [Buy_k, Book.buy, isKind_yes hk, isDay_yes hd hd', Bool.and_self, askE_yes hv ht]; rfl
theorem Short_yes (b : Book) [hb : b.Fits] (hv : b.valid = true) (ht : b.truths [] ≠ []) {kind : Int} (hk : kind = 0 ∨ kind = 1) :
    K Γ (.fn 13) [.agg b.c, vi kind] [] = some (.tup [vi (b.firstOn (fun i => decide ((spanOf (tLeft kind i) (b.truths [])).1 < 0))).1, vi (b.firstOn (fun i => decide ((spanOf (tLeft kind i) (b.truths [])).1 < 0))).2], []) := by
  rw [Short_k, Book.short, isKind_yes hk, askE_yes hv ht]; rfl
theorem Surely_yes (b : Book) [hb : b.Fits] (hv : b.valid = true) (ht : b.truths [] ≠ []) {kind : Int} (hk : kind = 0 ∨ kind = 1) :
    K Γ (.fn 15) [.agg b.c, vi kind] [] = some (.tup [vi (b.firstOn (fun i => decide ((spanOf (tLeft kind i) (b.truths [])).2 < 0))).1, vi (b.firstOn (fun i => decide ((spanOf (tLeft kind i) (b.truths [])).2 < 0))).2], []) := by
  rw [Surely_k, Book.surely, isKind_yes hk, askE_yes hv ht]; rfl
theorem Right_yes (b : Book) [hb : b.Fits] (hv : b.valid = true) : K Γ (.fn 2) [.agg b.c] [] = some (.tup [vb (decide (b.truths [] ≠ [])), vi 0], []) := by
  rw [Right_k, hv]; rfl
end
end Go.Pm.Cd

namespace Go.Pm.Cd
open Ac
set_option maxRecDepth 100000
set_option linter.unusedSimpArgs false
set_option linter.unusedSectionVars false
set_option linter.unusedVariables false

def ownF (es : Nat) (L : List (List C)) : C := match L with | [] => .sl .full es [] | _ :: _ => .own es L
@[go_sem] theorem cells_ownF (es : Nat) (L : List (List C)) : (V.sc (ownF es L)).cells = [ownF es L] := by cases L <;> rfl
@[go_sem] theorem under_ownF (n es : Nat) (L : List (List C)) : C.under n (ownF es L) = true := by cases L <;> simp [ownF, C.under]

def Book.withO (b : Book) (x : Order) : Book := { b with ko := .shared, orders := b.orders ++ [x] }
def ownO (b : Book) (x : Order) : List C := [ci b.s0.lo, ci b.s0.hi, ci b.s1.lo, ci b.s1.hi, ci b.f0.lo, ci b.f0.hi, ci b.f1.lo, ci b.f1.hi, .sl b.kd 5 (b.days.map Day.c), .own 3 (b.orders.map Order.c ++ [x.c]), .sl b.kc 4 (b.counts.map Count.c)]
@[go_sem] theorem ownO_set (b : Book) (x : Order) : b.c.set 9 (.own 3 (b.orders.map Order.c ++ [x.c])) = ownO b x := nrfl rfl
@[go_sem] theorem ownO_all (b : Book) (x : Order) : cellsAt (ownO b x) 0 11 = some (ownO b x) := nrfl rfl
@[go_sem] theorem ownO_un (b : Book) (x : Order) : (ownO b x).map unown = (b.withO x).c := by
  simp [ownO, Book.withO, Book.c, unown]
@[go_sem] theorem ownO_under (b : Book) (x : Order) (n : Nat) : C.underL n (ownO b x) = true := by simp [ownO, go_sem]

section
variable {Γ : Env} [P06 Γ] [G06 Γ]
end
end Go.Pm.Cd

namespace Go.Pm.Cd
open Ac
set_option maxRecDepth 100000
set_option linter.unusedSimpArgs false
set_option linter.unusedSectionVars false
set_option linter.unusedVariables false

@[go_sem] theorem bin_shl (k : IntKind) (x y : Int) : bin .shl (.sc (.int k x)) (.sc (.int .i64 y)) = br (decide (y < 0)) none (some (.int k (k.wrap (x * 2 ^ (Nat.min y.toNat k.bits))))) := by
  simp only [bin, shifted]; by_cases h : y < 0 <;> simp [h]
@[go_sem] theorem bin_shr (k : IntKind) (x y : Int) : bin .shr (.sc (.int k x)) (.sc (.int .i64 y)) = br (decide (y < 0)) none (some (.int k (x.fdiv (2 ^ (Nat.min y.toNat k.bits))))) := by
  simp only [bin, shifted]; by_cases h : y < 0 <;> simp [h]
@[go_sem] theorem bin_and (k : IntKind) (x y : Int) : bin .and (.sc (.int k x)) (.sc (.int k y)) = some (.int k (wrapBits k (BitVec.ofInt k.bits x &&& BitVec.ofInt k.bits y))) := by simp [bin, arith]

def earlier (l m : List Int) : Bool := match findFrom (fun _ (p : Int × Int) => decide (p.1 ≠ p.2)) 0 (l.zip m) with | some (_, p) => decide (p.1 < p.2) | none => decide ((l.length : Int) < m.length)
def shorter (l m : List Int) : Bool := decide ((l.length : Int) < m.length) || (decide ((l.length : Int) = m.length) && earlier l m)
section
variable {Γ : Env} [P06 Γ] [G06 Γ]
@[go_sem] theorem Equal_k (k k' : SK) (l m : List Int) (hl : l.length ≤ 1000000) (hm : m.length ≤ 1000000) : K Γ (.fn 23) [.sc (.sl k 1 (l.map fun x => [ci x])), .sc (.sl k' 1 (m.map fun x => [ci x]))] [] = some (vb (decide (l = m)), []) := by
  rw [K_fn P06.f23 _ _ rfl]
  by_cases hlm : (l.length : Int) = m.length
  · have d1 := decide_eq_true hlm
    have hz : (l.zip m).length = l.length := by simp [List.length_zip]; omega
    (simp only [go_sem, simprocAttr, decaniref00_Equal, d1]; repeat' (first | ((first | (refine br_yes (by omega) ?_) | (refine br_no (by omega) ?_) | (apply br_all; (· simp only [Bool.and_eq_true, decide_eq_true_eq]; omega)) | (apply br_free; (· simp [go_sem, Pm.acc, Acc.free, refsOf, offOf, keyEq, tagEq, cellsEq, cellEq]; done)) | ((first | apply br_mergeT | apply br_mergeF); (· intro h; simp only [go_sem, simprocAttr, sel_of h, decaniref00_Equal, d1]; exact rfl))); (try simp only [go_sem, simprocAttr, decaniref00_Equal, d1])) | ((first | apply onGuard_sel | (apply pickV_split; apply br_split) | apply br_split) <;> intro h <;> (try simp only [go_sem, simprocAttr, h, decaniref00_Equal, d1]))))
    refine (E_range (fun i (a : Bool) => ⟨[(0, .sc (.sl k 1 (l.map fun x => [ci x]))), (1, .sc (.sl k' 1 (m.map fun x => [ci x]))), (5, vb a), (6, vi i)], []⟩) (l.zip m)
      (fun i a p => if a then .inl (decide (p.1 = p.2)) else .inr (.exit 0, ⟨[(0, .sc (.sl k 1 (l.map fun x => [ci x]))), (1, .sc (.sl k' 1 (m.map fun x => [ci x]))), (5, vb false), (6, vi i), (18, vb false)], []⟩))
      (fun a => (.exit 0, ⟨[(0, .sc (.sl k 1 (l.map fun x => [ci x]))), (1, .sc (.sl k' 1 (m.map fun x => [ci x]))), (5, vb a), (6, vi (l.zip m).length), (18, vb false)], []⟩)) _ ?_ ?_ ?_ true).trans ?_
    · intro i a p a' hp hf
      obtain ⟨h1, h2⟩ := List.getElem?_zip_eq_some.1 hp
      have d1 := decide_eq_true (show (i : Int) < l.length by have := (List.getElem?_eq_some_iff.1 h1).1; omega)
      have hi : IntKind.i64.wrap ((i : Int) + 1) = i + 1 := wrap_i64 (by have := (List.getElem?_eq_some_iff.1 h1).1; omega) (by have := (List.getElem?_eq_some_iff.1 h1).1; omega)
      cases a with
      | false => simp at hf
      | true =>
        simp only [if_true, Sum.inl.injEq] at hf
        subst hf
        (simp only [go_sem, simprocAttr, decaniref00_Equal_B0, h1, h2, d1, hi]; repeat' (first | ((first | (refine br_yes (by omega) ?_) | (refine br_no (by omega) ?_) | (apply br_all; (· simp only [Bool.and_eq_true, decide_eq_true_eq]; omega)) | (apply br_free; (· simp [go_sem, Pm.acc, Acc.free, refsOf, offOf, keyEq, tagEq, cellsEq, cellEq]; done)) | ((first | apply br_mergeT | apply br_mergeF); (· intro h; simp only [go_sem, simprocAttr, sel_of h, decaniref00_Equal_B0, h1, h2, d1, hi]; exact rfl))); (try simp only [go_sem, simprocAttr, decaniref00_Equal_B0, h1, h2, d1, hi])) | ((first | apply onGuard_sel | (apply pickV_split; apply br_split) | apply br_split) <;> intro h <;> (try simp only [go_sem, simprocAttr, h, decaniref00_Equal_B0, h1, h2, d1, hi]))))
        rfl
    · intro i a p r hp hf
      cases a with
      | true => simp at hf
      | false =>
        simp only [Bool.false_eq_true, if_false, Sum.inr.injEq] at hf
        subst hf
        (simp only [go_sem, simprocAttr, decaniref00_Equal_B0]; repeat' (first | ((first | (refine br_yes (by omega) ?_) | (refine br_no (by omega) ?_) | (apply br_all; (· simp only [Bool.and_eq_true, decide_eq_true_eq]; omega)) | (apply br_free; (· simp [go_sem, Pm.acc, Acc.free, refsOf, offOf, keyEq, tagEq, cellsEq, cellEq]; done)) | ((first | apply br_mergeT | apply br_mergeF); (· intro h; simp only [go_sem, simprocAttr, sel_of h, decaniref00_Equal_B0]; exact rfl))); (try simp only [go_sem, simprocAttr, decaniref00_Equal_B0])) | ((first | apply onGuard_sel | (apply pickV_split; apply br_split) | apply br_split) <;> intro h <;> (try simp only [go_sem, simprocAttr, h, decaniref00_Equal_B0]))))
    · intro a
      have d1 : decide (((l.zip m).length : Int) < l.length) = false := decide_eq_false (by omega)
      cases a with
      | true => (simp only [go_sem, simprocAttr, decaniref00_Equal_B0, d1]; repeat' (first | ((first | (refine br_yes (by omega) ?_) | (refine br_no (by omega) ?_) | (apply br_all; (· simp only [Bool.and_eq_true, decide_eq_true_eq]; omega)) | (apply br_free; (· simp [go_sem, Pm.acc, Acc.free, refsOf, offOf, keyEq, tagEq, cellsEq, cellEq]; done)) | ((first | apply br_mergeT | apply br_mergeF); (· intro h; simp only [go_sem, simprocAttr, sel_of h, decaniref00_Equal_B0, d1]; exact rfl))); (try simp only [go_sem, simprocAttr, decaniref00_Equal_B0, d1])) | ((first | apply onGuard_sel | (apply pickV_split; apply br_split) | apply br_split) <;> intro h <;> (try simp only [go_sem, simprocAttr, h, decaniref00_Equal_B0, d1]))))
      | false => (simp only [go_sem, simprocAttr, decaniref00_Equal_B0]; repeat' (first | ((first | (refine br_yes (by omega) ?_) | (refine br_no (by omega) ?_) | (apply br_all; (· simp only [Bool.and_eq_true, decide_eq_true_eq]; omega)) | (apply br_free; (· simp [go_sem, Pm.acc, Acc.free, refsOf, offOf, keyEq, tagEq, cellsEq, cellEq]; done)) | ((first | apply br_mergeT | apply br_mergeF); (· intro h; simp only [go_sem, simprocAttr, sel_of h, decaniref00_Equal_B0]; exact rfl))); (try simp only [go_sem, simprocAttr, decaniref00_Equal_B0])) | ((first | apply onGuard_sel | (apply pickV_split; apply br_split) | apply br_split) <;> intro h <;> (try simp only [go_sem, simprocAttr, h, decaniref00_Equal_B0]))))
    · have key : ∀ (ps : List (Int × Int)) (n : Nat) (a : Bool), ∃ j e, goFold (fun (i : Nat) (a : Bool) (p : Int × Int) => if a then Sum.inl (decide (p.1 = p.2)) else Sum.inr (Ex.exit 0, (⟨[(0, .sc (.sl k 1 (l.map fun x => [ci x]))), (1, .sc (.sl k' 1 (m.map fun x => [ci x]))), (5, vb false), (6, vi i), (18, vb false)], []⟩ : St)))
          (fun a => (.exit 0, ⟨[(0, .sc (.sl k 1 (l.map fun x => [ci x]))), (1, .sc (.sl k' 1 (m.map fun x => [ci x]))), (5, vb a), (6, vi (l.zip m).length), (18, vb false)], []⟩)) n a ps =
          (.exit 0, ⟨[(0, .sc (.sl k 1 (l.map fun x => [ci x]))), (1, .sc (.sl k' 1 (m.map fun x => [ci x]))), (5, vb e), (6, vi j), (18, vb false)], []⟩) ∧ e = (a && decide (∀ p, p ∈ ps → p.1 = p.2)) := by
        intro ps
        induction ps with
        | nil => intro n a; exact ⟨_, a, rfl, by simp⟩
        | cons p ps ih =>
          intro n a
          cases a with
          | false => exact ⟨n, false, rfl, by simp⟩
          | true =>
            obtain ⟨j, e, h1, h2⟩ := ih (n + 1) (decide (p.1 = p.2))
            refine ⟨j, e, by simp only [goFold, if_true]; exact h1, ?_⟩
            rw [h2, Bool.true_and]
            by_cases hp : p.1 = p.2
            · have e1 : (∀ q, q ∈ p :: ps → q.1 = q.2) ↔ (∀ q, q ∈ ps → q.1 = q.2) := by simp [hp]
              rw [decide_eq_true hp, Bool.true_and, decide_eq_decide.2 e1]
            · have e1 : ¬ (∀ q, q ∈ p :: ps → q.1 = q.2) := fun h => hp (h p (by simp))
              rw [decide_eq_false hp, Bool.false_and, decide_eq_false e1]
      obtain ⟨j, e, h1, h2⟩ := key (l.zip m) 0 true
      rw [h1]
      have he : e = decide (l = m) := by
        rw [h2, Bool.true_and, decide_eq_decide]
        constructor
        · intro h
          apply List.ext_getElem?
          intro i
          by_cases hi : i < l.length
          · have hi' : i < m.length := by omega
            have := h (l[i], m[i]) (List.mem_of_getElem? (List.getElem?_zip_eq_some.2 ⟨List.getElem?_eq_getElem hi, List.getElem?_eq_getElem hi'⟩))
            rw [List.getElem?_eq_getElem hi, List.getElem?_eq_getElem hi']
            exact congrArg some this
          · rw [List.getElem?_eq_none (by omega), List.getElem?_eq_none (by omega)]
        · rintro rfl p hp
          obtain ⟨i, hi⟩ := List.getElem?_of_mem hp
          obtain ⟨a1, a2⟩ := List.getElem?_zip_eq_some.1 hi
          rw [a1] at a2; exact Option.some.inj a2
      subst he
      (simp only [go_sem, simprocAttr]; repeat' (first | ((first | (refine br_yes (by omega) ?_) | (refine br_no (by omega) ?_) | (apply br_all; (· simp only [Bool.and_eq_true, decide_eq_true_eq]; omega)) | (apply br_free; (· simp [go_sem, Pm.acc, Acc.free, refsOf, offOf, keyEq, tagEq, cellsEq, cellEq]; done)) | ((first | apply br_mergeT | apply br_mergeF); (· intro h; simp only [go_sem, simprocAttr, sel_of h]; exact rfl))); (try simp only [go_sem, simprocAttr])) | ((first | apply onGuard_sel | (apply pickV_split; apply br_split) | apply br_split) <;> intro h <;> (try simp only [go_sem, simprocAttr, h]))))
  · have d1 := decide_eq_false hlm
    have hne : decide (l = m) = false := decide_eq_false (fun e => hlm (by rw [e]))
    (simp only [go_sem, simprocAttr, decaniref00_Equal, d1, hne, decaniref00_Equal_L0, decaniref00_Equal_B0, E_loop]; repeat' (first | ((first | (refine br_yes (by omega) ?_) | (refine br_no (by omega) ?_) | (apply br_all; (· simp only [Bool.and_eq_true, decide_eq_true_eq]; omega)) | (apply br_free; (· simp [go_sem, Pm.acc, Acc.free, refsOf, offOf, keyEq, tagEq, cellsEq, cellEq]; done)) | ((first | apply br_mergeT | apply br_mergeF); (· intro h; simp only [go_sem, simprocAttr, sel_of h, decaniref00_Equal, d1, hne, decaniref00_Equal_L0, decaniref00_Equal_B0, E_loop]; exact rfl))); (try simp only [go_sem, simprocAttr, decaniref00_Equal, d1, hne, decaniref00_Equal_L0, decaniref00_Equal_B0, E_loop])) | ((first | apply onGuard_sel | (apply pickV_split; apply br_split) | apply br_split) <;> intro h <;> (try simp only [go_sem, simprocAttr, h, decaniref00_Equal, d1, hne, decaniref00_Equal_L0, decaniref00_Equal_B0, E_loop]))))
end
end Go.Pm.Cd

namespace Go.Pm.Cd
open Ac
set_option maxRecDepth 100000
set_option linter.unusedSimpArgs false
set_option linter.unusedSectionVars false
set_option linter.unusedVariables false

def Incr (f n : Int) : List Int → Prop
  | [] => True
  | x :: xs => f ≤ x ∧ x < n ∧ Incr (x + 1) n xs
theorem incr_of {n : Int} : ∀ {f : Int} {l : List Int}, (∀ x, x ∈ l → f ≤ x ∧ x < n) → l.Pairwise (· < ·) → Incr f n l
  | f, [], _, _ => trivial
  | f, x :: l, h, hp => by
    rw [List.pairwise_cons] at hp
    have hx := h x (by simp)
    exact ⟨hx.1, hx.2, incr_of (fun y hy => ⟨by have := hp.1 y hy; omega, (h y (by simp [hy])).2⟩) hp.2⟩
def before : List Int → List Int → Bool
  | [], [] => false
  | [], _ :: _ => true
  | _ :: _, [] => false
  | x :: xs, y :: ys => if x = y then before xs ys else decide (x < y)
theorem findFrom_shift {α : Type} (p : α → Bool) : ∀ (l : List α) (n m : Nat), (findFrom (fun _ x => p x) n l).map Prod.snd = (findFrom (fun _ x => p x) m l).map Prod.snd
  | [], _, _ => rfl
  | x :: l, n, m => by
    by_cases h : p x = true
    · simp only [findFrom, h, if_true, Option.map_some]
    · simp only [findFrom, h, if_false]; exact findFrom_shift p l (n + 1) (m + 1)
theorem earlier_map (l m : List Int) (n : Nat) : earlier l m = match (findFrom (fun _ (p : Int × Int) => decide (p.1 ≠ p.2)) n (l.zip m)).map Prod.snd with | some p => decide (p.1 < p.2) | none => decide ((l.length : Int) < m.length) := by
  rw [findFrom_shift (fun p : Int × Int => decide (p.1 ≠ p.2)) (l.zip m) n 0]
  unfold earlier
  cases findFrom (fun _ (p : Int × Int) => decide (p.1 ≠ p.2)) 0 (l.zip m) with
  | none => rfl
  | some q => rfl
theorem earlier_before : ∀ (l m : List Int), earlier l m = before l m
  | [], [] => rfl
  | [], y :: ys => by simp [earlier, findFrom, before]; try omega
  | x :: xs, [] => by simp [earlier, findFrom, before]; try omega
  | x :: xs, y :: ys => by
    have ih := earlier_before xs ys
    rw [earlier_map xs ys 1] at ih
    rw [earlier_map (x :: xs) (y :: ys) 0]
    simp only [List.zip_cons_cons, findFrom, before]
    by_cases h : x = y
    · have d : decide (x ≠ y) = false := decide_eq_false (fun e => e h)
      simp only [d, Bool.false_eq_true, if_false, if_pos h, Nat.zero_add]
      rw [← ih]
      cases (findFrom (fun _ (p : Int × Int) => decide (p.1 ≠ p.2)) 1 (xs.zip ys)).map Prod.snd with
      | none => simp only [List.length_cons, decide_eq_decide]; omega
      | some p => rfl
    · have d : decide (x ≠ y) = true := decide_eq_true h
      simp only [d, if_true, Option.map_some, if_neg h]

theorem fromOf_snoc (l : List Int) (x : Int) : fromOf (l ++ [x]) = x + 1 := by
  have : l ++ [x] ≠ [] := by simp
  simp [fromOf]

theorem choose_spec (b : Book) : ∀ (r : Nat) (l : List Int),
    ((b.choose r l).2 = true → ∃ e, (b.choose r l).1 = l ++ e ∧ e.length = r ∧ Incr (fromOf l) b.counts.length e ∧ b.truths (l ++ e) ≠ [] ∧ ∀ e', e'.length = r → Incr (fromOf l) b.counts.length e' → b.truths (l ++ e') ≠ [] → before e' e = false) ∧
    ((b.choose r l).2 = false → ∀ e', e'.length = r → Incr (fromOf l) b.counts.length e' → b.truths (l ++ e') = [])
  | 0, l => by
    refine ⟨fun h => ?_, fun h => ?_⟩
    · simp only [Book.choose, decide_eq_true_eq] at h
      exact ⟨[], by simp [Book.choose], rfl, trivial, by simpa using h, fun e' he' _ _ => by cases e' with | nil => rfl | cons => simp at he'⟩
    · intro e' he' _
      simp only [Book.choose, decide_eq_false_iff_not, Decidable.not_not] at h
      cases e' with
      | nil => simpa using h
      | cons => simp at he'
  | r + 1, l => by
    have hr : ∀ i : Nat, i < (b.counts.length - fromOf l).toNat → (List.range (b.counts.length - fromOf l).toNat)[i]? = some i := fun i hi => List.getElem?_range hi
    cases hf : findFrom (fun i _ => (b.choose r (l ++ [fromOf l + (i : Nat)])).2) 0 (List.range (b.counts.length - fromOf l).toNat) with
    | none =>
      have hc : b.choose (r + 1) l = ([], false) := by simp only [Book.choose, hf]
      rw [hc]
      refine ⟨fun h => (by cases h), fun _ e' he' hi => ?_⟩
      cases e' with
      | nil => simp at he'
      | cons x xs =>
        obtain ⟨h1, h2, h3⟩ := hi
        have hx : x = fromOf l + ((x - fromOf l).toNat : Int) := by omega
        have := findFrom_none.1 hf (x - fromOf l).toNat _ (hr _ (by omega))
        rw [Nat.zero_add, ← hx] at this
        have hq := (choose_spec b r (l ++ [x])).2 this xs (by simpa using he') (by rw [fromOf_snoc]; exact h3)
        simpa using hq
    | some q =>
      obtain ⟨i, j⟩ := q
      obtain ⟨-, g2, g3, g4⟩ := findFrom_some hf
      have hil : i < (b.counts.length - fromOf l).toNat := by have := (List.getElem?_eq_some_iff.1 g2).1; simp at this; omega
      have hc : b.choose (r + 1) l = ((b.choose r (l ++ [fromOf l + (i : Nat)])).1, true) := by simp only [Book.choose, hf]
      rw [hc]
      refine ⟨fun _ => ?_, fun h => (by cases h)⟩
      obtain ⟨e, h1, h2, h3, h4, h5⟩ := (choose_spec b r (l ++ [fromOf l + (i : Nat)])).1 g3
      rw [fromOf_snoc] at h3 h5
      refine ⟨(fromOf l + (i : Nat)) :: e, by rw [h1]; simp, by simp [h2], ⟨by omega, by omega, h3⟩, by simpa using h4, ?_⟩
      intro e' he' hi' ht'
      cases e' with
      | nil => simp at he'
      | cons x xs =>
        obtain ⟨k1, k2, k3⟩ := hi'
        simp only [before]
        by_cases hxe : x = fromOf l + (i : Nat)
        · rw [if_pos hxe]
          subst hxe
          exact h5 xs (by simpa using he') k3 (by simpa using ht')
        · rw [if_neg hxe]
          by_cases hlt : x < fromOf l + (i : Nat)
          · have hx : x = fromOf l + ((x - fromOf l).toNat : Int) := by omega
            have := g4 (x - fromOf l).toNat _ (by omega) (hr _ (by omega))
            rw [Nat.zero_add, ← hx] at this
            have hq := (choose_spec b r (l ++ [x])).2 this xs (by simpa using he') (by rw [fromOf_snoc]; exact k3)
            exact absurd (by simpa using hq) ht'
          · exact decide_eq_false hlt

theorem all_but {b : Book} (hv : b.valid = true) : b.truths ((List.range b.counts.length).map fun (j : Nat) => (j : Int)) ≠ [] := by
  have hs := sane_of_valid hv
  rw [truths_ne hs]
  obtain ⟨n, f, dk, w⟩ := (truths_ne (sane_of_valid (bare_valid hv)) []).1 (bare_ne hs (sane_of_valid (bare_valid hv)))
  refine ⟨n, f, dk, w.stock, w.life, w.dark, fun i x hx hb => ?_⟩
  have : ((List.range b.counts.length).map fun (j : Nat) => (j : Int)).contains (i : Int) = true := by
    rw [List.contains_iff_mem, List.mem_map]
    exact ⟨i, List.mem_range.2 (List.getElem?_eq_some_iff.1 hx).1, rfl⟩
  rw [this] at hb; cases hb

theorem wrong_spec {b : Book} (hv : b.valid = true) : b.wrong.2 = 0 ∧ Incr 0 b.counts.length b.wrong.1 ∧ b.truths b.wrong.1 ≠ [] ∧ b.wrong.1.length ≤ b.counts.length ∧
    ∀ l, Incr 0 b.counts.length l → b.truths l ≠ [] → shorter l b.wrong.1 = false := by
  have hall : (b.choose b.counts.length []).2 = true := by
    cases h : (b.choose b.counts.length []).2 with
    | true => rfl
    | false =>
      have := (choose_spec b b.counts.length []).2 h ((List.range b.counts.length).map fun (j : Nat) => (j : Int)) (by simp) (incr_of (fun x hx => by
        simp only [List.mem_map, List.mem_range] at hx
        obtain ⟨j, hj, rfl⟩ := hx
        simp [fromOf]; omega) (by rw [List.pairwise_map]; exact List.pairwise_lt_range.imp (fun h => by omega)))
      exact absurd (by simpa using this) (all_but hv)
  cases hf : findFrom (fun m _ => (b.choose m []).2) 0 (List.range (b.counts.length + 1)) with
  | none =>
    have := findFrom_none.1 hf b.counts.length b.counts.length (List.getElem?_range (by omega))
    rw [Nat.zero_add, hall] at this; cases this
  | some q =>
    obtain ⟨m, j⟩ := q
    obtain ⟨-, g2, g3, g4⟩ := findFrom_some hf
    have hm : m < b.counts.length + 1 := by have := (List.getElem?_eq_some_iff.1 g2).1; simp at this; omega
    have hw : b.wrong = ((b.choose m []).1, 0) := by simp only [Book.wrong, hv, if_true, hf]
    rw [hw]
    obtain ⟨e, h1, h2, h3, h4, h5⟩ := (choose_spec b m []).1 g3
    have hf0 : fromOf [] = 0 := rfl
    rw [hf0] at h3 h5
    simp only [List.nil_append] at h1 h4 h5
    refine ⟨rfl, by rw [h1]; exact h3, by rw [h1]; exact h4, by rw [h1, h2]; omega, fun l hl ht => ?_⟩
    simp only [h1, shorter, Bool.or_eq_false_iff, Bool.and_eq_false_iff, decide_eq_false_iff_not]
    constructor
    · intro hlt
      have hq := g4 l.length l.length (by omega) (List.getElem?_range (by omega))
      rw [Nat.zero_add] at hq
      have := (choose_spec b l.length []).2 hq l rfl hl
      exact ht (by simpa using this)
    · by_cases hle : (l.length : Int) = e.length
      · right
        rw [earlier_before]
        exact h5 l (by omega) hl ht
      · exact .inl hle

def Book.keptN (b : Book) (l : List Int) (i : Nat) : List Count := (List.range i).foldl (fun acc (j : Nat) => match b.counts[j]? with | some x => if l.contains (j : Int) then acc else acc ++ [x] | none => acc) []
def Book.withC (b : Book) (L : List Count) : Book := { b with kc := if L = [] then .nil else .shared, counts := L }
def Book.without (b : Book) (l : List Int) : Book := b.withC (b.keptN l b.counts.length)
theorem withC_valid {b : Book} (hv : b.valid = true) {L : List Count} (h5 : L.length ≤ 5) (hL : ∀ x, x ∈ L → b.isCount x = true) : (b.withC L).valid = true := by
  have e1 : (b.withC L).orderOk = b.orderOk := rfl
  have e2 : (b.withC L).isCount = b.isCount := rfl
  simp only [Book.valid, Bool.and_eq_true, decide_eq_true_eq, e1, e2] at hv ⊢
  refine ⟨⟨⟨⟨⟨⟨⟨⟨⟨hv.1.1.1.1.1.1.1.1.1, hv.1.1.1.1.1.1.1.1.2⟩, ?_⟩, hv.1.1.1.1.1.1.2⟩, hv.1.1.1.1.1.2⟩, hv.1.1.1.1.2⟩, hv.1.1.1.2⟩, hv.1.1.2⟩, hv.1.2⟩, ?_⟩
  · simp only [Book.withC]; omega
  · simp only [List.all_eq_true, Book.withC]; exact hL
theorem withC_fits {b : Book} [hb : b.Fits] {L : List Count} (h5 : L.length ≤ 5) : (b.withC L).Fits := ⟨hb.1, hb.2, by simp only [Book.withC]; omega⟩
theorem withC_run (b : Book) (L : List Count) (k n f : Int) (dk : Nat → Int) (d : Nat) : (b.withC L).runK k n f dk d = b.runK k n f dk d := by
  induction d with
  | zero => rfl
  | succ d ih =>
    have hc : (b.withC L).comes = b.comes := rfl
    have hd : (b.withC L).days = b.days := rfl
    simp only [Book.runK, hd, hc, ih]
theorem valid_counts5 {b : Book} (hv : b.valid = true) : b.counts.length ≤ 5 := by
  simp only [Book.valid, Bool.and_eq_true, decide_eq_true_eq] at hv
  have := hv.1.1.1.1.1.1.1.2; omega
def B10 (b : Book) (c : C) : List C := [ci b.s0.lo, ci b.s0.hi, ci b.s1.lo, ci b.s1.hi, ci b.f0.lo, ci b.f0.hi, ci b.f1.lo, ci b.f1.hi, .sl b.kd 5 (b.days.map Day.c), .sl b.ko 3 (b.orders.map Order.c), c]
section
variable (b : Book) (c c' : C)
@[go_sem] theorem B10_get : (B10 b c)[10]? = some c := nrfl rfl
@[go_sem] theorem B10_set : (B10 b c).set 10 c' = B10 b c' := nrfl rfl
@[go_sem] theorem B10_under (n : Nat) : C.underL n (B10 b c) = C.underL n [c] := by simp [B10, C.underL, C.under]
@[go_sem] theorem B10_len : (B10 b c).length = 11 := nrfl rfl
@[go_sem] theorem B10_all : cellsAt (B10 b c) 0 11 = some (B10 b c) := nrfl rfl
end
theorem B10_un (b : Book) (L : List Count) : (B10 b (ownC 4 (L.map Count.c))).map unown = (b.withC L).c := by
  cases L with
  | nil => rfl
  | cons x L => simp [B10, Book.withC, Book.c, ownC, unown]
section
variable {Γ : Env} [P06 Γ] [G06 Γ]
end
end Go.Pm.Cd

namespace Go.Pm.Cd
open Ac
set_option maxRecDepth 100000
set_option linter.unusedSimpArgs false
set_option linter.unusedSectionVars false
set_option linter.unusedVariables false

def kN {α : Type} (L : List α) : SK := match L with | [] => .nil | _ :: _ => .shared
theorem unown_ownC_eq (es : Nat) (L : List (List C)) : unown (ownC es L) = .sl (kN L) es L := by cases L <;> rfl
theorem ownC_nil (es : Nat) : ownC es [] = .sl .nil es [] := rfl
theorem drawn_has {s : Span} (n : Int) (h : s.lo ≤ s.hi) : s.has (drawn s n) := by
  have := turn_lt n (s.hi - s.lo + 1) (by omega)
  simp only [drawn, Span.has]; omega

def Book.tdk (b : Book) (l : List Int) (d : Nat) : Int := match b.days[d]? with | some x => drawn x.dark (nth l d) | none => 0
def Book.tf (b : Book) (l : List Int) (k : Int) : Int := drawn (b.life k) (nth l (k + 1))
def Book.tn (b : Book) (l : List Int) (k : Int) : Int := drawn (b.stock k) (nth l (k + 2))
def Book.trun (b : Book) (l : List Int) (k : Int) (d : Nat) : Int := b.runK k (b.tn l k) (b.tf l k) (b.tdk l) d
def darkL (b : Book) (l : List Int) (m : Nat) : List (List C) := (List.range m).map fun d => [ci (b.tdk l d)]
def leftL (b : Book) (l : List Int) (k : Int) (m : Nat) : List (List C) := (List.range m).map fun d => [ci (b.trun l k (d + 1))]
theorem darkL_succ (b : Book) (l : List Int) (m : Nat) : darkL b l (m + 1) = darkL b l m ++ [[ci (b.tdk l m)]] := by simp [darkL, List.range_succ]
theorem leftL_succ (b : Book) (l : List Int) (k : Int) (m : Nat) : leftL b l k (m + 1) = leftL b l k m ++ [[ci (b.trun l k (m + 1))]] := by simp [leftL, List.range_succ]
theorem darkL_len (b : Book) (l : List Int) (m : Nat) : (darkL b l m).length = m := by simp [darkL]
theorem leftL_len (b : Book) (l : List Int) (k : Int) (m : Nat) : (leftL b l k m).length = m := by simp [leftL]
theorem darkL_get (b : Book) (l : List Int) {m d : Nat} (h : d < m) : (darkL b l m)[d]? = some [ci (b.tdk l d)] := by simp [darkL, h]
theorem leftL_get (b : Book) (l : List Int) (k : Int) {m d : Nat} (h : d < m) : (leftL b l k m)[d]? = some [ci (b.trun l k (d + 1))] := by simp [leftL, h]

theorem true_way {b : Book} (hv : b.sane = true) (l : List Int) : (∀ k, k = 0 ∨ k = 1 → (b.stock k).has (b.tn l k)) ∧ (∀ k, k = 0 ∨ k = 1 → (b.life k).has (b.tf l k)) ∧ (∀ (d : Nat) (x : Day), b.days[d]? = some x → x.dark.has (b.tdk l d)) := by
  have hs := span_has hv
  refine ⟨fun k hk => drawn_has _ (hs.1 k hk), fun k hk => drawn_has _ (hs.2 k hk).1, fun d x hx => ?_⟩
  simp only [Book.tdk, hx]
  exact drawn_has _ (by have := (valid_day hv hx).2.1; omega)
theorem trun_bound {b : Book} (hv : b.sane = true) (l : List Int) {k : Int} (hk : k = 0 ∨ k = 1) (d : Nat) (hd : d ≤ 5) : -300 ≤ b.trun l k d ∧ b.trun l k d ≤ 1300 := by
  obtain ⟨h1, h2, h3⟩ := true_way hv l
  have := run_bound (n0 := b.tn l 0) (f0 := b.tf l 0) (n1 := b.tn l 1) (f1 := b.tf l 1) (dk := b.tdk l) hv (h1 0 (.inl rfl)) (h2 0 (.inl rfl)) (h1 1 (.inr rfl)) (h2 1 (.inr rfl)) h3 d
  rw [run_K] at this
  simp only [Book.trun]
  rcases hk with rfl | rfl <;> simp only at this <;> omega

/-! ### No more than there were and came -/
def totN (l : List (Int × Int × Int)) (k : Int) (d : Nat) : Int := (List.range d).foldl (fun s (e : Nat) => s + got2 l k e) 0
theorem totN_succ (l : List (Int × Int × Int)) (k : Int) (d : Nat) : totN l k (d + 1) = totN l k d + got2 l k d := by simp [totN, List.range_succ]
theorem totN_add (l : List (Int × Int × Int)) (k : Int) (y : Order) (hy : 0 ≤ y.many) : ∀ d : Nat, totN (addOrder l y) k d ≤ totN l k d + (if y.kind = k ∧ y.day < d ∧ 0 ≤ y.day then y.many else 0)
  | 0 => by simp only [totN, List.range_zero, List.foldl_nil]; rw [if_neg (by omega)]; omega
  | d + 1 => by
    have ih := totN_add l k y hy d
    rw [totN_succ, totN_succ, addOrder, got2_put]
    by_cases h : k = y.kind ∧ (d : Int) = y.day
    · rw [if_pos h, if_pos (by omega), ← h.1, ← h.2]
      rw [if_neg (by omega)] at ih
      rw [addOrder] at ih
      rw [← h.1, ← h.2] at ih
      omega
    · rw [if_neg h]
      rw [addOrder] at ih
      by_cases h2 : y.kind = k ∧ y.day < d ∧ 0 ≤ y.day
      · rw [if_pos h2] at ih
        rw [if_pos (by omega)]; omega
      · rw [if_neg h2] at ih
        rw [if_neg (by omega)]; omega
theorem totN_bound {b : Book} (hv : b.sane = true) (k : Int) (d : Nat) : ∀ i, i ≤ b.orders.length → totN (b.comesN i) k d ≤ 60 * i
  | 0, _ => by
    have : ∀ d, totN (b.comesN 0) k d = 0 := fun d => by
      induction d with
      | zero => rfl
      | succ d ih => rw [totN_succ, ih]; simp [Book.comesN, got2]
    rw [this]; omega
  | i + 1, hi => by
    have ih := totN_bound hv k d i (by omega)
    obtain ⟨y, hy⟩ : ∃ y, b.orders[i]? = some y := ⟨_, List.getElem?_eq_getElem (by omega)⟩
    have hyo := valid_order hv hy
    rw [comesN_succ b hy]
    have := totN_add (b.comesN i) k y (by omega) d
    split at this <;> omega
theorem runK_tot {b : Book} (hv : b.sane = true) {k n f : Int} {dk : Nat → Int} (hk : k = 0 ∨ k = 1) (hf : 1 ≤ f ∧ f ≤ 6) (hdark : ∀ (d : Nat) (x : Day), b.days[d]? = some x → x.dark.has (dk d)) : ∀ d, b.runK k n f dk d ≤ n + totN b.comes k d
  | 0 => by simp only [Book.runK, totN, List.range_zero, List.foldl_nil]; omega
  | d + 1 => by
    have ih := runK_tot hv (n := n) hk hf hdark d
    have hc := comes_bound hv k d
    rw [totN_succ]
    cases hx : b.days[d]? with
    | none => simp only [Book.runK, hx]; omega
    | some x =>
      rw [runK_succ b k n f dk hx]
      have hvx := valid_day hv hx
      have hdx := hdark d x hx
      have e := hdx.1; have e' := hdx.2
      have hlt : 0 ≤ x.lights k ∧ x.lights k ≤ 9 := by
        rcases hk with rfl | rfl
        · exact hvx.2.2.1
        · exact hvx.2.2.2
      have hb := burnt_bound f (x.lights k) (min x.hours (dk d)) hf (by omega) hlt
      simp only [after1]
      omega
theorem trun_most {b : Book} (hv : b.sane = true) (l : List Int) {k : Int} (hk : k = 0 ∨ k = 1) (d : Nat) : b.trun l k d ≤ 300 := by
  obtain ⟨h1, h2, h3⟩ := true_way hv l
  have hs := valid_spans hv
  have hl := (span_has hv).2 k hk
  have a := h2 k hk
  have a1 := a.1; have a2 := a.2
  have := runK_tot hv (n := b.tn l k) hk (show 1 ≤ b.tf l k ∧ b.tf l k ≤ 6 by omega) h3 d
  have ht := totN_bound hv k d b.orders.length (Nat.le_refl _)
  rw [comesN_all] at ht
  have hvd := valid_days hv
  have hn := (h1 k hk).2
  have : (b.stock k).hi ≤ 60 := by
    rcases hk with rfl | rfl
    · exact hs.1.2.2.1
    · exact hs.2.2.1.2.2.1
  simp only [Book.trun] at *
  omega

section
variable {Γ : Env} [P06 Γ] [G06 Γ]
theorem Turn_big (n below : Int) (hb : below ≤ 9223372036854775807) : K Γ (.fn 27) [vi n, vi below] [] = some (vi (turn n below), []) := by
  rw [K_fn P06.f27 _ _ rfl]
  by_cases h : below < 1
  · have hd := decide_eq_true h
    (simp only [go_sem, simprocAttr, decaniref00_Turn, hd, turn, h]; repeat' (first | ((first | (refine br_yes (by omega) ?_) | (refine br_no (by omega) ?_) | (apply br_all; (· simp only [Bool.and_eq_true, decide_eq_true_eq]; omega)) | (apply br_free; (· simp [go_sem, Pm.acc, Acc.free, refsOf, offOf, keyEq, tagEq, cellsEq, cellEq]; done)) | ((first | apply br_mergeT | apply br_mergeF); (· intro h; simp only [go_sem, simprocAttr, sel_of h, decaniref00_Turn, hd, turn, h]; exact rfl))); (try simp only [go_sem, simprocAttr, decaniref00_Turn, hd, turn, h])) | ((first | apply onGuard_sel | (apply pickV_split; apply br_split) | apply br_split) <;> intro h <;> (try simp only [go_sem, simprocAttr, h, decaniref00_Turn, hd, turn, h]))))
  · have hd := decide_eq_false h
    have hz : decide (below = 0) = false := decide_eq_false (by omega)
    have h1 := Int.tmod_lt_of_pos n (show 0 < below by omega)
    have h2 : -below < n.tmod below := by
      have := Int.tmod_lt_of_pos (-n) (show 0 < below by omega)
      rw [Int.neg_tmod] at this; omega
    by_cases hneg : n.tmod below < 0
    · have hd2 := decide_eq_true hneg
      have hw : IntKind.i64.wrap (n.tmod below + below) = n.tmod below + below := wrap_i64 (by omega) (by omega)
      (simp only [go_sem, simprocAttr, decaniref00_Turn, hd, hz, hd2, hw, turn, h, hneg]; repeat' (first | ((first | (refine br_yes (by omega) ?_) | (refine br_no (by omega) ?_) | (apply br_all; (· simp only [Bool.and_eq_true, decide_eq_true_eq]; omega)) | (apply br_free; (· simp [go_sem, Pm.acc, Acc.free, refsOf, offOf, keyEq, tagEq, cellsEq, cellEq]; done)) | ((first | apply br_mergeT | apply br_mergeF); (· intro h; simp only [go_sem, simprocAttr, sel_of h, decaniref00_Turn, hd, hz, hd2, hw, turn, h, hneg]; exact rfl))); (try simp only [go_sem, simprocAttr, decaniref00_Turn, hd, hz, hd2, hw, turn, h, hneg])) | ((first | apply onGuard_sel | (apply pickV_split; apply br_split) | apply br_split) <;> intro h <;> (try simp only [go_sem, simprocAttr, h, decaniref00_Turn, hd, hz, hd2, hw, turn, h, hneg]))))
    · have hd2 := decide_eq_false hneg
      (simp only [go_sem, simprocAttr, decaniref00_Turn, hd, hz, hd2, turn, h, hneg]; repeat' (first | ((first | (refine br_yes (by omega) ?_) | (refine br_no (by omega) ?_) | (apply br_all; (· simp only [Bool.and_eq_true, decide_eq_true_eq]; omega)) | (apply br_free; (· simp [go_sem, Pm.acc, Acc.free, refsOf, offOf, keyEq, tagEq, cellsEq, cellEq]; done)) | ((first | apply br_mergeT | apply br_mergeF); (· intro h; simp only [go_sem, simprocAttr, sel_of h, decaniref00_Turn, hd, hz, hd2, turn, h, hneg]; exact rfl))); (try simp only [go_sem, simprocAttr, decaniref00_Turn, hd, hz, hd2, turn, h, hneg])) | ((first | apply onGuard_sel | (apply pickV_split; apply br_split) | apply br_split) <;> intro h <;> (try simp only [go_sem, simprocAttr, h, decaniref00_Turn, hd, hz, hd2, turn, h, hneg]))))
theorem Nth_big (k : SK) (l : List Int) (n : Int) (hl : l.length ≤ 9223372036854775807) : K Γ (.fn 63) [.sc (.sl k 1 (l.map fun x => [ci x])), vi n] [] = some (vi (nth l n), []) := by
  have hT := Turn_big (Γ := Γ) n l.length (by omega)
  rw [K_fn P06.f63 _ _ rfl]
  by_cases h : l = []
  · subst h
    (simp only [go_sem, simprocAttr, decaniref00_Nth, nth, List.map_nil, List.length_nil]; repeat' (first | ((first | (refine br_yes (by omega) ?_) | (refine br_no (by omega) ?_) | (apply br_all; (· simp only [Bool.and_eq_true, decide_eq_true_eq]; omega)) | (apply br_free; (· simp [go_sem, Pm.acc, Acc.free, refsOf, offOf, keyEq, tagEq, cellsEq, cellEq]; done)) | ((first | apply br_mergeT | apply br_mergeF); (· intro h; simp only [go_sem, simprocAttr, sel_of h, decaniref00_Nth, nth, List.map_nil, List.length_nil]; exact rfl))); (try simp only [go_sem, simprocAttr, decaniref00_Nth, nth, List.map_nil, List.length_nil])) | ((first | apply onGuard_sel | (apply pickV_split; apply br_split) | apply br_split) <;> intro h <;> (try simp only [go_sem, simprocAttr, h, decaniref00_Nth, nth, List.map_nil, List.length_nil]))))
  · have hp : l.length ≠ 0 := fun e => h (List.length_eq_zero_iff.1 e)
    have hz : decide ((l.length : Int) = 0) = false := decide_eq_false (by omega)
    have ht := turn_lt n l.length (by omega)
    have hg : l[(turn n l.length).toNat]? = some (l.getD (turn n l.length).toNat 0) := by
      simp only [List.getD, List.getElem?_eq_getElem (show (turn n l.length).toNat < l.length by omega), Option.getD_some]
    (simp only [go_sem, simprocAttr, decaniref00_Nth, hz, hT, hg, nth, h]; repeat' (first | ((first | (refine br_yes (by omega) ?_) | (refine br_no (by omega) ?_) | (apply br_all; (· simp only [Bool.and_eq_true, decide_eq_true_eq]; omega)) | (apply br_free; (· simp [go_sem, Pm.acc, Acc.free, refsOf, offOf, keyEq, tagEq, cellsEq, cellEq]; done)) | ((first | apply br_mergeT | apply br_mergeF); (· intro h; simp only [go_sem, simprocAttr, sel_of h, decaniref00_Nth, hz, hT, hg, nth, h]; exact rfl))); (try simp only [go_sem, simprocAttr, decaniref00_Nth, hz, hT, hg, nth, h])) | ((first | apply onGuard_sel | (apply pickV_split; apply br_split) | apply br_split) <;> intro h <;> (try simp only [go_sem, simprocAttr, h, decaniref00_Nth, hz, hT, hg, nth, h]))))

def kn (c0 : C) (f0 f1 : Int) (c3 c4 : C) : List C := [c0, ci f0, ci f1, c3, c4]
theorem truly_L0 (b : Book) [hb : b.Fits] (hv : b.sane = true) (k : SK) (l : List Int) (hl : l.length ≤ 9223372036854775807) (z : Obj) (hz : z.under 3 = true) {β : Type} (Q : Ex → St → Option β) :
    E Γ decanilaw06_truly_L0 ⟨[(1, .sc (.sl k 1 (l.map fun x => [ci x]))), (2, .sc (.ptr 0 0)), (4, .sc (.ptr 1 0)), (5, .sc (.ptr 2 0)), (6, vi 0)], [.var b.c, z, .var (kn (.sl .nil 1 []) 0 0 (.sl .nil 1 []) (.sl .nil 1 []))]⟩ Q =
      Q (.exit 0) ⟨[(1, .sc (.sl k 1 (l.map fun x => [ci x]))), (2, .sc (.ptr 0 0)), (4, .sc (.ptr 1 0)), (5, .sc (.ptr 2 0)), (6, vi b.days.length), (18, vb false)], [.var b.c, z, .var (kn (ownC 1 (darkL b l b.days.length)) 0 0 (.sl .nil 1 []) (.sl .nil 1 []))]⟩ := by
  have hvd := valid_days hv
  refine E_countS b.days.length (fun i (_ : Unit) => ⟨[(1, .sc (.sl k 1 (l.map fun x => [ci x]))), (2, .sc (.ptr 0 0)), (4, .sc (.ptr 1 0)), (5, .sc (.ptr 2 0)), (6, vi i)], [.var b.c, z, .var (kn (ownC 1 (darkL b l i)) 0 0 (.sl .nil 1 []) (.sl .nil 1 []))]⟩) (fun _ _ => True)
    (fun _ => (.exit 0, ⟨[(1, .sc (.sl k 1 (l.map fun x => [ci x]))), (2, .sc (.ptr 0 0)), (4, .sc (.ptr 1 0)), (5, .sc (.ptr 2 0)), (6, vi b.days.length), (18, vb false)], [.var b.c, z, .var (kn (ownC 1 (darkL b l b.days.length)) 0 0 (.sl .nil 1 []) (.sl .nil 1 []))]⟩)) () rfl trivial ?_ ?_ ?_
  · intro i _ hi _
    refine ⟨(), trivial, ?_⟩
    obtain ⟨x, hx⟩ : ∃ x, b.days[i]? = some x := ⟨_, List.getElem?_eq_getElem hi⟩
    have hxd := (valid_day hv hx).2.1
    have hlt := decide_eq_true (show (i : Int) < b.days.length by omega)
    have hiw : IntKind.i64.wrap ((i : Int) + 1) = i + 1 := wrap_i64 (by omega) (by omega)
    have hN := Nth_big (Γ := Γ) k l i hl
    have hD := Draw_k (Γ := Γ) x.dark (nth l i) (by omega) (by omega)
    have hA := appended_ownC 1 (darkL b l i) .full [ci (drawn x.dark (nth l i))] (by simp only [darkL_len, room]; omega)
    have hdk : b.tdk l i = drawn x.dark (nth l i) := by simp only [Book.tdk, hx]
    rw [darkL_succ, hdk]
    (simp only [go_sem, simprocAttr, decanilaw06_truly_B0, hx, hlt, hiw, hN, hD, hA, hz, kn]; repeat' (first | ((first | (refine br_yes (by omega) ?_) | (refine br_no (by omega) ?_) | (apply br_all; (· simp only [Bool.and_eq_true, decide_eq_true_eq]; omega)) | (apply br_free; (· simp [go_sem, Pm.acc, Acc.free, refsOf, offOf, keyEq, tagEq, cellsEq, cellEq]; done)) | ((first | apply br_mergeT | apply br_mergeF); (· intro h; simp only [go_sem, simprocAttr, sel_of h, decanilaw06_truly_B0, hx, hlt, hiw, hN, hD, hA, hz, kn]; exact rfl))); (try simp only [go_sem, simprocAttr, decanilaw06_truly_B0, hx, hlt, hiw, hN, hD, hA, hz, kn])) | ((first | apply onGuard_sel | (apply pickV_split; apply br_split) | apply br_split) <;> intro h <;> (try simp only [go_sem, simprocAttr, h, decanilaw06_truly_B0, hx, hlt, hiw, hN, hD, hA, hz, kn]))))
    rfl
  · intro _ _
    have hlt := decide_eq_false (show ¬ (b.days.length : Int) < b.days.length by omega)
    (simp only [go_sem, simprocAttr, decanilaw06_truly_B0, hlt]; repeat' (first | ((first | (refine br_yes (by omega) ?_) | (refine br_no (by omega) ?_) | (apply br_all; (· simp only [Bool.and_eq_true, decide_eq_true_eq]; omega)) | (apply br_free; (· simp [go_sem, Pm.acc, Acc.free, refsOf, offOf, keyEq, tagEq, cellsEq, cellEq]; done)) | ((first | apply br_mergeT | apply br_mergeF); (· intro h; simp only [go_sem, simprocAttr, sel_of h, decanilaw06_truly_B0, hlt]; exact rfl))); (try simp only [go_sem, simprocAttr, decanilaw06_truly_B0, hlt])) | ((first | apply onGuard_sel | (apply pickV_split; apply br_split) | apply br_split) <;> intro h <;> (try simp only [go_sem, simprocAttr, h, decanilaw06_truly_B0, hlt]))))
  · intro _ _
    rfl

theorem truly_L3 (b : Book) [hb : b.Fits] (hv : b.sane = true) (bv : V) (hbv : ∀ n, bv.under n = true) (kind now : Int) (d : Nat) (hnow : -100000 ≤ now ∧ now ≤ 100000) (hd : d ≤ 5) (z : Obj) (hz : z.under 3 = true) (kc : List C) (hkc : C.underL 3 kc = true) {β : Type} (Q : Ex → St → Option β) :
    E Γ decanilaw06_truly_L3 ⟨[(1, bv), (2, .sc (.ptr 0 0)), (4, .sc (.ptr 1 0)), (5, .sc (.ptr 2 0)), (7, vi kind), (8, vi now), (9, vi d), (10, vi 0)], [.var b.c, z, .var kc]⟩ Q =
      Q (.exit 6) ⟨[(1, bv), (2, .sc (.ptr 0 0)), (4, .sc (.ptr 1 0)), (5, .sc (.ptr 2 0)), (7, vi kind), (8, vi (now + got2 b.comes kind d)), (9, vi d), (10, vi b.orders.length), (72, vb false)], [.var b.c, z, .var kc]⟩ := by
  have hvd := valid_days hv
  refine E_countS b.orders.length (fun i (_ : Unit) => ⟨[(1, bv), (2, .sc (.ptr 0 0)), (4, .sc (.ptr 1 0)), (5, .sc (.ptr 2 0)), (7, vi kind), (8, vi (now + got2 (b.comesN i) kind d)), (9, vi d), (10, vi i)], [.var b.c, z, .var kc]⟩) (fun _ _ => True)
    (fun _ => (.exit 6, ⟨[(1, bv), (2, .sc (.ptr 0 0)), (4, .sc (.ptr 1 0)), (5, .sc (.ptr 2 0)), (7, vi kind), (8, vi (now + got2 b.comes kind d)), (9, vi d), (10, vi b.orders.length), (72, vb false)], [.var b.c, z, .var kc]⟩)) () ?_ trivial ?_ ?_ ?_
  · simp [Book.comesN, got2]
  · intro i _ hi _
    refine ⟨(), trivial, ?_⟩
    obtain ⟨x, hx⟩ : ∃ x, b.orders[i]? = some x := ⟨_, List.getElem?_eq_getElem hi⟩
    have hlt := decide_eq_true (show (i : Int) < b.orders.length by omega)
    have hiw : IntKind.i64.wrap ((i : Int) + 1) = i + 1 := wrap_i64 (by omega) (by omega)
    have hs : now + got2 (b.comesN (i + 1)) kind d = if x.kind = kind ∧ x.day = d then now + got2 (b.comesN i) kind d + x.many else now + got2 (b.comesN i) kind d := by
      rw [comesN_succ b hx, addOrder, got2_put]
      by_cases h : kind = x.kind ∧ (d : Int) = x.day
      · rw [if_pos h, if_pos ⟨h.1.symm, h.2.symm⟩, h.1, h.2]; omega
      · rw [if_neg h, if_neg (fun e => h ⟨e.1.symm, e.2.symm⟩)]
    have hbd := comesN_bound hv i (by omega) kind d
    have hxo := valid_order hv hx
    have hcw : IntKind.i64.wrap (now + got2 (b.comesN i) kind d + x.many) = now + got2 (b.comesN i) kind d + x.many := wrap_i64 (by omega) (by omega)
    (simp only [go_sem, simprocAttr, decanilaw06_truly_B3, hx, hiw, hlt, hcw, hz, hbv, hkc]; repeat' (first | ((first | (refine br_yes (by omega) ?_) | (refine br_no (by omega) ?_) | (apply br_all; (· simp only [Bool.and_eq_true, decide_eq_true_eq]; omega)) | (apply br_free; (· simp [go_sem, Pm.acc, Acc.free, refsOf, offOf, keyEq, tagEq, cellsEq, cellEq]; done)) | ((first | apply br_mergeT | apply br_mergeF); (· intro h; simp only [go_sem, simprocAttr, sel_of h, decanilaw06_truly_B3, hx, hiw, hlt, hcw, hz, hbv, hkc]; exact rfl))); (try simp only [go_sem, simprocAttr, decanilaw06_truly_B3, hx, hiw, hlt, hcw, hz, hbv, hkc])) | ((first | apply onGuard_sel | (apply pickV_split; apply br_split) | apply br_split) <;> intro h <;> (try simp only [go_sem, simprocAttr, h, decanilaw06_truly_B3, hx, hiw, hlt, hcw, hz, hbv, hkc]))))
    all_goals (simp only [Bool.and_eq_true, Bool.or_eq_true, Bool.not_eq_true', Bool.and_eq_false_iff, Bool.or_eq_false_iff, Bool.not_eq_false', Bool.not_eq_true, decide_eq_true_eq, decide_eq_false_iff_not, Bool.false_eq_true] at h; first | (rw [hs, if_pos (by omega)]; rfl) | (rw [hs, if_neg (by omega)]; rfl))
  · intro _ _
    have hld := decide_eq_false (show ¬ (b.orders.length : Int) < b.orders.length by omega)
    (simp only [go_sem, simprocAttr, decanilaw06_truly_B3, hld, comesN_all]; repeat' (first | ((first | (refine br_yes (by omega) ?_) | (refine br_no (by omega) ?_) | (apply br_all; (· simp only [Bool.and_eq_true, decide_eq_true_eq]; omega)) | (apply br_free; (· simp [go_sem, Pm.acc, Acc.free, refsOf, offOf, keyEq, tagEq, cellsEq, cellEq]; done)) | ((first | apply br_mergeT | apply br_mergeF); (· intro h; simp only [go_sem, simprocAttr, sel_of h, decanilaw06_truly_B3, hld, comesN_all]; exact rfl))); (try simp only [go_sem, simprocAttr, decanilaw06_truly_B3, hld, comesN_all])) | ((first | apply onGuard_sel | (apply pickV_split; apply br_split) | apply br_split) <;> intro h <;> (try simp only [go_sem, simprocAttr, h, decanilaw06_truly_B3, hld, comesN_all]))))
  · intro _ _
    rfl
end
end Go.Pm.Cd

namespace Go.Pm.Cd
open Ac
set_option maxRecDepth 100000
set_option linter.unusedSimpArgs false
set_option linter.unusedSectionVars false
set_option linter.unusedVariables false

def knK (b : Book) (l : List Int) (kind : Int) (d : Nat) : List C :=
  if kind = 0 then kn (ownC 1 (darkL b l b.days.length)) (b.tf l 0) 0 (ownC 1 (leftL b l 0 d)) (.sl .nil 1 [])
  else kn (ownC 1 (darkL b l b.days.length)) (b.tf l 0) (b.tf l 1) (ownC 1 (leftL b l 0 b.days.length)) (ownC 1 (leftL b l 1 d))
theorem knK_under (b : Book) (l : List Int) (kind : Int) (d n : Nat) : C.underL n (knK b l kind d) = true := by
  unfold knK; split <;> simp [kn, C.underL, C.under, under_ownC]

section
variable {Γ : Env} [P06 Γ] [G06 Γ]
set_option maxHeartbeats 2000000 in
theorem truly_L2 (b : Book) [hb : b.Fits] (hv : b.sane = true) (l : List Int) (bv : V) (hbv : ∀ n, bv.under n = true) (kind : Int) (hk : kind = 0 ∨ kind = 1) (z : Obj) (hz : z.under 3 = true) {β : Type} (Q : Ex → St → Option β) :
    E Γ decanilaw06_truly_L2 ⟨[(1, bv), (2, .sc (.ptr 0 0)), (4, .sc (.ptr 1 0)), (5, .sc (.ptr 2 0)), (7, vi kind), (8, vi (b.tn l kind)), (9, vi 0)], [.var b.c, z, .var (knK b l kind 0)]⟩ Q =
      Q (.exit 4) ⟨[(1, bv), (2, .sc (.ptr 0 0)), (4, .sc (.ptr 1 0)), (5, .sc (.ptr 2 0)), (7, vi kind), (8, vi (b.trun l kind b.days.length)), (9, vi b.days.length), (65, vb false)], [.var b.c, z, .var (knK b l kind b.days.length)]⟩ := by
  have hvd := valid_days hv
  refine E_countS b.days.length (fun i (_ : Unit) => ⟨[(1, bv), (2, .sc (.ptr 0 0)), (4, .sc (.ptr 1 0)), (5, .sc (.ptr 2 0)), (7, vi kind), (8, vi (b.trun l kind i)), (9, vi i)], [.var b.c, z, .var (knK b l kind i)]⟩) (fun _ _ => True)
    (fun _ => (.exit 4, ⟨[(1, bv), (2, .sc (.ptr 0 0)), (4, .sc (.ptr 1 0)), (5, .sc (.ptr 2 0)), (7, vi kind), (8, vi (b.trun l kind b.days.length)), (9, vi b.days.length), (65, vb false)], [.var b.c, z, .var (knK b l kind b.days.length)]⟩)) () rfl trivial ?_ ?_ ?_
  · intro i _ hi _
    refine ⟨(), trivial, ?_⟩
    obtain ⟨x, hx⟩ : ∃ x, b.days[i]? = some x := ⟨_, List.getElem?_eq_getElem hi⟩
    have hvx := valid_day hv hx
    have hlt := decide_eq_true (show (i : Int) < b.days.length by omega)
    have hiw : IntKind.i64.wrap ((i : Int) + 1) = i + 1 := wrap_i64 (by omega) (by omega)
    obtain ⟨t1, t2, t3⟩ := true_way hv l
    have hf := t2 kind hk
    have hfl := (span_has hv).2 kind hk
    have hf1 := hf.1; have hf2 := hf.2
    have hdk := t3 i x hx
    have hd1 := hdk.1; have hd2 := hdk.2
    have hbd := trun_bound hv l hk i (by omega)
    have hcb := comes_bound hv kind i
    have hL3 {β : Type} (Q : Ex → St → Option β) := truly_L3 (Γ := Γ) b hv bv hbv kind (b.trun l kind i) i (by omega) (by omega) z hz (knK b l kind i) (knK_under b l kind i 3) Q
    have hrun := runK_succ b kind (b.tn l kind) (b.tf l kind) (b.tdk l) hx
    have hlt9 : 0 ≤ x.lights kind ∧ x.lights kind ≤ 9 := by
      rcases hk with rfl | rfl
      · exact hvx.2.2.1
      · exact hvx.2.2.2
    obtain ⟨h, hh⟩ : ∃ h, min x.hours (b.tdk l i) = h := ⟨_, rfl⟩
    obtain ⟨f, hff⟩ : ∃ f, b.tf l kind = f := ⟨_, rfl⟩
    rw [hff] at hf1 hf2 hrun
    rw [hh] at hrun
    have hf6 : 1 ≤ f ∧ f ≤ 6 := by omega
    have hh6 : 0 ≤ h ∧ h ≤ 6 := by omega
    have eb := each_bound f h hf6 hh6
    have bb := burnt_bound f (x.lights kind) h hf6 hh6 hlt9
    have w1 : IntKind.i64.wrap (h + f) = h + f := wrap_i64 (by omega) (by omega)
    have w2 : IntKind.i64.wrap (h + f - 1) = h + f - 1 := wrap_i64 (by omega) (by omega)
    have w3 : IntKind.i64.wrap ((h + f - 1).tdiv f) = (h + f - 1).tdiv f := wrap_i64 (by omega) (by omega)
    have w4 : IntKind.i64.wrap (x.lights kind * (h + f - 1).tdiv f) = (h + f - 1).tdiv f * x.lights kind := by rw [Int.mul_comm, wrap_i64 (by omega) (by omega)]
    have w5 : IntKind.i64.wrap (b.trun l kind i + got2 b.comes kind i - (h + f - 1).tdiv f * x.lights kind) = b.trun l kind (i + 1) := by
      rw [wrap_i64 (by omega) (by omega)]
      simp only [Book.trun, hff] at hrun ⊢
      rw [hrun]; rfl
    have hz0 : decide (f = 0) = false := decide_eq_false (by omega)
    have hdg := darkL_get b l (m := b.days.length) hi
    have hA := appended_ownC 1 (leftL b l kind i) .full [ci (b.trun l kind (i + 1))] (by simp only [leftL_len, room]; omega)
    rcases hk with rfl | rfl
    · simp only [Day.lights, reduceIte] at w4 w5
      simp only [knK, reduceIte, kn, hff] at hL3 ⊢
      rw [leftL_succ]
      (simp only [go_sem, simprocAttr, decanilaw06_truly_B2, hx, hlt, hiw, hL3, kn, unown_ownC_eq, hdg, hh, hff, hz0, w1, w2, w3, w4, w5, hA, hz, hbv]; repeat' (first | ((first | (refine br_yes (by omega) ?_) | (refine br_no (by omega) ?_) | (apply br_all; (· simp only [Bool.and_eq_true, decide_eq_true_eq]; omega)) | (apply br_free; (· simp [go_sem, Pm.acc, Acc.free, refsOf, offOf, keyEq, tagEq, cellsEq, cellEq]; done)) | ((first | apply br_mergeT | apply br_mergeF); (· intro h; simp only [go_sem, simprocAttr, sel_of h, decanilaw06_truly_B2, hx, hlt, hiw, hL3, kn, unown_ownC_eq, hdg, hh, hff, hz0, w1, w2, w3, w4, w5, hA, hz, hbv]; exact rfl))); (try simp only [go_sem, simprocAttr, decanilaw06_truly_B2, hx, hlt, hiw, hL3, kn, unown_ownC_eq, hdg, hh, hff, hz0, w1, w2, w3, w4, w5, hA, hz, hbv])) | ((first | apply onGuard_sel | (apply pickV_split; apply br_split) | apply br_split) <;> intro h <;> (try simp only [go_sem, simprocAttr, h, decanilaw06_truly_B2, hx, hlt, hiw, hL3, kn, unown_ownC_eq, hdg, hh, hff, hz0, w1, w2, w3, w4, w5, hA, hz, hbv]))))
      rfl
    · simp only [Day.lights, reduceIte, Int.reduceEq] at w4 w5
      simp only [knK, reduceIte, Int.reduceEq, kn, hff] at hL3 ⊢
      rw [leftL_succ]
      (simp only [go_sem, simprocAttr, decanilaw06_truly_B2, hx, hlt, hiw, hL3, kn, unown_ownC_eq, hdg, hh, hff, hz0, w1, w2, w3, w4, w5, hA, hz, hbv]; repeat' (first | ((first | (refine br_yes (by omega) ?_) | (refine br_no (by omega) ?_) | (apply br_all; (· simp only [Bool.and_eq_true, decide_eq_true_eq]; omega)) | (apply br_free; (· simp [go_sem, Pm.acc, Acc.free, refsOf, offOf, keyEq, tagEq, cellsEq, cellEq]; done)) | ((first | apply br_mergeT | apply br_mergeF); (· intro h; simp only [go_sem, simprocAttr, sel_of h, decanilaw06_truly_B2, hx, hlt, hiw, hL3, kn, unown_ownC_eq, hdg, hh, hff, hz0, w1, w2, w3, w4, w5, hA, hz, hbv]; exact rfl))); (try simp only [go_sem, simprocAttr, decanilaw06_truly_B2, hx, hlt, hiw, hL3, kn, unown_ownC_eq, hdg, hh, hff, hz0, w1, w2, w3, w4, w5, hA, hz, hbv])) | ((first | apply onGuard_sel | (apply pickV_split; apply br_split) | apply br_split) <;> intro h <;> (try simp only [go_sem, simprocAttr, h, decanilaw06_truly_B2, hx, hlt, hiw, hL3, kn, unown_ownC_eq, hdg, hh, hff, hz0, w1, w2, w3, w4, w5, hA, hz, hbv]))))
      rfl
  · intro _ _
    have hlt := decide_eq_false (show ¬ (b.days.length : Int) < b.days.length by omega)
    rcases hk with rfl | rfl
    · simp only [knK, reduceIte]
      (simp only [go_sem, simprocAttr, decanilaw06_truly_B2, hlt]; repeat' (first | ((first | (refine br_yes (by omega) ?_) | (refine br_no (by omega) ?_) | (apply br_all; (· simp only [Bool.and_eq_true, decide_eq_true_eq]; omega)) | (apply br_free; (· simp [go_sem, Pm.acc, Acc.free, refsOf, offOf, keyEq, tagEq, cellsEq, cellEq]; done)) | ((first | apply br_mergeT | apply br_mergeF); (· intro h; simp only [go_sem, simprocAttr, sel_of h, decanilaw06_truly_B2, hlt]; exact rfl))); (try simp only [go_sem, simprocAttr, decanilaw06_truly_B2, hlt])) | ((first | apply onGuard_sel | (apply pickV_split; apply br_split) | apply br_split) <;> intro h <;> (try simp only [go_sem, simprocAttr, h, decanilaw06_truly_B2, hlt]))))
    · simp only [knK, reduceIte, Int.reduceEq]
      (simp only [go_sem, simprocAttr, decanilaw06_truly_B2, hlt]; repeat' (first | ((first | (refine br_yes (by omega) ?_) | (refine br_no (by omega) ?_) | (apply br_all; (· simp only [Bool.and_eq_true, decide_eq_true_eq]; omega)) | (apply br_free; (· simp [go_sem, Pm.acc, Acc.free, refsOf, offOf, keyEq, tagEq, cellsEq, cellEq]; done)) | ((first | apply br_mergeT | apply br_mergeF); (· intro h; simp only [go_sem, simprocAttr, sel_of h, decanilaw06_truly_B2, hlt]; exact rfl))); (try simp only [go_sem, simprocAttr, decanilaw06_truly_B2, hlt])) | ((first | apply onGuard_sel | (apply pickV_split; apply br_split) | apply br_split) <;> intro h <;> (try simp only [go_sem, simprocAttr, h, decanilaw06_truly_B2, hlt]))))
  · intro _ _
    rfl

theorem truly_L1 (b : Book) [hb : b.Fits] (hv : b.sane = true) (k : SK) (l : List Int) (hl : l.length ≤ 9223372036854775807) (z : Obj) (hz : z.under 3 = true) {β : Type} (Q : Ex → St → Option β) :
    E Γ decanilaw06_truly_L1 ⟨[(1, .sc (.sl k 1 (l.map fun x => [ci x]))), (2, .sc (.ptr 0 0)), (4, .sc (.ptr 1 0)), (5, .sc (.ptr 2 0)), (7, vi 0)], [.var b.c, z, .var (kn (ownC 1 (darkL b l b.days.length)) 0 0 (.sl .nil 1 []) (.sl .nil 1 []))]⟩ Q =
      Q (.exit 2) ⟨[(1, .sc (.sl k 1 (l.map fun x => [ci x]))), (2, .sc (.ptr 0 0)), (4, .sc (.ptr 1 0)), (5, .sc (.ptr 2 0)), (7, vi 2), (37, vb false)], [.var b.c, z, .var (knK b l 1 b.days.length)]⟩ := by
  have hvs := valid_spans hv
  refine E_countS 2 (fun i (_ : Unit) => ⟨[(1, .sc (.sl k 1 (l.map fun x => [ci x]))), (2, .sc (.ptr 0 0)), (4, .sc (.ptr 1 0)), (5, .sc (.ptr 2 0)), (7, vi i)], [.var b.c, z, .var (if i = 0 then kn (ownC 1 (darkL b l b.days.length)) 0 0 (.sl .nil 1 []) (.sl .nil 1 []) else knK b l ((i : Int) - 1) b.days.length)]⟩) (fun _ _ => True)
    (fun _ => (.exit 2, ⟨[(1, .sc (.sl k 1 (l.map fun x => [ci x]))), (2, .sc (.ptr 0 0)), (4, .sc (.ptr 1 0)), (5, .sc (.ptr 2 0)), (7, vi 2), (37, vb false)], [.var b.c, z, .var (knK b l 1 b.days.length)]⟩)) () rfl trivial ?_ ?_ ?_
  · intro i _ hi _
    refine ⟨(), trivial, ?_⟩
    have hN (n : Int) := Nth_big (Γ := Γ) k l n hl
    have hbv : ∀ n, V.under n (.sc (.sl k 1 (l.map fun x => [ci x]))) = true := fun n => rfl
    have hL2 (kind : Int) (hk : kind = 0 ∨ kind = 1) {β : Type} (Q : Ex → St → Option β) := truly_L2 (Γ := Γ) b hv l _ hbv kind hk z hz Q
    have hcase : i = 0 ∨ i = 1 := by omega
    rcases hcase with rfl | rfl
    · have hD1 := Draw_k (Γ := Γ) b.f0 (nth l (0 + 1)) (by omega) (by omega)
      have hD2 := Draw_k (Γ := Γ) b.s0 (nth l (0 + 2)) (by omega) (by omega)
      have h2 {β : Type} (Q : Ex → St → Option β) := hL2 0 (.inl rfl) Q
      have e1 : b.tf l 0 = drawn b.f0 (nth l 1) := rfl
      have e2 : b.tn l 0 = drawn b.s0 (nth l 2) := rfl
      simp only [knK, leftL, List.range_zero, List.map_nil, ownC_nil, kn, e1, e2, reduceIte] at h2
      simp only [Int.reduceAdd] at hD1 hD2
      simp only [knK, leftL, kn, e1, reduceIte]
      (simp only [go_sem, simprocAttr, decanilaw06_truly_B1, hN, hD1, hD2, h2, hz]; repeat' (first | ((first | (refine br_yes (by omega) ?_) | (refine br_no (by omega) ?_) | (apply br_all; (· simp only [Bool.and_eq_true, decide_eq_true_eq]; omega)) | (apply br_free; (· simp [go_sem, Pm.acc, Acc.free, refsOf, offOf, keyEq, tagEq, cellsEq, cellEq]; done)) | ((first | apply br_mergeT | apply br_mergeF); (· intro h; simp only [go_sem, simprocAttr, sel_of h, decanilaw06_truly_B1, hN, hD1, hD2, h2, hz]; exact rfl))); (try simp only [go_sem, simprocAttr, decanilaw06_truly_B1, hN, hD1, hD2, h2, hz])) | ((first | apply onGuard_sel | (apply pickV_split; apply br_split) | apply br_split) <;> intro h <;> (try simp only [go_sem, simprocAttr, h, decanilaw06_truly_B1, hN, hD1, hD2, h2, hz]))))
    · have hD1 := Draw_k (Γ := Γ) b.f1 (nth l (1 + 1)) (by omega) (by omega)
      have hD2 := Draw_k (Γ := Γ) b.s1 (nth l (1 + 2)) (by omega) (by omega)
      have h2 {β : Type} (Q : Ex → St → Option β) := hL2 1 (.inr rfl) Q
      have e1 : b.tf l 1 = drawn b.f1 (nth l 2) := rfl
      have e2 : b.tn l 1 = drawn b.s1 (nth l 3) := rfl
      have e3 : ownC 1 (leftL b l 1 0) = .sl .nil 1 [] := rfl
      simp only [knK, kn, e1, e2, e3, reduceIte, Int.reduceEq] at h2
      simp only [Int.reduceAdd] at hD1 hD2
      simp only [knK, kn, e1, reduceIte, Nat.reduceEqDiff, Int.reduceEq]
      (simp only [go_sem, simprocAttr, decanilaw06_truly_B1, hN, hD1, hD2, h2, hz]; repeat' (first | ((first | (refine br_yes (by omega) ?_) | (refine br_no (by omega) ?_) | (apply br_all; (· simp only [Bool.and_eq_true, decide_eq_true_eq]; omega)) | (apply br_free; (· simp [go_sem, Pm.acc, Acc.free, refsOf, offOf, keyEq, tagEq, cellsEq, cellEq]; done)) | ((first | apply br_mergeT | apply br_mergeF); (· intro h; simp only [go_sem, simprocAttr, sel_of h, decanilaw06_truly_B1, hN, hD1, hD2, h2, hz]; exact rfl))); (try simp only [go_sem, simprocAttr, decanilaw06_truly_B1, hN, hD1, hD2, h2, hz])) | ((first | apply onGuard_sel | (apply pickV_split; apply br_split) | apply br_split) <;> intro h <;> (try simp only [go_sem, simprocAttr, h, decanilaw06_truly_B1, hN, hD1, hD2, h2, hz]))))
  · intro _ _
    (simp only [go_sem, simprocAttr, decanilaw06_truly_B1]; repeat' (first | ((first | (refine br_yes (by omega) ?_) | (refine br_no (by omega) ?_) | (apply br_all; (· simp only [Bool.and_eq_true, decide_eq_true_eq]; omega)) | (apply br_free; (· simp [go_sem, Pm.acc, Acc.free, refsOf, offOf, keyEq, tagEq, cellsEq, cellEq]; done)) | ((first | apply br_mergeT | apply br_mergeF); (· intro h; simp only [go_sem, simprocAttr, sel_of h, decanilaw06_truly_B1]; exact rfl))); (try simp only [go_sem, simprocAttr, decanilaw06_truly_B1])) | ((first | apply onGuard_sel | (apply pickV_split; apply br_split) | apply br_split) <;> intro h <;> (try simp only [go_sem, simprocAttr, h, decanilaw06_truly_B1]))))
  · intro _ _
    rfl

def knownC (b : Book) (l : List Int) : List C := [.sl (kN (darkL b l b.days.length)) 1 (darkL b l b.days.length), ci (b.tf l 0), ci (b.tf l 1), .sl (kN (leftL b l 0 b.days.length)) 1 (leftL b l 0 b.days.length), .sl (kN (leftL b l 1 b.days.length)) 1 (leftL b l 1 b.days.length)]
theorem truly_k (b : Book) [hb : b.Fits] (hv : b.sane = true) (k : SK) (l : List Int) (hl : l.length ≤ 9223372036854775807) : K Γ (.fn 25) [.agg b.c, .sc (.sl k 1 (l.map fun x => [ci x]))] [] = some (.agg (knownC b l), []) := by
  have hL0 {β : Type} (z : Obj) (hz : z.under 3 = true) (Q : Ex → St → Option β) := truly_L0 (Γ := Γ) b hv k l hl z hz Q
  have hL1 {β : Type} (z : Obj) (hz : z.under 3 = true) (Q : Ex → St → Option β) := truly_L1 (Γ := Γ) b hv k l hl z hz Q
  simp only [kn, knK, Int.reduceEq, reduceIte] at hL0 hL1
  rw [K_fn P06.f25 _ _ rfl]
  (simp only [go_sem, simprocAttr, decanilaw06_truly, hL0, hL1, unown_ownC_eq, knownC]; repeat' (first | ((first | (refine br_yes (by omega) ?_) | (refine br_no (by omega) ?_) | (apply br_all; (· simp only [Bool.and_eq_true, decide_eq_true_eq]; omega)) | (apply br_free; (· simp [go_sem, Pm.acc, Acc.free, refsOf, offOf, keyEq, tagEq, cellsEq, cellEq]; done)) | ((first | apply br_mergeT | apply br_mergeF); (· intro h; simp only [go_sem, simprocAttr, sel_of h, decanilaw06_truly, hL0, hL1, unown_ownC_eq, knownC]; exact rfl))); (try simp only [go_sem, simprocAttr, decanilaw06_truly, hL0, hL1, unown_ownC_eq, knownC])) | ((first | apply onGuard_sel | (apply pickV_split; apply br_split) | apply br_split) <;> intro h <;> (try simp only [go_sem, simprocAttr, h, decanilaw06_truly, hL0, hL1, unown_ownC_eq, knownC]))))
end
end Go.Pm.Cd

namespace Go.Pm.Cd
open Ac
set_option maxRecDepth 100000
set_option linter.unusedSimpArgs false
set_option linter.unusedSectionVars false
set_option linter.unusedVariables false

/-! ### The days as a row that is written into -/
def flatD (ds : List Day) : List C := (ds.map Day.c).flatten
theorem flatD_cons (x : Day) (ds : List Day) : flatD (x :: ds) = x.c ++ flatD ds := rfl
@[go_sem] theorem flatD_len : ∀ ds : List Day, (flatD ds).length = 5 * ds.length
  | [] => rfl
  | x :: ds => by
    have h5 : x.c.length = 5 := rfl
    rw [flatD_cons, List.length_append, flatD_len ds, List.length_cons, h5]; omega
theorem flatD_plain (ds : List Day) : ∀ c, c ∈ flatD ds → flatC c = true ∧ unown c = c ∧ c.pure = true := by
  intro c hc
  simp only [flatD, List.mem_flatten, List.mem_map] at hc
  obtain ⟨l, ⟨x, -, rfl⟩, hc⟩ := hc
  simp only [Day.c, List.mem_cons, List.not_mem_nil, or_false] at hc
  rcases hc with rfl | rfl | rfl | rfl | rfl <;> exact ⟨rfl, rfl, rfl⟩
theorem pureL_all : ∀ (cs : List C), (∀ c, c ∈ cs → c.pure = true) → C.pureL cs = true
  | [], _ => rfl
  | c :: cs, h => by simp only [C.pureL, h c (by simp), pureL_all cs (fun x hx => h x (by simp [hx])), Bool.and_self]
theorem flatD_pure (ds : List Day) : C.pureL (flatD ds) = true := pureL_all _ fun c hc => (flatD_plain ds c hc).2.2
@[go_sem] theorem flatD_under (n : Nat) (ds : List Day) : C.underL n (flatD ds) = true := pureL_underL0 n _ (flatD_pure ds)
def B8 (b : Book) (c : C) : List C := [ci b.s0.lo, ci b.s0.hi, ci b.s1.lo, ci b.s1.hi, ci b.f0.lo, ci b.f0.hi, ci b.f1.lo, ci b.f1.hi, c, .sl b.ko 3 (b.orders.map Order.c), .sl b.kc 4 (b.counts.map Count.c)]
section
variable (b : Book) (c : C)
@[go_sem] theorem B8_set : b.c.set 8 c = B8 b c := nrfl rfl
@[go_sem] theorem B8_get : (B8 b c)[8]? = some c := nrfl rfl
@[go_sem] theorem B8_under (n : Nat) : C.underL n (B8 b c) = C.underL n [c] := by simp [B8, C.underL, C.under]
end
end Go.Pm.Cd

namespace Go.Pm.Cd
open Ac
set_option maxRecDepth 100000
set_option linter.unusedSimpArgs false
set_option linter.unusedSectionVars false
set_option linter.unusedVariables false

def lackF (g : Nat → Int) (i : Nat) : Int := (List.range i).foldl (fun m (j : Nat) => max m (-(g j))) 0
theorem lackF_succ (g : Nat → Int) (i : Nat) : lackF g (i + 1) = max (lackF g i) (-(g i)) := by simp [lackF, List.range_succ]
theorem lackF_le (g : Nat → Int) (M : Int) : ∀ i, lackF g i ≤ M ↔ 0 ≤ M ∧ ∀ j, j < i → -(g j) ≤ M
  | 0 => by simp [lackF]
  | i + 1 => by
    rw [lackF_succ, Int.max_le, lackF_le g M i]
    constructor
    · rintro ⟨⟨h0, h1⟩, h2⟩
      refine ⟨h0, fun j hj => ?_⟩
      by_cases e : j = i
      · subst e; exact h2
      · exact h1 j (by omega)
    · rintro ⟨h0, h1⟩
      exact ⟨⟨h0, fun j hj => h1 j (by omega)⟩, h1 i (by omega)⟩
theorem buyN_lackF (b : Book) (kind day : Int) (i : Nat) : b.buyN kind day i = lackF (fun j => (spanOf (tLeft kind (day + j)) (b.truths [])).1) i := rfl

theorem buyN_bound {b : Book} (hv : b.sane = true) (hne : b.truths [] ≠ []) {k day : Int} (hk : 0 ≤ k ∧ k ≤ 1) (hd : 0 ≤ day) (i : Nat) (hi : day + i ≤ b.days.length) : 0 ≤ b.buyN k day i ∧ b.buyN k day i ≤ 300 := by
  rw [buyN_lackF]
  constructor
  · exact ((lackF_le _ _ i).1 (Int.le_refl _)).1
  · rw [lackF_le]
    refine ⟨by omega, fun j hj => ?_⟩
    have := span_bound hv hne k (day + j) hk (by omega)
    omega
section
variable {Γ : Env} [P06 Γ] [G06 Γ]
end
end Go.Pm.Cd

namespace Go.Pm.Cd
open Ac
set_option maxRecDepth 100000
set_option linter.unusedSimpArgs false
set_option linter.unusedSectionVars false
set_option linter.unusedVariables false
section
variable {Γ : Env} [P06 Γ] [G06 Γ]

structure EndsOk (b : Book) (kind day lo hi : Int) (vs : List Int) : Prop where
  low : ∀ (i : Nat) v, vs[i]? = some v → i < 2 → within v (-300) 300 = true → (b.add ⟨day, kind, v, 0⟩).truths [] ≠ []
  cov : ∀ (i : Nat) v, vs[i]? = some v → within v (-300) 300 = true → (b.add ⟨day, kind, v, 0⟩).truths [] ≠ [] → within v lo hi = true

end
end Go.Pm.Cd

namespace Go.Pm.Cd
open Ac
set_option maxRecDepth 100000
set_option linter.unusedSimpArgs false
set_option linter.unusedSectionVars false
set_option linter.unusedVariables false

section
variable {Γ : Env} [P06 Γ] [G06 Γ]
end
end Go.Pm.Cd

namespace Go.Pm.Cd
open Ac
set_option maxRecDepth 100000
set_option linter.unusedSimpArgs false
set_option linter.unusedSectionVars false
set_option linter.unusedVariables false

def rightAt (b : Book) (l : List Int) (i : Nat) (x : Count) : Count := { x with left := min 300 (b.trun l x.kind (x.day.toNat + 1) + drawn ⟨-x.err, x.err⟩ (nth l i)) }
def rightN (b : Book) (l : List Int) (i : Nat) : List Count := (List.range i).foldl (fun acc (j : Nat) => match b.counts[j]? with | some x => acc ++ [rightAt b l j x] | none => acc) []
theorem rightN_succ (b : Book) (l : List Int) {i : Nat} {x : Count} (hx : b.counts[i]? = some x) : rightN b l (i + 1) = rightN b l i ++ [rightAt b l i x] := by
  simp only [rightN, List.range_succ, List.foldl_append, List.foldl_cons, List.foldl_nil, hx]
theorem rightN_mem (b : Book) (l : List Int) : ∀ (m : Nat), m ≤ b.counts.length → ∀ (y : Count), y ∈ rightN b l m → ∃ i x, b.counts[i]? = some x ∧ y = rightAt b l i x
  | 0, _, y, h => by simp [rightN] at h
  | m + 1, hm, y, h => by
    obtain ⟨x, hx⟩ : ∃ x, b.counts[m]? = some x := ⟨_, List.getElem?_eq_getElem (by omega)⟩
    rw [rightN_succ b l hx, List.mem_append, List.mem_singleton] at h
    rcases h with h | rfl
    · exact rightN_mem b l m (by omega) y h
    · exact ⟨m, x, hx, rfl⟩
theorem rightN_len (b : Book) (l : List Int) : ∀ (m : Nat), m ≤ b.counts.length → (rightN b l m).length = m
  | 0, _ => by simp [rightN]
  | m + 1, hm => by
    obtain ⟨x, hx⟩ : ∃ x, b.counts[m]? = some x := ⟨_, List.getElem?_eq_getElem (by omega)⟩
    rw [rightN_succ b l hx, List.length_append, rightN_len b l m (by omega)]; rfl
def Book.rightly (b : Book) (l : List Int) : Book := b.withC (rightN b l b.counts.length)

theorem right_err {b : Book} (hv : b.sane = true) (l : List Int) {i : Nat} {x : Count} (hx : b.counts[i]? = some x) :
    (0 ≤ x.day ∧ x.day ≤ b.days.length - 1) ∧ (x.kind = 0 ∨ x.kind = 1) ∧ (0 ≤ x.err ∧ x.err ≤ 5) ∧ (-x.err ≤ drawn ⟨-x.err, x.err⟩ (nth l i) ∧ drawn ⟨-x.err, x.err⟩ (nth l i) ≤ x.err) ∧ (-300 ≤ b.trun l x.kind (x.day.toNat + 1) ∧ b.trun l x.kind (x.day.toNat + 1) ≤ 300) := by
  have hc := valid_counts hv x (List.mem_of_getElem? hx)
  simp only [Book.isCount, Book.isDay, Bool.and_eq_true, within_iff] at hc
  have hvd := valid_days hv
  have hk : x.kind = 0 ∨ x.kind = 1 := by omega
  have hd := drawn_has (s := ⟨-x.err, x.err⟩) (nth l i) (show -x.err ≤ x.err by omega)
  have ht := trun_bound hv l hk (x.day.toNat + 1) (by omega)
  have hm := trun_most hv l hk (x.day.toNat + 1)
  exact ⟨by omega, hk, by omega, hd, by omega⟩
theorem trun_low {b : Book} (hv : b.sane = true) (l : List Int) {k : Int} (hk : k = 0 ∨ k = 1) (d : Nat) (hd : d ≤ 5) : -270 ≤ b.trun l k d := by
  obtain ⟨h1, h2, h3⟩ := true_way hv l
  have := run_bound (n0 := b.tn l 0) (f0 := b.tf l 0) (n1 := b.tn l 1) (f1 := b.tf l 1) (dk := b.tdk l) hv (h1 0 (.inl rfl)) (h2 0 (.inl rfl)) (h1 1 (.inr rfl)) (h2 1 (.inr rfl)) h3 d
  rw [run_K] at this
  simp only [Book.trun]
  rcases hk with rfl | rfl <;> simp only at this <;> omega
theorem rightly_valid {b : Book} (hv : b.valid = true) (l : List Int) : (b.rightly l).valid = true := by
  have hs := sane_of_valid hv
  have h5 := valid_counts5 hv
  refine withC_valid hv (by rw [rightN_len b l _ (Nat.le_refl _)]; exact h5) fun y hy => ?_
  obtain ⟨i, x, hx, rfl⟩ := rightN_mem b l _ (Nat.le_refl _) y hy
  obtain ⟨h1, h2, h3, h4, h6⟩ := right_err hs l hx
  have hc := valid_counts hs x (List.mem_of_getElem? hx)
  have hl := trun_low hs l h2 (x.day.toNat + 1) (by have := valid_days hs; omega)
  simp only [Book.isCount, Book.isDay, Bool.and_eq_true, within_iff, rightAt] at hc ⊢
  omega
theorem rightly_way {b : Book} (hv : b.valid = true) (l : List Int) : Way (b.rightly l) [] (b.tn l) (b.tf l) (b.tdk l) := by
  have hs := sane_of_valid hv
  obtain ⟨t1, t2, t3⟩ := true_way hs l
  refine ⟨t1, t2, t3, fun i y hy _ => ?_⟩
  obtain ⟨j, x, hx, rfl⟩ := rightN_mem b l _ (Nat.le_refl _) y (List.mem_of_getElem? hy)
  obtain ⟨h1, h2, h3, h4, h6⟩ := right_err hs l hx
  unfold Book.rightly
  rw [withC_run, within_iff]
  simp only [rightAt]
  simp only [Book.trun] at *
  omega

theorem count_set2 (x : Count) (v : Int) : x.c.set 2 (ci v) = ({ x with left := v } : Count).c := rfl

section
variable {Γ : Env} [P06 Γ] [G06 Γ]
theorem rightly_L0 (b : Book) [hb : b.Fits] (hv : b.valid = true) (k : SK) (l : List Int) (hl : l.length ≤ 9223372036854775807) (z : Obj) (hz : z.under 4 = true) {β : Type} (Q : Ex → St → Option β) :
    E Γ decanilaw06_rightly_L0 ⟨[(2, .sc (.sl k 1 (l.map fun x => [ci x]))), (3, .sc (.ptr 0 0)), (4, .sc (.ptr 1 0)), (6, .sc (.ptr 2 0)), (7, .sc (.ptr 3 0)), (8, vi 0)], [.var b.c, .var (knownC b l), z, .var b.bare.c]⟩ Q =
      Q (.exit 0) ⟨[(2, .sc (.sl k 1 (l.map fun x => [ci x]))), (3, .sc (.ptr 0 0)), (4, .sc (.ptr 1 0)), (6, .sc (.ptr 2 0)), (7, .sc (.ptr 3 0)), (8, vi b.counts.length), (16, vb false)], [.var b.c, .var (knownC b l), z, .var (B10 b (ownC 4 ((rightN b l b.counts.length).map Count.c)))]⟩ := by
  have hs := sane_of_valid hv
  have h5 := valid_counts5 hv
  refine E_countS b.counts.length (fun i (_ : Unit) => ⟨[(2, .sc (.sl k 1 (l.map fun x => [ci x]))), (3, .sc (.ptr 0 0)), (4, .sc (.ptr 1 0)), (6, .sc (.ptr 2 0)), (7, .sc (.ptr 3 0)), (8, vi i)], [.var b.c, .var (knownC b l), z, .var (B10 b (ownC 4 ((rightN b l i).map Count.c)))]⟩) (fun _ _ => True)
    (fun _ => (.exit 0, ⟨[(2, .sc (.sl k 1 (l.map fun x => [ci x]))), (3, .sc (.ptr 0 0)), (4, .sc (.ptr 1 0)), (6, .sc (.ptr 2 0)), (7, .sc (.ptr 3 0)), (8, vi b.counts.length), (16, vb false)], [.var b.c, .var (knownC b l), z, .var (B10 b (ownC 4 ((rightN b l b.counts.length).map Count.c)))]⟩)) () rfl trivial ?_ ?_ ?_
  · intro i _ hi _
    refine ⟨(), trivial, ?_⟩
    obtain ⟨x, hx⟩ : ∃ x, b.counts[i]? = some x := ⟨_, List.getElem?_eq_getElem hi⟩
    have hlt := decide_eq_true (show (i : Int) < b.counts.length by omega)
    have hiw : IntKind.i64.wrap ((i : Int) + 1) = i + 1 := wrap_i64 (by omega) (by omega)
    obtain ⟨h1, h2, h3, h4, h6⟩ := right_err hs l hx
    have hN := Nth_big (Γ := Γ) k l i hl
    have hD : K Γ (.fn 64) [.agg [ci (-x.err), ci x.err], vi (nth l i)] [] = some (vi (drawn ⟨-x.err, x.err⟩ (nth l i)), []) := Draw_k (Γ := Γ) ⟨-x.err, x.err⟩ (nth l i) (by simp only; omega) (by simp only; omega)
    have hnw : IntKind.i64.wrap (0 - x.err) = -x.err := by rw [wrap_i64 (by omega) (by omega)]; omega
    have hsw : IntKind.i64.wrap (b.trun l x.kind (x.day.toNat + 1) + drawn ⟨-x.err, x.err⟩ (nth l i)) = b.trun l x.kind (x.day.toNat + 1) + drawn ⟨-x.err, x.err⟩ (nth l i) := wrap_i64 (by omega) (by omega)
    have hg := leftL_get b l x.kind (m := b.days.length) (d := x.day.toNat) (by omega)
    have hS := count_set2 x (min 300 (b.trun l x.kind (x.day.toNat + 1) + drawn ⟨-x.err, x.err⟩ (nth l i)))
    have hA := appended_ownC 4 ((rightN b l i).map Count.c) .full (rightAt b l i x).c (by rw [List.length_map, rightN_len b l i (by omega)]; simp only [room]; omega)
    have hU (n : Nat) : C.underL n (knownC b l) = true := by simp [knownC, C.underL, C.under]
    rw [rightN_succ b l hx, List.map_append, List.map_cons, List.map_nil]
    simp only [rightAt] at hA ⊢
    rcases h2 with h2 | h2
    · have hkn : (knownC b l)[3]? = some (.sl (kN (leftL b l 0 b.days.length)) 1 (leftL b l 0 b.days.length)) := rfl
      simp only [h2] at hsw hg hS hA hD ⊢
      (simp only [go_sem, simprocAttr, decanilaw06_rightly_B0, hx, hlt, hiw, hN, hD, hnw, hsw, hg, hS, hA, hz, h2, hkn, hU]; repeat' (first | ((first | (refine br_yes (by omega) ?_) | (refine br_no (by omega) ?_) | (apply br_all; (· simp only [Bool.and_eq_true, decide_eq_true_eq]; omega)) | (apply br_free; (· simp [go_sem, Pm.acc, Acc.free, refsOf, offOf, keyEq, tagEq, cellsEq, cellEq]; done)) | ((first | apply br_mergeT | apply br_mergeF); (· intro h; simp only [go_sem, simprocAttr, sel_of h, decanilaw06_rightly_B0, hx, hlt, hiw, hN, hD, hnw, hsw, hg, hS, hA, hz, h2, hkn, hU]; exact rfl))); (try simp only [go_sem, simprocAttr, decanilaw06_rightly_B0, hx, hlt, hiw, hN, hD, hnw, hsw, hg, hS, hA, hz, h2, hkn, hU])) | ((first | apply onGuard_sel | (apply pickV_split; apply br_split) | apply br_split) <;> intro h <;> (try simp only [go_sem, simprocAttr, h, decanilaw06_rightly_B0, hx, hlt, hiw, hN, hD, hnw, hsw, hg, hS, hA, hz, h2, hkn, hU]))))
      rfl
    · have hkn : (knownC b l)[4]? = some (.sl (kN (leftL b l 1 b.days.length)) 1 (leftL b l 1 b.days.length)) := rfl
      simp only [h2] at hsw hg hS hA hD ⊢
      (simp only [go_sem, simprocAttr, decanilaw06_rightly_B0, hx, hlt, hiw, hN, hD, hnw, hsw, hg, hS, hA, hz, h2, hkn, hU]; repeat' (first | ((first | (refine br_yes (by omega) ?_) | (refine br_no (by omega) ?_) | (apply br_all; (· simp only [Bool.and_eq_true, decide_eq_true_eq]; omega)) | (apply br_free; (· simp [go_sem, Pm.acc, Acc.free, refsOf, offOf, keyEq, tagEq, cellsEq, cellEq]; done)) | ((first | apply br_mergeT | apply br_mergeF); (· intro h; simp only [go_sem, simprocAttr, sel_of h, decanilaw06_rightly_B0, hx, hlt, hiw, hN, hD, hnw, hsw, hg, hS, hA, hz, h2, hkn, hU]; exact rfl))); (try simp only [go_sem, simprocAttr, decanilaw06_rightly_B0, hx, hlt, hiw, hN, hD, hnw, hsw, hg, hS, hA, hz, h2, hkn, hU])) | ((first | apply onGuard_sel | (apply pickV_split; apply br_split) | apply br_split) <;> intro h <;> (try simp only [go_sem, simprocAttr, h, decanilaw06_rightly_B0, hx, hlt, hiw, hN, hD, hnw, hsw, hg, hS, hA, hz, h2, hkn, hU]))))
      rfl
  · intro _ _
    have hlt := decide_eq_false (show ¬ (b.counts.length : Int) < b.counts.length by omega)
    (simp only [go_sem, simprocAttr, decanilaw06_rightly_B0, hlt]; repeat' (first | ((first | (refine br_yes (by omega) ?_) | (refine br_no (by omega) ?_) | (apply br_all; (· simp only [Bool.and_eq_true, decide_eq_true_eq]; omega)) | (apply br_free; (· simp [go_sem, Pm.acc, Acc.free, refsOf, offOf, keyEq, tagEq, cellsEq, cellEq]; done)) | ((first | apply br_mergeT | apply br_mergeF); (· intro h; simp only [go_sem, simprocAttr, sel_of h, decanilaw06_rightly_B0, hlt]; exact rfl))); (try simp only [go_sem, simprocAttr, decanilaw06_rightly_B0, hlt])) | ((first | apply onGuard_sel | (apply pickV_split; apply br_split) | apply br_split) <;> intro h <;> (try simp only [go_sem, simprocAttr, h, decanilaw06_rightly_B0, hlt]))))
  · intro _ _
    rfl
theorem rightly_k (b : Book) [hb : b.Fits] (hv : b.valid = true) (k : SK) (l : List Int) (hl : l.length ≤ 9223372036854775807) : K Γ (.fn 26) [.agg b.c, .agg (knownC b l), .sc (.sl k 1 (l.map fun x => [ci x]))] [] = some (.agg (b.rightly l).c, []) := by
  have hL {β : Type} (z : Obj) (hz : z.under 4 = true) (Q : Ex → St → Option β) := rightly_L0 (Γ := Γ) b hv k l hl z hz Q
  have hU : (B10 b (ownC 4 ((rightN b l b.counts.length).map Count.c))).map unown = (b.rightly l).c := B10_un b _
  rw [K_fn P06.f26 _ _ rfl]
  (simp only [go_sem, simprocAttr, decanilaw06_rightly, hL, hU]; repeat' (first | ((first | (refine br_yes (by omega) ?_) | (refine br_no (by omega) ?_) | (apply br_all; (· simp only [Bool.and_eq_true, decide_eq_true_eq]; omega)) | (apply br_free; (· simp [go_sem, Pm.acc, Acc.free, refsOf, offOf, keyEq, tagEq, cellsEq, cellEq]; done)) | ((first | apply br_mergeT | apply br_mergeF); (· intro h; simp only [go_sem, simprocAttr, sel_of h, decanilaw06_rightly, hL, hU]; exact rfl))); (try simp only [go_sem, simprocAttr, decanilaw06_rightly, hL, hU])) | ((first | apply onGuard_sel | (apply pickV_split; apply br_split) | apply br_split) <;> intro h <;> (try simp only [go_sem, simprocAttr, h, decanilaw06_rightly, hL, hU]))))

theorem true_L0 (b : Book) [hb : b.Fits] (hv : b.sane = true) (l : List Int) {kind day ef may buy : Int} (hk : kind = 0 ∨ kind = 1) (hbuy : 0 ≤ buy ∧ buy ≤ 300) (z1 z3 z4 z5 z6 : Obj) (h1 : z1.under 7 = true) (h3 : z3.under 7 = true) (h4 : z4.under 7 = true) (h5 : z5.under 7 = true) (h6 : z6.under 7 = true)
    (hok : ∀ d : Nat, d < b.days.length → (b.trun l kind (d + 1) < 0 → ef = 0 ∧ may ≤ d) ∧ (day ≤ d → 0 ≤ b.trun l kind (d + 1) + buy)) {β : Type} (Q : Ex → St → Option β) :
    E Γ decanilaw06_CandleTrue_L0 ⟨[(3, .sc (.ptr 0 0)), (7, .sc (.ptr 2 0)), (9, vi kind), (10, vi day), (12, vi ef), (21, vi may), (23, vi buy), (24, vi 0)], [.var b.c, z1, .var (knownC b l), z3, z4, z5, z6]⟩ Q =
      Q (.exit 0) ⟨[(3, .sc (.ptr 0 0)), (7, .sc (.ptr 2 0)), (9, vi kind), (10, vi day), (12, vi ef), (21, vi may), (23, vi buy), (24, vi b.days.length), (206, vb false)], [.var b.c, z1, .var (knownC b l), z3, z4, z5, z6]⟩ := by
  have hvd := valid_days hv
  refine E_countS b.days.length (fun i (_ : Unit) => ⟨[(3, .sc (.ptr 0 0)), (7, .sc (.ptr 2 0)), (9, vi kind), (10, vi day), (12, vi ef), (21, vi may), (23, vi buy), (24, vi i)], [.var b.c, z1, .var (knownC b l), z3, z4, z5, z6]⟩) (fun _ _ => True)
    (fun _ => (.exit 0, ⟨[(3, .sc (.ptr 0 0)), (7, .sc (.ptr 2 0)), (9, vi kind), (10, vi day), (12, vi ef), (21, vi may), (23, vi buy), (24, vi b.days.length), (206, vb false)], [.var b.c, z1, .var (knownC b l), z3, z4, z5, z6]⟩)) () rfl trivial ?_ ?_ ?_
  · intro i _ hi _
    refine ⟨(), trivial, ?_⟩
    obtain ⟨o1, o2⟩ := hok i hi
    have hlt := decide_eq_true (show (i : Int) < b.days.length by omega)
    have hiw : IntKind.i64.wrap ((i : Int) + 1) = i + 1 := wrap_i64 (by omega) (by omega)
    have hg := leftL_get b l kind (m := b.days.length) (d := i) hi
    have hU (n : Nat) : C.underL n (knownC b l) = true := by simp [knownC, C.underL, C.under]
    have hbd := trun_bound hv l hk (i + 1) (by omega)
    have hw : IntKind.i64.wrap (b.trun l kind (i + 1) + buy) = b.trun l kind (i + 1) + buy := wrap_i64 (by omega) (by omega)
    rcases hk with rfl | rfl
    · have hkn : (knownC b l)[3]? = some (.sl (kN (leftL b l 0 b.days.length)) 1 (leftL b l 0 b.days.length)) := rfl
      (simp only [go_sem, simprocAttr, decanilaw06_CandleTrue_B0, hlt, hiw, hg, hkn, hU, hw, h1, h3, h4, h5, h6]; repeat' (first | ((first | (refine br_yes (by omega) ?_) | (refine br_no (by omega) ?_) | (apply br_all; (· simp only [Bool.and_eq_true, decide_eq_true_eq]; omega)) | (apply br_free; (· simp [go_sem, Pm.acc, Acc.free, refsOf, offOf, keyEq, tagEq, cellsEq, cellEq]; done)) | ((first | apply br_mergeT | apply br_mergeF); (· intro h; simp only [go_sem, simprocAttr, sel_of h, decanilaw06_CandleTrue_B0, hlt, hiw, hg, hkn, hU, hw, h1, h3, h4, h5, h6]; exact rfl))); (try simp only [go_sem, simprocAttr, decanilaw06_CandleTrue_B0, hlt, hiw, hg, hkn, hU, hw, h1, h3, h4, h5, h6])) | ((first | apply onGuard_sel | (apply pickV_split; apply br_split) | apply br_split) <;> intro h <;> (try simp only [go_sem, simprocAttr, h, decanilaw06_CandleTrue_B0, hlt, hiw, hg, hkn, hU, hw, h1, h3, h4, h5, h6]))))
      all_goals (first | rfl | (exfalso; simp only [Bool.and_eq_true, Bool.or_eq_true, Bool.not_eq_true', Bool.and_eq_false_iff, Bool.or_eq_false_iff, Bool.not_eq_false', Bool.not_eq_true, decide_eq_true_eq, decide_eq_false_iff_not, Bool.false_eq_true] at * ; omega))
    · have hkn : (knownC b l)[4]? = some (.sl (kN (leftL b l 1 b.days.length)) 1 (leftL b l 1 b.days.length)) := rfl
      (simp only [go_sem, simprocAttr, decanilaw06_CandleTrue_B0, hlt, hiw, hg, hkn, hU, hw, h1, h3, h4, h5, h6]; repeat' (first | ((first | (refine br_yes (by omega) ?_) | (refine br_no (by omega) ?_) | (apply br_all; (· simp only [Bool.and_eq_true, decide_eq_true_eq]; omega)) | (apply br_free; (· simp [go_sem, Pm.acc, Acc.free, refsOf, offOf, keyEq, tagEq, cellsEq, cellEq]; done)) | ((first | apply br_mergeT | apply br_mergeF); (· intro h; simp only [go_sem, simprocAttr, sel_of h, decanilaw06_CandleTrue_B0, hlt, hiw, hg, hkn, hU, hw, h1, h3, h4, h5, h6]; exact rfl))); (try simp only [go_sem, simprocAttr, decanilaw06_CandleTrue_B0, hlt, hiw, hg, hkn, hU, hw, h1, h3, h4, h5, h6])) | ((first | apply onGuard_sel | (apply pickV_split; apply br_split) | apply br_split) <;> intro h <;> (try simp only [go_sem, simprocAttr, h, decanilaw06_CandleTrue_B0, hlt, hiw, hg, hkn, hU, hw, h1, h3, h4, h5, h6]))))
      all_goals (first | rfl | (exfalso; simp only [Bool.and_eq_true, Bool.or_eq_true, Bool.not_eq_true', Bool.and_eq_false_iff, Bool.or_eq_false_iff, Bool.not_eq_false', Bool.not_eq_true, decide_eq_true_eq, decide_eq_false_iff_not, Bool.false_eq_true] at * ; omega))
  · intro _ _
    have hlt := decide_eq_false (show ¬ (b.days.length : Int) < b.days.length by omega)
    (simp only [go_sem, simprocAttr, decanilaw06_CandleTrue_B0, hlt]; repeat' (first | ((first | (refine br_yes (by omega) ?_) | (refine br_no (by omega) ?_) | (apply br_all; (· simp only [Bool.and_eq_true, decide_eq_true_eq]; omega)) | (apply br_free; (· simp [go_sem, Pm.acc, Acc.free, refsOf, offOf, keyEq, tagEq, cellsEq, cellEq]; done)) | ((first | apply br_mergeT | apply br_mergeF); (· intro h; simp only [go_sem, simprocAttr, sel_of h, decanilaw06_CandleTrue_B0, hlt]; exact rfl))); (try simp only [go_sem, simprocAttr, decanilaw06_CandleTrue_B0, hlt])) | ((first | apply onGuard_sel | (apply pickV_split; apply br_split) | apply br_split) <;> intro h <;> (try simp only [go_sem, simprocAttr, h, decanilaw06_CandleTrue_B0, hlt]))))
  · intro _ _
    rfl

theorem firstOn_cases (b : Book) (q : Nat → Bool) : ((b.firstOn q).2 = 4 ∧ (b.firstOn q).1 = 0 ∧ ∀ i, i < b.days.length → q i = false) ∨
    ∃ i, i < b.days.length ∧ (b.firstOn q).2 = 0 ∧ (b.firstOn q).1 = (i : Nat) ∧ q i = true ∧ ∀ j, j < i → q j = false := by
  unfold Book.firstOn
  cases hq : findFrom (fun i _ => q i) 0 b.days with
  | none =>
    refine .inl ⟨rfl, rfl, fun i hi => ?_⟩
    have := findFrom_none.1 hq i _ (List.getElem?_eq_getElem hi)
    rwa [Nat.zero_add] at this
  | some u =>
    obtain ⟨i, x⟩ := u
    obtain ⟨-, h2, h3, h4⟩ := findFrom_some hq
    have hlt : i < b.days.length := by have := (List.getElem?_eq_some_iff.1 h2).1; omega
    refine .inr ⟨i, hlt, rfl, rfl, h3, fun j hj => ?_⟩
    have := h4 j _ (by omega) (List.getElem?_eq_getElem (show j < b.days.length by omega))
    rwa [Nat.zero_add] at this

set_option maxHeartbeats 4000000 in
theorem CandleTrue_k (b : Book) [hb : b.Fits] (n0 n1 : Int) (kb : SK) (l : List Int) (hl : l.length ≤ 9223372036854775807) : K Γ (.fn 90) [.agg b.c, .sc (.sl kb 1 (l.map fun x => [ci x])), .agg [ci n0, ci n1]] [] = some (vb true, []) := by
  rw [K_fn P06.f90 _ _ rfl]
  rcases Bool.eq_false_or_eq_true b.valid with hv | hv
  rotate_left
  · (simp only [go_sem, simprocAttr, decanilaw06_CandleTrue, hv, Bool.false_eq_true]; repeat' (first | ((first | (refine br_yes (by omega) ?_) | (refine br_no (by omega) ?_) | (apply br_all; (· simp only [Bool.and_eq_true, decide_eq_true_eq]; omega)) | (apply br_free; (· simp [go_sem, Pm.acc, Acc.free, refsOf, offOf, keyEq, tagEq, cellsEq, cellEq]; done)) | ((first | apply br_mergeT | apply br_mergeF); (· intro h; simp only [go_sem, simprocAttr, sel_of h, decanilaw06_CandleTrue, hv, Bool.false_eq_true]; exact rfl))); (try simp only [go_sem, simprocAttr, decanilaw06_CandleTrue, hv, Bool.false_eq_true])) | ((first | apply onGuard_sel | (apply pickV_split; apply br_split) | apply br_split) <;> intro h <;> (try simp only [go_sem, simprocAttr, h, decanilaw06_CandleTrue, hv, Bool.false_eq_true]))))
  have hs := sane_of_valid hv
  have hvd := valid_days hs
  have h5 := valid_counts5 hv
  have hk := turn_lt n0 2 (by decide)
  have hd := turn_lt n1 b.days.length (by omega)
  have hdl : (b.days.length : Int) ≤ 1000000 := by omega
  obtain ⟨kind, hkind⟩ : ∃ k, turn n0 2 = k := ⟨_, rfl⟩
  obtain ⟨day, hday⟩ : ∃ k, turn n1 b.days.length = k := ⟨_, rfl⟩
  rw [hkind] at hk
  rw [hday] at hd
  have hk' : kind = 0 ∨ kind = 1 := by omega
  have hT := truly_k (Γ := Γ) b hs kb l hl
  have hR := rightly_k (Γ := Γ) b hv kb l hl
  haveI : (b.rightly l).Fits := withC_fits (by rw [rightN_len b l _ (Nat.le_refl _)]; exact h5)
  have hvx := rightly_valid hv l
  have hsx := sane_of_valid hvx
  have hw := rightly_way hv l
  have hne : (b.rightly l).truths [] ≠ [] := (truths_ne hsx []).2 ⟨_, _, _, hw⟩
  have hRi := Right_yes (Γ := Γ) (b.rightly l) hvx
  rw [decide_eq_true hne] at hRi
  obtain ⟨w1, w2, w3, w4, w5⟩ := wrong_spec hvx
  have hwn : (b.rightly l).wrong.1 = [] := by
    have := w5 [] trivial hne
    simp only [shorter, Bool.or_eq_false_iff, decide_eq_false_iff_not, List.length_nil] at this
    exact List.length_eq_zero_iff.1 (by omega)
  have hW := Wrong_k (Γ := Γ) (b.rightly l)
  rw [w1, hwn] at hW
  simp only [iC, List.map_nil] at hW
  have hlen : (b.rightly l).days.length = b.days.length := rfl
  have hd2 : day < (b.rightly l).days.length := hd.2
  have A1 := Left_yes (Γ := Γ) (b.rightly l) hvx hne hk' hd.1 hd2
  have A2 := Life_yes (Γ := Γ) (b.rightly l) hvx hne hk'
  have A3 := Dark_yes (Γ := Γ) (b.rightly l) hvx hne hd.1 hd2
  have A4 := Short_yes (Γ := Γ) (b.rightly l) hvx hne hk'
  have A5 := Surely_yes (Γ := Γ) (b.rightly l) hvx hne hk'
  have A6 := Buy_yes (Γ := Γ) (b.rightly l) hvx hne hk' hd.1 hd2
  have hrun (d : Nat) : (b.rightly l).runK kind (b.tn l kind) (b.tf l kind) (b.tdk l) d = b.trun l kind d := withC_run b _ _ _ _ _ _
  have lefts : ∀ d : Int, 0 ≤ d → d < b.days.length → (spanOf (tLeft kind d) ((b.rightly l).truths [])).1 ≤ b.trun l kind (d.toNat + 1) ∧ b.trun l kind (d.toNat + 1) ≤ (spanOf (tLeft kind d) ((b.rightly l).truths [])).2 := by
    intro d hd0 hd1
    have := (left_ways hsx hne hk' hd0 (show d < (b.rightly l).days.length from hd1)).1 _ _ _ hw
    rwa [hrun] at this
  have g1 : within (b.trun l kind (day.toNat + 1)) (spanOf (tLeft kind day) ((b.rightly l).truths [])).1 (spanOf (tLeft kind day) ((b.rightly l).truths [])).2 = true := (within_iff _ _ _).2 (lefts day hd.1 hd.2)
  have g2 : within (b.tf l kind) (spanOf (tLife kind) ((b.rightly l).truths [])).1 (spanOf (tLife kind) ((b.rightly l).truths [])).2 = true := (within_iff _ _ _).2 ((life_ways hsx hne hk').1 _ _ _ hw)
  have g3 : within (b.tdk l day.toNat) (spanOf (tDark day) ((b.rightly l).truths [])).1 (spanOf (tDark day) ((b.rightly l).truths [])).2 = true := (within_iff _ _ _).2 ((dark_ways hsx hne hd.1 hd2).1 _ _ _ hw)
  have hfo (q : Nat → Bool) : (b.rightly l).firstOn q = b.firstOn q := rfl
  rw [hfo] at A4 A5
  have hbd := buyN_bound hsx hne (show 0 ≤ kind ∧ kind ≤ 1 by omega) hd.1 (b.days.length - day).toNat (by rw [hlen]; omega)
  have hbl : ∀ d : Nat, d < b.days.length → day ≤ d → 0 ≤ b.trun l kind (d + 1) + (b.rightly l).buyN kind day (b.days.length - day).toNat := by
    intro d hd1 hd2
    have h1 := ((lackF_le (fun j => (spanOf (tLeft kind (day + j)) ((b.rightly l).truths [])).1) _ (b.days.length - day).toNat).1 (Int.le_refl _)).2 (d - day.toNat) (by omega)
    have e : day + ((d - day.toNat : Nat) : Int) = d := by omega
    have h2 := (lefts d (by omega) (by omega)).1
    have e2 : ((d : Int)).toNat = d := by omega
    rw [e2] at h2
    simp only [e] at h1
    rw [buyN_lackF]
    omega
  rw [hlen] at A6
  obtain ⟨buy, hbuy⟩ : ∃ m, (b.rightly l).buyN kind day (b.days.length - day).toNat = m := ⟨_, rfl⟩
  rw [hbuy] at hbd A6 hbl
  have hbneg : decide (buy < 0) = false := decide_eq_false (by omega)
  have hgl := leftL_get b l kind (m := b.days.length) (d := day.toNat) (by omega)
  have hgd := darkL_get b l (m := b.days.length) (d := day.toNat) (by omega)
  have hK0 : (knownC b l)[0]? = some (.sl (kN (darkL b l b.days.length)) 1 (darkL b l b.days.length)) := rfl
  have hK1 : (knownC b l)[1]? = some (ci (b.tf l 0)) := rfl
  have hK2 : (knownC b l)[2]? = some (ci (b.tf l 1)) := rfl
  have hK3 : (knownC b l)[3]? = some (.sl (kN (leftL b l 0 b.days.length)) 1 (leftL b l 0 b.days.length)) := rfl
  have hK4 : (knownC b l)[4]? = some (.sl (kN (leftL b l 1 b.days.length)) 1 (leftL b l 1 b.days.length)) := rfl
  have hKa : cellsAt (knownC b l) 0 5 = some (knownC b l) := rfl
  have hKu : (knownC b l).map unown = knownC b l := rfl
  have hKp : C.pureL (knownC b l) = true := rfl
  have hKl : (knownC b l).length = 5 := rfl
  have hKs (c0 c1 c2 c3 c4 : C) : setAll [c0, c1, c2, c3, c4] 0 (knownC b l) = knownC b l := rfl
  have hlw : IntKind.i64.wrap ((b.days.length : Int) - 1) = b.days.length - 1 := wrap_i64 (by omega) (by omega)
  have hloop (ef may : Int) (hok : ∀ d : Nat, d < b.days.length → (b.trun l kind (d + 1) < 0 → ef = 0 ∧ may ≤ d)) {β : Type} (z1 z3 z4 z5 z6 : Obj) (h1 : z1.under 7 = true) (h3 : z3.under 7 = true) (h4 : z4.under 7 = true) (h5 : z5.under 7 = true) (h6 : z6.under 7 = true) (Q : Ex → St → Option β) :=
    true_L0 (Γ := Γ) b hs l (kind := kind) (day := day) (ef := ef) (may := may) (buy := buy) hk' hbd z1 z3 z4 z5 z6 h1 h3 h4 h5 h6 (fun d hd => ⟨hok d hd, hbl d hd⟩) Q
  have hmay := firstOn_cases b (fun i => decide ((spanOf (tLeft kind i) ((b.rightly l).truths [])).1 < 0))
  have hsure := firstOn_cases b (fun i => decide ((spanOf (tLeft kind i) ((b.rightly l).truths [])).2 < 0))
  obtain ⟨p, hp⟩ : ∃ o, b.firstOn (fun i => decide ((spanOf (tLeft kind i) ((b.rightly l).truths [])).1 < 0)) = o := ⟨_, rfl⟩
  obtain ⟨q, hq⟩ : ∃ o, b.firstOn (fun i => decide ((spanOf (tLeft kind i) ((b.rightly l).truths [])).2 < 0)) = o := ⟨_, rfl⟩
  rw [hp] at hmay A4
  rw [hq] at hsure A5
  rcases hmay with ⟨e1, e2, e3⟩ | ⟨i, i1, i2, i3, i4, i5⟩
  · have hno : ∀ d : Nat, d < b.days.length → 0 ≤ b.trun l kind (d + 1) := by
      intro d hd1
      have := e3 d hd1
      simp only [decide_eq_false_iff_not] at this
      have h2 := (lefts d (by omega) (by omega)).1
      have e2 : ((d : Int)).toNat = d := by omega
      rw [e2] at h2; omega
    have hL {β : Type} := hloop 4 0 (fun d hd h => by have := hno d hd; omega) (β := β)
    rw [e1, e2] at A4
    rcases hsure with ⟨s1, s2, s3⟩ | ⟨j, j1, j2, j3, j4, j5⟩
    · rw [s1, s2] at A5
      rcases hk' with rfl | rfl
      · (simp only [go_sem, simprocAttr, decanilaw06_CandleTrue, hv, hT, hR, hkind, hday, hdl, hRi, hW, A1, A2, A3, A4, A5, A6, g1, g2, g3, hbneg, hgl, hgd, hK0, hK1, hK2, hK3, hK4, hKa, hKu, hKp, hKl, hKs, hlw, hL, List.length_nil]; repeat' (first | ((first | (refine br_yes (by omega) ?_) | (refine br_no (by omega) ?_) | (apply br_all; (· simp only [Bool.and_eq_true, decide_eq_true_eq]; omega)) | (apply br_free; (· simp [go_sem, Pm.acc, Acc.free, refsOf, offOf, keyEq, tagEq, cellsEq, cellEq]; done)) | ((first | apply br_mergeT | apply br_mergeF); (· intro h; simp only [go_sem, simprocAttr, sel_of h, decanilaw06_CandleTrue, hv, hT, hR, hkind, hday, hdl, hRi, hW, A1, A2, A3, A4, A5, A6, g1, g2, g3, hbneg, hgl, hgd, hK0, hK1, hK2, hK3, hK4, hKa, hKu, hKp, hKl, hKs, hlw, hL, List.length_nil]; exact rfl))); (try simp only [go_sem, simprocAttr, decanilaw06_CandleTrue, hv, hT, hR, hkind, hday, hdl, hRi, hW, A1, A2, A3, A4, A5, A6, g1, g2, g3, hbneg, hgl, hgd, hK0, hK1, hK2, hK3, hK4, hKa, hKu, hKp, hKl, hKs, hlw, hL, List.length_nil])) | ((first | apply onGuard_sel | (apply pickV_split; apply br_split) | apply br_split) <;> intro h <;> (try simp only [go_sem, simprocAttr, h, decanilaw06_CandleTrue, hv, hT, hR, hkind, hday, hdl, hRi, hW, A1, A2, A3, A4, A5, A6, g1, g2, g3, hbneg, hgl, hgd, hK0, hK1, hK2, hK3, hK4, hKa, hKu, hKp, hKl, hKs, hlw, hL, List.length_nil]))))
      · (simp only [go_sem, simprocAttr, decanilaw06_CandleTrue, hv, hT, hR, hkind, hday, hdl, hRi, hW, A1, A2, A3, A4, A5, A6, g1, g2, g3, hbneg, hgl, hgd, hK0, hK1, hK2, hK3, hK4, hKa, hKu, hKp, hKl, hKs, hlw, hL, List.length_nil]; repeat' (first | ((first | (refine br_yes (by omega) ?_) | (refine br_no (by omega) ?_) | (apply br_all; (· simp only [Bool.and_eq_true, decide_eq_true_eq]; omega)) | (apply br_free; (· simp [go_sem, Pm.acc, Acc.free, refsOf, offOf, keyEq, tagEq, cellsEq, cellEq]; done)) | ((first | apply br_mergeT | apply br_mergeF); (· intro h; simp only [go_sem, simprocAttr, sel_of h, decanilaw06_CandleTrue, hv, hT, hR, hkind, hday, hdl, hRi, hW, A1, A2, A3, A4, A5, A6, g1, g2, g3, hbneg, hgl, hgd, hK0, hK1, hK2, hK3, hK4, hKa, hKu, hKp, hKl, hKs, hlw, hL, List.length_nil]; exact rfl))); (try simp only [go_sem, simprocAttr, decanilaw06_CandleTrue, hv, hT, hR, hkind, hday, hdl, hRi, hW, A1, A2, A3, A4, A5, A6, g1, g2, g3, hbneg, hgl, hgd, hK0, hK1, hK2, hK3, hK4, hKa, hKu, hKp, hKl, hKs, hlw, hL, List.length_nil])) | ((first | apply onGuard_sel | (apply pickV_split; apply br_split) | apply br_split) <;> intro h <;> (try simp only [go_sem, simprocAttr, h, decanilaw06_CandleTrue, hv, hT, hR, hkind, hday, hdl, hRi, hW, A1, A2, A3, A4, A5, A6, g1, g2, g3, hbneg, hgl, hgd, hK0, hK1, hK2, hK3, hK4, hKa, hKu, hKp, hKl, hKs, hlw, hL, List.length_nil]))))
    · exfalso
      simp only [decide_eq_true_eq] at j4
      have h2 := (lefts j (by omega) (by omega)).2
      have h3 := hno j j1
      have e2 : ((j : Int)).toNat = j := by omega
      rw [e2] at h2; omega
  · simp only [decide_eq_true_eq] at i4
    have hL {β : Type} := hloop 0 i (fun d hd h => by
      refine ⟨rfl, ?_⟩
      by_cases hc : d < i
      · have := i5 d hc
        simp only [decide_eq_false_iff_not] at this
        have h2 := (lefts d (by omega) (by omega)).1
        have e2 : ((d : Int)).toNat = d := by omega
        rw [e2] at h2; omega
      · omega) (β := β)
    rw [i2, i3] at A4
    rcases hsure with ⟨s1, s2, s3⟩ | ⟨j, j1, j2, j3, j4, j5⟩
    · rw [s1, s2] at A5
      rcases hk' with rfl | rfl
      · (simp only [go_sem, simprocAttr, decanilaw06_CandleTrue, hv, hT, hR, hkind, hday, hdl, hRi, hW, A1, A2, A3, A4, A5, A6, g1, g2, g3, hbneg, hgl, hgd, hK0, hK1, hK2, hK3, hK4, hKa, hKu, hKp, hKl, hKs, hlw, hL, List.length_nil]; repeat' (first | ((first | (refine br_yes (by omega) ?_) | (refine br_no (by omega) ?_) | (apply br_all; (· simp only [Bool.and_eq_true, decide_eq_true_eq]; omega)) | (apply br_free; (· simp [go_sem, Pm.acc, Acc.free, refsOf, offOf, keyEq, tagEq, cellsEq, cellEq]; done)) | ((first | apply br_mergeT | apply br_mergeF); (· intro h; simp only [go_sem, simprocAttr, sel_of h, decanilaw06_CandleTrue, hv, hT, hR, hkind, hday, hdl, hRi, hW, A1, A2, A3, A4, A5, A6, g1, g2, g3, hbneg, hgl, hgd, hK0, hK1, hK2, hK3, hK4, hKa, hKu, hKp, hKl, hKs, hlw, hL, List.length_nil]; exact rfl))); (try simp only [go_sem, simprocAttr, decanilaw06_CandleTrue, hv, hT, hR, hkind, hday, hdl, hRi, hW, A1, A2, A3, A4, A5, A6, g1, g2, g3, hbneg, hgl, hgd, hK0, hK1, hK2, hK3, hK4, hKa, hKu, hKp, hKl, hKs, hlw, hL, List.length_nil])) | ((first | apply onGuard_sel | (apply pickV_split; apply br_split) | apply br_split) <;> intro h <;> (try simp only [go_sem, simprocAttr, h, decanilaw06_CandleTrue, hv, hT, hR, hkind, hday, hdl, hRi, hW, A1, A2, A3, A4, A5, A6, g1, g2, g3, hbneg, hgl, hgd, hK0, hK1, hK2, hK3, hK4, hKa, hKu, hKp, hKl, hKs, hlw, hL, List.length_nil]))))
      · (simp only [go_sem, simprocAttr, decanilaw06_CandleTrue, hv, hT, hR, hkind, hday, hdl, hRi, hW, A1, A2, A3, A4, A5, A6, g1, g2, g3, hbneg, hgl, hgd, hK0, hK1, hK2, hK3, hK4, hKa, hKu, hKp, hKl, hKs, hlw, hL, List.length_nil]; repeat' (first | ((first | (refine br_yes (by omega) ?_) | (refine br_no (by omega) ?_) | (apply br_all; (· simp only [Bool.and_eq_true, decide_eq_true_eq]; omega)) | (apply br_free; (· simp [go_sem, Pm.acc, Acc.free, refsOf, offOf, keyEq, tagEq, cellsEq, cellEq]; done)) | ((first | apply br_mergeT | apply br_mergeF); (· intro h; simp only [go_sem, simprocAttr, sel_of h, decanilaw06_CandleTrue, hv, hT, hR, hkind, hday, hdl, hRi, hW, A1, A2, A3, A4, A5, A6, g1, g2, g3, hbneg, hgl, hgd, hK0, hK1, hK2, hK3, hK4, hKa, hKu, hKp, hKl, hKs, hlw, hL, List.length_nil]; exact rfl))); (try simp only [go_sem, simprocAttr, decanilaw06_CandleTrue, hv, hT, hR, hkind, hday, hdl, hRi, hW, A1, A2, A3, A4, A5, A6, g1, g2, g3, hbneg, hgl, hgd, hK0, hK1, hK2, hK3, hK4, hKa, hKu, hKp, hKl, hKs, hlw, hL, List.length_nil])) | ((first | apply onGuard_sel | (apply pickV_split; apply br_split) | apply br_split) <;> intro h <;> (try simp only [go_sem, simprocAttr, h, decanilaw06_CandleTrue, hv, hT, hR, hkind, hday, hdl, hRi, hW, A1, A2, A3, A4, A5, A6, g1, g2, g3, hbneg, hgl, hgd, hK0, hK1, hK2, hK3, hK4, hKa, hKu, hKp, hKl, hKs, hlw, hL, List.length_nil]))))
    · rw [j2, j3] at A5
      simp only [decide_eq_true_eq] at j4
      have h2 := (lefts j (by omega) (by omega))
      have e2 : ((j : Int)).toNat = j := by omega
      rw [e2] at h2
      have hij : (i : Int) ≤ j := by
        by_cases hc : j < i
        · have := i5 j hc
          simp only [decide_eq_false_iff_not] at this
          omega
        · omega
      have k1 : within (j : Int) i (b.days.length - 1) = true := by rw [within_iff]; omega
      have k2 := leftL_get b l kind (m := b.days.length) (d := j) j1
      have k3 : decide (0 ≤ b.trun l kind (j + 1)) = false := decide_eq_false (by omega)
      rcases hk' with rfl | rfl
      · (simp only [go_sem, simprocAttr, decanilaw06_CandleTrue, hv, hT, hR, hkind, hday, hdl, hRi, hW, A1, A2, A3, A4, A5, A6, g1, g2, g3, hbneg, hgl, hgd, hK0, hK1, hK2, hK3, hK4, hKa, hKu, hKp, hKl, hKs, hlw, hL, List.length_nil, k1, k2, k3]; repeat' (first | ((first | (refine br_yes (by omega) ?_) | (refine br_no (by omega) ?_) | (apply br_all; (· simp only [Bool.and_eq_true, decide_eq_true_eq]; omega)) | (apply br_free; (· simp [go_sem, Pm.acc, Acc.free, refsOf, offOf, keyEq, tagEq, cellsEq, cellEq]; done)) | ((first | apply br_mergeT | apply br_mergeF); (· intro h; simp only [go_sem, simprocAttr, sel_of h, decanilaw06_CandleTrue, hv, hT, hR, hkind, hday, hdl, hRi, hW, A1, A2, A3, A4, A5, A6, g1, g2, g3, hbneg, hgl, hgd, hK0, hK1, hK2, hK3, hK4, hKa, hKu, hKp, hKl, hKs, hlw, hL, List.length_nil, k1, k2, k3]; exact rfl))); (try simp only [go_sem, simprocAttr, decanilaw06_CandleTrue, hv, hT, hR, hkind, hday, hdl, hRi, hW, A1, A2, A3, A4, A5, A6, g1, g2, g3, hbneg, hgl, hgd, hK0, hK1, hK2, hK3, hK4, hKa, hKu, hKp, hKl, hKs, hlw, hL, List.length_nil, k1, k2, k3])) | ((first | apply onGuard_sel | (apply pickV_split; apply br_split) | apply br_split) <;> intro h <;> (try simp only [go_sem, simprocAttr, h, decanilaw06_CandleTrue, hv, hT, hR, hkind, hday, hdl, hRi, hW, A1, A2, A3, A4, A5, A6, g1, g2, g3, hbneg, hgl, hgd, hK0, hK1, hK2, hK3, hK4, hKa, hKu, hKp, hKl, hKs, hlw, hL, List.length_nil, k1, k2, k3]))))
      · (simp only [go_sem, simprocAttr, decanilaw06_CandleTrue, hv, hT, hR, hkind, hday, hdl, hRi, hW, A1, A2, A3, A4, A5, A6, g1, g2, g3, hbneg, hgl, hgd, hK0, hK1, hK2, hK3, hK4, hKa, hKu, hKp, hKl, hKs, hlw, hL, List.length_nil, k1, k2, k3]; repeat' (first | ((first | (refine br_yes (by omega) ?_) | (refine br_no (by omega) ?_) | (apply br_all; (· simp only [Bool.and_eq_true, decide_eq_true_eq]; omega)) | (apply br_free; (· simp [go_sem, Pm.acc, Acc.free, refsOf, offOf, keyEq, tagEq, cellsEq, cellEq]; done)) | ((first | apply br_mergeT | apply br_mergeF); (· intro h; simp only [go_sem, simprocAttr, sel_of h, decanilaw06_CandleTrue, hv, hT, hR, hkind, hday, hdl, hRi, hW, A1, A2, A3, A4, A5, A6, g1, g2, g3, hbneg, hgl, hgd, hK0, hK1, hK2, hK3, hK4, hKa, hKu, hKp, hKl, hKs, hlw, hL, List.length_nil, k1, k2, k3]; exact rfl))); (try simp only [go_sem, simprocAttr, decanilaw06_CandleTrue, hv, hT, hR, hkind, hday, hdl, hRi, hW, A1, A2, A3, A4, A5, A6, g1, g2, g3, hbneg, hgl, hgd, hK0, hK1, hK2, hK3, hK4, hKa, hKu, hKp, hKl, hKs, hlw, hL, List.length_nil, k1, k2, k3])) | ((first | apply onGuard_sel | (apply pickV_split; apply br_split) | apply br_split) <;> intro h <;> (try simp only [go_sem, simprocAttr, h, decanilaw06_CandleTrue, hv, hT, hR, hkind, hday, hdl, hRi, hW, A1, A2, A3, A4, A5, A6, g1, g2, g3, hbneg, hgl, hgd, hK0, hK1, hK2, hK3, hK4, hKa, hKu, hKp, hKl, hKs, hlw, hL, List.length_nil, k1, k2, k3]))))
end
end Go.Pm.Cd

namespace Go.Proofs.YtdndhpoinffpbaaDoor
open Go Go.Pm Go.Pm.Cd Go.ChangeShapes Go.WideShapes Go.ChangeAt Go.RowKit
set_option maxRecDepth 100000

theorem lifted (os : Os) (started : os.Started) (H : Type) (enc : TypeId × Value → H) :
    ReturnsInHanded {} Tryd.checked os 6 .any (fun w args => (Rows.candleTrueSpec.pre enc Tryd.prog Tryd.f6 [] false w args ∧ laidMetH Tryd.prog laidL w) ∧ sizedMet enc Tryd.prog Tryd.f6 (OpenSpec.ofChange Rows.candleTrueSpec) false w args)
      (Rows.candleTrueSpec.post enc Tryd.prog Tryd.f6 false true false false) := by
  refine returnsInHanded_of_change_and (C := Tryd.checked) (X := fun w _ => laidMetH Tryd.prog laidL w) (fun _ _ _ hh h => h.of_heap hh) own started (by kernel_rfl) Tryd.func6
    (ChangeSpec.witness_shaped (enc := enc) (C := Tryd.checked) (os := os) (X := fun w _ => laidMetH Tryd.prog laidL w) false (World.doorLaid Tryd.prog 600 os) #[.agg #[.int .i64 0, .int .i64 0, .int .i64 0, .int .i64 0, .int .i64 0, .int .i64 0, .int .i64 0, .int .i64 0, .slice none 0 0, .slice none 0 0, .slice none 0 0], .slice none 0 0, .agg #[.int .i64 0, .int .i64 0]] 8 rfl (World.shaped_of_RefB (by kernel_rfl) (by kernel_rfl)) (by kernel_rfl) (by kernel_rfl) (by kernel_rfl) (door_met os _)) ?_
  intro W base args ds gs before hval hW _ _ hL _
  refine law_contract (S := S1) (G := G1) (id := 90) (tb := 4) (base := base) seat_ok 8 [bookT, (T.sl 1 i1), (T.st [i1, i1])] (by kernel_rfl) (by kernel_rfl) laidOut (by kernel_rfl) (by kernel_rfl) rfl ?_ ?_ hval hW (globs hL)
  · intro ds hd
    match ds, hd with
    | [d0, d1, d2], _ => rfl
  · show ∀ vs, HasVs [bookT, (T.sl 1 i1), (T.st [i1, i1])] vs → K Γ1 (.fn 90) vs [] = some (.sc (.bool true), [])
    intro vs hvs
    simp only [HasVs] at hvs
    obtain ⟨v0, r0, rfl, h0, v1, r1, rfl, h1, v2, r2, rfl, h2, rfl⟩ := hvs
    obtain ⟨b, rfl, hb⟩ := book_of _ h0
    haveI := hb
    obtain ⟨kl, l, hl, rfl⟩ := bits_of _ h1
    obtain ⟨n0, n1, rfl⟩ := ints2_of _ h2
    exact CandleTrue_k (Γ := Γ1) b n0 n1 kl l (Nat.le_trans hl.1 (by decide))

theorem row_holds : Rows.CandleTrueSaid :=
  OpenClaim.holds_of_wide 6 Tryd.f6 rfl rfl rfl rfl rfl rfl rfl ⟨rfl, rfl, rfl, rfl, rfl⟩ rfl rfl rfl rfl rfl (by kernel_rfl) Tryd.func6 (by kernel_rfl)
    (of_decide_eq_true (by kernel_rfl)) (by unfold Func.isWrapper; first | (rw [if_pos (by decide +kernel)]; kernel_rfl) | (rw [if_neg (by decide +kernel)]; exact ⟨rfl, rfl⟩))
    (fun os started H enc _ => lifted os started H enc)

theorem candleTrue_card_holds : Rows.CandleTrueCardSaid :=
  Claim7.holds_tied_plain_at .later [] [.data, .funcs] true (true, "60d50f35f64f42411113777cba31078ec0ca6d528e83348940a62dd418a71482") false
    row_holds (fun _ h => by cases h) (by kernel_rfl) (fun _ h => by cases h) candleTrue_row_tie rfl ⟨rfl, rfl⟩ (by kernel_rfl) rfl
    (fun f fn hf hfn => by
      obtain rfl : f = 6 := Option.some.inj ((show Tryd.prog.funcNamed "decani/decanilaw06.CandleTrue" = some 6 by kernel_rfl).symm.trans hf) |>.symm
      obtain rfl : fn = Tryd.f6 := (Option.some.inj (Tryd.func6.symm.trans hfn)).symm
      exact ⟨by kernel_rfl, fun j t ht => by
        have hp : Tryd.f6.params = #[29, 46, 30] := by kernel_rfl
        rw [hp] at ht
        have hm : t ∈ ([29, 46, 30] : List TypeId) := by simpa using Array.mem_of_getElem? ht
        have hall : (([29, 46, 30] : List TypeId).all fun u => !Tryd.prog.wantsStandIn u) = true := by kernel_rfl
        exact (show Tryd.prog.wantsStandIn t = false by simpa using List.all_eq_true.1 hall t hm)⟩)
    (by kernel_rfl)
#print axioms candleTrue_card_holds
end Go.Proofs.YtdndhpoinffpbaaDoor
