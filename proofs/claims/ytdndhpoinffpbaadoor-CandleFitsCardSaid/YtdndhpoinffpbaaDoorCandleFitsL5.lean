/- The statement CandleFits, part 5. -/
import Derived.Test.YtdndhpoinffpbaaDoorCandleFitsL4
import Derived.Test.YtdndhpoinffpbaaDoorTie
import Derived.Test.YtdndhpoinffpbaaDoorCards
import Derived.ProofKit
import Derived.LaidMore
import Derived.OpenShut
import Derived.Stop.Joined
import Derived.SevenTiedAt
set_option linter.all false
namespace Go.Pm.Cd
open Ac
set_option maxRecDepth 100000
set_option linter.unusedSimpArgs false
set_option linter.unusedSectionVars false
set_option linter.unusedVariables false

class G06 (Γ : Env) : Prop where
  g1 : Γ.glob 1 = [ci (-1), ci (-1)]
  g2 : Γ.glob 2 = [.fn (.fn 85) [] [] [], .fn (.fn 86) [] [] []]

section
variable {Γ : Env} [P06 Γ] [G06 Γ]

def kT (ts : List (List Int)) : SK := if ts = [] then .nil else .shared
theorem unown_truthsC (ts : List (List Int)) : unown (truthsC ts) = .sl (kT ts) 17 (ts.map iv) := by cases ts <;> rfl
abbrev Book.open13 (b : Book) (but : List Int) : List C := B13 b (.imap true false (enc2 b.comes)) (.sl (kT (b.truths but)) 17 ((b.truths but).map iv))

@[go_sem] theorem opened_but (b : Book) [hb : b.Fits] (hv : b.sane = true) (k : SK) (but : List Int) (hl : but.length ≤ 1000000) :
    K Γ (.fn 42) [.agg b.c, .sc (.sl k 1 (but.map fun x => [ci x]))] [] = some (.agg (b.open13 but), []) := by
  rw [opened_k G06.g1 b hv k but hl, unown_truthsC]
@[go_sem] theorem opened_nil (b : Book) [hb : b.Fits] (hv : b.sane = true) (k : SK) :
    K Γ (.fn 42) [.agg b.c, .sc (.sl k 1 [])] [] = some (.agg (b.open13 []), []) := opened_but b hv k [] (by simp)

@[go_sem] theorem B13_frz2 (b' : Nat) (h : List Obj) (ka va : Bool) (l : List (List C × List C)) (k : SK) (es : Nat) (L : List (List C)) (b : Book) : frzL b' h 128 (B13 b (.imap ka va l) (.sl k es L)) = some (B13 b (.imap ka va l) (.sl k es L)) := by
  simp only [B13, go_sem]

theorem iv_setall (x : List Int) (z : List C) (hz : z.length = x.length) : setAll z 0 (iv x) = iv x := by
  have := setAll_mid (iv x) [] z [] (by rw [iv_len]; exact hz)
  simpa using this

def spanOf (f : List Int → Int) (ts : List (List Int)) : Int × Int := match ts with
  | [] => (0, 0)
  | t :: _ => ts.foldl (fun a t => (min a.1 (f t), max a.2 (f t))) (f t, f t)

theorem span_k (b : Book) (m : C) (hm : m.pure = true) (ts : List (List Int)) (hts : ts ≠ []) (hlen : ts.length ≤ room) (h17 : ∀ t, t ∈ ts → t.length = 17) (k : SK) (id : Nat) (cap : List C) (hcap : C.pureL cap = true) (f : List Int → Int)
    (hK : ∀ t, t ∈ ts → K Γ (.fn id) (.agg (iv t) :: cap.map .sc) [] = some (vi (f t), [])) :
    K Γ (.fn 58) [.agg (B13 b m (.sl k 17 (ts.map iv))), .agg [.fn (.fn id) [] [] cap]] [] = some (.agg [ci (spanOf f ts).1, ci (spanOf f ts).2], []) := by
  have hu (n : Nat) : C.under n m = true := pure_under0 n _ hm
  have hcu (n : Nat) : C.underL n cap = true := pureL_underL0 n _ hcap
  have hcp : (cap.map V.sc).all V.pure = true := by
    clear hK hcu
    induction cap with
    | nil => rfl
    | cons c cap ih => simp only [C.pureL, Bool.and_eq_true] at hcap; simp only [List.map_cons, List.all_cons, Vpure_sc, hcap.1, ih hcap.2, Bool.and_self]
  obtain ⟨t0, tr, rfl⟩ : ∃ t0 tr, ts = t0 :: tr := by
    cases ts with
    | nil => exact absurd rfl hts
    | cons t0 tr => exact ⟨t0, tr, rfl⟩
  have h0 := h17 t0 (by simp)
  have hK0 := hK t0 (by simp)
  rw [K_fn P06.f58 _ _ rfl]
  (simp only [go_sem, simprocAttr, candle_book_span, hm, hu, hcu, hcp, iv_all t0 17 h0, hK0, List.map_cons, List.getElem?_cons_zero]; repeat' (first | ((first | (refine br_yes (by omega) ?_) | (refine br_no (by omega) ?_) | (apply br_all; (· simp only [Bool.and_eq_true, decide_eq_true_eq]; omega)) | (apply br_free; (· simp [go_sem, Pm.acc, Acc.free, refsOf, offOf, keyEq, tagEq, cellsEq, cellEq]; done)) | ((first | apply br_mergeT | apply br_mergeF); (· intro h; simp only [go_sem, simprocAttr, sel_of h, candle_book_span, hm, hu, hcu, hcp, iv_all t0 17 h0, hK0, List.map_cons, List.getElem?_cons_zero]; exact rfl))); (try simp only [go_sem, simprocAttr, candle_book_span, hm, hu, hcu, hcp, iv_all t0 17 h0, hK0, List.map_cons, List.getElem?_cons_zero])) | ((first | apply onGuard_sel | (apply pickV_split; apply br_split) | apply br_split) <;> intro h <;> (try simp only [go_sem, simprocAttr, h, candle_book_span, hm, hu, hcu, hcp, iv_all t0 17 h0, hK0, List.map_cons, List.getElem?_cons_zero]))))
  refine (E_each (fun i (a : Int × Int) => ⟨[(3, .sc (.ptr 1 0)), (4, .sc (.ptr 2 0)), (6, .sc (.ptr 3 0)), (20, .sc (.sl k 17 (iv t0 :: tr.map iv))), (21, vi (tr.length + 1 : Nat)), (22, vi i)],
      [.var (B13 b m (.sl k 17 (iv t0 :: tr.map iv))), .var [.fn (.fn id) [] [] cap], .var [ci 0, ci 0], .var [ci a.1, ci a.2]]⟩) (t0 :: tr) (fun a t => (min a.1 (f t), max a.2 (f t)))
    (fun a => (.exit 0, ⟨[(3, .sc (.ptr 1 0)), (4, .sc (.ptr 2 0)), (6, .sc (.ptr 3 0)), (20, .sc (.sl k 17 (iv t0 :: tr.map iv))), (21, vi (tr.length + 1 : Nat)), (22, vi (tr.length + 1 : Nat)), (23, vb false)],
      [.var (B13 b m (.sl k 17 (iv t0 :: tr.map iv))), .var [.fn (.fn id) [] [] cap], .var [ci 0, ci 0], .var [ci a.1, ci a.2]]⟩)) _ (fun i a x hx => ?_) (fun a => ?_) (f t0, f t0)).trans ?_
  · have hlt : i < (t0 :: tr).length := (List.getElem?_eq_some_iff.1 hx).1
    have hx' : (iv t0 :: tr.map iv)[i]? = some (iv x) := by
      have : ((t0 :: tr).map iv)[i]? = some (iv x) := by rw [List.getElem?_map, hx]; rfl
      exact this
    have hmem := List.mem_of_getElem? hx
    have hx17 := h17 x hmem
    have hKx := hK x hmem
    simp only [List.length_cons] at hlt hlen
    have hiw : IntKind.i64.wrap ((i : Int) + 1) = i + 1 := wrap_i64 (by omega) (by simp only [room] at hlen; omega)
    have hll : (i : Int) < ((tr.length + 1 : Nat) : Int) := by omega
    (simp only [go_sem, simprocAttr, candle_book_span_B0, hm, hu, hcu, hcp, iv_all x 17 hx17, hx17, hKx, hx', hiw, List.length_cons, List.length_nil, iv_setall]; repeat' (first | ((first | (refine br_yes (by omega) ?_) | (refine br_no (by omega) ?_) | (apply br_all; (· simp only [Bool.and_eq_true, decide_eq_true_eq]; omega)) | (apply br_free; (· simp [go_sem, Pm.acc, Acc.free, refsOf, offOf, keyEq, tagEq, cellsEq, cellEq]; done)) | ((first | apply br_mergeT | apply br_mergeF); (· intro h; simp only [go_sem, simprocAttr, sel_of h, candle_book_span_B0, hm, hu, hcu, hcp, iv_all x 17 hx17, hx17, hKx, hx', hiw, List.length_cons, List.length_nil, iv_setall]; exact rfl))); (try simp only [go_sem, simprocAttr, candle_book_span_B0, hm, hu, hcu, hcp, iv_all x 17 hx17, hx17, hKx, hx', hiw, List.length_cons, List.length_nil, iv_setall])) | ((first | apply onGuard_sel | (apply pickV_split; apply br_split) | apply br_split) <;> intro h <;> (try simp only [go_sem, simprocAttr, h, candle_book_span_B0, hm, hu, hcu, hcp, iv_all x 17 hx17, hx17, hKx, hx', hiw, List.length_cons, List.length_nil, iv_setall]))))
    rfl
  · simp only [List.length_cons]
    (simp only [go_sem, simprocAttr, candle_book_span_B0]; repeat' (first | ((first | (refine br_yes (by omega) ?_) | (refine br_no (by omega) ?_) | (apply br_all; (· simp only [Bool.and_eq_true, decide_eq_true_eq]; omega)) | (apply br_free; (· simp [go_sem, Pm.acc, Acc.free, refsOf, offOf, keyEq, tagEq, cellsEq, cellEq]; done)) | ((first | apply br_mergeT | apply br_mergeF); (· intro h; simp only [go_sem, simprocAttr, sel_of h, candle_book_span_B0]; exact rfl))); (try simp only [go_sem, simprocAttr, candle_book_span_B0])) | ((first | apply onGuard_sel | (apply pickV_split; apply br_split) | apply br_split) <;> intro h <;> (try simp only [go_sem, simprocAttr, h, candle_book_span_B0]))))
  · simp only [spanOf]
    generalize List.foldl _ _ _ = r
    (simp only [go_sem, simprocAttr, hm, hu, hcu]; repeat' (first | ((first | (refine br_yes (by omega) ?_) | (refine br_no (by omega) ?_) | (apply br_all; (· simp only [Bool.and_eq_true, decide_eq_true_eq]; omega)) | (apply br_free; (· simp [go_sem, Pm.acc, Acc.free, refsOf, offOf, keyEq, tagEq, cellsEq, cellEq]; done)) | ((first | apply br_mergeT | apply br_mergeF); (· intro h; simp only [go_sem, simprocAttr, sel_of h, hm, hu, hcu]; exact rfl))); (try simp only [go_sem, simprocAttr, hm, hu, hcu])) | ((first | apply onGuard_sel | (apply pickV_split; apply br_split) | apply br_split) <;> intro h <;> (try simp only [go_sem, simprocAttr, h, hm, hu, hcu]))))
end
end Go.Pm.Cd

namespace Go.Pm.Cd
open Ac
set_option maxRecDepth 100000
set_option linter.unusedSimpArgs false
set_option linter.unusedSectionVars false
set_option linter.unusedVariables false

def Span.has (s : Span) (n : Int) : Prop := s.lo ≤ n ∧ n ≤ s.hi

theorem whole_mem {α : Type} (C : List α → Int → Int → List α) (M : Int → Int → α → Prop) (sp tp : Span) (h : ∀ s a c x, x ∈ C s a c ↔ x ∈ s ∨ M a c x) (s : List α) (x : α) :
    x ∈ whole C sp tp s ↔ x ∈ s ∨ ∃ a c, sp.has a ∧ tp.has c ∧ M a c x := by
  have hin : ∀ (k i : Nat) (s : List α), x ∈ inner C sp tp s i k ↔ x ∈ s ∨ ∃ j, j < k ∧ M (sp.lo + i) (tp.lo + (j : Nat)) x := by
    intro k i
    induction k with
    | zero => intro s; simp [inner]
    | succ k ih =>
      intro s
      have : inner C sp tp s i (k + 1) = C (inner C sp tp s i k) (sp.lo + i) (tp.lo + (k : Nat)) := by simp [inner, List.range_succ]
      rw [this, h, ih]
      constructor
      · rintro ((hs | ⟨j, hj, hM⟩) | hM)
        · exact .inl hs
        · exact .inr ⟨j, by omega, hM⟩
        · exact .inr ⟨k, by omega, hM⟩
      · rintro (hs | ⟨j, hj, hM⟩)
        · exact .inl (.inl hs)
        · by_cases e : j = k
          · subst e; exact .inr hM
          · exact .inl (.inr ⟨j, by omega, hM⟩)
  have hou : ∀ (i : Nat), x ∈ outer C sp tp s i ↔ x ∈ s ∨ ∃ m, m < i ∧ ∃ j, j < (tp.hi - tp.lo + 1).toNat ∧ M (sp.lo + (m : Nat)) (tp.lo + (j : Nat)) x := by
    intro i
    induction i with
    | zero => simp [outer]
    | succ i ih =>
      have : outer C sp tp s (i + 1) = inner C sp tp (outer C sp tp s i) i (tp.hi - tp.lo + 1).toNat := by simp [outer, List.range_succ]
      rw [this, hin, ih]
      constructor
      · rintro ((hs | ⟨m, hm, hM⟩) | hM)
        · exact .inl hs
        · exact .inr ⟨m, by omega, hM⟩
        · exact .inr ⟨i, by omega, hM⟩
      · rintro (hs | ⟨m, hm, hM⟩)
        · exact .inl (.inl hs)
        · by_cases e : m = i
          · subst e; exact .inr hM
          · exact .inl (.inr ⟨m, by omega, hM⟩)
  rw [whole, hou]
  constructor
  · rintro (hs | ⟨m, hm, j, hj, hM⟩)
    · exact .inl hs
    · exact .inr ⟨_, _, ⟨by omega, by omega⟩, ⟨by omega, by omega⟩, hM⟩
  · rintro (hs | ⟨a, c, ha, hc, hM⟩)
    · exact .inl hs
    · refine .inr ⟨(a - sp.lo).toNat, by have := ha.1; have := ha.2; omega, (c - tp.lo).toNat, by have := hc.1; have := hc.2; omega, ?_⟩
      have e1 : sp.lo + ((a - sp.lo).toNat : Int) = a := by have := ha.1; omega
      have e2 : tp.lo + ((c - tp.lo).toNat : Int) = c := by have := hc.1; omega
      rw [e1, e2]; exact hM

theorem mem_truths (b : Book) (but : List Int) (t : List Int) : t ∈ b.truths but ↔ ∃ n0 f0, b.s0.has n0 ∧ b.f0.has f0 ∧ ∃ n1 f1, b.s1.has n1 ∧ b.f1.has f1 ∧ t ∈ b.live b.comes but b.days.length (T0 f0 f1) n0 n1 0 := by
  unfold Book.truths all4
  rw [whole_mem _ (fun n0 f0 t => ∃ n1 f1, b.s1.has n1 ∧ b.f1.has f1 ∧ t ∈ b.live b.comes but b.days.length (T0 f0 f1) n0 n1 0)]
  · simp
  · intro s n0 f0 x
    unfold C1
    rw [whole_mem _ (fun n1 f1 t => t ∈ b.live b.comes but b.days.length (T0 f0 f1) n0 n1 0)]
    intro s n1 f1 x
    simp [Book.addAll]

theorem live_mem_len (b : Book) (l : List (Int × Int × Int)) (but : List Int) : ∀ (j : Nat) (t : List Int) (n0 n1 : Int) (day : Nat) (u : List Int), u ∈ b.live l but j t n0 n1 day → u.length = t.length
  | 0, t, _, _, _, u, h => by simp only [Book.live, List.mem_singleton] at h; rw [h]
  | j + 1, t, n0, n1, day, u, h => by
    simp only [Book.live] at h
    cases hx : b.days[day]? with
    | none => rw [hx] at h; simp at h
    | some x =>
      rw [hx] at h
      simp only [List.mem_flatMap] at h
      obtain ⟨i, _, h⟩ := h
      split at h
      · rw [live_mem_len b l but j _ _ _ _ u h, next_len]
      · simp at h

theorem truths_len (b : Book) (but : List Int) (t : List Int) (h : t ∈ b.truths but) : t.length = 17 := by
  rw [mem_truths] at h
  obtain ⟨n0, f0, _, _, n1, f1, _, _, h⟩ := h
  exact live_mem_len b _ but _ _ _ _ _ t h

theorem whole_len {α : Type} (C : List α → Int → Int → List α) (sp tp : Span) (m : Nat) (hs : sp.hi - sp.lo ≤ 2) (ht : tp.hi - tp.lo ≤ 1) (h : ∀ s a c, (C s a c).length ≤ s.length + m) (s : List α) : (whole C sp tp s).length ≤ s.length + 6 * m := by
  have hin : ∀ (k i : Nat) (s : List α), (inner C sp tp s i k).length ≤ s.length + k * m := by
    intro k i
    induction k with
    | zero => intro s; simp [inner]
    | succ k ih =>
      intro s
      have e : inner C sp tp s i (k + 1) = C (inner C sp tp s i k) (sp.lo + i) (tp.lo + (k : Nat)) := by simp [inner, List.range_succ]
      rw [e]
      have h1 := h (inner C sp tp s i k) (sp.lo + i) (tp.lo + (k : Nat))
      have h2 := ih s
      rw [Nat.add_mul, Nat.one_mul]; omega
  have hin2 : ∀ (i : Nat) (s : List α), (inner C sp tp s i (tp.hi - tp.lo + 1).toNat).length ≤ s.length + 2 * m := by
    intro i s
    refine Nat.le_trans (hin _ i s) ?_
    have : (tp.hi - tp.lo + 1).toNat * m ≤ 2 * m := Nat.mul_le_mul_right _ (by omega)
    omega
  have hou : ∀ (i : Nat), (outer C sp tp s i).length ≤ s.length + i * (2 * m) := by
    intro i
    induction i with
    | zero => simp [outer]
    | succ i ih =>
      have e : outer C sp tp s (i + 1) = inner C sp tp (outer C sp tp s i) i (tp.hi - tp.lo + 1).toNat := by simp [outer, List.range_succ]
      rw [e]
      have := hin2 i (outer C sp tp s i)
      rw [Nat.add_mul, Nat.one_mul]; omega
  refine Nat.le_trans (hou _) ?_
  have : (sp.hi - sp.lo + 1).toNat * (2 * m) ≤ 3 * (2 * m) := Nat.mul_le_mul_right _ (by omega)
  omega

theorem valid_spans {b : Book} (hv : b.sane = true) : (0 ≤ b.s0.lo ∧ b.s0.lo ≤ b.s0.hi ∧ b.s0.hi ≤ 60 ∧ b.s0.hi - b.s0.lo ≤ 2) ∧ (1 ≤ b.f0.lo ∧ b.f0.lo ≤ b.f0.hi ∧ b.f0.hi ≤ 6 ∧ b.f0.hi - b.f0.lo ≤ 1) ∧
    (0 ≤ b.s1.lo ∧ b.s1.lo ≤ b.s1.hi ∧ b.s1.hi ≤ 60 ∧ b.s1.hi - b.s1.lo ≤ 2) ∧ (1 ≤ b.f1.lo ∧ b.f1.lo ≤ b.f1.hi ∧ b.f1.hi ≤ 6 ∧ b.f1.hi - b.f1.lo ≤ 1) := by
  simp only [Book.sane, Bool.and_eq_true, Span.is, decide_eq_true_eq] at hv
  omega

theorem truths_room {b : Book} (hv : b.sane = true) (but : List Int) : (b.truths but).length ≤ 8748 := by
  have hs := valid_spans hv
  refine Nat.le_trans (whole_len _ b.s0 b.f0 (6 * 243) (by omega) (by omega) (fun s a c => ?_) []) (by simp)
  refine whole_len _ b.s1 b.f1 243 (by omega) (by omega) (fun s a c => ?_) s
  simp only [Book.addAll, List.length_append]
  have := live_len b hv b.comes but
  exact Nat.add_le_add_left (this _ _ _ _) _
end Go.Pm.Cd

namespace Go.Pm.Cd
open Ac
set_option maxRecDepth 100000
set_option linter.unusedSimpArgs false
set_option linter.unusedSectionVars false
set_option linter.unusedVariables false

def tLeft (kind day : Int) (t : List Int) : Int := t.getD (7 + day.toNat * 2 + kind.toNat) 0
def tLife (kind : Int) (t : List Int) : Int := t.getD (5 + kind.toNat) 0
def tDark (day : Int) (t : List Int) : Int := t.getD day.toNat 0

section
variable {Γ : Env} [P06 Γ] [G06 Γ]

theorem left1_k (t : List Int) (ht : t.length = 17) (kind day : Int) (hk : 0 ≤ kind ∧ kind ≤ 1) (hd : 0 ≤ day ∧ day ≤ 4) :
    K Γ (.fn 73) [.agg (iv t), .sc (.eptr [ci day] 0), .sc (.eptr [ci kind] 0)] [] = some (vi (tLeft kind day t), []) := by
  have hat := iv_at1 t (7 + day.toNat * 2 + kind.toNat) (by omega)
  rw [K_fn P06.f73 _ _ rfl]
  (simp only [go_sem, simprocAttr, candle_book_left_1, hat, ht, tLeft]; repeat' (first | ((first | (refine br_yes (by omega) ?_) | (refine br_no (by omega) ?_) | (apply br_all; (· simp only [Bool.and_eq_true, decide_eq_true_eq]; omega)) | (apply br_free; (· simp [go_sem, Pm.acc, Acc.free, refsOf, offOf, keyEq, tagEq, cellsEq, cellEq]; done)) | ((first | apply br_mergeT | apply br_mergeF); (· intro h; simp only [go_sem, simprocAttr, sel_of h, candle_book_left_1, hat, ht, tLeft]; exact rfl))); (try simp only [go_sem, simprocAttr, candle_book_left_1, hat, ht, tLeft])) | ((first | apply onGuard_sel | (apply pickV_split; apply br_split) | apply br_split) <;> intro h <;> (try simp only [go_sem, simprocAttr, h, candle_book_left_1, hat, ht, tLeft]))))

theorem life1_k (t : List Int) (ht : t.length = 17) (kind : Int) (hk : 0 ≤ kind ∧ kind ≤ 1) :
    K Γ (.fn 57) [.agg (iv t), .sc (.eptr [ci kind] 0)] [] = some (vi (tLife kind t), []) := by
  have hat := iv_at1 t (5 + kind.toNat) (by omega)
  rw [K_fn P06.f57 _ _ rfl]
  (simp only [go_sem, simprocAttr, candle_Life_1, hat, ht, tLife]; repeat' (first | ((first | (refine br_yes (by omega) ?_) | (refine br_no (by omega) ?_) | (apply br_all; (· simp only [Bool.and_eq_true, decide_eq_true_eq]; omega)) | (apply br_free; (· simp [go_sem, Pm.acc, Acc.free, refsOf, offOf, keyEq, tagEq, cellsEq, cellEq]; done)) | ((first | apply br_mergeT | apply br_mergeF); (· intro h; simp only [go_sem, simprocAttr, sel_of h, candle_Life_1, hat, ht, tLife]; exact rfl))); (try simp only [go_sem, simprocAttr, candle_Life_1, hat, ht, tLife])) | ((first | apply onGuard_sel | (apply pickV_split; apply br_split) | apply br_split) <;> intro h <;> (try simp only [go_sem, simprocAttr, h, candle_Life_1, hat, ht, tLife]))))

theorem dark1_k (t : List Int) (ht : t.length = 17) (day : Int) (hd : 0 ≤ day ∧ day ≤ 4) :
    K Γ (.fn 60) [.agg (iv t), .sc (.eptr [ci day] 0)] [] = some (vi (tDark day t), []) := by
  have hat := iv_at1 t day.toNat (by omega)
  rw [K_fn P06.f60 _ _ rfl]
  (simp only [go_sem, simprocAttr, candle_Dark_1, hat, ht, tDark]; repeat' (first | ((first | (refine br_yes (by omega) ?_) | (refine br_no (by omega) ?_) | (apply br_all; (· simp only [Bool.and_eq_true, decide_eq_true_eq]; omega)) | (apply br_free; (· simp [go_sem, Pm.acc, Acc.free, refsOf, offOf, keyEq, tagEq, cellsEq, cellEq]; done)) | ((first | apply br_mergeT | apply br_mergeF); (· intro h; simp only [go_sem, simprocAttr, sel_of h, candle_Dark_1, hat, ht, tDark]; exact rfl))); (try simp only [go_sem, simprocAttr, candle_Dark_1, hat, ht, tDark])) | ((first | apply onGuard_sel | (apply pickV_split; apply br_split) | apply br_split) <;> intro h <;> (try simp only [go_sem, simprocAttr, h, candle_Dark_1, hat, ht, tDark]))))

theorem left_k (b : Book) (hv : b.sane = true) (but : List Int) (hts : b.truths but ≠ []) (kind day : Int) (hk : 0 ≤ kind ∧ kind ≤ 1) (hd : 0 ≤ day ∧ day ≤ 4) :
    K Γ (.fn 54) [.agg (b.open13 but), vi kind, vi day] [] = some (.agg [ci (spanOf (tLeft kind day) (b.truths but)).1, ci (spanOf (tLeft kind day) (b.truths but)).2], []) := by
  have hr := truths_room hv but
  have hS := span_k (Γ := Γ) b (.imap true false (enc2 b.comes)) rfl (b.truths but) hts (by simp only [room]; omega) (fun t h => truths_len b but t h) (kT (b.truths but)) 73 [.eptr [ci day] 0, .eptr [ci kind] 0] rfl (tLeft kind day) (fun t h => left1_k t (truths_len b but t h) kind day hk hd)
  rw [K_fn P06.f54 _ _ rfl]
  (simp only [go_sem, simprocAttr, candle_book_left, hS]; repeat' (first | ((first | (refine br_yes (by omega) ?_) | (refine br_no (by omega) ?_) | (apply br_all; (· simp only [Bool.and_eq_true, decide_eq_true_eq]; omega)) | (apply br_free; (· simp [go_sem, Pm.acc, Acc.free, refsOf, offOf, keyEq, tagEq, cellsEq, cellEq]; done)) | ((first | apply br_mergeT | apply br_mergeF); (· intro h; simp only [go_sem, simprocAttr, sel_of h, candle_book_left, hS]; exact rfl))); (try simp only [go_sem, simprocAttr, candle_book_left, hS])) | ((first | apply onGuard_sel | (apply pickV_split; apply br_split) | apply br_split) <;> intro h <;> (try simp only [go_sem, simprocAttr, h, candle_book_left, hS]))))

theorem may_k (b : Book) (hv : b.sane = true) (but : List Int) (hts : b.truths but ≠ []) (kind day : Int) (hk : 0 ≤ kind ∧ kind ≤ 1) (hd : 0 ≤ day ∧ day ≤ 4) :
    K Γ (.fn 85) [.agg (b.open13 but), vi kind, vi day] [] = some (vb (decide ((spanOf (tLeft kind day) (b.truths but)).1 < 0)), []) := by
  have hS := left_k (Γ := Γ) b hv but hts kind day hk hd
  rw [K_fn P06.f85 _ _ rfl]
  (simp only [go_sem, simprocAttr, candle_book_may, hS]; repeat' (first | ((first | (refine br_yes (by omega) ?_) | (refine br_no (by omega) ?_) | (apply br_all; (· simp only [Bool.and_eq_true, decide_eq_true_eq]; omega)) | (apply br_free; (· simp [go_sem, Pm.acc, Acc.free, refsOf, offOf, keyEq, tagEq, cellsEq, cellEq]; done)) | ((first | apply br_mergeT | apply br_mergeF); (· intro h; simp only [go_sem, simprocAttr, sel_of h, candle_book_may, hS]; exact rfl))); (try simp only [go_sem, simprocAttr, candle_book_may, hS])) | ((first | apply onGuard_sel | (apply pickV_split; apply br_split) | apply br_split) <;> intro h <;> (try simp only [go_sem, simprocAttr, h, candle_book_may, hS]))))

theorem must_k (b : Book) (hv : b.sane = true) (but : List Int) (hts : b.truths but ≠ []) (kind day : Int) (hk : 0 ≤ kind ∧ kind ≤ 1) (hd : 0 ≤ day ∧ day ≤ 4) :
    K Γ (.fn 86) [.agg (b.open13 but), vi kind, vi day] [] = some (vb (decide ((spanOf (tLeft kind day) (b.truths but)).2 < 0)), []) := by
  have hS := left_k (Γ := Γ) b hv but hts kind day hk hd
  rw [K_fn P06.f86 _ _ rfl]
  (simp only [go_sem, simprocAttr, candle_book_must, hS]; repeat' (first | ((first | (refine br_yes (by omega) ?_) | (refine br_no (by omega) ?_) | (apply br_all; (· simp only [Bool.and_eq_true, decide_eq_true_eq]; omega)) | (apply br_free; (· simp [go_sem, Pm.acc, Acc.free, refsOf, offOf, keyEq, tagEq, cellsEq, cellEq]; done)) | ((first | apply br_mergeT | apply br_mergeF); (· intro h; simp only [go_sem, simprocAttr, sel_of h, candle_book_must, hS]; exact rfl))); (try simp only [go_sem, simprocAttr, candle_book_must, hS])) | ((first | apply onGuard_sel | (apply pickV_split; apply br_split) | apply br_split) <;> intro h <;> (try simp only [go_sem, simprocAttr, h, candle_book_must, hS]))))

theorem asked_bad (b : Book) [hb : b.Fits] (hv : b.valid = false) (is : Bool) : K Γ (.fn 53) [.agg b.c, vb is] [] = some (.tup [.agg Z13, vi 60], []) := by
  rw [K_fn P06.f53 _ _ rfl]
  (simp only [go_sem, simprocAttr, candle_asked, hv]; repeat' (first | ((first | (refine br_yes (by omega) ?_) | (refine br_no (by omega) ?_) | (apply br_all; (· simp only [Bool.and_eq_true, decide_eq_true_eq]; omega)) | (apply br_free; (· simp [go_sem, Pm.acc, Acc.free, refsOf, offOf, keyEq, tagEq, cellsEq, cellEq]; done)) | ((first | apply br_mergeT | apply br_mergeF); (· intro h; simp only [go_sem, simprocAttr, sel_of h, candle_asked, hv]; exact rfl))); (try simp only [go_sem, simprocAttr, candle_asked, hv])) | ((first | apply onGuard_sel | (apply pickV_split; apply br_split) | apply br_split) <;> intro h <;> (try simp only [go_sem, simprocAttr, h, candle_asked, hv]))))
  rfl
theorem asked_ask (b : Book) [hb : b.Fits] (hv : b.valid = true) : K Γ (.fn 53) [.agg b.c, vb false] [] = some (.tup [.agg Z13, vi 61], []) := by
  rw [K_fn P06.f53 _ _ rfl]
  (simp only [go_sem, simprocAttr, candle_asked, hv]; repeat' (first | ((first | (refine br_yes (by omega) ?_) | (refine br_no (by omega) ?_) | (apply br_all; (· simp only [Bool.and_eq_true, decide_eq_true_eq]; omega)) | (apply br_free; (· simp [go_sem, Pm.acc, Acc.free, refsOf, offOf, keyEq, tagEq, cellsEq, cellEq]; done)) | ((first | apply br_mergeT | apply br_mergeF); (· intro h; simp only [go_sem, simprocAttr, sel_of h, candle_asked, hv]; exact rfl))); (try simp only [go_sem, simprocAttr, candle_asked, hv])) | ((first | apply onGuard_sel | (apply pickV_split; apply br_split) | apply br_split) <;> intro h <;> (try simp only [go_sem, simprocAttr, h, candle_asked, hv]))))
  rfl
theorem asked_no (b : Book) [hb : b.Fits] (hv : b.valid = true) (ht : b.truths [] = []) : K Γ (.fn 53) [.agg b.c, vb true] [] = some (.tup [.agg (b.open13 []), vi 62], []) := by
  have h0 : decide (((b.truths []).length : Int) = 0) = true := by rw [ht]; rfl
  rw [K_fn P06.f53 _ _ rfl]
  (simp only [go_sem, simprocAttr, candle_asked, hv, sane_of_valid hv, h0]; repeat' (first | ((first | (refine br_yes (by omega) ?_) | (refine br_no (by omega) ?_) | (apply br_all; (· simp only [Bool.and_eq_true, decide_eq_true_eq]; omega)) | (apply br_free; (· simp [go_sem, Pm.acc, Acc.free, refsOf, offOf, keyEq, tagEq, cellsEq, cellEq]; done)) | ((first | apply br_mergeT | apply br_mergeF); (· intro h; simp only [go_sem, simprocAttr, sel_of h, candle_asked, hv, sane_of_valid hv, h0]; exact rfl))); (try simp only [go_sem, simprocAttr, candle_asked, hv, sane_of_valid hv, h0])) | ((first | apply onGuard_sel | (apply pickV_split; apply br_split) | apply br_split) <;> intro h <;> (try simp only [go_sem, simprocAttr, h, candle_asked, hv, sane_of_valid hv, h0]))))
theorem asked_ok (b : Book) [hb : b.Fits] (hv : b.valid = true) (ht : b.truths [] ≠ []) : K Γ (.fn 53) [.agg b.c, vb true] [] = some (.tup [.agg (b.open13 []), vi 0], []) := by
  have h0 : decide (((b.truths []).length : Int) = 0) = false := by
    apply decide_eq_false
    intro h; exact ht (List.length_eq_zero_iff.1 (by omega))
  rw [K_fn P06.f53 _ _ rfl]
  (simp only [go_sem, simprocAttr, candle_asked, hv, sane_of_valid hv, h0]; repeat' (first | ((first | (refine br_yes (by omega) ?_) | (refine br_no (by omega) ?_) | (apply br_all; (· simp only [Bool.and_eq_true, decide_eq_true_eq]; omega)) | (apply br_free; (· simp [go_sem, Pm.acc, Acc.free, refsOf, offOf, keyEq, tagEq, cellsEq, cellEq]; done)) | ((first | apply br_mergeT | apply br_mergeF); (· intro h; simp only [go_sem, simprocAttr, sel_of h, candle_asked, hv, sane_of_valid hv, h0]; exact rfl))); (try simp only [go_sem, simprocAttr, candle_asked, hv, sane_of_valid hv, h0])) | ((first | apply onGuard_sel | (apply pickV_split; apply br_split) | apply br_split) <;> intro h <;> (try simp only [go_sem, simprocAttr, h, candle_asked, hv, sane_of_valid hv, h0]))))

def Book.askE (b : Book) (is : Bool) : Int := if b.valid then (if is then (if b.truths [] = [] then 62 else 0) else 61) else 60
def Book.isDay (b : Book) (day : Int) : Bool := within day 0 (b.days.length - 1)
def isKind (kind : Int) : Bool := within kind 0 1
def told (e : Int) (s : Int × Int) : Int × Int := if e = 0 then s else (0, 0)

theorem within_iff (n a c : Int) : within n a c = true ↔ a ≤ n ∧ n ≤ c := by simp [within]

@[go_sem] theorem Right_k (b : Book) [hb : b.Fits] : K Γ (.fn 2) [.agg b.c] [] = some (.tup [vb (b.valid && decide (b.truths [] ≠ [])), vi (if b.valid then 0 else 60)], []) := by
  rw [K_fn P06.f2 _ _ rfl]
  cases hv : b.valid with
  | false =>
    (simp only [go_sem, simprocAttr, candle_Right, hv, Bool.false_and]; repeat' (first | ((first | (refine br_yes (by omega) ?_) | (refine br_no (by omega) ?_) | (apply br_all; (· simp only [Bool.and_eq_true, decide_eq_true_eq]; omega)) | (apply br_free; (· simp [go_sem, Pm.acc, Acc.free, refsOf, offOf, keyEq, tagEq, cellsEq, cellEq]; done)) | ((first | apply br_mergeT | apply br_mergeF); (· intro h; simp only [go_sem, simprocAttr, sel_of h, candle_Right, hv, Bool.false_and]; exact rfl))); (try simp only [go_sem, simprocAttr, candle_Right, hv, Bool.false_and])) | ((first | apply onGuard_sel | (apply pickV_split; apply br_split) | apply br_split) <;> intro h <;> (try simp only [go_sem, simprocAttr, h, candle_Right, hv, Bool.false_and]))))
  | true =>
    have h0 : decide ((0 : Int) < ((b.truths []).length : Int)) = decide (b.truths [] ≠ []) := by
      rw [decide_eq_decide]
      constructor
      · intro h e; rw [e] at h; simp at h
      · intro h
        have : (b.truths []).length ≠ 0 := fun e => h (List.length_eq_zero_iff.1 e)
        omega
    (simp only [go_sem, simprocAttr, candle_Right, hv, sane_of_valid hv, h0]; repeat' (first | ((first | (refine br_yes (by omega) ?_) | (refine br_no (by omega) ?_) | (apply br_all; (· simp only [Bool.and_eq_true, decide_eq_true_eq]; omega)) | (apply br_free; (· simp [go_sem, Pm.acc, Acc.free, refsOf, offOf, keyEq, tagEq, cellsEq, cellEq]; done)) | ((first | apply br_mergeT | apply br_mergeF); (· intro h; simp only [go_sem, simprocAttr, sel_of h, candle_Right, hv, sane_of_valid hv, h0]; exact rfl))); (try simp only [go_sem, simprocAttr, candle_Right, hv, sane_of_valid hv, h0])) | ((first | apply onGuard_sel | (apply pickV_split; apply br_split) | apply br_split) <;> intro h <;> (try simp only [go_sem, simprocAttr, h, candle_Right, hv, sane_of_valid hv, h0]))))

@[go_sem] theorem Left_k (b : Book) [hb : b.Fits] (kind day : Int) : K Γ (.fn 6) [.agg b.c, vi kind, vi day] [] =
    some (.tup [.agg [ci (told (b.askE (isKind kind && b.isDay day)) (spanOf (tLeft kind day) (b.truths []))).1, ci (told (b.askE (isKind kind && b.isDay day)) (spanOf (tLeft kind day) (b.truths []))).2], vi (b.askE (isKind kind && b.isDay day))], []) := by
  rw [K_fn P06.f6 _ _ rfl]
  simp only [isKind, Book.isDay, Book.askE]
  cases hv : b.valid with
  | false =>
    have hA (is : Bool) := asked_bad (Γ := Γ) b hv is
    simp only [Z13] at hA
    (simp only [go_sem, simprocAttr, candle_Left, hA, told]; repeat' (first | ((first | (refine br_yes (by omega) ?_) | (refine br_no (by omega) ?_) | (apply br_all; (· simp only [Bool.and_eq_true, decide_eq_true_eq]; omega)) | (apply br_free; (· simp [go_sem, Pm.acc, Acc.free, refsOf, offOf, keyEq, tagEq, cellsEq, cellEq]; done)) | ((first | apply br_mergeT | apply br_mergeF); (· intro h; simp only [go_sem, simprocAttr, sel_of h, candle_Left, hA, told]; exact rfl))); (try simp only [go_sem, simprocAttr, candle_Left, hA, told])) | ((first | apply onGuard_sel | (apply pickV_split; apply br_split) | apply br_split) <;> intro h <;> (try simp only [go_sem, simprocAttr, h, candle_Left, hA, told]))))
  | true =>
    have hA := asked_ask (Γ := Γ) b hv
    simp only [Z13] at hA
    rcases Bool.eq_false_or_eq_true (within kind 0 1) with hk | hk
    rotate_left
    · (simp only [go_sem, simprocAttr, candle_Left, hA, hk, told, Bool.false_and, Bool.false_eq_true]; repeat' (first | ((first | (refine br_yes (by omega) ?_) | (refine br_no (by omega) ?_) | (apply br_all; (· simp only [Bool.and_eq_true, decide_eq_true_eq]; omega)) | (apply br_free; (· simp [go_sem, Pm.acc, Acc.free, refsOf, offOf, keyEq, tagEq, cellsEq, cellEq]; done)) | ((first | apply br_mergeT | apply br_mergeF); (· intro h; simp only [go_sem, simprocAttr, sel_of h, candle_Left, hA, hk, told, Bool.false_and, Bool.false_eq_true]; exact rfl))); (try simp only [go_sem, simprocAttr, candle_Left, hA, hk, told, Bool.false_and, Bool.false_eq_true])) | ((first | apply onGuard_sel | (apply pickV_split; apply br_split) | apply br_split) <;> intro h <;> (try simp only [go_sem, simprocAttr, h, candle_Left, hA, hk, told, Bool.false_and, Bool.false_eq_true]))))
    · rcases Bool.eq_false_or_eq_true (within day 0 (b.days.length - 1)) with hd | hd
      rotate_left
      · (simp only [go_sem, simprocAttr, candle_Left, hA, hk, hd, told, Bool.false_eq_true]; repeat' (first | ((first | (refine br_yes (by omega) ?_) | (refine br_no (by omega) ?_) | (apply br_all; (· simp only [Bool.and_eq_true, decide_eq_true_eq]; omega)) | (apply br_free; (· simp [go_sem, Pm.acc, Acc.free, refsOf, offOf, keyEq, tagEq, cellsEq, cellEq]; done)) | ((first | apply br_mergeT | apply br_mergeF); (· intro h; simp only [go_sem, simprocAttr, sel_of h, candle_Left, hA, hk, hd, told, Bool.false_eq_true]; exact rfl))); (try simp only [go_sem, simprocAttr, candle_Left, hA, hk, hd, told, Bool.false_eq_true])) | ((first | apply onGuard_sel | (apply pickV_split; apply br_split) | apply br_split) <;> intro h <;> (try simp only [go_sem, simprocAttr, h, candle_Left, hA, hk, hd, told, Bool.false_eq_true]))))
      · have hk' := (within_iff _ _ _).1 hk
        have hd' := (within_iff _ _ _).1 hd
        have hdl := valid_days (sane_of_valid hv)
        by_cases ht : b.truths [] = []
        · have hN := asked_no (Γ := Γ) b hv ht
          (simp only [go_sem, simprocAttr, candle_Left, hN, hk, hd, told, ht]; repeat' (first | ((first | (refine br_yes (by omega) ?_) | (refine br_no (by omega) ?_) | (apply br_all; (· simp only [Bool.and_eq_true, decide_eq_true_eq]; omega)) | (apply br_free; (· simp [go_sem, Pm.acc, Acc.free, refsOf, offOf, keyEq, tagEq, cellsEq, cellEq]; done)) | ((first | apply br_mergeT | apply br_mergeF); (· intro h; simp only [go_sem, simprocAttr, sel_of h, candle_Left, hN, hk, hd, told, ht]; exact rfl))); (try simp only [go_sem, simprocAttr, candle_Left, hN, hk, hd, told, ht])) | ((first | apply onGuard_sel | (apply pickV_split; apply br_split) | apply br_split) <;> intro h <;> (try simp only [go_sem, simprocAttr, h, candle_Left, hN, hk, hd, told, ht]))))
        · have hN := asked_ok (Γ := Γ) b hv ht
          have hS := left_k (Γ := Γ) b (sane_of_valid hv) [] ht kind day hk' (by omega)
          (simp only [go_sem, simprocAttr, candle_Left, hN, hk, hd, told, ht, hS]; repeat' (first | ((first | (refine br_yes (by omega) ?_) | (refine br_no (by omega) ?_) | (apply br_all; (· simp only [Bool.and_eq_true, decide_eq_true_eq]; omega)) | (apply br_free; (· simp [go_sem, Pm.acc, Acc.free, refsOf, offOf, keyEq, tagEq, cellsEq, cellEq]; done)) | ((first | apply br_mergeT | apply br_mergeF); (· intro h; simp only [go_sem, simprocAttr, sel_of h, candle_Left, hN, hk, hd, told, ht, hS]; exact rfl))); (try simp only [go_sem, simprocAttr, candle_Left, hN, hk, hd, told, ht, hS])) | ((first | apply onGuard_sel | (apply pickV_split; apply br_split) | apply br_split) <;> intro h <;> (try simp only [go_sem, simprocAttr, h, candle_Left, hN, hk, hd, told, ht, hS]))))

@[go_sem] theorem Life_k (b : Book) [hb : b.Fits] (kind : Int) : K Γ (.fn 8) [.agg b.c, vi kind] [] =
    some (.tup [.agg [ci (told (b.askE (isKind kind)) (spanOf (tLife kind) (b.truths []))).1, ci (told (b.askE (isKind kind)) (spanOf (tLife kind) (b.truths []))).2], vi (b.askE (isKind kind))], []) := by
  rw [K_fn P06.f8 _ _ rfl]
  simp only [isKind, Book.isDay, Book.askE]
  cases hv : b.valid with
  | false =>
    have hA (is : Bool) := asked_bad (Γ := Γ) b hv is
    simp only [Z13] at hA
    (simp only [go_sem, simprocAttr, candle_Life, hA, told]; repeat' (first | ((first | (refine br_yes (by omega) ?_) | (refine br_no (by omega) ?_) | (apply br_all; (· simp only [Bool.and_eq_true, decide_eq_true_eq]; omega)) | (apply br_free; (· simp [go_sem, Pm.acc, Acc.free, refsOf, offOf, keyEq, tagEq, cellsEq, cellEq]; done)) | ((first | apply br_mergeT | apply br_mergeF); (· intro h; simp only [go_sem, simprocAttr, sel_of h, candle_Life, hA, told]; exact rfl))); (try simp only [go_sem, simprocAttr, candle_Life, hA, told])) | ((first | apply onGuard_sel | (apply pickV_split; apply br_split) | apply br_split) <;> intro h <;> (try simp only [go_sem, simprocAttr, h, candle_Life, hA, told]))))
  | true =>
    have hA := asked_ask (Γ := Γ) b hv
    simp only [Z13] at hA
    rcases Bool.eq_false_or_eq_true (within kind 0 1) with hk | hk
    rotate_left
    · (simp only [go_sem, simprocAttr, candle_Life, hA, hk, told, Bool.false_and, Bool.false_eq_true]; repeat' (first | ((first | (refine br_yes (by omega) ?_) | (refine br_no (by omega) ?_) | (apply br_all; (· simp only [Bool.and_eq_true, decide_eq_true_eq]; omega)) | (apply br_free; (· simp [go_sem, Pm.acc, Acc.free, refsOf, offOf, keyEq, tagEq, cellsEq, cellEq]; done)) | ((first | apply br_mergeT | apply br_mergeF); (· intro h; simp only [go_sem, simprocAttr, sel_of h, candle_Life, hA, hk, told, Bool.false_and, Bool.false_eq_true]; exact rfl))); (try simp only [go_sem, simprocAttr, candle_Life, hA, hk, told, Bool.false_and, Bool.false_eq_true])) | ((first | apply onGuard_sel | (apply pickV_split; apply br_split) | apply br_split) <;> intro h <;> (try simp only [go_sem, simprocAttr, h, candle_Life, hA, hk, told, Bool.false_and, Bool.false_eq_true]))))
    · have hk' := (within_iff _ _ _).1 hk
      by_cases ht : b.truths [] = []
      · have hN := asked_no (Γ := Γ) b hv ht
        (simp only [go_sem, simprocAttr, candle_Life, hN, hk, told, ht]; repeat' (first | ((first | (refine br_yes (by omega) ?_) | (refine br_no (by omega) ?_) | (apply br_all; (· simp only [Bool.and_eq_true, decide_eq_true_eq]; omega)) | (apply br_free; (· simp [go_sem, Pm.acc, Acc.free, refsOf, offOf, keyEq, tagEq, cellsEq, cellEq]; done)) | ((first | apply br_mergeT | apply br_mergeF); (· intro h; simp only [go_sem, simprocAttr, sel_of h, candle_Life, hN, hk, told, ht]; exact rfl))); (try simp only [go_sem, simprocAttr, candle_Life, hN, hk, told, ht])) | ((first | apply onGuard_sel | (apply pickV_split; apply br_split) | apply br_split) <;> intro h <;> (try simp only [go_sem, simprocAttr, h, candle_Life, hN, hk, told, ht]))))
      · have hN := asked_ok (Γ := Γ) b hv ht
        have hr := truths_room (sane_of_valid hv) []
        have hS := span_k (Γ := Γ) b (.imap true false (enc2 b.comes)) rfl (b.truths []) ht (by simp only [room]; omega) (fun t h => truths_len b [] t h) (kT (b.truths [])) 57 [.eptr [ci kind] 0] rfl (tLife kind) (fun t h => life1_k t (truths_len b [] t h) kind hk')
        (simp only [go_sem, simprocAttr, candle_Life, hN, hk, told, ht, hS]; repeat' (first | ((first | (refine br_yes (by omega) ?_) | (refine br_no (by omega) ?_) | (apply br_all; (· simp only [Bool.and_eq_true, decide_eq_true_eq]; omega)) | (apply br_free; (· simp [go_sem, Pm.acc, Acc.free, refsOf, offOf, keyEq, tagEq, cellsEq, cellEq]; done)) | ((first | apply br_mergeT | apply br_mergeF); (· intro h; simp only [go_sem, simprocAttr, sel_of h, candle_Life, hN, hk, told, ht, hS]; exact rfl))); (try simp only [go_sem, simprocAttr, candle_Life, hN, hk, told, ht, hS])) | ((first | apply onGuard_sel | (apply pickV_split; apply br_split) | apply br_split) <;> intro h <;> (try simp only [go_sem, simprocAttr, h, candle_Life, hN, hk, told, ht, hS]))))

@[go_sem] theorem Dark_k (b : Book) [hb : b.Fits] (day : Int) : K Γ (.fn 10) [.agg b.c, vi day] [] =
    some (.tup [.agg [ci (told (b.askE (b.isDay day)) (spanOf (tDark day) (b.truths []))).1, ci (told (b.askE (b.isDay day)) (spanOf (tDark day) (b.truths []))).2], vi (b.askE (b.isDay day))], []) := by
  rw [K_fn P06.f10 _ _ rfl]
  simp only [isKind, Book.isDay, Book.askE]
  cases hv : b.valid with
  | false =>
    have hA (is : Bool) := asked_bad (Γ := Γ) b hv is
    simp only [Z13] at hA
    (simp only [go_sem, simprocAttr, candle_Dark, hA, told]; repeat' (first | ((first | (refine br_yes (by omega) ?_) | (refine br_no (by omega) ?_) | (apply br_all; (· simp only [Bool.and_eq_true, decide_eq_true_eq]; omega)) | (apply br_free; (· simp [go_sem, Pm.acc, Acc.free, refsOf, offOf, keyEq, tagEq, cellsEq, cellEq]; done)) | ((first | apply br_mergeT | apply br_mergeF); (· intro h; simp only [go_sem, simprocAttr, sel_of h, candle_Dark, hA, told]; exact rfl))); (try simp only [go_sem, simprocAttr, candle_Dark, hA, told])) | ((first | apply onGuard_sel | (apply pickV_split; apply br_split) | apply br_split) <;> intro h <;> (try simp only [go_sem, simprocAttr, h, candle_Dark, hA, told]))))
  | true =>
    have hA := asked_ask (Γ := Γ) b hv
    simp only [Z13] at hA
    rcases Bool.eq_false_or_eq_true (within day 0 (b.days.length - 1)) with hk | hk
    rotate_left
    · (simp only [go_sem, simprocAttr, candle_Dark, hA, hk, told, Bool.false_and, Bool.false_eq_true]; repeat' (first | ((first | (refine br_yes (by omega) ?_) | (refine br_no (by omega) ?_) | (apply br_all; (· simp only [Bool.and_eq_true, decide_eq_true_eq]; omega)) | (apply br_free; (· simp [go_sem, Pm.acc, Acc.free, refsOf, offOf, keyEq, tagEq, cellsEq, cellEq]; done)) | ((first | apply br_mergeT | apply br_mergeF); (· intro h; simp only [go_sem, simprocAttr, sel_of h, candle_Dark, hA, hk, told, Bool.false_and, Bool.false_eq_true]; exact rfl))); (try simp only [go_sem, simprocAttr, candle_Dark, hA, hk, told, Bool.false_and, Bool.false_eq_true])) | ((first | apply onGuard_sel | (apply pickV_split; apply br_split) | apply br_split) <;> intro h <;> (try simp only [go_sem, simprocAttr, h, candle_Dark, hA, hk, told, Bool.false_and, Bool.false_eq_true]))))
    · have hk' := (within_iff _ _ _).1 hk
      have hdl := valid_days (sane_of_valid hv)
      by_cases ht : b.truths [] = []
      · have hN := asked_no (Γ := Γ) b hv ht
        (simp only [go_sem, simprocAttr, candle_Dark, hN, hk, told, ht]; repeat' (first | ((first | (refine br_yes (by omega) ?_) | (refine br_no (by omega) ?_) | (apply br_all; (· simp only [Bool.and_eq_true, decide_eq_true_eq]; omega)) | (apply br_free; (· simp [go_sem, Pm.acc, Acc.free, refsOf, offOf, keyEq, tagEq, cellsEq, cellEq]; done)) | ((first | apply br_mergeT | apply br_mergeF); (· intro h; simp only [go_sem, simprocAttr, sel_of h, candle_Dark, hN, hk, told, ht]; exact rfl))); (try simp only [go_sem, simprocAttr, candle_Dark, hN, hk, told, ht])) | ((first | apply onGuard_sel | (apply pickV_split; apply br_split) | apply br_split) <;> intro h <;> (try simp only [go_sem, simprocAttr, h, candle_Dark, hN, hk, told, ht]))))
      · have hN := asked_ok (Γ := Γ) b hv ht
        have hr := truths_room (sane_of_valid hv) []
        have hS := span_k (Γ := Γ) b (.imap true false (enc2 b.comes)) rfl (b.truths []) ht (by simp only [room]; omega) (fun t h => truths_len b [] t h) (kT (b.truths [])) 60 [.eptr [ci day] 0] rfl (tDark day) (fun t h => dark1_k t (truths_len b [] t h) day (by omega))
        (simp only [go_sem, simprocAttr, candle_Dark, hN, hk, told, ht, hS]; repeat' (first | ((first | (refine br_yes (by omega) ?_) | (refine br_no (by omega) ?_) | (apply br_all; (· simp only [Bool.and_eq_true, decide_eq_true_eq]; omega)) | (apply br_free; (· simp [go_sem, Pm.acc, Acc.free, refsOf, offOf, keyEq, tagEq, cellsEq, cellEq]; done)) | ((first | apply br_mergeT | apply br_mergeF); (· intro h; simp only [go_sem, simprocAttr, sel_of h, candle_Dark, hN, hk, told, ht, hS]; exact rfl))); (try simp only [go_sem, simprocAttr, candle_Dark, hN, hk, told, ht, hS])) | ((first | apply onGuard_sel | (apply pickV_split; apply br_split) | apply br_split) <;> intro h <;> (try simp only [go_sem, simprocAttr, h, candle_Dark, hN, hk, told, ht, hS]))))
end
end Go.Pm.Cd

namespace Go.Pm.Cd
open Ac
set_option maxRecDepth 100000
set_option linter.unusedSimpArgs false
set_option linter.unusedSectionVars false
set_option linter.unusedVariables false

def Book.firstOn (b : Book) (q : Nat → Bool) : Int × Int := match findFrom (fun i _ => q i) 0 b.days with | some (i, _) => ((i : Int), 0) | none => (0, 4)
def Book.short (b : Book) (kind : Int) : Int × Int :=
  if b.askE (isKind kind) = 0 then b.firstOn (fun i => decide ((spanOf (tLeft kind i) (b.truths [])).1 < 0)) else (0, b.askE (isKind kind))
def Book.surely (b : Book) (kind : Int) : Int × Int :=
  if b.askE (isKind kind) = 0 then b.firstOn (fun i => decide ((spanOf (tLeft kind i) (b.truths [])).2 < 0)) else (0, b.askE (isKind kind))

section
variable {Γ : Env} [P06 Γ] [G06 Γ]

theorem first_L0 (b : Book) [hb : b.Fits] (hv : b.valid = true) (ht : b.truths [] ≠ []) (kind ask : Int) (q : Nat → Bool)
    (id : Nat) (hask : (ask = 0 ∧ id = 85) ∨ (ask = 1 ∧ id = 86))
    (hq : ∀ i : Nat, i < b.days.length → K Γ (.fn id) [.agg (b.open13 []), vi kind, vi i] [] = some (vb (q i), [])) {β : Type} (Q : Ex → St → Option β) :
    E Γ candle_first_L0 ⟨[(1, vi kind), (2, vi ask), (8, .sc (.ptr 1 0)), (23, vi b.days.length), (24, vi 0)], [.var b.c, .var (b.open13 [])]⟩ Q =
      match findFrom (fun i _ => q i) 0 b.days with
      | some (i, _) => Q .ret ⟨[(6, vi i), (7, vi 0)], [.var b.c, .var (b.open13 [])]⟩
      | none => Q (.exit 0) ⟨[(1, vi kind), (2, vi ask), (8, .sc (.ptr 1 0)), (23, vi b.days.length), (24, vi b.days.length), (25, vb false)], [.var b.c, .var (b.open13 [])]⟩ := by
  have hg2 : Γ.glob 2 = [.fn (.fn 85) [] [] [], .fn (.fn 86) [] [] []] := G06.g2
  have hdl := valid_days (sane_of_valid hv)
  refine (E_find (fun i => ⟨[(1, vi kind), (2, vi ask), (8, .sc (.ptr 1 0)), (23, vi b.days.length), (24, vi i)], [.var b.c, .var (b.open13 [])]⟩) b.days (fun i _ => q i)
    (fun i x => (.ret, ⟨[(6, vi i), (7, vi 0)], [.var b.c, .var (b.open13 [])]⟩))
    (.exit 0, ⟨[(1, vi kind), (2, vi ask), (8, .sc (.ptr 1 0)), (23, vi b.days.length), (24, vi b.days.length), (25, vb false)], [.var b.c, .var (b.open13 [])]⟩) Q ?_ ?_ ?_).trans ?_
  · intro i x hx hqi
    have hlt : i < b.days.length := (List.getElem?_eq_some_iff.1 hx).1
    have hiw : IntKind.i64.wrap ((i : Int) + 1) = i + 1 := wrap_i64 (by omega) (by omega)
    have hK := hq i hlt
    rcases hask with ⟨rfl, rfl⟩ | ⟨rfl, rfl⟩
    · (simp only [go_sem, simprocAttr, candle_first_B0, hiw, hg2, hK, hqi]; repeat' (first | ((first | (refine br_yes (by omega) ?_) | (refine br_no (by omega) ?_) | (apply br_all; (· simp only [Bool.and_eq_true, decide_eq_true_eq]; omega)) | (apply br_free; (· simp [go_sem, Pm.acc, Acc.free, refsOf, offOf, keyEq, tagEq, cellsEq, cellEq]; done)) | ((first | apply br_mergeT | apply br_mergeF); (· intro h; simp only [go_sem, simprocAttr, sel_of h, candle_first_B0, hiw, hg2, hK, hqi]; exact rfl))); (try simp only [go_sem, simprocAttr, candle_first_B0, hiw, hg2, hK, hqi])) | ((first | apply onGuard_sel | (apply pickV_split; apply br_split) | apply br_split) <;> intro h <;> (try simp only [go_sem, simprocAttr, h, candle_first_B0, hiw, hg2, hK, hqi]))))
      rfl
    · (simp only [go_sem, simprocAttr, candle_first_B0, hiw, hg2, hK, hqi]; repeat' (first | ((first | (refine br_yes (by omega) ?_) | (refine br_no (by omega) ?_) | (apply br_all; (· simp only [Bool.and_eq_true, decide_eq_true_eq]; omega)) | (apply br_free; (· simp [go_sem, Pm.acc, Acc.free, refsOf, offOf, keyEq, tagEq, cellsEq, cellEq]; done)) | ((first | apply br_mergeT | apply br_mergeF); (· intro h; simp only [go_sem, simprocAttr, sel_of h, candle_first_B0, hiw, hg2, hK, hqi]; exact rfl))); (try simp only [go_sem, simprocAttr, candle_first_B0, hiw, hg2, hK, hqi])) | ((first | apply onGuard_sel | (apply pickV_split; apply br_split) | apply br_split) <;> intro h <;> (try simp only [go_sem, simprocAttr, h, candle_first_B0, hiw, hg2, hK, hqi]))))
      rfl
  · intro i x hx hqi
    have hlt : i < b.days.length := (List.getElem?_eq_some_iff.1 hx).1
    have hK := hq i hlt
    rcases hask with ⟨rfl, rfl⟩ | ⟨rfl, rfl⟩
    · (simp only [go_sem, simprocAttr, candle_first_B0, hg2, hK, hqi]; repeat' (first | ((first | (refine br_yes (by omega) ?_) | (refine br_no (by omega) ?_) | (apply br_all; (· simp only [Bool.and_eq_true, decide_eq_true_eq]; omega)) | (apply br_free; (· simp [go_sem, Pm.acc, Acc.free, refsOf, offOf, keyEq, tagEq, cellsEq, cellEq]; done)) | ((first | apply br_mergeT | apply br_mergeF); (· intro h; simp only [go_sem, simprocAttr, sel_of h, candle_first_B0, hg2, hK, hqi]; exact rfl))); (try simp only [go_sem, simprocAttr, candle_first_B0, hg2, hK, hqi])) | ((first | apply onGuard_sel | (apply pickV_split; apply br_split) | apply br_split) <;> intro h <;> (try simp only [go_sem, simprocAttr, h, candle_first_B0, hg2, hK, hqi]))))
    · (simp only [go_sem, simprocAttr, candle_first_B0, hg2, hK, hqi]; repeat' (first | ((first | (refine br_yes (by omega) ?_) | (refine br_no (by omega) ?_) | (apply br_all; (· simp only [Bool.and_eq_true, decide_eq_true_eq]; omega)) | (apply br_free; (· simp [go_sem, Pm.acc, Acc.free, refsOf, offOf, keyEq, tagEq, cellsEq, cellEq]; done)) | ((first | apply br_mergeT | apply br_mergeF); (· intro h; simp only [go_sem, simprocAttr, sel_of h, candle_first_B0, hg2, hK, hqi]; exact rfl))); (try simp only [go_sem, simprocAttr, candle_first_B0, hg2, hK, hqi])) | ((first | apply onGuard_sel | (apply pickV_split; apply br_split) | apply br_split) <;> intro h <;> (try simp only [go_sem, simprocAttr, h, candle_first_B0, hg2, hK, hqi]))))
  · (simp only [go_sem, simprocAttr, candle_first_B0]; repeat' (first | ((first | (refine br_yes (by omega) ?_) | (refine br_no (by omega) ?_) | (apply br_all; (· simp only [Bool.and_eq_true, decide_eq_true_eq]; omega)) | (apply br_free; (· simp [go_sem, Pm.acc, Acc.free, refsOf, offOf, keyEq, tagEq, cellsEq, cellEq]; done)) | ((first | apply br_mergeT | apply br_mergeF); (· intro h; simp only [go_sem, simprocAttr, sel_of h, candle_first_B0]; exact rfl))); (try simp only [go_sem, simprocAttr, candle_first_B0])) | ((first | apply onGuard_sel | (apply pickV_split; apply br_split) | apply br_split) <;> intro h <;> (try simp only [go_sem, simprocAttr, h, candle_first_B0]))))
  · cases findFrom (fun i _ => q i) 0 b.days <;> rfl

theorem first_k (b : Book) [hb : b.Fits] (kind ask : Int) (q : Nat → Bool) (id : Nat) (hask : (ask = 0 ∧ id = 85) ∨ (ask = 1 ∧ id = 86))
    (hq : b.valid = true → b.truths [] ≠ [] → within kind 0 1 = true → ∀ i : Nat, i < b.days.length → K Γ (.fn id) [.agg (b.open13 []), vi kind, vi i] [] = some (vb (q i), [])) :
    K Γ (.fn 61) [.agg b.c, vi kind, vi ask] [] = some (.tup [vi (if b.askE (isKind kind) = 0 then b.firstOn q else (0, b.askE (isKind kind))).1, vi (if b.askE (isKind kind) = 0 then b.firstOn q else (0, b.askE (isKind kind))).2], []) := by
  rw [K_fn P06.f61 _ _ rfl]
  simp only [isKind, Book.isDay, Book.askE]
  rcases Bool.eq_false_or_eq_true b.valid with hv | hv
  rotate_left
  · have hA (is : Bool) := asked_bad (Γ := Γ) b hv is
    simp only [Z13] at hA
    (simp only [go_sem, simprocAttr, candle_first, hA, hv, Bool.false_eq_true]; repeat' (first | ((first | (refine br_yes (by omega) ?_) | (refine br_no (by omega) ?_) | (apply br_all; (· simp only [Bool.and_eq_true, decide_eq_true_eq]; omega)) | (apply br_free; (· simp [go_sem, Pm.acc, Acc.free, refsOf, offOf, keyEq, tagEq, cellsEq, cellEq]; done)) | ((first | apply br_mergeT | apply br_mergeF); (· intro h; simp only [go_sem, simprocAttr, sel_of h, candle_first, hA, hv, Bool.false_eq_true]; exact rfl))); (try simp only [go_sem, simprocAttr, candle_first, hA, hv, Bool.false_eq_true])) | ((first | apply onGuard_sel | (apply pickV_split; apply br_split) | apply br_split) <;> intro h <;> (try simp only [go_sem, simprocAttr, h, candle_first, hA, hv, Bool.false_eq_true]))))
  · have hA := asked_ask (Γ := Γ) b hv
    simp only [Z13] at hA
    rcases Bool.eq_false_or_eq_true (within kind 0 1) with hk | hk
    rotate_left
    · (simp only [go_sem, simprocAttr, candle_first, hA, hv, hk, Bool.false_and, Bool.false_eq_true]; repeat' (first | ((first | (refine br_yes (by omega) ?_) | (refine br_no (by omega) ?_) | (apply br_all; (· simp only [Bool.and_eq_true, decide_eq_true_eq]; omega)) | (apply br_free; (· simp [go_sem, Pm.acc, Acc.free, refsOf, offOf, keyEq, tagEq, cellsEq, cellEq]; done)) | ((first | apply br_mergeT | apply br_mergeF); (· intro h; simp only [go_sem, simprocAttr, sel_of h, candle_first, hA, hv, hk, Bool.false_and, Bool.false_eq_true]; exact rfl))); (try simp only [go_sem, simprocAttr, candle_first, hA, hv, hk, Bool.false_and, Bool.false_eq_true])) | ((first | apply onGuard_sel | (apply pickV_split; apply br_split) | apply br_split) <;> intro h <;> (try simp only [go_sem, simprocAttr, h, candle_first, hA, hv, hk, Bool.false_and, Bool.false_eq_true]))))
    · by_cases ht : b.truths [] = []
      · have hN := asked_no (Γ := Γ) b hv ht
        (simp only [go_sem, simprocAttr, candle_first, hN, hv, hk, ht]; repeat' (first | ((first | (refine br_yes (by omega) ?_) | (refine br_no (by omega) ?_) | (apply br_all; (· simp only [Bool.and_eq_true, decide_eq_true_eq]; omega)) | (apply br_free; (· simp [go_sem, Pm.acc, Acc.free, refsOf, offOf, keyEq, tagEq, cellsEq, cellEq]; done)) | ((first | apply br_mergeT | apply br_mergeF); (· intro h; simp only [go_sem, simprocAttr, sel_of h, candle_first, hN, hv, hk, ht]; exact rfl))); (try simp only [go_sem, simprocAttr, candle_first, hN, hv, hk, ht])) | ((first | apply onGuard_sel | (apply pickV_split; apply br_split) | apply br_split) <;> intro h <;> (try simp only [go_sem, simprocAttr, h, candle_first, hN, hv, hk, ht]))))
      · have hN := asked_ok (Γ := Γ) b hv ht
        have hL {β : Type} (Q : Ex → St → Option β) := first_L0 b hv ht kind ask q id hask (hq hv ht hk) Q
        cases hf : findFrom (fun i _ => q i) 0 b.days with
        | none =>
          simp only [hf] at hL
          (simp only [go_sem, simprocAttr, candle_first, hN, hv, hk, ht, hL, Book.firstOn, hf]; repeat' (first | ((first | (refine br_yes (by omega) ?_) | (refine br_no (by omega) ?_) | (apply br_all; (· simp only [Bool.and_eq_true, decide_eq_true_eq]; omega)) | (apply br_free; (· simp [go_sem, Pm.acc, Acc.free, refsOf, offOf, keyEq, tagEq, cellsEq, cellEq]; done)) | ((first | apply br_mergeT | apply br_mergeF); (· intro h; simp only [go_sem, simprocAttr, sel_of h, candle_first, hN, hv, hk, ht, hL, Book.firstOn, hf]; exact rfl))); (try simp only [go_sem, simprocAttr, candle_first, hN, hv, hk, ht, hL, Book.firstOn, hf])) | ((first | apply onGuard_sel | (apply pickV_split; apply br_split) | apply br_split) <;> intro h <;> (try simp only [go_sem, simprocAttr, h, candle_first, hN, hv, hk, ht, hL, Book.firstOn, hf]))))
        | some p =>
          simp only [hf] at hL
          (simp only [go_sem, simprocAttr, candle_first, hN, hv, hk, ht, hL, Book.firstOn, hf]; repeat' (first | ((first | (refine br_yes (by omega) ?_) | (refine br_no (by omega) ?_) | (apply br_all; (· simp only [Bool.and_eq_true, decide_eq_true_eq]; omega)) | (apply br_free; (· simp [go_sem, Pm.acc, Acc.free, refsOf, offOf, keyEq, tagEq, cellsEq, cellEq]; done)) | ((first | apply br_mergeT | apply br_mergeF); (· intro h; simp only [go_sem, simprocAttr, sel_of h, candle_first, hN, hv, hk, ht, hL, Book.firstOn, hf]; exact rfl))); (try simp only [go_sem, simprocAttr, candle_first, hN, hv, hk, ht, hL, Book.firstOn, hf])) | ((first | apply onGuard_sel | (apply pickV_split; apply br_split) | apply br_split) <;> intro h <;> (try simp only [go_sem, simprocAttr, h, candle_first, hN, hv, hk, ht, hL, Book.firstOn, hf]))))

@[go_sem] theorem Short_k (b : Book) [hb : b.Fits] (kind : Int) : K Γ (.fn 13) [.agg b.c, vi kind] [] = some (.tup [vi (b.short kind).1, vi (b.short kind).2], []) := by
  have hF := first_k (Γ := Γ) b kind 0 (fun i => decide ((spanOf (tLeft kind i) (b.truths [])).1 < 0)) 85 (.inl ⟨rfl, rfl⟩) (fun hv ht hk i hi =>
    may_k b (sane_of_valid hv) [] ht kind i ((within_iff _ _ _).1 hk) (by have := valid_days (sane_of_valid hv); omega))
  rw [K_fn P06.f13 _ _ rfl]
  (simp only [go_sem, simprocAttr, candle_Short, hF]; repeat' (first | ((first | (refine br_yes (by omega) ?_) | (refine br_no (by omega) ?_) | (apply br_all; (· simp only [Bool.and_eq_true, decide_eq_true_eq]; omega)) | (apply br_free; (· simp [go_sem, Pm.acc, Acc.free, refsOf, offOf, keyEq, tagEq, cellsEq, cellEq]; done)) | ((first | apply br_mergeT | apply br_mergeF); (· intro h; simp only [go_sem, simprocAttr, sel_of h, candle_Short, hF]; exact rfl))); (try simp only [go_sem, simprocAttr, candle_Short, hF])) | ((first | apply onGuard_sel | (apply pickV_split; apply br_split) | apply br_split) <;> intro h <;> (try simp only [go_sem, simprocAttr, h, candle_Short, hF]))))
  rfl
@[go_sem] theorem Surely_k (b : Book) [hb : b.Fits] (kind : Int) : K Γ (.fn 15) [.agg b.c, vi kind] [] = some (.tup [vi (b.surely kind).1, vi (b.surely kind).2], []) := by
  have hF := first_k (Γ := Γ) b kind 1 (fun i => decide ((spanOf (tLeft kind i) (b.truths [])).2 < 0)) 86 (.inr ⟨rfl, rfl⟩) (fun hv ht hk i hi =>
    must_k b (sane_of_valid hv) [] ht kind i ((within_iff _ _ _).1 hk) (by have := valid_days (sane_of_valid hv); omega))
  rw [K_fn P06.f15 _ _ rfl]
  (simp only [go_sem, simprocAttr, candle_Surely, hF]; repeat' (first | ((first | (refine br_yes (by omega) ?_) | (refine br_no (by omega) ?_) | (apply br_all; (· simp only [Bool.and_eq_true, decide_eq_true_eq]; omega)) | (apply br_free; (· simp [go_sem, Pm.acc, Acc.free, refsOf, offOf, keyEq, tagEq, cellsEq, cellEq]; done)) | ((first | apply br_mergeT | apply br_mergeF); (· intro h; simp only [go_sem, simprocAttr, sel_of h, candle_Surely, hF]; exact rfl))); (try simp only [go_sem, simprocAttr, candle_Surely, hF])) | ((first | apply onGuard_sel | (apply pickV_split; apply br_split) | apply br_split) <;> intro h <;> (try simp only [go_sem, simprocAttr, h, candle_Surely, hF]))))
  rfl
end
end Go.Pm.Cd

namespace Go.Pm.Cd
open Ac
set_option maxRecDepth 100000
set_option linter.unusedSimpArgs false
set_option linter.unusedSectionVars false
set_option linter.unusedVariables false

def topK (k : SK) : SK := match k with | .nil => .nil | _ => .full
theorem sliced_top (es : Nat) (k : SK) (l : List (List C)) (n : Nat) (hn : l.length = n) : sliced es (.sc (.sl k es l)) none (some (.sc (.int .i64 n))) (some (.sc (.int .i64 n))) = some (.sl (topK k) es l) := by
  subst hn
  cases k <;> simp [sliced, bounds, boundM, boundH, boundL, bound, capOf, slKind, topK]
theorem appended_top (es : Nat) (k k' : SK) (l : List (List C)) (x : List C) (hr : l.length + 1 ≤ room) : appended es (.sc (.sl (topK k) es l)) (.sc (.sl k' es [x])) = some (.own es (l ++ [x])) := by
  cases k <;> simp [appended, elems, topK, hr]

def Book.add (b : Book) (x : Count) : Book := { b with kc := .shared, counts := b.counts ++ [x] }
def ownB (b : Book) (x : Count) : List C := [ci b.s0.lo, ci b.s0.hi, ci b.s1.lo, ci b.s1.hi, ci b.f0.lo, ci b.f0.hi, ci b.f1.lo, ci b.f1.hi, .sl b.kd 5 (b.days.map Day.c), .sl b.ko 3 (b.orders.map Order.c), .own 4 (b.counts.map Count.c ++ [x.c])]
@[go_sem] theorem ownB_set (b : Book) (x : Count) : b.c.set 10 (.own 4 (b.counts.map Count.c ++ [x.c])) = ownB b x := nrfl rfl
@[go_sem] theorem ownB_all (b : Book) (x : Count) : cellsAt (ownB b x) 0 11 = some (ownB b x) := nrfl rfl
@[go_sem] theorem ownB_un (b : Book) (x : Count) : (ownB b x).map unown = (b.add x).c := by
  simp [ownB, Book.add, Book.c, unown]
@[go_sem] theorem ownB_under (b : Book) (x : Count) (n : Nat) : C.underL n (ownB b x) = true := by simp [ownB, go_sem]

theorem sane_add {b : Book} (hv : b.valid = true) {x : Count} (hx : b.isCount x = true) : (b.add x).sane = true := by
  have e1 : (b.add x).orderOk = b.orderOk := rfl
  have e2 : (b.add x).isCount = b.isCount := rfl
  simp only [Book.valid, Book.sane, Bool.and_eq_true, decide_eq_true_eq, e1, e2] at hv ⊢
  refine ⟨⟨⟨⟨⟨⟨⟨⟨⟨hv.1.1.1.1.1.1.1.1.1, hv.1.1.1.1.1.1.1.1.2⟩, ?_⟩, hv.1.1.1.1.1.1.2⟩, hv.1.1.1.1.1.2⟩, hv.1.1.1.1.2⟩, hv.1.1.1.2⟩, hv.1.1.2⟩, hv.1.2⟩, ?_⟩
  · have := hv.1.1.1.1.1.1.1.2
    simp only [Book.add, List.length_append, List.length_cons, List.length_nil]; omega
  · simp only [Book.add, List.all_append, List.all_cons, List.all_nil, hv.2, hx]; rfl

section
variable {Γ : Env} [P06 Γ] [G06 Γ]

theorem fits_add {b : Book} (hv : b.valid = true) (x : Count) : (b.add x).Fits := by
  have := valid_days (sane_of_valid hv)
  exact ⟨by simp only [Book.add]; omega, by simp only [Book.add]; omega, by simp only [Book.add, List.length_append, List.length_cons, List.length_nil]; omega⟩

def Book.fits (b : Book) (x : Count) : Bool × Int := if b.askE (b.isCount x) = 0 then (decide ((b.add x).truths [] ≠ []), 0) else (false, b.askE (b.isCount x))

@[go_sem] theorem Fits_k (b : Book) [hb : b.Fits] (x : Count) : K Γ (.fn 19) [.agg b.c, .agg x.c] [] = some (.tup [vb (b.fits x).1, vi (b.fits x).2], []) := by
  rw [K_fn P06.f19 _ _ rfl]
  simp only [Book.fits, Book.askE]
  rcases Bool.eq_false_or_eq_true b.valid with hv | hv
  rotate_left
  · have hA (is : Bool) := asked_bad (Γ := Γ) b hv is
    simp only [Z13] at hA
    (simp only [go_sem, simprocAttr, candle_Fits, hA, hv, Bool.false_eq_true]; repeat' (first | ((first | (refine br_yes (by omega) ?_) | (refine br_no (by omega) ?_) | (apply br_all; (· simp only [Bool.and_eq_true, decide_eq_true_eq]; omega)) | (apply br_free; (· simp [go_sem, Pm.acc, Acc.free, refsOf, offOf, keyEq, tagEq, cellsEq, cellEq]; done)) | ((first | apply br_mergeT | apply br_mergeF); (· intro h; simp only [go_sem, simprocAttr, sel_of h, candle_Fits, hA, hv, Bool.false_eq_true]; exact rfl))); (try simp only [go_sem, simprocAttr, candle_Fits, hA, hv, Bool.false_eq_true])) | ((first | apply onGuard_sel | (apply pickV_split; apply br_split) | apply br_split) <;> intro h <;> (try simp only [go_sem, simprocAttr, h, candle_Fits, hA, hv, Bool.false_eq_true]))))
  · have hA := asked_ask (Γ := Γ) b hv
    simp only [Z13] at hA
    rcases Bool.eq_false_or_eq_true (b.isCount x) with hk | hk
    rotate_left
    · (simp only [go_sem, simprocAttr, candle_Fits, hA, hv, hk, Bool.false_and, Bool.false_eq_true]; repeat' (first | ((first | (refine br_yes (by omega) ?_) | (refine br_no (by omega) ?_) | (apply br_all; (· simp only [Bool.and_eq_true, decide_eq_true_eq]; omega)) | (apply br_free; (· simp [go_sem, Pm.acc, Acc.free, refsOf, offOf, keyEq, tagEq, cellsEq, cellEq]; done)) | ((first | apply br_mergeT | apply br_mergeF); (· intro h; simp only [go_sem, simprocAttr, sel_of h, candle_Fits, hA, hv, hk, Bool.false_and, Bool.false_eq_true]; exact rfl))); (try simp only [go_sem, simprocAttr, candle_Fits, hA, hv, hk, Bool.false_and, Bool.false_eq_true])) | ((first | apply onGuard_sel | (apply pickV_split; apply br_split) | apply br_split) <;> intro h <;> (try simp only [go_sem, simprocAttr, h, candle_Fits, hA, hv, hk, Bool.false_and, Bool.false_eq_true]))))
    · by_cases ht : b.truths [] = []
      · have hN := asked_no (Γ := Γ) b hv ht
        (simp only [go_sem, simprocAttr, candle_Fits, hN, hv, hk, ht]; repeat' (first | ((first | (refine br_yes (by omega) ?_) | (refine br_no (by omega) ?_) | (apply br_all; (· simp only [Bool.and_eq_true, decide_eq_true_eq]; omega)) | (apply br_free; (· simp [go_sem, Pm.acc, Acc.free, refsOf, offOf, keyEq, tagEq, cellsEq, cellEq]; done)) | ((first | apply br_mergeT | apply br_mergeF); (· intro h; simp only [go_sem, simprocAttr, sel_of h, candle_Fits, hN, hv, hk, ht]; exact rfl))); (try simp only [go_sem, simprocAttr, candle_Fits, hN, hv, hk, ht])) | ((first | apply onGuard_sel | (apply pickV_split; apply br_split) | apply br_split) <;> intro h <;> (try simp only [go_sem, simprocAttr, h, candle_Fits, hN, hv, hk, ht]))))
      · have hN := asked_ok (Γ := Γ) b hv ht
        have hs := sane_add hv hk
        haveI := fits_add hv x
        have hc := (valid_days (sane_of_valid hv)).2.2.2
        have hS := sliced_top 4 b.kc (b.counts.map Count.c) b.counts.length (by simp)
        have hP := appended_top 4 b.kc .full (b.counts.map Count.c) x.c (by simp only [List.length_map, room]; omega)
        have h0 : decide ((0 : Int) < (((b.add x).truths []).length : Int)) = decide ((b.add x).truths [] ≠ []) := by
          rw [decide_eq_decide]
          constructor
          · intro h e; rw [e] at h; simp at h
          · intro h
            have : ((b.add x).truths []).length ≠ 0 := fun e => h (List.length_eq_zero_iff.1 e)
            omega
        (simp only [go_sem, simprocAttr, candle_Fits, hN, hv, hk, ht, hs, hS, hP, h0]; repeat' (first | ((first | (refine br_yes (by omega) ?_) | (refine br_no (by omega) ?_) | (apply br_all; (· simp only [Bool.and_eq_true, decide_eq_true_eq]; omega)) | (apply br_free; (· simp [go_sem, Pm.acc, Acc.free, refsOf, offOf, keyEq, tagEq, cellsEq, cellEq]; done)) | ((first | apply br_mergeT | apply br_mergeF); (· intro h; simp only [go_sem, simprocAttr, sel_of h, candle_Fits, hN, hv, hk, ht, hs, hS, hP, h0]; exact rfl))); (try simp only [go_sem, simprocAttr, candle_Fits, hN, hv, hk, ht, hs, hS, hP, h0])) | ((first | apply onGuard_sel | (apply pickV_split; apply br_split) | apply br_split) <;> intro h <;> (try simp only [go_sem, simprocAttr, h, candle_Fits, hN, hv, hk, ht, hs, hS, hP, h0]))))
end
end Go.Pm.Cd

namespace Go.Pm.Cd
open Ac
set_option maxRecDepth 100000
set_option linter.unusedSimpArgs false
set_option linter.unusedSectionVars false
set_option linter.unusedVariables false

def fromOf (l : List Int) : Int := if l = [] then 0 else l.getD (l.length - 1) 0 + 1
def Book.choose (b : Book) : Nat → List Int → List Int × Bool
  | 0, l => (l, decide (b.truths l ≠ []))
  | r + 1, l => match findFrom (fun i _ => (b.choose r (l ++ [fromOf l + (i : Nat)])).2) 0 (List.range (b.counts.length - fromOf l).toNat) with
    | some (i, _) => ((b.choose r (l ++ [fromOf l + (i : Nat)])).1, true)
    | none => ([], false)
def iC (k : SK) (l : List Int) : C := .sl k 1 (l.map fun x => [ci x])
def chooseK (b : Book) (k : SK) : Nat → List Int → SK
  | 0, l => k
  | r + 1, l => if (b.choose (r + 1) l).2 then .shared else .nil

section
variable {Γ : Env} [P06 Γ] [G06 Γ]

theorem chooseK_shared (b : Book) (r : Nat) (l : List Int) (h : (b.choose r l).2 = true) : chooseK b .shared r l = .shared := by
  cases r with
  | zero => rfl
  | succ r => simp only [chooseK, h, if_true]

theorem choose_L0 (b : Book) [hb : b.Fits] (hv : b.sane = true) (q : Nat) (many r : Nat) (l : List Int) (k : SK) (H : List Obj) (n : Nat) (hl6 : l.length ≤ 6) (from' : Int) (hfr : 0 ≤ from' ∧ from' ≤ 7) (hn : H.length = n) (hq : q < n)
    (hhq : H[q]? = some (.var [.fn (.fn 62) [] [] [.eptr b.c 0, .ptr q 0]])) (hu : H.all (Obj.under n) = true)
    (hK : ∀ i : Nat, from' + i < b.counts.length → K Γ (.fn 62) [.sc (.sl .shared 1 ((l ++ [from' + (i : Nat)]).map fun x => [ci x])), vi many, .sc (.eptr b.c 0), .sc (.ptr q 0)] H =
      some (.tup [.sc (iC (chooseK b .shared r (l ++ [from' + (i : Nat)])) (b.choose r (l ++ [from' + (i : Nat)])).1), vb (b.choose r (l ++ [from' + (i : Nat)])).2], H)) {β : Type} (Q : Ex → St → Option β) :
    E Γ candle_Wrong_1_L0 ⟨[(0, .sc (.sl k 1 (l.map fun x => [ci x]))), (1, vi many), (2, .sc (.eptr b.c 0)), (3, .sc (.ptr q 0)), (8, vi l.length), (10, vi from')], H⟩ Q =
      match findFrom (fun i _ => (b.choose r (l ++ [from' + (i : Nat)])).2) 0 (List.range (b.counts.length - from').toNat) with
      | some (i, _) => Q .ret ⟨[(6, .sc (iC .shared (b.choose r (l ++ [from' + (i : Nat)])).1)), (7, vb true)], H⟩
      | none => Q (.exit 0) ⟨[(0, .sc (.sl k 1 (l.map fun x => [ci x]))), (1, vi many), (2, .sc (.eptr b.c 0)), (3, .sc (.ptr q 0)), (8, vi l.length), (10, vi (from' + (b.counts.length - from').toNat)), (38, vb false)], H⟩ := by
  have hvd := valid_days hv
  have hS := sliced_top 1 k (l.map fun x => [ci x]) l.length (by simp)
  have hts : H.take n = H := by rw [← hn]; exact List.take_length
  refine Eq.trans (congrArg (fun s => E Γ candle_Wrong_1_L0 s Q) (?_ : _ = (⟨[(0, .sc (.sl k 1 (l.map fun x => [ci x]))), (1, vi many), (2, .sc (.eptr b.c 0)), (3, .sc (.ptr q 0)), (8, vi l.length), (10, vi (from' + (0 : Nat)))], H⟩ : St))) ?_
  · simp
  refine (E_find (fun i => ⟨[(0, .sc (.sl k 1 (l.map fun x => [ci x]))), (1, vi many), (2, .sc (.eptr b.c 0)), (3, .sc (.ptr q 0)), (8, vi l.length), (10, vi (from' + (i : Nat)))], H⟩) (List.range (b.counts.length - from').toNat) (fun i _ => (b.choose r (l ++ [from' + (i : Nat)])).2)
    (fun i x => (.ret, ⟨[(6, .sc (iC .shared (b.choose r (l ++ [from' + (i : Nat)])).1)), (7, vb true)], H⟩))
    (.exit 0, ⟨[(0, .sc (.sl k 1 (l.map fun x => [ci x]))), (1, vi many), (2, .sc (.eptr b.c 0)), (3, .sc (.ptr q 0)), (8, vi l.length), (10, vi (from' + (b.counts.length - from').toNat)), (38, vb false)], H⟩) Q ?_ ?_ ?_).trans ?_
  · intro i x hx hqi
    have hlt : i < (b.counts.length - from').toNat := by
      have := (List.getElem?_eq_some_iff.1 hx).1; simpa using this
    have hlt2 : from' + (i : Int) < b.counts.length := by omega
    have hP := appended_top 1 k .full (l.map fun x => [ci x]) [ci (from' + (i : Nat))] (by simp only [List.length_map, room]; omega)
    have hiw : IntKind.i64.wrap (from' + (i : Int) + 1) = from' + (i + 1 : Nat) := by rw [wrap_i64 (by omega) (by omega)]; omega
    have hKi := hK i hlt2
    simp only [List.map_append, List.map_cons, List.map_nil] at hKi
    (simp only [go_sem, simprocAttr, candle_Wrong_1_B0, hn, heapB, hhq, hu, hS, hP, hKi, hqi, hiw, hq, hts, iC]; repeat' (first | ((first | (refine br_yes (by omega) ?_) | (refine br_no (by omega) ?_) | (apply br_all; (· simp only [Bool.and_eq_true, decide_eq_true_eq]; omega)) | (apply br_free; (· simp [go_sem, Pm.acc, Acc.free, refsOf, offOf, keyEq, tagEq, cellsEq, cellEq]; done)) | ((first | apply br_mergeT | apply br_mergeF); (· intro h; simp only [go_sem, simprocAttr, sel_of h, candle_Wrong_1_B0, hn, heapB, hhq, hu, hS, hP, hKi, hqi, hiw, hq, hts, iC]; exact rfl))); (try simp only [go_sem, simprocAttr, candle_Wrong_1_B0, hn, heapB, hhq, hu, hS, hP, hKi, hqi, hiw, hq, hts, iC])) | ((first | apply onGuard_sel | (apply pickV_split; apply br_split) | apply br_split) <;> intro h <;> (try simp only [go_sem, simprocAttr, h, candle_Wrong_1_B0, hn, heapB, hhq, hu, hS, hP, hKi, hqi, hiw, hq, hts, iC]))))
  · intro i x hx hqi
    have hlt : i < (b.counts.length - from').toNat := by
      have := (List.getElem?_eq_some_iff.1 hx).1; simpa using this
    have hlt2 : from' + (i : Int) < b.counts.length := by omega
    have hP := appended_top 1 k .full (l.map fun x => [ci x]) [ci (from' + (i : Nat))] (by simp only [List.length_map, room]; omega)
    have hKi := hK i hlt2
    have hsh := chooseK_shared b r _ hqi
    rw [hsh] at hKi
    simp only [List.map_append, List.map_cons, List.map_nil] at hKi
    (simp only [go_sem, simprocAttr, candle_Wrong_1_B0, hn, heapB, hhq, hu, hS, hP, hKi, hqi, hq, hts, iC]; repeat' (first | ((first | (refine br_yes (by omega) ?_) | (refine br_no (by omega) ?_) | (apply br_all; (· simp only [Bool.and_eq_true, decide_eq_true_eq]; omega)) | (apply br_free; (· simp [go_sem, Pm.acc, Acc.free, refsOf, offOf, keyEq, tagEq, cellsEq, cellEq]; done)) | ((first | apply br_mergeT | apply br_mergeF); (· intro h; simp only [go_sem, simprocAttr, sel_of h, candle_Wrong_1_B0, hn, heapB, hhq, hu, hS, hP, hKi, hqi, hq, hts, iC]; exact rfl))); (try simp only [go_sem, simprocAttr, candle_Wrong_1_B0, hn, heapB, hhq, hu, hS, hP, hKi, hqi, hq, hts, iC])) | ((first | apply onGuard_sel | (apply pickV_split; apply br_split) | apply br_split) <;> intro h <;> (try simp only [go_sem, simprocAttr, h, candle_Wrong_1_B0, hn, heapB, hhq, hu, hS, hP, hKi, hqi, hq, hts, iC]))))
  · have hnlt : ¬ (from' + ((b.counts.length - from').toNat : Int) < b.counts.length) := by omega
    have hdd := decide_eq_false hnlt
    simp only [List.length_range]
    (simp only [go_sem, simprocAttr, candle_Wrong_1_B0, hdd]; repeat' (first | ((first | (refine br_yes (by omega) ?_) | (refine br_no (by omega) ?_) | (apply br_all; (· simp only [Bool.and_eq_true, decide_eq_true_eq]; omega)) | (apply br_free; (· simp [go_sem, Pm.acc, Acc.free, refsOf, offOf, keyEq, tagEq, cellsEq, cellEq]; done)) | ((first | apply br_mergeT | apply br_mergeF); (· intro h; simp only [go_sem, simprocAttr, sel_of h, candle_Wrong_1_B0, hdd]; exact rfl))); (try simp only [go_sem, simprocAttr, candle_Wrong_1_B0, hdd])) | ((first | apply onGuard_sel | (apply pickV_split; apply br_split) | apply br_split) <;> intro h <;> (try simp only [go_sem, simprocAttr, h, candle_Wrong_1_B0, hdd]))))
  · cases findFrom (fun i _ => (b.choose r (l ++ [from' + (i : Nat)])).2) 0 (List.range (b.counts.length - from').toNat) <;> rfl

theorem choose_k (b : Book) [hb : b.Fits] (hv : b.sane = true) (q : Nat) (many : Nat) (hm : many ≤ 6) : ∀ (r : Nat) (l : List Int) (k : SK) (H : List Obj) (n : Nat), l.length + r = many → (∀ x, x ∈ l → 0 ≤ x ∧ x ≤ 6) → H.length = n → q < n →
    H[q]? = some (.var [.fn (.fn 62) [] [] [.eptr b.c 0, .ptr q 0]]) → H.all (Obj.under n) = true →
    K Γ (.fn 62) [.sc (iC k l), vi many, .sc (.eptr b.c 0), .sc (.ptr q 0)] H = some (.tup [.sc (iC (chooseK b k r l) (b.choose r l).1), vb (b.choose r l).2], H) := by
  intro r
  induction r with
  | zero =>
    intro l k H n hlr hl hn hq hhq hu
    have hll : (l.length : Int) = many := by omega
    have h0 : decide ((0 : Int) < ((b.truths l).length : Int)) = decide (b.truths l ≠ []) := by
      rw [decide_eq_decide]
      constructor
      · intro h e; rw [e] at h; simp at h
      · intro h
        have : (b.truths l).length ≠ 0 := fun e => h (List.length_eq_zero_iff.1 e)
        omega
    have hO := opened_but (Γ := Γ) b hv k l (by omega)
    simp only [iC]
    rw [K_fn P06.f62 _ _ rfl]
    (simp only [go_sem, simprocAttr, candle_Wrong_1, hn, heapB, hhq, hu, hO, h0, hll, Book.choose, chooseK, (by rw [← hn]; exact List.take_length : H.take n = H)]; repeat' (first | ((first | (refine br_yes (by omega) ?_) | (refine br_no (by omega) ?_) | (apply br_all; (· simp only [Bool.and_eq_true, decide_eq_true_eq]; omega)) | (apply br_free; (· simp [go_sem, Pm.acc, Acc.free, refsOf, offOf, keyEq, tagEq, cellsEq, cellEq]; done)) | ((first | apply br_mergeT | apply br_mergeF); (· intro h; simp only [go_sem, simprocAttr, sel_of h, candle_Wrong_1, hn, heapB, hhq, hu, hO, h0, hll, Book.choose, chooseK, (by rw [← hn]; exact List.take_length : H.take n = H)]; exact rfl))); (try simp only [go_sem, simprocAttr, candle_Wrong_1, hn, heapB, hhq, hu, hO, h0, hll, Book.choose, chooseK, (by rw [← hn]; exact List.take_length : H.take n = H)])) | ((first | apply onGuard_sel | (apply pickV_split; apply br_split) | apply br_split) <;> intro h <;> (try simp only [go_sem, simprocAttr, h, candle_Wrong_1, hn, heapB, hhq, hu, hO, h0, hll, Book.choose, chooseK, (by rw [← hn]; exact List.take_length : H.take n = H)]))))
  | succ r ih =>
    intro l k H n hlr hl hn hq hhq hu
    have hll : ¬ (l.length : Int) = many := by omega
    have hvd := valid_days hv
    have hts : H.take n = H := by rw [← hn]; exact List.take_length
    have hne : decide ((l.length : Int) = many) = false := decide_eq_false hll
    have hfr : 0 ≤ fromOf l ∧ fromOf l ≤ 7 := by
      by_cases he : l = []
      · simp [fromOf, he]
      · have hlp : l.length - 1 < l.length := by
          have : l.length ≠ 0 := fun e => he (List.length_eq_zero_iff.1 e)
          omega
        have hm' := hl (l.getD (l.length - 1) 0) (by simp only [List.getD, List.getElem?_eq_getElem hlp, Option.getD_some]; exact List.getElem_mem hlp)
        simp only [fromOf, if_neg he]; omega
    have hL {β : Type} (Q : Ex → St → Option β) := choose_L0 (Γ := Γ) b hv q many r l k H n (by omega) (fromOf l) hfr hn hq hhq hu (fun i hi => by
      have := ih (l ++ [fromOf l + (i : Nat)]) .shared H n (by simp; omega) (fun x hx => by
        rcases List.mem_append.1 hx with hx | hx
        · exact hl x hx
        · rw [List.mem_singleton] at hx; subst hx; omega) hn hq hhq hu
      exact this) Q
    have main : (match findFrom (fun i _ => (b.choose r (l ++ [fromOf l + (i : Nat)])).2) 0 (List.range (b.counts.length - fromOf l).toNat) with
        | some (i, _) => some (V.tup [.sc (iC .shared (b.choose r (l ++ [fromOf l + (i : Nat)])).1), vb true], H)
        | none => some (V.tup [.sc (.sl .nil 1 []), vb false], H)) = some (V.tup [.sc (iC (chooseK b k (r + 1) l) (b.choose (r + 1) l).1), vb (b.choose (r + 1) l).2], H) := by
      simp only [chooseK, Book.choose]
      obtain ⟨o, ho⟩ : ∃ o, findFrom (fun i _ => (b.choose r (l ++ [fromOf l + (i : Nat)])).2) 0 (List.range (b.counts.length - fromOf l).toNat) = o := ⟨_, rfl⟩
      simp only [ho]
      cases o <;> rfl
    rw [← main]
    clear main
    simp only [iC]
    rw [K_fn P06.f62 _ _ rfl]
    by_cases he : l = []
    · have hf0 : fromOf l = 0 := by simp [fromOf, he]
      have hl0 : decide ((0 : Int) < (l.length : Int)) = false := decide_eq_false (by rw [he]; simp)
      simp only [hf0] at hL ⊢
      cases hff : findFrom (fun i _ => (b.choose r (l ++ [0 + ((i : Nat) : Int)])).2) 0 (List.range ((b.counts.length : Int) - 0).toNat) with
      | none =>
        simp only [hff] at hL
        (simp only [go_sem, simprocAttr, candle_Wrong_1, hn, heapB, hhq, hu, hne, hl0, hL, hts]; repeat' (first | ((first | (refine br_yes (by omega) ?_) | (refine br_no (by omega) ?_) | (apply br_all; (· simp only [Bool.and_eq_true, decide_eq_true_eq]; omega)) | (apply br_free; (· simp [go_sem, Pm.acc, Acc.free, refsOf, offOf, keyEq, tagEq, cellsEq, cellEq]; done)) | ((first | apply br_mergeT | apply br_mergeF); (· intro h; simp only [go_sem, simprocAttr, sel_of h, candle_Wrong_1, hn, heapB, hhq, hu, hne, hl0, hL, hts]; exact rfl))); (try simp only [go_sem, simprocAttr, candle_Wrong_1, hn, heapB, hhq, hu, hne, hl0, hL, hts])) | ((first | apply onGuard_sel | (apply pickV_split; apply br_split) | apply br_split) <;> intro h <;> (try simp only [go_sem, simprocAttr, h, candle_Wrong_1, hn, heapB, hhq, hu, hne, hl0, hL, hts]))))
      | some p =>
        simp only [hff] at hL
        (simp only [go_sem, simprocAttr, candle_Wrong_1, hn, heapB, hhq, hu, hne, hl0, hL, hts, iC]; repeat' (first | ((first | (refine br_yes (by omega) ?_) | (refine br_no (by omega) ?_) | (apply br_all; (· simp only [Bool.and_eq_true, decide_eq_true_eq]; omega)) | (apply br_free; (· simp [go_sem, Pm.acc, Acc.free, refsOf, offOf, keyEq, tagEq, cellsEq, cellEq]; done)) | ((first | apply br_mergeT | apply br_mergeF); (· intro h; simp only [go_sem, simprocAttr, sel_of h, candle_Wrong_1, hn, heapB, hhq, hu, hne, hl0, hL, hts, iC]; exact rfl))); (try simp only [go_sem, simprocAttr, candle_Wrong_1, hn, heapB, hhq, hu, hne, hl0, hL, hts, iC])) | ((first | apply onGuard_sel | (apply pickV_split; apply br_split) | apply br_split) <;> intro h <;> (try simp only [go_sem, simprocAttr, h, candle_Wrong_1, hn, heapB, hhq, hu, hne, hl0, hL, hts, iC]))))
    · have hlp : l.length - 1 < l.length := by
        have : l.length ≠ 0 := fun e => he (List.length_eq_zero_iff.1 e)
        omega
      have hl0 : decide ((0 : Int) < (l.length : Int)) = true := decide_eq_true (by omega)
      have hlw : IntKind.i64.wrap ((l.length : Int) - 1) = l.length - 1 := wrap_i64 (by omega) (by omega)
      have hlt : ((l.length : Int) - 1).toNat = l.length - 1 := by omega
      have hget : l[l.length - 1]? = some (l.getD (l.length - 1) 0) := by simp only [List.getD, List.getElem?_eq_getElem hlp, Option.getD_some]
      have hfw : IntKind.i64.wrap (l.getD (l.length - 1) 0 + 1) = fromOf l := by
        have e : fromOf l = l.getD (l.length - 1) 0 + 1 := by simp only [fromOf, if_neg he]
        rw [e] at hfr ⊢
        exact wrap_i64 (by omega) (by omega)
      cases hff : findFrom (fun i _ => (b.choose r (l ++ [fromOf l + ((i : Nat) : Int)])).2) 0 (List.range ((b.counts.length : Int) - fromOf l).toNat) with
      | none =>
        simp only [hff] at hL
        (simp only [go_sem, simprocAttr, candle_Wrong_1, hn, heapB, hhq, hu, hne, hl0, hlw, hlt, hget, hfw, hL, hts]; repeat' (first | ((first | (refine br_yes (by omega) ?_) | (refine br_no (by omega) ?_) | (apply br_all; (· simp only [Bool.and_eq_true, decide_eq_true_eq]; omega)) | (apply br_free; (· simp [go_sem, Pm.acc, Acc.free, refsOf, offOf, keyEq, tagEq, cellsEq, cellEq]; done)) | ((first | apply br_mergeT | apply br_mergeF); (· intro h; simp only [go_sem, simprocAttr, sel_of h, candle_Wrong_1, hn, heapB, hhq, hu, hne, hl0, hlw, hlt, hget, hfw, hL, hts]; exact rfl))); (try simp only [go_sem, simprocAttr, candle_Wrong_1, hn, heapB, hhq, hu, hne, hl0, hlw, hlt, hget, hfw, hL, hts])) | ((first | apply onGuard_sel | (apply pickV_split; apply br_split) | apply br_split) <;> intro h <;> (try simp only [go_sem, simprocAttr, h, candle_Wrong_1, hn, heapB, hhq, hu, hne, hl0, hlw, hlt, hget, hfw, hL, hts]))))
      | some p =>
        simp only [hff] at hL
        (simp only [go_sem, simprocAttr, candle_Wrong_1, hn, heapB, hhq, hu, hne, hl0, hlw, hlt, hget, hfw, hL, hts, iC]; repeat' (first | ((first | (refine br_yes (by omega) ?_) | (refine br_no (by omega) ?_) | (apply br_all; (· simp only [Bool.and_eq_true, decide_eq_true_eq]; omega)) | (apply br_free; (· simp [go_sem, Pm.acc, Acc.free, refsOf, offOf, keyEq, tagEq, cellsEq, cellEq]; done)) | ((first | apply br_mergeT | apply br_mergeF); (· intro h; simp only [go_sem, simprocAttr, sel_of h, candle_Wrong_1, hn, heapB, hhq, hu, hne, hl0, hlw, hlt, hget, hfw, hL, hts, iC]; exact rfl))); (try simp only [go_sem, simprocAttr, candle_Wrong_1, hn, heapB, hhq, hu, hne, hl0, hlw, hlt, hget, hfw, hL, hts, iC])) | ((first | apply onGuard_sel | (apply pickV_split; apply br_split) | apply br_split) <;> intro h <;> (try simp only [go_sem, simprocAttr, h, candle_Wrong_1, hn, heapB, hhq, hu, hne, hl0, hlw, hlt, hget, hfw, hL, hts, iC]))))

def Book.wrong (b : Book) : List Int × Int := if b.valid then (match findFrom (fun m _ => (b.choose m []).2) 0 (List.range (b.counts.length + 1)) with | some (m, _) => (b.choose m []).1 | none => [], 0) else ([], 60)
def wrongK (b : Book) : SK := if b.valid then (match findFrom (fun m _ => (b.choose m []).2) 0 (List.range (b.counts.length + 1)) with | some (m, _) => topK (chooseK b .nil m []) | none => .nil) else .nil

theorem wrong_L0 (b : Book) [hb : b.Fits] (hv : b.sane = true) (hvc : b.counts.length ≤ 5) {β : Type} (Q : Ex → St → Option β) :
    E Γ candle_Wrong_L0 ⟨[(5, .sc (.ptr 1 0)), (18, vi (b.counts.length + 1)), (19, vi 0)], [.dead, .var [.fn (.fn 62) [] [] [.eptr b.c 0, .ptr 1 0]]]⟩ Q =
      match findFrom (fun m _ => (b.choose m []).2) 0 (List.range (b.counts.length + 1)) with
      | some (m, _) => Q .ret ⟨[(2, .sc (.sl (topK (chooseK b .nil m [])) 1 ((b.choose m []).1.map fun x => [ci x]))), (3, vi 0)], [.dead, .var [.fn (.fn 62) [] [] [.eptr b.c 0, .ptr 1 0]]]⟩
      | none => Q (.exit 0) ⟨[(5, .sc (.ptr 1 0)), (18, vi (b.counts.length + 1)), (19, vi (b.counts.length + 1)), (20, vb false)], [.dead, .var [.fn (.fn 62) [] [] [.eptr b.c 0, .ptr 1 0]]]⟩ := by
  have hK (i : Nat) (hi : i ≤ 6) := choose_k (Γ := Γ) b hv 1 i hi i [] .nil [.dead, .var [.fn (.fn 62) [] [] [.eptr b.c 0, .ptr 1 0]]] 2 (by simp) (by simp) rfl (by decide) rfl (by simp [go_sem])
  simp only [iC, List.map_nil] at hK
  refine (E_find (fun i => ⟨[(5, .sc (.ptr 1 0)), (18, vi (b.counts.length + 1)), (19, vi i)], [.dead, .var [.fn (.fn 62) [] [] [.eptr b.c 0, .ptr 1 0]]]⟩) (List.range (b.counts.length + 1)) (fun m _ => (b.choose m []).2)
    (fun m x => (.ret, ⟨[(2, .sc (.sl (topK (chooseK b .nil m [])) 1 ((b.choose m []).1.map fun x => [ci x]))), (3, vi 0)], [.dead, .var [.fn (.fn 62) [] [] [.eptr b.c 0, .ptr 1 0]]]⟩))
    (.exit 0, ⟨[(5, .sc (.ptr 1 0)), (18, vi (b.counts.length + 1)), (19, vi (b.counts.length + 1)), (20, vb false)], [.dead, .var [.fn (.fn 62) [] [] [.eptr b.c 0, .ptr 1 0]]]⟩) Q ?_ ?_ ?_).trans ?_
  · intro i x hx hqi
    have hlt : i < b.counts.length + 1 := by have := (List.getElem?_eq_some_iff.1 hx).1; simpa using this
    have hiw : IntKind.i64.wrap ((i : Int) + 1) = i + 1 := wrap_i64 (by omega) (by omega)
    have hKi := hK i (by omega)
    rw [hqi] at hKi
    (simp only [go_sem, simprocAttr, candle_Wrong_B0, hKi, hiw]; repeat' (first | ((first | (refine br_yes (by omega) ?_) | (refine br_no (by omega) ?_) | (apply br_all; (· simp only [Bool.and_eq_true, decide_eq_true_eq]; omega)) | (apply br_free; (· simp [go_sem, Pm.acc, Acc.free, refsOf, offOf, keyEq, tagEq, cellsEq, cellEq]; done)) | ((first | apply br_mergeT | apply br_mergeF); (· intro h; simp only [go_sem, simprocAttr, sel_of h, candle_Wrong_B0, hKi, hiw]; exact rfl))); (try simp only [go_sem, simprocAttr, candle_Wrong_B0, hKi, hiw])) | ((first | apply onGuard_sel | (apply pickV_split; apply br_split) | apply br_split) <;> intro h <;> (try simp only [go_sem, simprocAttr, h, candle_Wrong_B0, hKi, hiw]))))
    rfl
  · intro i x hx hqi
    have hlt : i < b.counts.length + 1 := by have := (List.getElem?_eq_some_iff.1 hx).1; simpa using this
    have hKi := hK i (by omega)
    rw [hqi] at hKi
    have hS := sliced_top 1 (chooseK b .nil i []) ((b.choose i []).1.map fun x => [ci x]) (b.choose i []).1.length (by simp)
    (simp only [go_sem, simprocAttr, candle_Wrong_B0, hKi, hS]; repeat' (first | ((first | (refine br_yes (by omega) ?_) | (refine br_no (by omega) ?_) | (apply br_all; (· simp only [Bool.and_eq_true, decide_eq_true_eq]; omega)) | (apply br_free; (· simp [go_sem, Pm.acc, Acc.free, refsOf, offOf, keyEq, tagEq, cellsEq, cellEq]; done)) | ((first | apply br_mergeT | apply br_mergeF); (· intro h; simp only [go_sem, simprocAttr, sel_of h, candle_Wrong_B0, hKi, hS]; exact rfl))); (try simp only [go_sem, simprocAttr, candle_Wrong_B0, hKi, hS])) | ((first | apply onGuard_sel | (apply pickV_split; apply br_split) | apply br_split) <;> intro h <;> (try simp only [go_sem, simprocAttr, h, candle_Wrong_B0, hKi, hS]))))
  · simp only [List.length_range]
    have hdd : decide (((b.counts.length + 1 : Nat) : Int) < b.counts.length + 1) = false := decide_eq_false (by omega)
    (simp only [go_sem, simprocAttr, candle_Wrong_B0, hdd]; repeat' (first | ((first | (refine br_yes (by omega) ?_) | (refine br_no (by omega) ?_) | (apply br_all; (· simp only [Bool.and_eq_true, decide_eq_true_eq]; omega)) | (apply br_free; (· simp [go_sem, Pm.acc, Acc.free, refsOf, offOf, keyEq, tagEq, cellsEq, cellEq]; done)) | ((first | apply br_mergeT | apply br_mergeF); (· intro h; simp only [go_sem, simprocAttr, sel_of h, candle_Wrong_B0, hdd]; exact rfl))); (try simp only [go_sem, simprocAttr, candle_Wrong_B0, hdd])) | ((first | apply onGuard_sel | (apply pickV_split; apply br_split) | apply br_split) <;> intro h <;> (try simp only [go_sem, simprocAttr, h, candle_Wrong_B0, hdd]))))
    rfl
  · obtain ⟨o, ho⟩ : ∃ o, findFrom (fun m _ => (b.choose m []).2) 0 (List.range (b.counts.length + 1)) = o := ⟨_, rfl⟩
    simp only [ho]
    cases o <;> rfl

@[go_sem] theorem Wrong_k (b : Book) [hb : b.Fits] : K Γ (.fn 21) [.agg b.c] [] = some (.tup [.sc (iC (wrongK b) b.wrong.1), vi b.wrong.2], []) := by
  rw [K_fn P06.f21 _ _ rfl]
  rcases Bool.eq_false_or_eq_true b.valid with hv | hv
  rotate_left
  · simp only [Book.wrong, wrongK, hv, Bool.false_eq_true, if_false, iC]
    (simp only [go_sem, simprocAttr, candle_Wrong, hv, Bool.false_eq_true]; repeat' (first | ((first | (refine br_yes (by omega) ?_) | (refine br_no (by omega) ?_) | (apply br_all; (· simp only [Bool.and_eq_true, decide_eq_true_eq]; omega)) | (apply br_free; (· simp [go_sem, Pm.acc, Acc.free, refsOf, offOf, keyEq, tagEq, cellsEq, cellEq]; done)) | ((first | apply br_mergeT | apply br_mergeF); (· intro h; simp only [go_sem, simprocAttr, sel_of h, candle_Wrong, hv, Bool.false_eq_true]; exact rfl))); (try simp only [go_sem, simprocAttr, candle_Wrong, hv, Bool.false_eq_true])) | ((first | apply onGuard_sel | (apply pickV_split; apply br_split) | apply br_split) <;> intro h <;> (try simp only [go_sem, simprocAttr, h, candle_Wrong, hv, Bool.false_eq_true]))))
  · simp only [Book.wrong, wrongK, hv, if_true, iC]
    have hvd := valid_days (sane_of_valid hv)
    have hvc : b.counts.length ≤ 5 := by
      simp only [Book.valid, Bool.and_eq_true, decide_eq_true_eq] at hv
      have := hv.1.1.1.1.1.1.1.2; omega
    have hcw : IntKind.i64.wrap ((b.counts.length : Int) + 1) = b.counts.length + 1 := wrap_i64 (by omega) (by omega)
    have hL {β : Type} (Q : Ex → St → Option β) := wrong_L0 (Γ := Γ) b (sane_of_valid hv) hvc Q
    obtain ⟨o, ho⟩ : ∃ o, findFrom (fun m _ => (b.choose m []).2) 0 (List.range (b.counts.length + 1)) = o := ⟨_, rfl⟩
    simp only [ho] at hL ⊢
    cases o with
    | none => (simp only [go_sem, simprocAttr, candle_Wrong, hv, hcw, hL, List.map_nil]; repeat' (first | ((first | (refine br_yes (by omega) ?_) | (refine br_no (by omega) ?_) | (apply br_all; (· simp only [Bool.and_eq_true, decide_eq_true_eq]; omega)) | (apply br_free; (· simp [go_sem, Pm.acc, Acc.free, refsOf, offOf, keyEq, tagEq, cellsEq, cellEq]; done)) | ((first | apply br_mergeT | apply br_mergeF); (· intro h; simp only [go_sem, simprocAttr, sel_of h, candle_Wrong, hv, hcw, hL, List.map_nil]; exact rfl))); (try simp only [go_sem, simprocAttr, candle_Wrong, hv, hcw, hL, List.map_nil])) | ((first | apply onGuard_sel | (apply pickV_split; apply br_split) | apply br_split) <;> intro h <;> (try simp only [go_sem, simprocAttr, h, candle_Wrong, hv, hcw, hL, List.map_nil]))))
    | some p => (simp only [go_sem, simprocAttr, candle_Wrong, hv, hcw, hL]; repeat' (first | ((first | (refine br_yes (by omega) ?_) | (refine br_no (by omega) ?_) | (apply br_all; (· simp only [Bool.and_eq_true, decide_eq_true_eq]; omega)) | (apply br_free; (· simp [go_sem, Pm.acc, Acc.free, refsOf, offOf, keyEq, tagEq, cellsEq, cellEq]; done)) | ((first | apply br_mergeT | apply br_mergeF); (· intro h; simp only [go_sem, simprocAttr, sel_of h, candle_Wrong, hv, hcw, hL]; exact rfl))); (try simp only [go_sem, simprocAttr, candle_Wrong, hv, hcw, hL])) | ((first | apply onGuard_sel | (apply pickV_split; apply br_split) | apply br_split) <;> intro h <;> (try simp only [go_sem, simprocAttr, h, candle_Wrong, hv, hcw, hL]))))
end
end Go.Pm.Cd

namespace Go.Pm.Cd
open Ac
set_option maxRecDepth 100000
set_option linter.unusedSimpArgs false
set_option linter.unusedSectionVars false
set_option linter.unusedVariables false

def Book.run (b : Book) (n0 f0 n1 f1 : Int) (dk : Nat → Int) : Nat → Int × Int
  | 0 => (n0, n1)
  | d + 1 => match b.days[d]? with
    | none => b.run n0 f0 n1 f1 dk d
    | some x => (after1 (b.run n0 f0 n1 f1 dk d).1 (got2 b.comes 0 d) f0 x.l0 (min x.hours (dk d)), after1 (b.run n0 f0 n1 f1 dk d).2 (got2 b.comes 1 d) f1 x.l1 (min x.hours (dk d)))

theorem run_agree (b : Book) (n0 f0 n1 f1 : Int) (dk dk' : Nat → Int) : ∀ (d : Nat), (∀ e, e < d → dk e = dk' e) → b.run n0 f0 n1 f1 dk d = b.run n0 f0 n1 f1 dk' d
  | 0, _ => rfl
  | d + 1, h => by
    have ih := run_agree b n0 f0 n1 f1 dk dk' d (fun e he => h e (by omega))
    simp only [Book.run, ih, h d (by omega)]

structure Good (b : Book) (but : List Int) (n0 f0 n1 f1 : Int) (dk : Nat → Int) (D : Nat) (t : List Int) : Prop where
  len : t.length = 17
  l0 : t.getD 5 0 = f0
  l1 : t.getD 6 0 = f1
  dark : ∀ d x, d < D → b.days[d]? = some x → x.dark.has (dk d)
  dks : ∀ d, d < D → t.getD d 0 = dk d
  a0 : ∀ d, d < D → t.getD (7 + d * 2) 0 = (b.run n0 f0 n1 f1 dk (d + 1)).1
  a1 : ∀ d, d < D → t.getD (7 + (d * 2 + 1)) 0 = (b.run n0 f0 n1 f1 dk (d + 1)).2
  right : ∀ d, d < D → b.rightOn but d (b.run n0 f0 n1 f1 dk (d + 1)).1 (b.run n0 f0 n1 f1 dk (d + 1)).2 = true

theorem getD_set (t : List Int) (i j : Nat) (v : Int) (hi : i < t.length) : (t.set i v).getD j 0 = if i = j then v else t.getD j 0 := by
  simp only [List.getD, List.getElem?_set]
  by_cases h : i = j
  · subst h; simp [hi]
  · simp [h]
theorem getD_next (t : List Int) (day j : Nat) (dk a0 a1 : Int) (ht : t.length = 17) (hd : day < 5) : (next t day dk a0 a1).getD j 0 = if 7 + (day * 2 + 1) = j then a1 else if 7 + day * 2 = j then a0 else if day = j then dk else t.getD j 0 := by
  unfold next
  rw [getD_set _ _ _ _ (by simp; omega), getD_set _ _ _ _ (by simp; omega), getD_set _ _ _ _ (by omega)]

theorem live_good {b : Book} (hv : b.sane = true) (but : List Int) (n0 f0 n1 f1 : Int) : ∀ (j day : Nat) (dk : Nat → Int) (t u : List Int), day + j = b.days.length → Good b but n0 f0 n1 f1 dk day t →
    u ∈ b.live b.comes but j t (b.run n0 f0 n1 f1 dk day).1 (b.run n0 f0 n1 f1 dk day).2 day → ∃ dk', (∀ e, e < day → dk' e = dk e) ∧ Good b but n0 f0 n1 f1 dk' b.days.length u
  | 0, day, dk, t, u, hd, hG, hu => by
    simp only [Book.live, List.mem_singleton] at hu
    subst hu
    obtain rfl : day = b.days.length := by omega
    exact ⟨dk, fun _ _ => rfl, hG⟩
  | j + 1, day, dk, t, u, hd, hG, hu => by
    have hvd := valid_days hv
    obtain ⟨x, hx⟩ : ∃ x, b.days[day]? = some x := ⟨_, List.getElem?_eq_getElem (by omega)⟩
    simp only [Book.live, hx, List.mem_flatMap, List.mem_range] at hu
    obtain ⟨i, hi, hu⟩ := hu
    have hxd := (valid_day hv hx).2.1
    let dk1 : Nat → Int := fun e => if e = day then x.dark.lo + i else dk e
    have hag : ∀ e, e < day → dk1 e = dk e := fun e he => by simp only [dk1]; rw [if_neg (by omega)]
    have hday : dk1 day = x.dark.lo + i := by simp [dk1]
    have hrun : b.run n0 f0 n1 f1 dk1 day = b.run n0 f0 n1 f1 dk day := run_agree b n0 f0 n1 f1 dk1 dk day hag
    have hrun1 : b.run n0 f0 n1 f1 dk1 (day + 1) = (after1 (b.run n0 f0 n1 f1 dk day).1 (got2 b.comes 0 day) f0 x.l0 (min x.hours (x.dark.lo + i)), after1 (b.run n0 f0 n1 f1 dk day).2 (got2 b.comes 1 day) f1 x.l1 (min x.hours (x.dark.lo + i))) := by
      simp only [Book.run, hx, hrun, hday]
    split at hu
    · rename_i hro
      rw [hG.l0, hG.l1] at hu hro
      have hG1 : Good b but n0 f0 n1 f1 dk1 (day + 1) (next t day (x.dark.lo + i) (b.run n0 f0 n1 f1 dk1 (day + 1)).1 (b.run n0 f0 n1 f1 dk1 (day + 1)).2) := by
        have hrunE (d : Nat) (h : d < day) : b.run n0 f0 n1 f1 dk1 (d + 1) = b.run n0 f0 n1 f1 dk (d + 1) := run_agree b n0 f0 n1 f1 dk1 dk (d + 1) (fun e he => hag e (by omega))
        refine ⟨by rw [next_len, hG.len], ?_, ?_, ?_, ?_, ?_, ?_, ?_⟩
        · rw [next_get5 _ _ _ _ _ (by omega), hG.l0]
        · rw [next_get6 _ _ _ _ _ (by omega), hG.l1]
        · intro d y hdd hy
          by_cases e : d = day
          · subst e; rw [hx] at hy; cases hy; rw [hday]; exact ⟨by omega, by omega⟩
          · rw [hag d (by omega)]; exact hG.dark d y (by omega) hy
        · intro d hdd
          rw [getD_next _ _ _ _ _ _ hG.len (by omega), if_neg (by omega), if_neg (by omega)]
          by_cases e : d = day
          · subst e; rw [if_pos rfl, hday]
          · rw [if_neg (by omega), hag d (by omega)]; exact hG.dks d (by omega)
        · intro d hdd
          rw [getD_next _ _ _ _ _ _ hG.len (by omega), if_neg (by omega)]
          by_cases e : d = day
          · subst e; rw [if_pos rfl]
          · rw [if_neg (by omega), if_neg (by omega), hrunE d (by omega)]; exact hG.a0 d (by omega)
        · intro d hdd
          rw [getD_next _ _ _ _ _ _ hG.len (by omega)]
          by_cases e : d = day
          · subst e; rw [if_pos rfl]
          · rw [if_neg (by omega), if_neg (by omega), if_neg (by omega), hrunE d (by omega)]; exact hG.a1 d (by omega)
        · intro d hdd
          by_cases e : d = day
          · subst e; rw [hrun1]; exact hro
          · rw [hrunE d (by omega)]; exact hG.right d (by omega)
      have hu' : u ∈ b.live b.comes but j (next t day (x.dark.lo + i) (b.run n0 f0 n1 f1 dk1 (day + 1)).1 (b.run n0 f0 n1 f1 dk1 (day + 1)).2) (b.run n0 f0 n1 f1 dk1 (day + 1)).1 (b.run n0 f0 n1 f1 dk1 (day + 1)).2 (day + 1) := by
        rw [hrun1]; exact hu
      obtain ⟨dk', ha, hg⟩ := live_good hv but n0 f0 n1 f1 j (day + 1) dk1 _ u (by omega) hG1 hu'
      exact ⟨dk', fun e he => by rw [ha e (by omega), hag e he], hg⟩
    · simp at hu

theorem truth_good {b : Book} (hv : b.sane = true) {but : List Int} {t : List Int} (ht : t ∈ b.truths but) : ∃ n0 f0 n1 f1 dk, b.s0.has n0 ∧ b.f0.has f0 ∧ b.s1.has n1 ∧ b.f1.has f1 ∧ Good b but n0 f0 n1 f1 dk b.days.length t := by
  rw [mem_truths] at ht
  obtain ⟨n0, f0, h0, h1, n1, f1, h2, h3, hl⟩ := ht
  obtain ⟨dk, -, hg⟩ := live_good hv but n0 f0 n1 f1 b.days.length 0 (fun _ => 0) (T0 f0 f1) t (by omega) ⟨rfl, rfl, rfl, fun _ _ h => absurd h (by omega), fun _ h => absurd h (by omega), fun _ h => absurd h (by omega), fun _ h => absurd h (by omega), fun _ h => absurd h (by omega)⟩ hl
  exact ⟨n0, f0, n1, f1, dk, h0, h1, h2, h3, hg⟩

theorem live_all {b : Book} (hv : b.sane = true) (but : List Int) (n0 f0 n1 f1 : Int) (dk : Nat → Int) (hdark : ∀ (d : Nat) (x : Day), b.days[d]? = some x → x.dark.has (dk d))
    (hright : ∀ d, d < b.days.length → b.rightOn but d (b.run n0 f0 n1 f1 dk (d + 1)).1 (b.run n0 f0 n1 f1 dk (d + 1)).2 = true) : ∀ (j day : Nat) (t : List Int), day + j = b.days.length → Good b but n0 f0 n1 f1 dk day t →
    ∃ u, u ∈ b.live b.comes but j t (b.run n0 f0 n1 f1 dk day).1 (b.run n0 f0 n1 f1 dk day).2 day ∧ Good b but n0 f0 n1 f1 dk b.days.length u
  | 0, day, t, hd, hG => by
    obtain rfl : day = b.days.length := by omega
    exact ⟨t, by simp [Book.live], hG⟩
  | j + 1, day, t, hd, hG => by
    have hvd := valid_days hv
    obtain ⟨x, hx⟩ : ∃ x, b.days[day]? = some x := ⟨_, List.getElem?_eq_getElem (by omega)⟩
    have hxd := (valid_day hv hx).2.1
    have hdx := hdark day x hx
    have hrun1 : b.run n0 f0 n1 f1 dk (day + 1) = (after1 (b.run n0 f0 n1 f1 dk day).1 (got2 b.comes 0 day) f0 x.l0 (min x.hours (dk day)), after1 (b.run n0 f0 n1 f1 dk day).2 (got2 b.comes 1 day) f1 x.l1 (min x.hours (dk day))) := by
      simp only [Book.run, hx]
    have hG1 : Good b but n0 f0 n1 f1 dk (day + 1) (next t day (dk day) (b.run n0 f0 n1 f1 dk (day + 1)).1 (b.run n0 f0 n1 f1 dk (day + 1)).2) := by
      refine ⟨by rw [next_len, hG.len], ?_, ?_, fun d y _ hy => hdark d y hy, ?_, ?_, ?_, fun d hdd => hright d (by omega)⟩
      · rw [next_get5 _ _ _ _ _ (by omega), hG.l0]
      · rw [next_get6 _ _ _ _ _ (by omega), hG.l1]
      · intro d hdd
        rw [getD_next _ _ _ _ _ _ hG.len (by omega), if_neg (by omega), if_neg (by omega)]
        by_cases e : d = day
        · subst e; rw [if_pos rfl]
        · rw [if_neg (by omega)]; exact hG.dks d (by omega)
      · intro d hdd
        rw [getD_next _ _ _ _ _ _ hG.len (by omega), if_neg (by omega)]
        by_cases e : d = day
        · subst e; rw [if_pos rfl]
        · rw [if_neg (by omega), if_neg (by omega)]; exact hG.a0 d (by omega)
      · intro d hdd
        rw [getD_next _ _ _ _ _ _ hG.len (by omega)]
        by_cases e : d = day
        · subst e; rw [if_pos rfl]
        · rw [if_neg (by omega), if_neg (by omega), if_neg (by omega)]; exact hG.a1 d (by omega)
    obtain ⟨u, hu, hg⟩ := live_all hv but n0 f0 n1 f1 dk hdark hright j (day + 1) _ (by omega) hG1
    refine ⟨u, ?_, hg⟩
    simp only [Book.live, hx, List.mem_flatMap, List.mem_range]
    have h1 := hdx.1
    have h2 := hdx.2
    refine ⟨(dk day - x.dark.lo).toNat, by omega, ?_⟩
    have e : x.dark.lo + ((dk day - x.dark.lo).toNat : Int) = dk day := by omega
    have hr := hright day (by omega)
    rw [hrun1] at hr hu
    rw [hG.l0, hG.l1, e, if_pos hr]
    exact hu

theorem truth_all {b : Book} (hv : b.sane = true) (but : List Int) {n0 f0 n1 f1 : Int} {dk : Nat → Int} (h0 : b.s0.has n0) (h1 : b.f0.has f0) (h2 : b.s1.has n1) (h3 : b.f1.has f1) (hdark : ∀ (d : Nat) (x : Day), b.days[d]? = some x → x.dark.has (dk d))
    (hright : ∀ d, d < b.days.length → b.rightOn but d (b.run n0 f0 n1 f1 dk (d + 1)).1 (b.run n0 f0 n1 f1 dk (d + 1)).2 = true) : ∃ t, t ∈ b.truths but ∧ Good b but n0 f0 n1 f1 dk b.days.length t := by
  obtain ⟨u, hu, hg⟩ := live_all hv but n0 f0 n1 f1 dk hdark hright b.days.length 0 (T0 f0 f1) (by omega) ⟨rfl, rfl, rfl, fun _ _ h => absurd h (by omega), fun _ h => absurd h (by omega), fun _ h => absurd h (by omega), fun _ h => absurd h (by omega), fun _ h => absurd h (by omega)⟩
  exact ⟨u, by rw [mem_truths]; exact ⟨n0, f0, h0, h1, n1, f1, h2, h3, hu⟩, hg⟩

theorem run_bound {b : Book} (hv : b.sane = true) {n0 f0 n1 f1 : Int} {dk : Nat → Int} (h0 : b.s0.has n0) (h1 : b.f0.has f0) (h2 : b.s1.has n1) (h3 : b.f1.has f1) (hdark : ∀ (d : Nat) (x : Day), b.days[d]? = some x → x.dark.has (dk d)) :
    ∀ (d : Nat), (-54 * d ≤ (b.run n0 f0 n1 f1 dk d).1 ∧ (b.run n0 f0 n1 f1 dk d).1 ≤ 60 + 240 * d) ∧ (-54 * d ≤ (b.run n0 f0 n1 f1 dk d).2 ∧ (b.run n0 f0 n1 f1 dk d).2 ≤ 60 + 240 * d)
  | 0 => by
    have hs := valid_spans hv
    have a := h0.1; have a' := h0.2; have c := h2.1; have c' := h2.2
    simp only [Book.run]; omega
  | d + 1 => by
    have ih := run_bound hv h0 h1 h2 h3 hdark d
    simp only [Book.run]
    cases hx : b.days[d]? with
    | none => simp only; omega
    | some x =>
      have hvx := valid_day hv hx
      have hs := valid_spans hv
      have hdx := hdark d x hx
      have a := h1.1; have a' := h1.2; have c := h3.1; have c' := h3.2; have e := hdx.1; have e' := hdx.2
      have hb0 := burnt_bound f0 x.l0 (min x.hours (dk d)) (by omega) (by omega) hvx.2.2.1
      have hb1 := burnt_bound f1 x.l1 (min x.hours (dk d)) (by omega) (by omega) hvx.2.2.2
      have hc (k d : Int) : 0 ≤ got2 b.comes k d ∧ got2 b.comes k d ≤ 240 := by
        have := comesN_bound hv b.orders.length (Nat.le_refl _) k d
        rw [comesN_all] at this
        have := valid_days hv; omega
      have hc0 := hc 0 d
      have hc1 := hc 1 d
      simp only [after1]
      omega
end Go.Pm.Cd

namespace Go.Pm.Cd
open Ac
set_option maxRecDepth 100000
set_option linter.unusedSimpArgs false
set_option linter.unusedSectionVars false
set_option linter.unusedVariables false

theorem span_fold (f : List Int → Int) : ∀ (ts : List (List Int)) (a : Int × Int), (∀ t, t ∈ ts → (ts.foldl (fun a t => (min a.1 (f t), max a.2 (f t))) a).1 ≤ f t ∧ f t ≤ (ts.foldl (fun a t => (min a.1 (f t), max a.2 (f t))) a).2) ∧
    (ts.foldl (fun a t => (min a.1 (f t), max a.2 (f t))) a).1 ≤ a.1 ∧ a.2 ≤ (ts.foldl (fun a t => (min a.1 (f t), max a.2 (f t))) a).2 ∧
    ((ts.foldl (fun a t => (min a.1 (f t), max a.2 (f t))) a).1 = a.1 ∨ ∃ t, t ∈ ts ∧ (ts.foldl (fun a t => (min a.1 (f t), max a.2 (f t))) a).1 = f t) ∧
    ((ts.foldl (fun a t => (min a.1 (f t), max a.2 (f t))) a).2 = a.2 ∨ ∃ t, t ∈ ts ∧ (ts.foldl (fun a t => (min a.1 (f t), max a.2 (f t))) a).2 = f t)
  | [], a => by simp
  | u :: ts, a => by
    obtain ⟨h1, h2, h3, h4, h5⟩ := span_fold f ts (min a.1 (f u), max a.2 (f u))
    simp only [List.foldl_cons]
    generalize List.foldl _ _ ts = r at h1 h2 h3 h4 h5 ⊢
    simp only at h2 h3 h4 h5
    refine ⟨?_, by clear h4 h5; omega, by clear h4 h5; omega, ?_, ?_⟩
    · clear h4 h5
      intro t ht
      rcases List.mem_cons.1 ht with rfl | ht
      · omega
      · exact h1 t ht
    · clear h5
      rcases h4 with h4 | ⟨t, ht, h4⟩
      · by_cases e : a.1 ≤ f u
        · exact .inl (by omega)
        · exact .inr ⟨u, by simp, by omega⟩
      · exact .inr ⟨t, by simp [ht], h4⟩
    · clear h4
      rcases h5 with h5 | ⟨t, ht, h5⟩
      · by_cases e : f u ≤ a.2
        · exact .inl (by omega)
        · exact .inr ⟨u, by simp, by omega⟩
      · exact .inr ⟨t, by simp [ht], h5⟩

theorem span_lo (f : List Int → Int) (ts : List (List Int)) (h : ts ≠ []) : ∃ t, t ∈ ts ∧ (spanOf f ts).1 = f t := by
  cases ts with
  | nil => exact absurd rfl h
  | cons u ts =>
    rcases (span_fold f (u :: ts) (f u, f u)).2.2.2.1 with h | h
    · exact ⟨u, by simp, h⟩
    · exact h
theorem span_hi (f : List Int → Int) (ts : List (List Int)) (h : ts ≠ []) : ∃ t, t ∈ ts ∧ (spanOf f ts).2 = f t := by
  cases ts with
  | nil => exact absurd rfl h
  | cons u ts =>
    rcases (span_fold f (u :: ts) (f u, f u)).2.2.2.2 with h | h
    · exact ⟨u, by simp, h⟩
    · exact h

theorem left_bound {b : Book} (hv : b.sane = true) {but : List Int} {t : List Int} (ht : t ∈ b.truths but) (kind day : Int) (hk : 0 ≤ kind ∧ kind ≤ 1) (hd : 0 ≤ day ∧ day < b.days.length) : -300 ≤ tLeft kind day t ∧ tLeft kind day t ≤ 1300 := by
  obtain ⟨n0, f0, n1, f1, dk, h0, h1, h2, h3, hG⟩ := truth_good hv ht
  have hvd := valid_days hv
  have hlt : day.toNat < b.days.length := by omega
  have hB := run_bound (n0 := n0) (f0 := f0) (n1 := n1) (f1 := f1) (dk := fun d => if d < b.days.length then dk d else 0) hv h0 h1 h2 h3 (fun d x hx => by
    have hd := (List.getElem?_eq_some_iff.1 hx).1
    rw [if_pos hd]; exact hG.dark d x hd hx) (day.toNat + 1)
  rw [run_agree b n0 f0 n1 f1 _ dk (day.toNat + 1) (fun e he => by rw [if_pos (by omega)])] at hB
  have ha := hG.a0 day.toNat hlt
  have hc := hG.a1 day.toNat hlt
  have hk' : kind = 0 ∨ kind = 1 := by omega
  rcases hk' with rfl | rfl
  · simp only [tLeft, Int.toNat_zero, Nat.add_zero]
    rw [ha]; omega
  · have e : 7 + day.toNat * 2 + (1 : Int).toNat = 7 + (day.toNat * 2 + 1) := by simp; omega
    simp only [tLeft]
    rw [e, hc]; omega

theorem span_bound {b : Book} (hv : b.sane = true) {but : List Int} (hts : b.truths but ≠ []) (kind day : Int) (hk : 0 ≤ kind ∧ kind ≤ 1) (hd : 0 ≤ day ∧ day < b.days.length) :
    (-300 ≤ (spanOf (tLeft kind day) (b.truths but)).1 ∧ (spanOf (tLeft kind day) (b.truths but)).1 ≤ 1300) ∧ (-300 ≤ (spanOf (tLeft kind day) (b.truths but)).2 ∧ (spanOf (tLeft kind day) (b.truths but)).2 ≤ 1300) := by
  obtain ⟨t, ht, e⟩ := span_lo (tLeft kind day) (b.truths but) hts
  obtain ⟨u, hu, e'⟩ := span_hi (tLeft kind day) (b.truths but) hts
  rw [e, e']
  exact ⟨left_bound hv ht kind day hk hd, left_bound hv hu kind day hk hd⟩

def Book.buyN (b : Book) (kind day : Int) (i : Nat) : Int := (List.range i).foldl (fun m (j : Nat) => max m (-(spanOf (tLeft kind (day + j)) (b.truths [])).1)) 0
def Book.buy (b : Book) (kind day : Int) : Int × Int :=
  if b.askE (isKind kind && b.isDay day) = 0 then (b.buyN kind day (b.days.length - day).toNat, 0) else (0, b.askE (isKind kind && b.isDay day))

section
variable {Γ : Env} [P06 Γ] [G06 Γ]

theorem buy_L0 (b : Book) [hb : b.Fits] (hv : b.sane = true) (ht : b.truths [] ≠ []) (kind day : Int) (hk : 0 ≤ kind ∧ kind ≤ 1) (hd : 0 ≤ day ∧ day ≤ b.days.length - 1) {β : Type} (Q : Ex → St → Option β) :
    E Γ candle_Buy_L0 ⟨[(1, vi kind), (3, .sc (.ptr 0 0)), (8, .sc (.ptr 1 0)), (10, vi 0), (11, vi day)], [.var b.c, .var (b.open13 [])]⟩ Q =
      Q (.exit 0) ⟨[(1, vi kind), (3, .sc (.ptr 0 0)), (8, .sc (.ptr 1 0)), (10, vi (b.buyN kind day (b.days.length - day).toNat)), (11, vi b.days.length), (32, vb false)], [.var b.c, .var (b.open13 [])]⟩ := by
  have hdl := valid_days hv
  refine E_countS (b.days.length - day).toNat (fun i (_ : Unit) => ⟨[(1, vi kind), (3, .sc (.ptr 0 0)), (8, .sc (.ptr 1 0)), (10, vi (b.buyN kind day i)), (11, vi (day + (i : Nat)))], [.var b.c, .var (b.open13 [])]⟩) (fun _ _ => True)
    (fun _ => (.exit 0, ⟨[(1, vi kind), (3, .sc (.ptr 0 0)), (8, .sc (.ptr 1 0)), (10, vi (b.buyN kind day (b.days.length - day).toNat)), (11, vi b.days.length), (32, vb false)], [.var b.c, .var (b.open13 [])]⟩)) () ?_ trivial ?_ ?_ ?_
  · simp [Book.buyN]
  · intro i _ hi _
    refine ⟨(), trivial, ?_⟩
    have hlt : day + (i : Int) < b.days.length := by omega
    have hS := left_k (Γ := Γ) b hv [] ht kind (day + (i : Nat)) hk (by omega)
    have hB := span_bound hv ht kind (day + (i : Nat)) hk (by omega)
    have hiw : IntKind.i64.wrap (day + (i : Int) + 1) = day + (i + 1 : Nat) := by rw [wrap_i64 (by omega) (by omega)]; omega
    have hnw : IntKind.i64.wrap (0 - (spanOf (tLeft kind (day + (i : Nat))) (b.truths [])).1) = -(spanOf (tLeft kind (day + (i : Nat))) (b.truths [])).1 := by rw [wrap_i64 (by omega) (by omega)]; omega
    have hN : b.buyN kind day (i + 1) = max (b.buyN kind day i) (-(spanOf (tLeft kind (day + (i : Nat))) (b.truths [])).1) := by simp [Book.buyN, List.range_succ]
    rw [hN]
    (simp only [go_sem, simprocAttr, candle_Buy_B0, hS, hiw, hnw]; repeat' (first | ((first | (refine br_yes (by omega) ?_) | (refine br_no (by omega) ?_) | (apply br_all; (· simp only [Bool.and_eq_true, decide_eq_true_eq]; omega)) | (apply br_free; (· simp [go_sem, Pm.acc, Acc.free, refsOf, offOf, keyEq, tagEq, cellsEq, cellEq]; done)) | ((first | apply br_mergeT | apply br_mergeF); (· intro h; simp only [go_sem, simprocAttr, sel_of h, candle_Buy_B0, hS, hiw, hnw]; exact rfl))); (try simp only [go_sem, simprocAttr, candle_Buy_B0, hS, hiw, hnw])) | ((first | apply onGuard_sel | (apply pickV_split; apply br_split) | apply br_split) <;> intro h <;> (try simp only [go_sem, simprocAttr, h, candle_Buy_B0, hS, hiw, hnw]))))
  · intro _ _
    have hm : day + ((b.days.length - day).toNat : Int) = b.days.length := by omega
    simp only [hm]
    (simp only [go_sem, simprocAttr, candle_Buy_B0]; repeat' (first | ((first | (refine br_yes (by omega) ?_) | (refine br_no (by omega) ?_) | (apply br_all; (· simp only [Bool.and_eq_true, decide_eq_true_eq]; omega)) | (apply br_free; (· simp [go_sem, Pm.acc, Acc.free, refsOf, offOf, keyEq, tagEq, cellsEq, cellEq]; done)) | ((first | apply br_mergeT | apply br_mergeF); (· intro h; simp only [go_sem, simprocAttr, sel_of h, candle_Buy_B0]; exact rfl))); (try simp only [go_sem, simprocAttr, candle_Buy_B0])) | ((first | apply onGuard_sel | (apply pickV_split; apply br_split) | apply br_split) <;> intro h <;> (try simp only [go_sem, simprocAttr, h, candle_Buy_B0]))))
  · intro _ _
    rfl

@[go_sem] theorem Buy_k (b : Book) [hb : b.Fits] (kind day : Int) : K Γ (.fn 17) [.agg b.c, vi kind, vi day] [] = some (.tup [vi (b.buy kind day).1, vi (b.buy kind day).2], []) := by
  rw [K_fn P06.f17 _ _ rfl]
  simp only [isKind, Book.isDay, Book.askE, Book.buy]
  rcases Bool.eq_false_or_eq_true b.valid with hv | hv
  rotate_left
  · have hA (is : Bool) := asked_bad (Γ := Γ) b hv is
    simp only [Z13] at hA
    (simp only [go_sem, simprocAttr, candle_Buy, hA, hv, Bool.false_eq_true]; repeat' (first | ((first | (refine br_yes (by omega) ?_) | (refine br_no (by omega) ?_) | (apply br_all; (· simp only [Bool.and_eq_true, decide_eq_true_eq]; omega)) | (apply br_free; (· simp [go_sem, Pm.acc, Acc.free, refsOf, offOf, keyEq, tagEq, cellsEq, cellEq]; done)) | ((first | apply br_mergeT | apply br_mergeF); (· intro h; simp only [go_sem, simprocAttr, sel_of h, candle_Buy, hA, hv, Bool.false_eq_true]; exact rfl))); (try simp only [go_sem, simprocAttr, candle_Buy, hA, hv, Bool.false_eq_true])) | ((first | apply onGuard_sel | (apply pickV_split; apply br_split) | apply br_split) <;> intro h <;> (try simp only [go_sem, simprocAttr, h, candle_Buy, hA, hv, Bool.false_eq_true]))))
  · have hA := asked_ask (Γ := Γ) b hv
    simp only [Z13] at hA
    rcases Bool.eq_false_or_eq_true (within kind 0 1) with hk | hk
    rotate_left
    · (simp only [go_sem, simprocAttr, candle_Buy, hA, hv, hk, Bool.false_and, Bool.false_eq_true]; repeat' (first | ((first | (refine br_yes (by omega) ?_) | (refine br_no (by omega) ?_) | (apply br_all; (· simp only [Bool.and_eq_true, decide_eq_true_eq]; omega)) | (apply br_free; (· simp [go_sem, Pm.acc, Acc.free, refsOf, offOf, keyEq, tagEq, cellsEq, cellEq]; done)) | ((first | apply br_mergeT | apply br_mergeF); (· intro h; simp only [go_sem, simprocAttr, sel_of h, candle_Buy, hA, hv, hk, Bool.false_and, Bool.false_eq_true]; exact rfl))); (try simp only [go_sem, simprocAttr, candle_Buy, hA, hv, hk, Bool.false_and, Bool.false_eq_true])) | ((first | apply onGuard_sel | (apply pickV_split; apply br_split) | apply br_split) <;> intro h <;> (try simp only [go_sem, simprocAttr, h, candle_Buy, hA, hv, hk, Bool.false_and, Bool.false_eq_true]))))
    · rcases Bool.eq_false_or_eq_true (within day 0 (b.days.length - 1)) with hd | hd
      rotate_left
      · (simp only [go_sem, simprocAttr, candle_Buy, hA, hv, hk, hd, Bool.false_eq_true]; repeat' (first | ((first | (refine br_yes (by omega) ?_) | (refine br_no (by omega) ?_) | (apply br_all; (· simp only [Bool.and_eq_true, decide_eq_true_eq]; omega)) | (apply br_free; (· simp [go_sem, Pm.acc, Acc.free, refsOf, offOf, keyEq, tagEq, cellsEq, cellEq]; done)) | ((first | apply br_mergeT | apply br_mergeF); (· intro h; simp only [go_sem, simprocAttr, sel_of h, candle_Buy, hA, hv, hk, hd, Bool.false_eq_true]; exact rfl))); (try simp only [go_sem, simprocAttr, candle_Buy, hA, hv, hk, hd, Bool.false_eq_true])) | ((first | apply onGuard_sel | (apply pickV_split; apply br_split) | apply br_split) <;> intro h <;> (try simp only [go_sem, simprocAttr, h, candle_Buy, hA, hv, hk, hd, Bool.false_eq_true]))))
      · have hk' := (within_iff _ _ _).1 hk
        have hd' := (within_iff _ _ _).1 hd
        by_cases ht : b.truths [] = []
        · have hN := asked_no (Γ := Γ) b hv ht
          (simp only [go_sem, simprocAttr, candle_Buy, hN, hv, hk, hd, ht]; repeat' (first | ((first | (refine br_yes (by omega) ?_) | (refine br_no (by omega) ?_) | (apply br_all; (· simp only [Bool.and_eq_true, decide_eq_true_eq]; omega)) | (apply br_free; (· simp [go_sem, Pm.acc, Acc.free, refsOf, offOf, keyEq, tagEq, cellsEq, cellEq]; done)) | ((first | apply br_mergeT | apply br_mergeF); (· intro h; simp only [go_sem, simprocAttr, sel_of h, candle_Buy, hN, hv, hk, hd, ht]; exact rfl))); (try simp only [go_sem, simprocAttr, candle_Buy, hN, hv, hk, hd, ht])) | ((first | apply onGuard_sel | (apply pickV_split; apply br_split) | apply br_split) <;> intro h <;> (try simp only [go_sem, simprocAttr, h, candle_Buy, hN, hv, hk, hd, ht]))))
        · have hN := asked_ok (Γ := Γ) b hv ht
          have hL {β : Type} (Q : Ex → St → Option β) := buy_L0 (Γ := Γ) b (sane_of_valid hv) ht kind day hk' hd' Q
          (simp only [go_sem, simprocAttr, candle_Buy, hN, hv, hk, hd, ht, hL]; repeat' (first | ((first | (refine br_yes (by omega) ?_) | (refine br_no (by omega) ?_) | (apply br_all; (· simp only [Bool.and_eq_true, decide_eq_true_eq]; omega)) | (apply br_free; (· simp [go_sem, Pm.acc, Acc.free, refsOf, offOf, keyEq, tagEq, cellsEq, cellEq]; done)) | ((first | apply br_mergeT | apply br_mergeF); (· intro h; simp only [go_sem, simprocAttr, sel_of h, candle_Buy, hN, hv, hk, hd, ht, hL]; exact rfl))); (try simp only [go_sem, simprocAttr, candle_Buy, hN, hv, hk, hd, ht, hL])) | ((first | apply onGuard_sel | (apply pickV_split; apply br_split) | apply br_split) <;> intro h <;> (try simp only [go_sem, simprocAttr, h, candle_Buy, hN, hv, hk, hd, ht, hL]))))
end
end Go.Pm.Cd

namespace Go.Pm.Cd
open Ac
set_option maxRecDepth 100000
set_option linter.unusedSimpArgs false
set_option linter.unusedSectionVars false
set_option linter.unusedVariables false

section
variable {Γ : Env} [P06 Γ] [G06 Γ]

@[go_sem] theorem Lies_k (a b c : Int) : K Γ (.fn 29) [vi a, vi b, vi c] [] = some (vb (within a b c), []) := by
  rw [K_fn P06.f29 _ _ rfl]
  (simp only [go_sem, simprocAttr, decaniref00_Lies]; repeat' (first | ((first | (refine br_yes (by omega) ?_) | (refine br_no (by omega) ?_) | (apply br_all; (· simp only [Bool.and_eq_true, decide_eq_true_eq]; omega)) | (apply br_free; (· simp [go_sem, Pm.acc, Acc.free, refsOf, offOf, keyEq, tagEq, cellsEq, cellEq]; done)) | ((first | apply br_mergeT | apply br_mergeF); (· intro h; simp only [go_sem, simprocAttr, sel_of h, decaniref00_Lies]; exact rfl))); (try simp only [go_sem, simprocAttr, decaniref00_Lies])) | ((first | apply onGuard_sel | (apply pickV_split; apply br_split) | apply br_split) <;> intro h <;> (try simp only [go_sem, simprocAttr, h, decaniref00_Lies]))))
  all_goals (simp_all [within]; try (intros; omega))
@[go_sem] theorem Bounds_k (a b : Int) : K Γ (.fn 33) [vi a, vi b] [] = some (.agg [ci a, ci b], []) := by
  rw [K_fn P06.f33 _ _ rfl]
  (simp only [go_sem, simprocAttr, decaniref00_Bounds]; repeat' (first | ((first | (refine br_yes (by omega) ?_) | (refine br_no (by omega) ?_) | (apply br_all; (· simp only [Bool.and_eq_true, decide_eq_true_eq]; omega)) | (apply br_free; (· simp [go_sem, Pm.acc, Acc.free, refsOf, offOf, keyEq, tagEq, cellsEq, cellEq]; done)) | ((first | apply br_mergeT | apply br_mergeF); (· intro h; simp only [go_sem, simprocAttr, sel_of h, decaniref00_Bounds]; exact rfl))); (try simp only [go_sem, simprocAttr, decaniref00_Bounds])) | ((first | apply onGuard_sel | (apply pickV_split; apply br_split) | apply br_split) <;> intro h <;> (try simp only [go_sem, simprocAttr, h, decaniref00_Bounds]))))
@[go_sem] theorem Only_k (a : Int) : K Γ (.fn 30) [vi a] [] = some (.agg [ci a, ci a], []) := by
  rw [K_fn P06.f30 _ _ rfl]
  (simp only [go_sem, simprocAttr, decaniref00_Only]; repeat' (first | ((first | (refine br_yes (by omega) ?_) | (refine br_no (by omega) ?_) | (apply br_all; (· simp only [Bool.and_eq_true, decide_eq_true_eq]; omega)) | (apply br_free; (· simp [go_sem, Pm.acc, Acc.free, refsOf, offOf, keyEq, tagEq, cellsEq, cellEq]; done)) | ((first | apply br_mergeT | apply br_mergeF); (· intro h; simp only [go_sem, simprocAttr, sel_of h, decaniref00_Only]; exact rfl))); (try simp only [go_sem, simprocAttr, decaniref00_Only])) | ((first | apply onGuard_sel | (apply pickV_split; apply br_split) | apply br_split) <;> intro h <;> (try simp only [go_sem, simprocAttr, h, decaniref00_Only]))))
theorem Fair_k (s : Span) (low high wide : Int) (hl : 0 ≤ low) (hh : high ≤ 1000) :
    K Γ (.fn 49) [.agg [ci s.lo, ci s.hi], vi low, vi high, vi wide] [] = some (vb (s.is low high wide), []) := by
  rw [K_fn P06.f49 _ _ rfl]
  (simp only [go_sem, simprocAttr, decaniref00_Fair]; repeat' (first | ((first | (refine br_yes (by omega) ?_) | (refine br_no (by omega) ?_) | (apply br_all; (· simp only [Bool.and_eq_true, decide_eq_true_eq]; omega)) | (apply br_free; (· simp [go_sem, Pm.acc, Acc.free, refsOf, offOf, keyEq, tagEq, cellsEq, cellEq]; done)) | ((first | apply br_mergeT | apply br_mergeF); (· intro h; simp only [go_sem, simprocAttr, sel_of h, decaniref00_Fair]; exact rfl))); (try simp only [go_sem, simprocAttr, decaniref00_Fair])) | ((first | apply onGuard_sel | (apply pickV_split; apply br_split) | apply br_split) <;> intro h <;> (try simp only [go_sem, simprocAttr, h, decaniref00_Fair]))))
  by_cases h : low ≤ s.lo ∧ s.lo ≤ s.hi ∧ s.hi ≤ high
  · rw [wrap_i64 (by omega) (by omega)]; rfl
  · simp only [Span.is]
    have e : (decide (low ≤ s.lo) && decide (s.lo ≤ s.hi) && decide (s.hi ≤ high)) = false := by
      rw [Bool.eq_false_iff]; intro e; simp only [Bool.and_eq_true, decide_eq_true_eq] at e; omega
    simp only [e, Bool.false_and]
@[go_sem] theorem Fair_k1 (s : Span) : K Γ (.fn 49) [.agg [ci s.lo, ci s.hi], vi 0, vi 60, vi 2] [] = some (vb (s.is 0 60 2), []) := Fair_k s _ _ _ (by decide) (by decide)
@[go_sem] theorem Fair_k2 (s : Span) : K Γ (.fn 49) [.agg [ci s.lo, ci s.hi], vi 1, vi 6, vi 1] [] = some (vb (s.is 1 6 1), []) := Fair_k s _ _ _ (by decide) (by decide)
@[go_sem] theorem Fair_k3 (s : Span) : K Γ (.fn 49) [.agg [ci s.lo, ci s.hi], vi 0, vi 6, vi 2] [] = some (vb (s.is 0 6 2), []) := Fair_k s _ _ _ (by decide) (by decide)

def litB (k : SK) (cs : List Count) : Book := ⟨⟨10, 11⟩, ⟨30, 30⟩, ⟨2, 3⟩, ⟨4, 4⟩, .full, [⟨4, ⟨3, 4⟩, 2, 6⟩, ⟨3, ⟨5, 5⟩, 2, 6⟩, ⟨6, ⟨4, 6⟩, 4, 6⟩], .full, [⟨2, 0, 4⟩], k, cs⟩
@[go_sem] theorem book_k (k : SK) (cs : List Count) : K Γ (.fn 39) [.sc (.sl k 4 (cs.map Count.c))] [] = some (.agg (litB k cs).c, []) := by
  rw [K_fn P06.f39 _ _ rfl]
  (simp only [go_sem, simprocAttr, decanilaw06_book]; repeat' (first | ((first | (refine br_yes (by omega) ?_) | (refine br_no (by omega) ?_) | (apply br_all; (· simp only [Bool.and_eq_true, decide_eq_true_eq]; omega)) | (apply br_free; (· simp [go_sem, Pm.acc, Acc.free, refsOf, offOf, keyEq, tagEq, cellsEq, cellEq]; done)) | ((first | apply br_mergeT | apply br_mergeF); (· intro h; simp only [go_sem, simprocAttr, sel_of h, decanilaw06_book]; exact rfl))); (try simp only [go_sem, simprocAttr, decanilaw06_book])) | ((first | apply onGuard_sel | (apply pickV_split; apply br_split) | apply br_split) <;> intro h <;> (try simp only [go_sem, simprocAttr, h, decanilaw06_book]))))
  rfl
@[go_sem] theorem book_nil_k (k : SK) : K Γ (.fn 39) [.sc (.sl k 4 [])] [] = some (.agg (litB k []).c, []) := book_k k []
@[go_sem] theorem own_k : K Γ (.fn 38) [] [] = some (.agg (litB .nil []).c, []) := by
  rw [K_fn P06.f38 _ _ rfl]
  (simp only [go_sem, simprocAttr, decanilaw06_own]; repeat' (first | ((first | (refine br_yes (by omega) ?_) | (refine br_no (by omega) ?_) | (apply br_all; (· simp only [Bool.and_eq_true, decide_eq_true_eq]; omega)) | (apply br_free; (· simp [go_sem, Pm.acc, Acc.free, refsOf, offOf, keyEq, tagEq, cellsEq, cellEq]; done)) | ((first | apply br_mergeT | apply br_mergeF); (· intro h; simp only [go_sem, simprocAttr, sel_of h, decanilaw06_own]; exact rfl))); (try simp only [go_sem, simprocAttr, decanilaw06_own])) | ((first | apply onGuard_sel | (apply pickV_split; apply br_split) | apply br_split) <;> intro h <;> (try simp only [go_sem, simprocAttr, h, decanilaw06_own]))))
def cnt8 : Count := ⟨0, 0, 8, 0⟩
def cnt3 : Count := ⟨1, 0, 3, 0⟩
@[go_sem] theorem counted_k : K Γ (.fn 41) [] [] = some (.agg (litB .full [cnt8]).c, []) := by
  have h : K Γ (.fn 39) [.sc (.sl .full 4 [[ci 0, ci 0, ci 8, ci 0]])] [] = some (.agg (litB .full [cnt8]).c, []) := book_k .full [cnt8]
  rw [K_fn P06.f41 _ _ rfl]
  (simp only [go_sem, simprocAttr, decanilaw06_counted, h]; repeat' (first | ((first | (refine br_yes (by omega) ?_) | (refine br_no (by omega) ?_) | (apply br_all; (· simp only [Bool.and_eq_true, decide_eq_true_eq]; omega)) | (apply br_free; (· simp [go_sem, Pm.acc, Acc.free, refsOf, offOf, keyEq, tagEq, cellsEq, cellEq]; done)) | ((first | apply br_mergeT | apply br_mergeF); (· intro h; simp only [go_sem, simprocAttr, sel_of h, decanilaw06_counted, h]; exact rfl))); (try simp only [go_sem, simprocAttr, decanilaw06_counted, h])) | ((first | apply onGuard_sel | (apply pickV_split; apply br_split) | apply br_split) <;> intro h <;> (try simp only [go_sem, simprocAttr, h, decanilaw06_counted, h]))))
@[go_sem] theorem torn_k : K Γ (.fn 40) [] [] = some (.agg (litB .full [cnt8, cnt3]).c, []) := by
  have h : K Γ (.fn 39) [.sc (.sl .full 4 [[ci 0, ci 0, ci 8, ci 0], [ci 1, ci 0, ci 3, ci 0]])] [] = some (.agg (litB .full [cnt8, cnt3]).c, []) := book_k .full [cnt8, cnt3]
  rw [K_fn P06.f40 _ _ rfl]
  (simp only [go_sem, simprocAttr, decanilaw06_torn, h]; repeat' (first | ((first | (refine br_yes (by omega) ?_) | (refine br_no (by omega) ?_) | (apply br_all; (· simp only [Bool.and_eq_true, decide_eq_true_eq]; omega)) | (apply br_free; (· simp [go_sem, Pm.acc, Acc.free, refsOf, offOf, keyEq, tagEq, cellsEq, cellEq]; done)) | ((first | apply br_mergeT | apply br_mergeF); (· intro h; simp only [go_sem, simprocAttr, sel_of h, decanilaw06_torn, h]; exact rfl))); (try simp only [go_sem, simprocAttr, decanilaw06_torn, h])) | ((first | apply onGuard_sel | (apply pickV_split; apply br_split) | apply br_split) <;> intro h <;> (try simp only [go_sem, simprocAttr, h, decanilaw06_torn, h]))))
end
end Go.Pm.Cd

namespace Go.Pm.Cd
open Ac
set_option maxRecDepth 100000
set_option linter.unusedSimpArgs false
set_option linter.unusedSectionVars false
set_option linter.unusedVariables false

instance fits_own (k : SK) : (litB k []).Fits := ⟨by simp [litB], by simp [litB], by simp [litB]⟩
instance fits_counted (k : SK) (x : Count) : (litB k [x]).Fits := ⟨by simp [litB], by simp [litB], by simp [litB]⟩
instance fits_torn (k : SK) (x y : Count) : (litB k [x, y]).Fits := ⟨by simp [litB], by simp [litB], by simp [litB]⟩
def dimB : Book := { litB .nil [] with s1 := ⟨5, 5⟩ }
instance fits_dim : dimB.Fits := ⟨by simp [dimB, litB], by simp [dimB, litB], by simp [dimB, litB]⟩

section
variable {Γ : Env} [P06 Γ] [G06 Γ]

theorem lit_left0 : K Γ (.fn 6) [.agg (litB .nil []).c, vi 0, vi 2] [] = some (.tup [.agg [ci (-6), ci 3], vi 0], []) := by
  have e : told ((litB .nil []).askE (isKind 0 && (litB .nil []).isDay 2)) (spanOf (tLeft 0 2) ((litB .nil []).truths [])) = (-6, 3) := by decide +kernel
  have a : (litB .nil []).askE (isKind 0 && (litB .nil []).isDay 2) = 0 := by decide +kernel
  rw [Left_k, e, a]
theorem lit_left1 : K Γ (.fn 6) [.agg (litB .nil []).c, vi 1, vi 2] [] = some (.tup [.agg [ci 6, ci 12], vi 0], []) := by
  have e : told ((litB .nil []).askE (isKind 1 && (litB .nil []).isDay 2)) (spanOf (tLeft 1 2) ((litB .nil []).truths [])) = (6, 12) := by decide +kernel
  have a : (litB .nil []).askE (isKind 1 && (litB .nil []).isDay 2) = 0 := by decide +kernel
  rw [Left_k, e, a]
theorem lit_life : K Γ (.fn 8) [.agg (litB .full [cnt8]).c, vi 0] [] = some (.tup [.agg [ci 3, ci 3], vi 0], []) := by
  have e : told ((litB .full [cnt8]).askE (isKind 0)) (spanOf (tLife 0) ((litB .full [cnt8]).truths [])) = (3, 3) := by decide +kernel
  have a : (litB .full [cnt8]).askE (isKind 0) = 0 := by decide +kernel
  rw [Life_k, e, a]
theorem lit_dark : K Γ (.fn 10) [.agg (litB .full [cnt8]).c, vi 0] [] = some (.tup [.agg [ci 3, ci 3], vi 0], []) := by
  have e : told ((litB .full [cnt8]).askE ((litB .full [cnt8]).isDay 0)) (spanOf (tDark 0) ((litB .full [cnt8]).truths [])) = (3, 3) := by decide +kernel
  have a : (litB .full [cnt8]).askE ((litB .full [cnt8]).isDay 0) = 0 := by decide +kernel
  rw [Dark_k, e, a]
theorem lit_short : K Γ (.fn 13) [.agg (litB .nil []).c, vi 0] [] = some (.tup [vi 2, vi 0], []) := by
  have e : (litB .nil []).short 0 = (2, 0) := by decide +kernel
  rw [Short_k, e]
theorem lit_buy : K Γ (.fn 17) [.agg (litB .nil []).c, vi 0, vi 2] [] = some (.tup [vi 6, vi 0], []) := by
  have e : (litB .nil []).buy 0 2 = (6, 0) := by decide +kernel
  rw [Buy_k, e]
theorem lit_fits : K Γ (.fn 19) [.agg (litB .nil []).c, .agg [ci 0, ci 0, ci 5, ci 1]] [] = some (.tup [vb true, vi 0], []) := by
  have e : (litB .nil []).fits ⟨0, 0, 5, 1⟩ = (true, 0) := by decide +kernel
  have := Fits_k (Γ := Γ) (litB .nil []) ⟨0, 0, 5, 1⟩
  rw [e] at this; exact this
theorem lit_wrong : K Γ (.fn 21) [.agg (litB .full [cnt8, cnt3]).c] [] = some (.tup [.sc (.sl .full 1 [[ci 0]]), vi 0], []) := by
  have e : (litB .full [cnt8, cnt3]).wrong = ([0], 0) := by decide +kernel
  have e2 : wrongK (litB .full [cnt8, cnt3]) = .full := by decide +kernel
  rw [Wrong_k, e, e2]; rfl
theorem lit_right : K Γ (.fn 2) [.agg (litB .nil []).c] [] = some (.tup [vb true, vi 0], []) := by
  have e : ((litB .nil []).valid && decide ((litB .nil []).truths [] ≠ [])) = true := by decide +kernel
  have a : (if (litB .nil []).valid then (0 : Int) else 60) = 0 := by decide +kernel
  rw [Right_k, e, a]
theorem lit_dim : K Γ (.fn 15) [.agg dimB.c, vi 1] [] = some (.tup [vi 0, vi 0], []) := by
  have e : dimB.surely 1 = (0, 0) := by decide +kernel
  rw [Surely_k, e]
theorem equal_00 (k k' : SK) : K Γ (.fn 23) [.sc (.sl k 1 [[ci 0]]), .sc (.sl k' 1 [[ci 0]])] [] = some (vb true, []) := by
  rw [K_fn P06.f23 _ _ rfl]
  (simp only [go_sem, simprocAttr, decaniref00_Equal, decaniref00_Equal_L0, decaniref00_Equal_B0, E_loop, List.length_cons, List.length_nil, List.getElem?_cons_zero]; repeat' (first | ((first | (refine br_yes (by omega) ?_) | (refine br_no (by omega) ?_) | (apply br_all; (· simp only [Bool.and_eq_true, decide_eq_true_eq]; omega)) | (apply br_free; (· simp [go_sem, Pm.acc, Acc.free, refsOf, offOf, keyEq, tagEq, cellsEq, cellEq]; done)) | ((first | apply br_mergeT | apply br_mergeF); (· intro h; simp only [go_sem, simprocAttr, sel_of h, decaniref00_Equal, decaniref00_Equal_L0, decaniref00_Equal_B0, E_loop, List.length_cons, List.length_nil, List.getElem?_cons_zero]; exact rfl))); (try simp only [go_sem, simprocAttr, decaniref00_Equal, decaniref00_Equal_L0, decaniref00_Equal_B0, E_loop, List.length_cons, List.length_nil, List.getElem?_cons_zero])) | ((first | apply onGuard_sel | (apply pickV_split; apply br_split) | apply br_split) <;> intro h <;> (try simp only [go_sem, simprocAttr, h, decaniref00_Equal, decaniref00_Equal_L0, decaniref00_Equal_B0, E_loop, List.length_cons, List.length_nil, List.getElem?_cons_zero]))))

theorem own_set : setAll (litB .nil []).c 2 [ci 5, ci 5] = dimB.c := rfl
theorem own_set' : ((litB .nil []).c.set 2 (ci 5)).set 3 (ci 5) = dimB.c := rfl

@[go_sem] theorem lit_k : K Γ (.fn 12) [] [] = some (vb true, []) := by
  rw [K_fn P06.f12 _ _ rfl]
  (simp only [go_sem, simprocAttr, decanilaw06_lit, lit_left0, lit_left1, lit_life, lit_dark, lit_short, lit_buy, lit_fits, lit_wrong, lit_right, lit_dim, equal_00, own_set, own_set', keyEq2]; repeat' (first | ((first | (refine br_yes (by omega) ?_) | (refine br_no (by omega) ?_) | (apply br_all; (· simp only [Bool.and_eq_true, decide_eq_true_eq]; omega)) | (apply br_free; (· simp [go_sem, Pm.acc, Acc.free, refsOf, offOf, keyEq, tagEq, cellsEq, cellEq]; done)) | ((first | apply br_mergeT | apply br_mergeF); (· intro h; simp only [go_sem, simprocAttr, sel_of h, decanilaw06_lit, lit_left0, lit_left1, lit_life, lit_dark, lit_short, lit_buy, lit_fits, lit_wrong, lit_right, lit_dim, equal_00, own_set, own_set', keyEq2]; exact rfl))); (try simp only [go_sem, simprocAttr, decanilaw06_lit, lit_left0, lit_left1, lit_life, lit_dark, lit_short, lit_buy, lit_fits, lit_wrong, lit_right, lit_dim, equal_00, own_set, own_set', keyEq2])) | ((first | apply onGuard_sel | (apply pickV_split; apply br_split) | apply br_split) <;> intro h <;> (try simp only [go_sem, simprocAttr, h, decanilaw06_lit, lit_left0, lit_left1, lit_life, lit_dark, lit_short, lit_buy, lit_fits, lit_wrong, lit_right, lit_dim, equal_00, own_set, own_set', keyEq2]))))
end
end Go.Pm.Cd

namespace Go.Pm.Cd
open Ac
set_option maxRecDepth 100000
set_option linter.unusedSimpArgs false
set_option linter.unusedSectionVars false
set_option linter.unusedVariables false
section
variable {Γ : Env} [P06 Γ] [G06 Γ]

end
end Go.Pm.Cd

namespace Go.Pm.Cd
open Ac
set_option maxRecDepth 100000
set_option linter.unusedSimpArgs false
set_option linter.unusedSectionVars false
set_option linter.unusedVariables false

section
variable {Γ : Env} [P06 Γ] [G06 Γ]

end
end Go.Pm.Cd

namespace Go.Pm
open T
theorem hasL_int (k : IntKind) (ts : List T) (cs : List C) : T.hasL (.int k :: ts) cs ↔ ∃ n r, cs = .int k n :: r ∧ (Lit.int k n).wf = true ∧ T.hasL ts r := by
  simp only [T.hasL, T.has]
  constructor
  · rintro ⟨a, r, rfl, ⟨n, rfl, hn⟩, h⟩; exact ⟨n, r, rfl, hn, h⟩
  · rintro ⟨n, r, rfl, hn, h⟩; exact ⟨[.int k n], r, rfl, ⟨n, rfl, hn⟩, h⟩
theorem hasL_nil (cs : List C) : T.hasL [] cs ↔ cs = [] := by simp only [T.hasL]
theorem hasL_app : ∀ (us ts : List T) (cs : List C), T.hasL (us ++ ts) cs ↔ ∃ a r, cs = a ++ r ∧ T.hasL us a ∧ T.hasL ts r
  | [], ts, cs => by
    simp only [List.nil_append, T.hasL]
    constructor
    · intro h; exact ⟨[], cs, rfl, rfl, h⟩
    · rintro ⟨a, r, rfl, rfl, h⟩; exact h
  | u :: us, ts, cs => by
    simp only [List.cons_append, T.hasL, hasL_app us ts]
    constructor
    · rintro ⟨a, r, rfl, hu, b, c, rfl, h1, h2⟩; exact ⟨a ++ b, c, by simp, ⟨a, b, rfl, hu, h1⟩, h2⟩
    · rintro ⟨_, c, rfl, ⟨a, b, rfl, hu, h1⟩, h2⟩; exact ⟨a, b ++ c, by simp, hu, b, c, rfl, h1, h2⟩
theorem hasL_st (us ts : List T) (cs : List C) : T.hasL (.st us :: ts) cs ↔ T.hasL (us ++ ts) cs := by
  rw [hasL_app]; simp only [T.hasL, T.has]
theorem hasL_sl (es : Nat) (e : T) (ts : List T) (cs : List C) : T.hasL (.sl es e :: ts) cs ↔ ∃ k l r, cs = .sl k es l :: r ∧ l.length ≤ maxLen ∧ (∀ x ∈ l, T.has e x) ∧ (k = .nil → l = []) ∧ (l = [] → True) ∧ T.hasL ts r := by
  simp only [T.hasL, T.has]
  constructor
  · rintro ⟨a, r, rfl, ha, h⟩
    rcases ha with rfl | ⟨k, l, rfl, hk, hl, hx⟩
    · exact ⟨.nil, [], r, rfl, Nat.zero_le _, by simp, fun _ => rfl, fun _ => trivial, h⟩
    · exact ⟨k, l, r, rfl, hl, hx, fun e => absurd e hk, fun _ => trivial, h⟩
  · rintro ⟨k, l, r, rfl, hl, hx, hk, -, h⟩
    refine ⟨[.sl k es l], r, rfl, ?_, h⟩
    by_cases e : k = .nil
    · have := hk e; subst this; subst e; exact .inl rfl
    · exact .inr ⟨k, l, rfl, e, hl, hx⟩
theorem all_map {α : Type} (e : T) (c : α → List C) (h : ∀ x, T.has e x → ∃ a, x = c a) : ∀ (l : List (List C)), (∀ x ∈ l, T.has e x) → ∃ ys : List α, l = ys.map c
  | [], _ => ⟨[], rfl⟩
  | x :: l, hl => by
    obtain ⟨a, rfl⟩ := h x (hl x (by simp))
    obtain ⟨ys, rfl⟩ := all_map e c h l (fun y hy => hl y (by simp [hy]))
    exact ⟨a :: ys, rfl⟩
end Go.Pm
namespace Go.Pm.Cd
def i1 : T := .int .i64
def spanT : T := .st [i1, i1]
def dayT : T := .st [i1, spanT, .st [i1, i1]]
def orderT : T := .st [i1, i1, i1]
def countT : T := .st [i1, i1, i1, i1]
def bookT : T := .st [.st [spanT, spanT], .st [spanT, spanT], .sl 5 dayT, .sl 3 orderT, .sl 4 countT]
theorem day_of (x : List C) (h : T.has dayT x) : ∃ d : Day, x = d.c := by
  simp only [dayT, spanT, i1, T.has, hasL_int, hasL_st, List.cons_append, List.nil_append, hasL_nil] at h
  obtain ⟨n, r, rfl, -, n2, r2, rfl, -, n3, r3, rfl, -, n4, r4, rfl, -, n5, r5, rfl, -, rfl⟩ := h
  exact ⟨⟨n, ⟨n2, n3⟩, n4, n5⟩, rfl⟩
theorem order_of (x : List C) (h : T.has orderT x) : ∃ d : Order, x = d.c := by
  simp only [orderT, i1, T.has, hasL_int, hasL_st, List.cons_append, List.nil_append, hasL_nil] at h
  obtain ⟨n, r, rfl, -, n2, r2, rfl, -, n3, r3, rfl, -, rfl⟩ := h
  exact ⟨⟨n, n2, n3⟩, rfl⟩
theorem count_of (x : List C) (h : T.has countT x) : ∃ d : Count, x = d.c := by
  simp only [countT, i1, T.has, hasL_int, hasL_st, List.cons_append, List.nil_append, hasL_nil] at h
  obtain ⟨n, r, rfl, -, n2, r2, rfl, -, n3, r3, rfl, -, n4, r4, rfl, -, rfl⟩ := h
  exact ⟨⟨n, n2, n3, n4⟩, rfl⟩
theorem book_of (v : V) (h : bookT.hasV v) : ∃ b : Book, v = .agg b.c ∧ b.Fits := by
  simp only [bookT, T.hasV] at h
  obtain ⟨cl, rfl, h⟩ := h
  simp only [spanT, i1, hasL_int, hasL_st, hasL_sl, List.cons_append, List.nil_append, hasL_nil] at h
  obtain ⟨n, r, rfl, -, n2, r2, rfl, -, n3, r3, rfl, -, n4, r4, rfl, -, n5, r5, rfl, -, n6, r6, rfl, -, n7, r7, rfl, -, n8, r8, rfl, -, k1, l1, r9, rfl, m1, a1, -, -, k2, l2, r10, rfl, m2, a2, -, -, k3, l3, r11, rfl, m3, a3, -, -, rfl⟩ := h
  obtain ⟨ds, rfl⟩ := all_map dayT Day.c day_of l1 a1
  obtain ⟨os, rfl⟩ := all_map orderT Order.c order_of l2 a2
  obtain ⟨xs, rfl⟩ := all_map countT Count.c count_of l3 a3
  refine ⟨⟨⟨n, n2⟩, ⟨n3, n4⟩, ⟨n5, n6⟩, ⟨n7, n8⟩, k1, ds, k2, os, k3, xs⟩, rfl, ⟨?_, ?_, ?_⟩⟩
  · simpa [maxLen] using m1
  · simpa [maxLen] using m2
  · simpa [maxLen] using m3
theorem countV_of (v : V) (h : countT.hasV v) : ∃ y : Count, v = .agg y.c := by
  simp only [countT, T.hasV] at h
  obtain ⟨cl, rfl, h⟩ := h
  obtain ⟨y, rfl⟩ := count_of cl (by simp only [countT, T.has]; exact h)
  exact ⟨y, rfl⟩
end Go.Pm.Cd

namespace Go.Proofs.YtdndhpoinffpbaaDoor
open Go Go.Pm Go.ChangeShapes Go.WideShapes Go.ChangeAt Go.RowKit
set_option maxRecDepth 100000

instance p06 : P06 Γ1 := by constructor <;> rfl
instance g06 : Cd.G06 Γ1 := ⟨rfl, rfl⟩

theorem own : ownKnob Tryd.prog.godebug = none := by kernel_rfl
theorem laidOut : laidOutB Tryd.prog = true := by kernel_rfl
def laidL : List (String × DataW Unit) := [("decani/candle.nowhere", Rows.laid_decani_candle_nowhere), ("decani/candle.lacks", Rows.laid_decani_candle_lacks)]
theorem door_met (os : Os) (args : Array Value) : laidMetH Tryd.prog laidL ((World.doorLaid Tryd.prog 600 os).forCall (fun _ _ => 0) ⟨#[], args, []⟩).memory :=
  laidMetH_of_parts3 (fuel := 8) (laidMet_of_run' 8 (by kernel_rfl) (by kernel_rfl)) (by kernel_rfl) (by kernel_rfl)

def nameMay : List UInt8 := [40, 100, 101, 99, 97, 110, 105, 47, 99, 97, 110, 100, 108, 101, 46, 98, 111, 111, 107, 41, 46, 109, 97, 121]
def nameMust : List UInt8 := [40, 100, 101, 99, 97, 110, 105, 47, 99, 97, 110, 100, 108, 101, 46, 98, 111, 111, 107, 41, 46, 109, 117, 115, 116]
theorem globs {w : World} (h : laidMetH Tryd.prog laidL w) : ∀ id ∈ G1, RC S1 (.start w) (.eptr (S1.Γ.glob id) 0) (.pointer (some ⟨S1.gm id, 0, none⟩)) := by
  intro id hid
  have : id = 1 ∨ id = 2 := by simpa [G1] using hid
  rcases this with rfl | rfl
  · exact glob_ints (S := S1) (n := "decani/candle.nowhere") (b := 0) (t := 114) (k := 2) (d := 8) (zs := [-1, -1]) h (List.Mem.head _) (by kernel_rfl) (by kernel_rfl) (by kernel_rfl)
  · exact glob_funcs (S := S1) (n := "decani/candle.lacks") (b := 1) (t := 126) (e := 125) (k := 2) (ps := #[85, 3, 3]) (rs := #[4]) (va := false) (ids := [85, 86]) (names := [nameMay, nameMust]) h (List.Mem.tail _ (List.Mem.head _)) (by kernel_rfl) (by kernel_rfl) (by kernel_rfl) (by kernel_rfl) (by kernel_rfl) (by kernel_rfl) rfl rfl (by kernel_rfl)
end Go.Proofs.YtdndhpoinffpbaaDoor

namespace Go.Pm.Cd
open Ac
set_option maxRecDepth 100000
set_option linter.unusedSimpArgs false
set_option linter.unusedSectionVars false
set_option linter.unusedVariables false

def Book.stock (b : Book) (k : Int) : Span := if k = 0 then b.s0 else b.s1
def Book.life (b : Book) (k : Int) : Span := if k = 0 then b.f0 else b.f1
def Day.lights (x : Day) (k : Int) : Int := if k = 0 then x.l0 else x.l1
def Book.runK (b : Book) (k n f : Int) (dk : Nat → Int) : Nat → Int
  | 0 => n
  | d + 1 => match b.days[d]? with
    | none => b.runK k n f dk d
    | some x => after1 (b.runK k n f dk d) (got2 b.comes k d) f (x.lights k) (min x.hours (dk d))
theorem runK_succ (b : Book) (k n f : Int) (dk : Nat → Int) {d : Nat} {x : Day} (hx : b.days[d]? = some x) : b.runK k n f dk (d + 1) = after1 (b.runK k n f dk d) (got2 b.comes k d) f (x.lights k) (min x.hours (dk d)) := by
  simp only [Book.runK, hx]
theorem run_K (b : Book) (n0 f0 n1 f1 : Int) (dk : Nat → Int) : ∀ d, b.run n0 f0 n1 f1 dk d = (b.runK 0 n0 f0 dk d, b.runK 1 n1 f1 dk d)
  | 0 => rfl
  | d + 1 => by
    simp only [Book.run, Book.runK, run_K b n0 f0 n1 f1 dk d]
    cases b.days[d]? with
    | none => rfl
    | some x => rfl
theorem runK_agree (b : Book) (k n f : Int) (dk dk' : Nat → Int) : ∀ (d : Nat), (∀ e, e < d → dk e = dk' e) → b.runK k n f dk d = b.runK k n f dk' d
  | 0, _ => rfl
  | d + 1, h => by
    have ih := runK_agree b k n f dk dk' d (fun e he => h e (by omega))
    simp only [Book.runK, ih, h d (by omega)]

structure Way (b : Book) (but : List Int) (n f : Int → Int) (dk : Nat → Int) : Prop where
  stock : ∀ k, k = 0 ∨ k = 1 → (b.stock k).has (n k)
  life : ∀ k, k = 0 ∨ k = 1 → (b.life k).has (f k)
  dark : ∀ (d : Nat) (x : Day), b.days[d]? = some x → x.dark.has (dk d)
  right : ∀ (i : Nat) (x : Count), b.counts[i]? = some x → but.contains (i : Int) = false → within (x.left - b.runK x.kind (n x.kind) (f x.kind) dk (x.day.toNat + 1)) (-x.err) x.err = true

structure Says (b : Book) (n f : Int → Int) (dk : Nat → Int) (t : List Int) : Prop where
  life : ∀ k, k = 0 ∨ k = 1 → tLife k t = f k
  left : ∀ k, k = 0 ∨ k = 1 → ∀ d : Int, 0 ≤ d → d < b.days.length → tLeft k d t = b.runK k (n k) (f k) dk (d.toNat + 1)
  dark : ∀ d : Int, 0 ≤ d → d < b.days.length → tDark d t = dk d.toNat

theorem right_iff {b : Book} (hv : b.sane = true) (but : List Int) (n f : Int → Int) (dk : Nat → Int) :
    (∀ d, d < b.days.length → b.rightOn but d (b.runK 0 (n 0) (f 0) dk (d + 1)) (b.runK 1 (n 1) (f 1) dk (d + 1)) = true) ↔
    (∀ (i : Nat) (x : Count), b.counts[i]? = some x → but.contains (i : Int) = false → within (x.left - b.runK x.kind (n x.kind) (f x.kind) dk (x.day.toNat + 1)) (-x.err) x.err = true) := by
  have hk : ∀ (x : Count), x ∈ b.counts → (0 ≤ x.day ∧ x.day ≤ b.days.length - 1) ∧ (x.kind = 0 ∨ x.kind = 1) := fun x hx => by
    have := valid_counts hv x hx
    simp only [Book.isCount, Bool.and_eq_true, within_iff] at this
    omega
  have hsel : ∀ (x : Count), x ∈ b.counts → ∀ d : Nat, (d : Int) = x.day → (if x.kind = 0 then b.runK 0 (n 0) (f 0) dk (d + 1) else b.runK 1 (n 1) (f 1) dk (d + 1)) = b.runK x.kind (n x.kind) (f x.kind) dk (x.day.toNat + 1) := fun x hx d hd => by
    have e : x.day.toNat = d := by omega
    rcases (hk x hx).2 with h | h
    · rw [if_pos h, h, e]
    · rw [if_neg (by omega), h, e]
  constructor
  · intro h i x hx hb
    have hm := List.mem_of_getElem? hx
    obtain ⟨⟨h1, h2⟩, -⟩ := hk x hm
    have hr := h x.day.toNat (by omega)
    simp only [Book.rightOn, Option.isNone_iff_eq_none] at hr
    have := findFrom_none.1 hr i x hx
    simp only [Count.off, Nat.zero_add, hsel x hm x.day.toNat (by omega), hb] at this
    have e : decide (x.day = (x.day.toNat : Int)) = true := decide_eq_true (by omega)
    rw [e, Bool.true_and] at this
    simpa using this
  · intro h d hd
    simp only [Book.rightOn, Option.isNone_iff_eq_none]
    rw [findFrom_none]
    intro i x hx
    have hm := List.mem_of_getElem? hx
    simp only [Count.off, Nat.zero_add]
    by_cases hday : x.day = (d : Int)
    · rw [hsel x hm d hday.symm]
      cases hb : but.contains (i : Int) with
      | true => simp
      | false => simp [h i x hx hb]
    · simp [hday]

theorem truth_way {b : Book} (hv : b.sane = true) {but : List Int} {t : List Int} (ht : t ∈ b.truths but) : ∃ n f dk, Way b but n f dk ∧ Says b n f dk t := by
  obtain ⟨n0, f0, n1, f1, dk, h0, h1, h2, h3, hG⟩ := truth_good hv ht
  have hr := (right_iff hv but (fun k => if k = 0 then n0 else n1) (fun k => if k = 0 then f0 else f1) dk).1 (fun d hd => by
    have := hG.right d hd
    simp only [run_K] at this
    simpa using this)
  refine ⟨fun k => if k = 0 then n0 else n1, fun k => if k = 0 then f0 else f1, dk, ⟨?_, ?_, fun d x hx => hG.dark d x (List.getElem?_eq_some_iff.1 hx).1 hx, hr⟩, ⟨?_, ?_, ?_⟩⟩
  · rintro k (rfl | rfl)
    · exact h0
    · exact h2
  · rintro k (rfl | rfl)
    · exact h1
    · exact h3
  · rintro k (rfl | rfl)
    · exact hG.l0
    · exact hG.l1
  · rintro k (rfl | rfl) d hd0 hd
    · have := hG.a0 d.toNat (by omega)
      rw [run_K] at this
      exact this
    · have := hG.a1 d.toNat (by omega)
      rw [run_K] at this
      have e : 7 + d.toNat * 2 + (1 : Int).toNat = 7 + (d.toNat * 2 + 1) := by simp; omega
      simp only [tLeft]
      rw [e]; exact this
  · intro d hd0 hd
    exact hG.dks d.toNat (by omega)

theorem way_truth {b : Book} (hv : b.sane = true) {but : List Int} {n f : Int → Int} {dk : Nat → Int} (w : Way b but n f dk) : ∃ t, t ∈ b.truths but ∧ Says b n f dk t := by
  have hr := (right_iff hv but n f dk).2 w.right
  obtain ⟨t, ht, hG⟩ := truth_all hv but (n0 := n 0) (f0 := f 0) (n1 := n 1) (f1 := f 1) (dk := dk) (w.stock 0 (.inl rfl)) (w.life 0 (.inl rfl)) (w.stock 1 (.inr rfl)) (w.life 1 (.inr rfl)) w.dark (fun d hd => by
    have := hr d hd
    rw [run_K]; exact this)
  refine ⟨t, ht, ⟨?_, ?_, ?_⟩⟩
  · rintro k (rfl | rfl)
    · exact hG.l0
    · exact hG.l1
  · rintro k (rfl | rfl) d hd0 hd
    · have := hG.a0 d.toNat (by omega)
      rw [run_K] at this
      exact this
    · have := hG.a1 d.toNat (by omega)
      rw [run_K] at this
      have e : 7 + d.toNat * 2 + (1 : Int).toNat = 7 + (d.toNat * 2 + 1) := by simp; omega
      simp only [tLeft]
      rw [e]; exact this
  · intro d hd0 hd
    exact hG.dks d.toNat (by omega)

theorem truths_ne {b : Book} (hv : b.sane = true) (but : List Int) : b.truths but ≠ [] ↔ ∃ n f dk, Way b but n f dk := by
  constructor
  · intro h
    obtain ⟨t, ht⟩ := List.exists_mem_of_ne_nil _ h
    obtain ⟨n, f, dk, w, -⟩ := truth_way hv ht
    exact ⟨n, f, dk, w⟩
  · rintro ⟨n, f, dk, w⟩ e
    obtain ⟨t, ht, -⟩ := way_truth hv w
    rw [e] at ht; cases ht

def Book.bare (b : Book) : Book := { b with kc := .nil, counts := [] }
@[go_sem] theorem bare_set (b : Book) : b.c.set 10 (C.sl .nil 4 []) = b.bare.c := nrfl rfl
theorem bare_way {b : Book} {n f : Int → Int} {dk : Nat → Int} (h0 : ∀ k, k = 0 ∨ k = 1 → (b.stock k).has (n k)) (h1 : ∀ k, k = 0 ∨ k = 1 → (b.life k).has (f k)) (h2 : ∀ (d : Nat) (x : Day), b.days[d]? = some x → x.dark.has (dk d)) : Way b.bare [] n f dk :=
  ⟨h0, h1, h2, fun i x hx => by simp [Book.bare] at hx⟩
theorem bare_valid {b : Book} (hv : b.valid = true) : b.bare.valid = true := by
  simp only [Book.valid, Bool.and_eq_true, decide_eq_true_eq] at hv ⊢
  refine ⟨⟨⟨⟨⟨⟨⟨⟨⟨hv.1.1.1.1.1.1.1.1.1, hv.1.1.1.1.1.1.1.1.2⟩, ?_⟩, hv.1.1.1.1.1.1.2⟩, hv.1.1.1.1.1.2⟩, hv.1.1.1.1.2⟩, hv.1.1.1.2⟩, hv.1.1.2⟩, hv.1.2⟩, ?_⟩
  · simp [Book.bare]
  · simp [Book.bare]
theorem span_has {b : Book} (hv : b.sane = true) : (∀ k, k = 0 ∨ k = 1 → (b.stock k).lo ≤ (b.stock k).hi) ∧ (∀ k, k = 0 ∨ k = 1 → (b.life k).lo ≤ (b.life k).hi ∧ 1 ≤ (b.life k).lo ∧ (b.life k).hi ≤ 6) := by
  have := valid_spans hv
  refine ⟨?_, ?_⟩
  · rintro k (rfl | rfl)
    · exact this.1.2.1
    · exact this.2.2.1.2.1
  · rintro k (rfl | rfl)
    · exact ⟨this.2.1.2.1, this.2.1.1, this.2.1.2.2.1⟩
    · exact ⟨this.2.2.2.2.1, this.2.2.2.1, this.2.2.2.2.2.1⟩
def Book.dusk (b : Book) (d : Nat) : Int := match b.days[d]? with | some x => x.dark.lo | none => 0
theorem bare_ne {b : Book} (hv : b.sane = true) (hv' : b.bare.sane = true) : b.bare.truths [] ≠ [] := by
  rw [truths_ne hv']
  have hs := span_has hv
  refine ⟨fun k => (b.stock k).lo, fun k => (b.life k).lo, b.dusk, bare_way (fun k hk => ⟨Int.le_refl _, hs.1 k hk⟩) (fun k hk => ⟨Int.le_refl _, (hs.2 k hk).1⟩) (fun d x hx => ?_)⟩
  have := (valid_day hv hx).2.1
  simp only [Book.dusk, hx]
  exact ⟨Int.le_refl _, by omega⟩

theorem comes_bound {b : Book} (hv : b.sane = true) (k d : Int) : 0 ≤ got2 b.comes k d ∧ got2 b.comes k d ≤ 240 := by
  have := comesN_bound hv b.orders.length (Nat.le_refl _) k d
  rw [comesN_all] at this
  have := valid_days hv; omega
section
variable {Γ : Env} [P06 Γ] [G06 Γ]
end
end Go.Pm.Cd

namespace Go.Pm.Cd
open Ac
set_option maxRecDepth 100000
set_option linter.unusedSimpArgs false
set_option linter.unusedSectionVars false
set_option linter.unusedVariables false

def ownF (es : Nat) (L : List (List C)) : C := match L with | [] => .sl .full es [] | _ :: _ => .own es L
theorem appended_ownF0 (es : Nat) (k : SK) (L : List (List C)) (hr : L.length ≤ room) : appended es (.sc (.sl .full es [])) (.sc (.sl k es L)) = some (ownF es L) := by
  cases L with
  | nil => simp [appended, elems, ownF]
  | cons x l => simp only [appended, elems, ownF, if_true]; simp at hr; simp [hr]
theorem appended_ownF (es : Nat) (k : SK) (L : List (List C)) (x : List C) (hr : L.length + 1 ≤ room) : appended es (.sc (ownF es L)) (.sc (.sl k es [x])) = some (.own es (L ++ [x])) := by
  cases L with
  | nil => simp [appended, elems, ownF, room]
  | cons y l => simp only [appended, elems, ownF, if_true]; simp at hr; simp [hr]
@[go_sem] theorem cells_ownF (es : Nat) (L : List (List C)) : (V.sc (ownF es L)).cells = [ownF es L] := by cases L <;> rfl
@[go_sem] theorem under_ownF (n es : Nat) (L : List (List C)) : C.under n (ownF es L) = true := by cases L <;> simp [ownF, C.under]

def Book.withO (b : Book) (x : Order) : Book := { b with ko := .shared, orders := b.orders ++ [x] }
def ownO (b : Book) (x : Order) : List C := [ci b.s0.lo, ci b.s0.hi, ci b.s1.lo, ci b.s1.hi, ci b.f0.lo, ci b.f0.hi, ci b.f1.lo, ci b.f1.hi, .sl b.kd 5 (b.days.map Day.c), .own 3 (b.orders.map Order.c ++ [x.c]), .sl b.kc 4 (b.counts.map Count.c)]
@[go_sem] theorem ownO_set (b : Book) (x : Order) : b.c.set 9 (.own 3 (b.orders.map Order.c ++ [x.c])) = ownO b x := nrfl rfl
@[go_sem] theorem ownO_all (b : Book) (x : Order) : cellsAt (ownO b x) 0 11 = some (ownO b x) := nrfl rfl
@[go_sem] theorem ownO_un (b : Book) (x : Order) : (ownO b x).map unown = (b.withO x).c := by
  simp [ownO, Book.withO, Book.c, unown]
@[go_sem] theorem ownO_under (b : Book) (x : Order) (n : Nat) : C.underL n (ownO b x) = true := by simp [ownO, go_sem]

section
variable {Γ : Env} [P06 Γ] [G06 Γ]
end
end Go.Pm.Cd

namespace Go.Pm.Cd
open Ac
set_option maxRecDepth 100000
set_option linter.unusedSimpArgs false
set_option linter.unusedSectionVars false
set_option linter.unusedVariables false

@[go_sem] theorem bin_shl (k : IntKind) (x y : Int) : bin .shl (.sc (.int k x)) (.sc (.int .i64 y)) = br (decide (y < 0)) none (some (.int k (k.wrap (x * 2 ^ (Nat.min y.toNat k.bits))))) := by
  simp only [bin, shifted]; by_cases h : y < 0 <;> simp [h]
@[go_sem] theorem bin_shr (k : IntKind) (x y : Int) : bin .shr (.sc (.int k x)) (.sc (.int .i64 y)) = br (decide (y < 0)) none (some (.int k (x.fdiv (2 ^ (Nat.min y.toNat k.bits))))) := by
  simp only [bin, shifted]; by_cases h : y < 0 <;> simp [h]
@[go_sem] theorem bin_and (k : IntKind) (x y : Int) : bin .and (.sc (.int k x)) (.sc (.int k y)) = some (.int k (wrapBits k (BitVec.ofInt k.bits x &&& BitVec.ofInt k.bits y))) := by simp [bin, arith]

def hasBit (set n : Int) : Bool := decide (0 ≤ n) && decide (n < 62) && decide (wrapBits .i64 (BitVec.ofInt 64 (set.fdiv (2 ^ n.toNat)) &&& BitVec.ofInt 64 1) = 1)
def bitsN (set : Int) (i : Nat) : List Int := ((List.range i).filter fun (j : Nat) => hasBit set (j : Int)).map fun (j : Nat) => (j : Int)
theorem bitsN_succ (set : Int) (i : Nat) : bitsN set (i + 1) = if hasBit set i then bitsN set i ++ [(i : Int)] else bitsN set i := by
  simp only [bitsN, List.range_succ, List.filter_append, List.map_append]
  cases h : hasBit set (i : Int) <;> simp [h]
def kF {α : Type} (L : List α) : SK := match L with | [] => .full | _ :: _ => .shared
theorem unown_ownF (es : Nat) (L : List (List C)) : unown (ownF es L) = .sl (kF L) es L := by cases L <;> rfl
theorem ownF_app (es : Nat) (L : List (List C)) (x : List C) : ownF es (L ++ [x]) = .own es (L ++ [x]) := by cases L <;> rfl
theorem kF_map {α β : Type} (f : α → β) (L : List α) : kF (L.map f) = kF L := by cases L <;> rfl

def earlier (l m : List Int) : Bool := match findFrom (fun _ (p : Int × Int) => decide (p.1 ≠ p.2)) 0 (l.zip m) with | some (_, p) => decide (p.1 < p.2) | none => decide ((l.length : Int) < m.length)
def shorter (l m : List Int) : Bool := decide ((l.length : Int) < m.length) || (decide ((l.length : Int) = m.length) && earlier l m)
section
variable {Γ : Env} [P06 Γ] [G06 Γ]
@[go_sem] theorem Has_k (set n : Int) : K Γ (.fn 65) [vi set, vi n] [] = some (vb (hasBit set n), []) := by
  rw [K_fn P06.f65 _ _ rfl]
  by_cases h0 : 0 ≤ n
  · by_cases h1 : n < 62
    · have hm : Nat.min n.toNat 64 = n.toNat := Nat.min_eq_left (by omega)
      have hn : decide (n < 0) = false := decide_eq_false (by omega)
      have d0 := decide_eq_true h0
      have d1 := decide_eq_true h1
      (simp only [go_sem, simprocAttr, decaniref00_Has, d0, d1, hn, hm, hasBit]; repeat' (first | ((first | (refine br_yes (by omega) ?_) | (refine br_no (by omega) ?_) | (apply br_all; (· simp only [Bool.and_eq_true, decide_eq_true_eq]; omega)) | (apply br_free; (· simp [go_sem, Pm.acc, Acc.free, refsOf, offOf, keyEq, tagEq, cellsEq, cellEq]; done)) | ((first | apply br_mergeT | apply br_mergeF); (· intro h; simp only [go_sem, simprocAttr, sel_of h, decaniref00_Has, d0, d1, hn, hm, hasBit]; exact rfl))); (try simp only [go_sem, simprocAttr, decaniref00_Has, d0, d1, hn, hm, hasBit])) | ((first | apply onGuard_sel | (apply pickV_split; apply br_split) | apply br_split) <;> intro h <;> (try simp only [go_sem, simprocAttr, h, decaniref00_Has, d0, d1, hn, hm, hasBit]))))
      rfl
    · have d0 := decide_eq_true h0
      have d1 := decide_eq_false h1
      (simp only [go_sem, simprocAttr, decaniref00_Has, d0, d1, hasBit, Bool.false_and]; repeat' (first | ((first | (refine br_yes (by omega) ?_) | (refine br_no (by omega) ?_) | (apply br_all; (· simp only [Bool.and_eq_true, decide_eq_true_eq]; omega)) | (apply br_free; (· simp [go_sem, Pm.acc, Acc.free, refsOf, offOf, keyEq, tagEq, cellsEq, cellEq]; done)) | ((first | apply br_mergeT | apply br_mergeF); (· intro h; simp only [go_sem, simprocAttr, sel_of h, decaniref00_Has, d0, d1, hasBit, Bool.false_and]; exact rfl))); (try simp only [go_sem, simprocAttr, decaniref00_Has, d0, d1, hasBit, Bool.false_and])) | ((first | apply onGuard_sel | (apply pickV_split; apply br_split) | apply br_split) <;> intro h <;> (try simp only [go_sem, simprocAttr, h, decaniref00_Has, d0, d1, hasBit, Bool.false_and]))))
  · have d0 := decide_eq_false h0
    (simp only [go_sem, simprocAttr, decaniref00_Has, d0, hasBit, Bool.false_and]; repeat' (first | ((first | (refine br_yes (by omega) ?_) | (refine br_no (by omega) ?_) | (apply br_all; (· simp only [Bool.and_eq_true, decide_eq_true_eq]; omega)) | (apply br_free; (· simp [go_sem, Pm.acc, Acc.free, refsOf, offOf, keyEq, tagEq, cellsEq, cellEq]; done)) | ((first | apply br_mergeT | apply br_mergeF); (· intro h; simp only [go_sem, simprocAttr, sel_of h, decaniref00_Has, d0, hasBit, Bool.false_and]; exact rfl))); (try simp only [go_sem, simprocAttr, decaniref00_Has, d0, hasBit, Bool.false_and])) | ((first | apply onGuard_sel | (apply pickV_split; apply br_split) | apply br_split) <;> intro h <;> (try simp only [go_sem, simprocAttr, h, decaniref00_Has, d0, hasBit, Bool.false_and]))))

@[go_sem] theorem Bits_k (set below : Int) (hb : 0 ≤ below ∧ below ≤ 1000) : K Γ (.fn 35) [vi set, vi below] [] = some (.sc (.sl (kF (bitsN set below.toNat)) 1 ((bitsN set below.toNat).map fun x => [ci x])), []) := by
  rw [K_fn P06.f35 _ _ rfl]
  (simp only [go_sem, simprocAttr, decaniref00_Bits]; repeat' (first | ((first | (refine br_yes (by omega) ?_) | (refine br_no (by omega) ?_) | (apply br_all; (· simp only [Bool.and_eq_true, decide_eq_true_eq]; omega)) | (apply br_free; (· simp [go_sem, Pm.acc, Acc.free, refsOf, offOf, keyEq, tagEq, cellsEq, cellEq]; done)) | ((first | apply br_mergeT | apply br_mergeF); (· intro h; simp only [go_sem, simprocAttr, sel_of h, decaniref00_Bits]; exact rfl))); (try simp only [go_sem, simprocAttr, decaniref00_Bits])) | ((first | apply onGuard_sel | (apply pickV_split; apply br_split) | apply br_split) <;> intro h <;> (try simp only [go_sem, simprocAttr, h, decaniref00_Bits]))))
  refine E_countS below.toNat (fun i (_ : Unit) => ⟨[(0, vi set), (1, vi below), (5, .sc (ownF 1 ((bitsN set i).map fun x => [ci x]))), (6, vi i)], []⟩) (fun i _ => (bitsN set i).length ≤ i)
    (fun _ => (.exit 0, ⟨[(0, vi set), (1, vi below), (5, .sc (ownF 1 ((bitsN set below.toNat).map fun x => [ci x]))), (6, vi below), (10, vb false)], []⟩)) () rfl (by simp [bitsN]) ?_ ?_ ?_
  · intro i _ hi hlen
    have hlt := decide_eq_true (show (i : Int) < below by omega)
    have hiw : IntKind.i64.wrap ((i : Int) + 1) = i + 1 := wrap_i64 (by omega) (by omega)
    have hA := appended_ownF 1 .full ((bitsN set i).map fun x => [ci x]) [ci i] (by simp only [List.length_map, room]; omega)
    refine ⟨(), ?_, ?_⟩
    · rw [bitsN_succ]; split
      · simp; omega
      · omega
    · rw [bitsN_succ]
      cases h : hasBit set (i : Int) with
      | true =>
        rw [if_pos rfl, List.map_append, List.map_cons, List.map_nil, ownF_app]
        (simp only [go_sem, simprocAttr, decaniref00_Bits_B0, hlt, h, hA, hiw]; repeat' (first | ((first | (refine br_yes (by omega) ?_) | (refine br_no (by omega) ?_) | (apply br_all; (· simp only [Bool.and_eq_true, decide_eq_true_eq]; omega)) | (apply br_free; (· simp [go_sem, Pm.acc, Acc.free, refsOf, offOf, keyEq, tagEq, cellsEq, cellEq]; done)) | ((first | apply br_mergeT | apply br_mergeF); (· intro h; simp only [go_sem, simprocAttr, sel_of h, decaniref00_Bits_B0, hlt, h, hA, hiw]; exact rfl))); (try simp only [go_sem, simprocAttr, decaniref00_Bits_B0, hlt, h, hA, hiw])) | ((first | apply onGuard_sel | (apply pickV_split; apply br_split) | apply br_split) <;> intro h <;> (try simp only [go_sem, simprocAttr, h, decaniref00_Bits_B0, hlt, h, hA, hiw]))))
        rfl
      | false =>
        rw [if_neg (by decide)]
        (simp only [go_sem, simprocAttr, decaniref00_Bits_B0, hlt, h, hiw]; repeat' (first | ((first | (refine br_yes (by omega) ?_) | (refine br_no (by omega) ?_) | (apply br_all; (· simp only [Bool.and_eq_true, decide_eq_true_eq]; omega)) | (apply br_free; (· simp [go_sem, Pm.acc, Acc.free, refsOf, offOf, keyEq, tagEq, cellsEq, cellEq]; done)) | ((first | apply br_mergeT | apply br_mergeF); (· intro h; simp only [go_sem, simprocAttr, sel_of h, decaniref00_Bits_B0, hlt, h, hiw]; exact rfl))); (try simp only [go_sem, simprocAttr, decaniref00_Bits_B0, hlt, h, hiw])) | ((first | apply onGuard_sel | (apply pickV_split; apply br_split) | apply br_split) <;> intro h <;> (try simp only [go_sem, simprocAttr, h, decaniref00_Bits_B0, hlt, h, hiw]))))
        rfl
  · intro _ _
    have hm : (below.toNat : Int) = below := by omega
    simp only [hm]
    (simp only [go_sem, simprocAttr, decaniref00_Bits_B0]; repeat' (first | ((first | (refine br_yes (by omega) ?_) | (refine br_no (by omega) ?_) | (apply br_all; (· simp only [Bool.and_eq_true, decide_eq_true_eq]; omega)) | (apply br_free; (· simp [go_sem, Pm.acc, Acc.free, refsOf, offOf, keyEq, tagEq, cellsEq, cellEq]; done)) | ((first | apply br_mergeT | apply br_mergeF); (· intro h; simp only [go_sem, simprocAttr, sel_of h, decaniref00_Bits_B0]; exact rfl))); (try simp only [go_sem, simprocAttr, decaniref00_Bits_B0])) | ((first | apply onGuard_sel | (apply pickV_split; apply br_split) | apply br_split) <;> intro h <;> (try simp only [go_sem, simprocAttr, h, decaniref00_Bits_B0]))))
  · intro _ _
    (simp only [go_sem, simprocAttr, unown_ownF, kF_map]; repeat' (first | ((first | (refine br_yes (by omega) ?_) | (refine br_no (by omega) ?_) | (apply br_all; (· simp only [Bool.and_eq_true, decide_eq_true_eq]; omega)) | (apply br_free; (· simp [go_sem, Pm.acc, Acc.free, refsOf, offOf, keyEq, tagEq, cellsEq, cellEq]; done)) | ((first | apply br_mergeT | apply br_mergeF); (· intro h; simp only [go_sem, simprocAttr, sel_of h, unown_ownF, kF_map]; exact rfl))); (try simp only [go_sem, simprocAttr, unown_ownF, kF_map])) | ((first | apply onGuard_sel | (apply pickV_split; apply br_split) | apply br_split) <;> intro h <;> (try simp only [go_sem, simprocAttr, h, unown_ownF, kF_map]))))

@[go_sem] theorem Earlier_k (k k' : SK) (l m : List Int) (hl : l.length ≤ 1000000) (hm : m.length ≤ 1000000) : K Γ (.fn 67) [.sc (.sl k 1 (l.map fun x => [ci x])), .sc (.sl k' 1 (m.map fun x => [ci x]))] [] = some (vb (earlier l m), []) := by
  rw [K_fn P06.f67 _ _ rfl]
  (simp only [go_sem, simprocAttr, decaniref00_Earlier]; repeat' (first | ((first | (refine br_yes (by omega) ?_) | (refine br_no (by omega) ?_) | (apply br_all; (· simp only [Bool.and_eq_true, decide_eq_true_eq]; omega)) | (apply br_free; (· simp [go_sem, Pm.acc, Acc.free, refsOf, offOf, keyEq, tagEq, cellsEq, cellEq]; done)) | ((first | apply br_mergeT | apply br_mergeF); (· intro h; simp only [go_sem, simprocAttr, sel_of h, decaniref00_Earlier]; exact rfl))); (try simp only [go_sem, simprocAttr, decaniref00_Earlier])) | ((first | apply onGuard_sel | (apply pickV_split; apply br_split) | apply br_split) <;> intro h <;> (try simp only [go_sem, simprocAttr, h, decaniref00_Earlier]))))
  have hz : (l.zip m).length ≤ l.length ∧ (l.zip m).length ≤ m.length := by simp [List.length_zip]; omega
  have hzm : (l.zip m).length = l.length ∨ (l.zip m).length = m.length := by simp [List.length_zip]; omega
  obtain ⟨u, hu⟩ : ∃ u : Bool, decide (((l.zip m).length : Int) < l.length) = u := ⟨_, rfl⟩
  refine (E_find (fun i => ⟨[(0, .sc (.sl k 1 (l.map fun x => [ci x]))), (1, .sc (.sl k' 1 (m.map fun x => [ci x]))), (5, vi i)], []⟩) (l.zip m) (fun _ (p : Int × Int) => decide (p.1 ≠ p.2))
    (fun i p => (.ret, ⟨[(4, vb (decide (p.1 < p.2)))], []⟩)) (.exit 0, ⟨[(0, .sc (.sl k 1 (l.map fun x => [ci x]))), (1, .sc (.sl k' 1 (m.map fun x => [ci x]))), (5, vi (l.zip m).length), (15, vb false)], []⟩) _ ?_ ?_ ?_).trans ?_
  · intro i p hp hf
    obtain ⟨h1, h2⟩ := List.getElem?_zip_eq_some.1 hp
    have d1 := decide_eq_true (show (i : Int) < l.length by have := (List.getElem?_eq_some_iff.1 h1).1; omega)
    have d2 := decide_eq_true (show (i : Int) < m.length by have := (List.getElem?_eq_some_iff.1 h2).1; omega)
    have hi : IntKind.i64.wrap ((i : Int) + 1) = i + 1 := wrap_i64 (by have := (List.getElem?_eq_some_iff.1 h1).1; omega) (by have := (List.getElem?_eq_some_iff.1 h1).1; omega)
    have hne : decide (p.1 = p.2) = true := by
      simp only [ne_eq, decide_not, Bool.not_eq_false'] at hf; exact hf
    (simp only [go_sem, simprocAttr, decaniref00_Earlier_B0, h1, h2, d1, d2, hi, hne]; repeat' (first | ((first | (refine br_yes (by omega) ?_) | (refine br_no (by omega) ?_) | (apply br_all; (· simp only [Bool.and_eq_true, decide_eq_true_eq]; omega)) | (apply br_free; (· simp [go_sem, Pm.acc, Acc.free, refsOf, offOf, keyEq, tagEq, cellsEq, cellEq]; done)) | ((first | apply br_mergeT | apply br_mergeF); (· intro h; simp only [go_sem, simprocAttr, sel_of h, decaniref00_Earlier_B0, h1, h2, d1, d2, hi, hne]; exact rfl))); (try simp only [go_sem, simprocAttr, decaniref00_Earlier_B0, h1, h2, d1, d2, hi, hne])) | ((first | apply onGuard_sel | (apply pickV_split; apply br_split) | apply br_split) <;> intro h <;> (try simp only [go_sem, simprocAttr, h, decaniref00_Earlier_B0, h1, h2, d1, d2, hi, hne]))))
    rfl
  · intro i p hp hf
    obtain ⟨h1, h2⟩ := List.getElem?_zip_eq_some.1 hp
    have d1 := decide_eq_true (show (i : Int) < l.length by have := (List.getElem?_eq_some_iff.1 h1).1; omega)
    have d2 := decide_eq_true (show (i : Int) < m.length by have := (List.getElem?_eq_some_iff.1 h2).1; omega)
    have hne : decide (p.1 = p.2) = false := by
      simp only [ne_eq, decide_not, Bool.not_eq_true'] at hf; exact hf
    (simp only [go_sem, simprocAttr, decaniref00_Earlier_B0, h1, h2, d1, d2, hne]; repeat' (first | ((first | (refine br_yes (by omega) ?_) | (refine br_no (by omega) ?_) | (apply br_all; (· simp only [Bool.and_eq_true, decide_eq_true_eq]; omega)) | (apply br_free; (· simp [go_sem, Pm.acc, Acc.free, refsOf, offOf, keyEq, tagEq, cellsEq, cellEq]; done)) | ((first | apply br_mergeT | apply br_mergeF); (· intro h; simp only [go_sem, simprocAttr, sel_of h, decaniref00_Earlier_B0, h1, h2, d1, d2, hne]; exact rfl))); (try simp only [go_sem, simprocAttr, decaniref00_Earlier_B0, h1, h2, d1, d2, hne])) | ((first | apply onGuard_sel | (apply pickV_split; apply br_split) | apply br_split) <;> intro h <;> (try simp only [go_sem, simprocAttr, h, decaniref00_Earlier_B0, h1, h2, d1, d2, hne]))))
  · by_cases hlm : ((l.zip m).length : Int) < l.length
    · have d1 := decide_eq_true hlm
      have d2 : decide (((l.zip m).length : Int) < m.length) = false := decide_eq_false (by omega)
      (simp only [go_sem, simprocAttr, decaniref00_Earlier_B0, d1, d2]; repeat' (first | ((first | (refine br_yes (by omega) ?_) | (refine br_no (by omega) ?_) | (apply br_all; (· simp only [Bool.and_eq_true, decide_eq_true_eq]; omega)) | (apply br_free; (· simp [go_sem, Pm.acc, Acc.free, refsOf, offOf, keyEq, tagEq, cellsEq, cellEq]; done)) | ((first | apply br_mergeT | apply br_mergeF); (· intro h; simp only [go_sem, simprocAttr, sel_of h, decaniref00_Earlier_B0, d1, d2]; exact rfl))); (try simp only [go_sem, simprocAttr, decaniref00_Earlier_B0, d1, d2])) | ((first | apply onGuard_sel | (apply pickV_split; apply br_split) | apply br_split) <;> intro h <;> (try simp only [go_sem, simprocAttr, h, decaniref00_Earlier_B0, d1, d2]))))
    · have d1 := decide_eq_false hlm
      (simp only [go_sem, simprocAttr, decaniref00_Earlier_B0, d1]; repeat' (first | ((first | (refine br_yes (by omega) ?_) | (refine br_no (by omega) ?_) | (apply br_all; (· simp only [Bool.and_eq_true, decide_eq_true_eq]; omega)) | (apply br_free; (· simp [go_sem, Pm.acc, Acc.free, refsOf, offOf, keyEq, tagEq, cellsEq, cellEq]; done)) | ((first | apply br_mergeT | apply br_mergeF); (· intro h; simp only [go_sem, simprocAttr, sel_of h, decaniref00_Earlier_B0, d1]; exact rfl))); (try simp only [go_sem, simprocAttr, decaniref00_Earlier_B0, d1])) | ((first | apply onGuard_sel | (apply pickV_split; apply br_split) | apply br_split) <;> intro h <;> (try simp only [go_sem, simprocAttr, h, decaniref00_Earlier_B0, d1]))))
  · cases h : findFrom (fun _ (p : Int × Int) => decide (p.1 ≠ p.2)) 0 (l.zip m) with
    | none => (simp only [go_sem, simprocAttr, earlier, h]; repeat' (first | ((first | (refine br_yes (by omega) ?_) | (refine br_no (by omega) ?_) | (apply br_all; (· simp only [Bool.and_eq_true, decide_eq_true_eq]; omega)) | (apply br_free; (· simp [go_sem, Pm.acc, Acc.free, refsOf, offOf, keyEq, tagEq, cellsEq, cellEq]; done)) | ((first | apply br_mergeT | apply br_mergeF); (· intro h; simp only [go_sem, simprocAttr, sel_of h, earlier, h]; exact rfl))); (try simp only [go_sem, simprocAttr, earlier, h])) | ((first | apply onGuard_sel | (apply pickV_split; apply br_split) | apply br_split) <;> intro h <;> (try simp only [go_sem, simprocAttr, h, earlier, h]))))
    | some q => (simp only [go_sem, simprocAttr, earlier, h]; repeat' (first | ((first | (refine br_yes (by omega) ?_) | (refine br_no (by omega) ?_) | (apply br_all; (· simp only [Bool.and_eq_true, decide_eq_true_eq]; omega)) | (apply br_free; (· simp [go_sem, Pm.acc, Acc.free, refsOf, offOf, keyEq, tagEq, cellsEq, cellEq]; done)) | ((first | apply br_mergeT | apply br_mergeF); (· intro h; simp only [go_sem, simprocAttr, sel_of h, earlier, h]; exact rfl))); (try simp only [go_sem, simprocAttr, earlier, h])) | ((first | apply onGuard_sel | (apply pickV_split; apply br_split) | apply br_split) <;> intro h <;> (try simp only [go_sem, simprocAttr, h, earlier, h]))))

@[go_sem] theorem Shorter_k (k k' : SK) (l m : List Int) (hl : l.length ≤ 1000000) (hm : m.length ≤ 1000000) : K Γ (.fn 37) [.sc (.sl k 1 (l.map fun x => [ci x])), .sc (.sl k' 1 (m.map fun x => [ci x]))] [] = some (vb (shorter l m), []) := by
  have hE := Earlier_k (Γ := Γ) k k' l m hl hm
  rw [K_fn P06.f37 _ _ rfl]
  by_cases h1 : (l.length : Int) < m.length
  · have d1 := decide_eq_true h1
    (simp only [go_sem, simprocAttr, decaniref00_Shorter, d1, shorter, Bool.true_or]; repeat' (first | ((first | (refine br_yes (by omega) ?_) | (refine br_no (by omega) ?_) | (apply br_all; (· simp only [Bool.and_eq_true, decide_eq_true_eq]; omega)) | (apply br_free; (· simp [go_sem, Pm.acc, Acc.free, refsOf, offOf, keyEq, tagEq, cellsEq, cellEq]; done)) | ((first | apply br_mergeT | apply br_mergeF); (· intro h; simp only [go_sem, simprocAttr, sel_of h, decaniref00_Shorter, d1, shorter, Bool.true_or]; exact rfl))); (try simp only [go_sem, simprocAttr, decaniref00_Shorter, d1, shorter, Bool.true_or])) | ((first | apply onGuard_sel | (apply pickV_split; apply br_split) | apply br_split) <;> intro h <;> (try simp only [go_sem, simprocAttr, h, decaniref00_Shorter, d1, shorter, Bool.true_or]))))
  · have d1 := decide_eq_false h1
    by_cases h2 : (l.length : Int) = m.length
    · have d2 := decide_eq_true h2
      (simp only [go_sem, simprocAttr, decaniref00_Shorter, d1, d2, hE, shorter, Bool.false_or]; repeat' (first | ((first | (refine br_yes (by omega) ?_) | (refine br_no (by omega) ?_) | (apply br_all; (· simp only [Bool.and_eq_true, decide_eq_true_eq]; omega)) | (apply br_free; (· simp [go_sem, Pm.acc, Acc.free, refsOf, offOf, keyEq, tagEq, cellsEq, cellEq]; done)) | ((first | apply br_mergeT | apply br_mergeF); (· intro h; simp only [go_sem, simprocAttr, sel_of h, decaniref00_Shorter, d1, d2, hE, shorter, Bool.false_or]; exact rfl))); (try simp only [go_sem, simprocAttr, decaniref00_Shorter, d1, d2, hE, shorter, Bool.false_or])) | ((first | apply onGuard_sel | (apply pickV_split; apply br_split) | apply br_split) <;> intro h <;> (try simp only [go_sem, simprocAttr, h, decaniref00_Shorter, d1, d2, hE, shorter, Bool.false_or]))))
    · have d2 := decide_eq_false h2
      (simp only [go_sem, simprocAttr, decaniref00_Shorter, d1, d2, shorter, Bool.false_or, Bool.false_and]; repeat' (first | ((first | (refine br_yes (by omega) ?_) | (refine br_no (by omega) ?_) | (apply br_all; (· simp only [Bool.and_eq_true, decide_eq_true_eq]; omega)) | (apply br_free; (· simp [go_sem, Pm.acc, Acc.free, refsOf, offOf, keyEq, tagEq, cellsEq, cellEq]; done)) | ((first | apply br_mergeT | apply br_mergeF); (· intro h; simp only [go_sem, simprocAttr, sel_of h, decaniref00_Shorter, d1, d2, shorter, Bool.false_or, Bool.false_and]; exact rfl))); (try simp only [go_sem, simprocAttr, decaniref00_Shorter, d1, d2, shorter, Bool.false_or, Bool.false_and])) | ((first | apply onGuard_sel | (apply pickV_split; apply br_split) | apply br_split) <;> intro h <;> (try simp only [go_sem, simprocAttr, h, decaniref00_Shorter, d1, d2, shorter, Bool.false_or, Bool.false_and]))))

@[go_sem] theorem Equal_k (k k' : SK) (l m : List Int) (hl : l.length ≤ 1000000) (hm : m.length ≤ 1000000) : K Γ (.fn 23) [.sc (.sl k 1 (l.map fun x => [ci x])), .sc (.sl k' 1 (m.map fun x => [ci x]))] [] = some (vb (decide (l = m)), []) := by
  rw [K_fn P06.f23 _ _ rfl]
  by_cases hlm : (l.length : Int) = m.length
  · have d1 := decide_eq_true hlm
    have hz : (l.zip m).length = l.length := by simp [List.length_zip]; omega
    (simp only [go_sem, simprocAttr, decaniref00_Equal, d1]; repeat' (first | ((first | (refine br_yes (by omega) ?_) | (refine br_no (by omega) ?_) | (apply br_all; (· simp only [Bool.and_eq_true, decide_eq_true_eq]; omega)) | (apply br_free; (· simp [go_sem, Pm.acc, Acc.free, refsOf, offOf, keyEq, tagEq, cellsEq, cellEq]; done)) | ((first | apply br_mergeT | apply br_mergeF); (· intro h; simp only [go_sem, simprocAttr, sel_of h, decaniref00_Equal, d1]; exact rfl))); (try simp only [go_sem, simprocAttr, decaniref00_Equal, d1])) | ((first | apply onGuard_sel | (apply pickV_split; apply br_split) | apply br_split) <;> intro h <;> (try simp only [go_sem, simprocAttr, h, decaniref00_Equal, d1]))))
    refine (E_range (fun i (a : Bool) => ⟨[(0, .sc (.sl k 1 (l.map fun x => [ci x]))), (1, .sc (.sl k' 1 (m.map fun x => [ci x]))), (5, vb a), (6, vi i)], []⟩) (l.zip m)
      (fun i a p => if a then .inl (decide (p.1 = p.2)) else .inr (.exit 0, ⟨[(0, .sc (.sl k 1 (l.map fun x => [ci x]))), (1, .sc (.sl k' 1 (m.map fun x => [ci x]))), (5, vb false), (6, vi i), (18, vb false)], []⟩))
      (fun a => (.exit 0, ⟨[(0, .sc (.sl k 1 (l.map fun x => [ci x]))), (1, .sc (.sl k' 1 (m.map fun x => [ci x]))), (5, vb a), (6, vi (l.zip m).length), (18, vb false)], []⟩)) _ ?_ ?_ ?_ true).trans ?_
    · intro i a p a' hp hf
      obtain ⟨h1, h2⟩ := List.getElem?_zip_eq_some.1 hp
      have d1 := decide_eq_true (show (i : Int) < l.length by have := (List.getElem?_eq_some_iff.1 h1).1; omega)
      have hi : IntKind.i64.wrap ((i : Int) + 1) = i + 1 := wrap_i64 (by have := (List.getElem?_eq_some_iff.1 h1).1; omega) (by have := (List.getElem?_eq_some_iff.1 h1).1; omega)
      cases a with
      | false => simp at hf
      | true =>
        simp only [if_true, Sum.inl.injEq] at hf
        subst hf
        (simp only [go_sem, simprocAttr, decaniref00_Equal_B0, h1, h2, d1, hi]; repeat' (first | ((first | (refine br_yes (by omega) ?_) | (refine br_no (by omega) ?_) | (apply br_all; (· simp only [Bool.and_eq_true, decide_eq_true_eq]; omega)) | (apply br_free; (· simp [go_sem, Pm.acc, Acc.free, refsOf, offOf, keyEq, tagEq, cellsEq, cellEq]; done)) | ((first | apply br_mergeT | apply br_mergeF); (· intro h; simp only [go_sem, simprocAttr, sel_of h, decaniref00_Equal_B0, h1, h2, d1, hi]; exact rfl))); (try simp only [go_sem, simprocAttr, decaniref00_Equal_B0, h1, h2, d1, hi])) | ((first | apply onGuard_sel | (apply pickV_split; apply br_split) | apply br_split) <;> intro h <;> (try simp only [go_sem, simprocAttr, h, decaniref00_Equal_B0, h1, h2, d1, hi]))))
        rfl
    · intro i a p r hp hf
      cases a with
      | true => simp at hf
      | false =>
        simp only [Bool.false_eq_true, if_false, Sum.inr.injEq] at hf
        subst hf
        (simp only [go_sem, simprocAttr, decaniref00_Equal_B0]; repeat' (first | ((first | (refine br_yes (by omega) ?_) | (refine br_no (by omega) ?_) | (apply br_all; (· simp only [Bool.and_eq_true, decide_eq_true_eq]; omega)) | (apply br_free; (· simp [go_sem, Pm.acc, Acc.free, refsOf, offOf, keyEq, tagEq, cellsEq, cellEq]; done)) | ((first | apply br_mergeT | apply br_mergeF); (· intro h; simp only [go_sem, simprocAttr, sel_of h, decaniref00_Equal_B0]; exact rfl))); (try simp only [go_sem, simprocAttr, decaniref00_Equal_B0])) | ((first | apply onGuard_sel | (apply pickV_split; apply br_split) | apply br_split) <;> intro h <;> (try simp only [go_sem, simprocAttr, h, decaniref00_Equal_B0]))))
    · intro a
      have d1 : decide (((l.zip m).length : Int) < l.length) = false := decide_eq_false (by omega)
      cases a with
      | true => (simp only [go_sem, simprocAttr, decaniref00_Equal_B0, d1]; repeat' (first | ((first | (refine br_yes (by omega) ?_) | (refine br_no (by omega) ?_) | (apply br_all; (· simp only [Bool.and_eq_true, decide_eq_true_eq]; omega)) | (apply br_free; (· simp [go_sem, Pm.acc, Acc.free, refsOf, offOf, keyEq, tagEq, cellsEq, cellEq]; done)) | ((first | apply br_mergeT | apply br_mergeF); (· intro h; simp only [go_sem, simprocAttr, sel_of h, decaniref00_Equal_B0, d1]; exact rfl))); (try simp only [go_sem, simprocAttr, decaniref00_Equal_B0, d1])) | ((first | apply onGuard_sel | (apply pickV_split; apply br_split) | apply br_split) <;> intro h <;> (try simp only [go_sem, simprocAttr, h, decaniref00_Equal_B0, d1]))))
      | false => (simp only [go_sem, simprocAttr, decaniref00_Equal_B0]; repeat' (first | ((first | (refine br_yes (by omega) ?_) | (refine br_no (by omega) ?_) | (apply br_all; (· simp only [Bool.and_eq_true, decide_eq_true_eq]; omega)) | (apply br_free; (· simp [go_sem, Pm.acc, Acc.free, refsOf, offOf, keyEq, tagEq, cellsEq, cellEq]; done)) | ((first | apply br_mergeT | apply br_mergeF); (· intro h; simp only [go_sem, simprocAttr, sel_of h, decaniref00_Equal_B0]; exact rfl))); (try simp only [go_sem, simprocAttr, decaniref00_Equal_B0])) | ((first | apply onGuard_sel | (apply pickV_split; apply br_split) | apply br_split) <;> intro h <;> (try simp only [go_sem, simprocAttr, h, decaniref00_Equal_B0]))))
    · have key : ∀ (ps : List (Int × Int)) (n : Nat) (a : Bool), ∃ j e, goFold (fun (i : Nat) (a : Bool) (p : Int × Int) => if a then Sum.inl (decide (p.1 = p.2)) else Sum.inr (Ex.exit 0, (⟨[(0, .sc (.sl k 1 (l.map fun x => [ci x]))), (1, .sc (.sl k' 1 (m.map fun x => [ci x]))), (5, vb false), (6, vi i), (18, vb false)], []⟩ : St)))
          (fun a => (.exit 0, ⟨[(0, .sc (.sl k 1 (l.map fun x => [ci x]))), (1, .sc (.sl k' 1 (m.map fun x => [ci x]))), (5, vb a), (6, vi (l.zip m).length), (18, vb false)], []⟩)) n a ps =
          (.exit 0, ⟨[(0, .sc (.sl k 1 (l.map fun x => [ci x]))), (1, .sc (.sl k' 1 (m.map fun x => [ci x]))), (5, vb e), (6, vi j), (18, vb false)], []⟩) ∧ e = (a && decide (∀ p, p ∈ ps → p.1 = p.2)) := by
        intro ps
        induction ps with
        | nil => intro n a; exact ⟨_, a, rfl, by simp⟩
        | cons p ps ih =>
          intro n a
          cases a with
          | false => exact ⟨n, false, rfl, by simp⟩
          | true =>
            obtain ⟨j, e, h1, h2⟩ := ih (n + 1) (decide (p.1 = p.2))
            refine ⟨j, e, by simp only [goFold, if_true]; exact h1, ?_⟩
            rw [h2, Bool.true_and]
            by_cases hp : p.1 = p.2
            · have e1 : (∀ q, q ∈ p :: ps → q.1 = q.2) ↔ (∀ q, q ∈ ps → q.1 = q.2) := by simp [hp]
              rw [decide_eq_true hp, Bool.true_and, decide_eq_decide.2 e1]
            · have e1 : ¬ (∀ q, q ∈ p :: ps → q.1 = q.2) := fun h => hp (h p (by simp))
              rw [decide_eq_false hp, Bool.false_and, decide_eq_false e1]
      obtain ⟨j, e, h1, h2⟩ := key (l.zip m) 0 true
      rw [h1]
      have he : e = decide (l = m) := by
        rw [h2, Bool.true_and, decide_eq_decide]
        constructor
        · intro h
          apply List.ext_getElem?
          intro i
          by_cases hi : i < l.length
          · have hi' : i < m.length := by omega
            have := h (l[i], m[i]) (List.mem_of_getElem? (List.getElem?_zip_eq_some.2 ⟨List.getElem?_eq_getElem hi, List.getElem?_eq_getElem hi'⟩))
            rw [List.getElem?_eq_getElem hi, List.getElem?_eq_getElem hi']
            exact congrArg some this
          · rw [List.getElem?_eq_none (by omega), List.getElem?_eq_none (by omega)]
        · rintro rfl p hp
          obtain ⟨i, hi⟩ := List.getElem?_of_mem hp
          obtain ⟨a1, a2⟩ := List.getElem?_zip_eq_some.1 hi
          rw [a1] at a2; exact Option.some.inj a2
      subst he
      (simp only [go_sem, simprocAttr]; repeat' (first | ((first | (refine br_yes (by omega) ?_) | (refine br_no (by omega) ?_) | (apply br_all; (· simp only [Bool.and_eq_true, decide_eq_true_eq]; omega)) | (apply br_free; (· simp [go_sem, Pm.acc, Acc.free, refsOf, offOf, keyEq, tagEq, cellsEq, cellEq]; done)) | ((first | apply br_mergeT | apply br_mergeF); (· intro h; simp only [go_sem, simprocAttr, sel_of h]; exact rfl))); (try simp only [go_sem, simprocAttr])) | ((first | apply onGuard_sel | (apply pickV_split; apply br_split) | apply br_split) <;> intro h <;> (try simp only [go_sem, simprocAttr, h]))))
  · have d1 := decide_eq_false hlm
    have hne : decide (l = m) = false := decide_eq_false (fun e => hlm (by rw [e]))
    (simp only [go_sem, simprocAttr, decaniref00_Equal, d1, hne, decaniref00_Equal_L0, decaniref00_Equal_B0, E_loop]; repeat' (first | ((first | (refine br_yes (by omega) ?_) | (refine br_no (by omega) ?_) | (apply br_all; (· simp only [Bool.and_eq_true, decide_eq_true_eq]; omega)) | (apply br_free; (· simp [go_sem, Pm.acc, Acc.free, refsOf, offOf, keyEq, tagEq, cellsEq, cellEq]; done)) | ((first | apply br_mergeT | apply br_mergeF); (· intro h; simp only [go_sem, simprocAttr, sel_of h, decaniref00_Equal, d1, hne, decaniref00_Equal_L0, decaniref00_Equal_B0, E_loop]; exact rfl))); (try simp only [go_sem, simprocAttr, decaniref00_Equal, d1, hne, decaniref00_Equal_L0, decaniref00_Equal_B0, E_loop])) | ((first | apply onGuard_sel | (apply pickV_split; apply br_split) | apply br_split) <;> intro h <;> (try simp only [go_sem, simprocAttr, h, decaniref00_Equal, d1, hne, decaniref00_Equal_L0, decaniref00_Equal_B0, E_loop]))))
end
end Go.Pm.Cd

namespace Go.Pm.Cd
open Ac
set_option maxRecDepth 100000
set_option linter.unusedSimpArgs false
set_option linter.unusedSectionVars false
set_option linter.unusedVariables false
def kS {α : Type} (L : List α) : SK := match L with | [] => .nil | _ :: _ => .shared
theorem unown_ownC_kS (es : Nat) (L : List (List C)) : unown (ownC es L) = .sl (kS L) es L := by cases L <;> rfl
theorem kS_map {α β : Type} (f : α → β) (L : List α) : kS (L.map f) = kS L := by cases L <;> rfl
theorem appended_ownC_app (es : Nat) (L M : List (List C)) (k : SK) (hr : L.length + M.length ≤ room) : appended es (.sc (ownC es L)) (.sc (.sl k es M)) = some (ownC es (L ++ M)) := by
  cases L with
  | nil =>
    cases M with
    | nil => simp [appended, elems, ownC, room]
    | cons y M => simp only [appended, elems, ownC, if_true, List.nil_append]; simp at hr; simp [hr]
  | cons x L => simp only [appended, elems, ownC, if_true, List.cons_append]; simp at hr; simp; omega
section
variable {Γ : Env} [P06 Γ] [G06 Γ]
@[go_sem] theorem With_k (k : SK) (l : List Int) (n : Int) (hl : l.length ≤ 1000000) : K Γ (.fn 81) [.sc (.sl k 1 (l.map fun x => [ci x])), vi n] [] = some (.sc (.sl .shared 1 ((l ++ [n]).map fun x => [ci x])), []) := by
  have h0 := appended_ownF0 1 k (l.map fun x => [ci x]) (by simp only [List.length_map, room]; omega)
  have h1 := appended_ownF 1 .full (l.map fun x => [ci x]) [ci n] (by simp only [List.length_map, room]; omega)
  rw [K_fn P06.f81 _ _ rfl]
  (simp only [go_sem, simprocAttr, decaniref00_With, h0, h1, List.map_append, List.map_cons, List.map_nil]; repeat' (first | ((first | (refine br_yes (by omega) ?_) | (refine br_no (by omega) ?_) | (apply br_all; (· simp only [Bool.and_eq_true, decide_eq_true_eq]; omega)) | (apply br_free; (· simp [go_sem, Pm.acc, Acc.free, refsOf, offOf, keyEq, tagEq, cellsEq, cellEq]; done)) | ((first | apply br_mergeT | apply br_mergeF); (· intro h; simp only [go_sem, simprocAttr, sel_of h, decaniref00_With, h0, h1, List.map_append, List.map_cons, List.map_nil]; exact rfl))); (try simp only [go_sem, simprocAttr, decaniref00_With, h0, h1, List.map_append, List.map_cons, List.map_nil])) | ((first | apply onGuard_sel | (apply pickV_split; apply br_split) | apply br_split) <;> intro h <;> (try simp only [go_sem, simprocAttr, h, decaniref00_With, h0, h1, List.map_append, List.map_cons, List.map_nil]))))
@[go_sem] theorem risKind_k (n : Int) : K Γ (.fn 51) [vi n] [] = some (vb (within n 0 1), []) := by
  rw [K_fn P06.f51 _ _ rfl]
  (simp only [go_sem, simprocAttr, decaniref06_isKind]; repeat' (first | ((first | (refine br_yes (by omega) ?_) | (refine br_no (by omega) ?_) | (apply br_all; (· simp only [Bool.and_eq_true, decide_eq_true_eq]; omega)) | (apply br_free; (· simp [go_sem, Pm.acc, Acc.free, refsOf, offOf, keyEq, tagEq, cellsEq, cellEq]; done)) | ((first | apply br_mergeT | apply br_mergeF); (· intro h; simp only [go_sem, simprocAttr, sel_of h, decaniref06_isKind]; exact rfl))); (try simp only [go_sem, simprocAttr, decaniref06_isKind])) | ((first | apply onGuard_sel | (apply pickV_split; apply br_split) | apply br_split) <;> intro h <;> (try simp only [go_sem, simprocAttr, h, decaniref06_isKind]))))
@[go_sem] theorem risDay_k (b : Book) [hb : b.Fits] (n : Int) : K Γ (.fn 50) [.agg b.c, vi n] [] = some (vb (within n 0 (b.days.length - 1)), []) := by
  have h := hb.1
  have hw : IntKind.i64.wrap ((b.days.length : Int) - 1) = b.days.length - 1 := wrap_i64 (by omega) (by omega)
  rw [K_fn P06.f50 _ _ rfl]
  (simp only [go_sem, simprocAttr, decaniref06_isDay, hw]; repeat' (first | ((first | (refine br_yes (by omega) ?_) | (refine br_no (by omega) ?_) | (apply br_all; (· simp only [Bool.and_eq_true, decide_eq_true_eq]; omega)) | (apply br_free; (· simp [go_sem, Pm.acc, Acc.free, refsOf, offOf, keyEq, tagEq, cellsEq, cellEq]; done)) | ((first | apply br_mergeT | apply br_mergeF); (· intro h; simp only [go_sem, simprocAttr, sel_of h, decaniref06_isDay, hw]; exact rfl))); (try simp only [go_sem, simprocAttr, decaniref06_isDay, hw])) | ((first | apply onGuard_sel | (apply pickV_split; apply br_split) | apply br_split) <;> intro h <;> (try simp only [go_sem, simprocAttr, h, decaniref06_isDay, hw]))))
@[go_sem] theorem risCount_k (b : Book) [hb : b.Fits] (x : Count) : K Γ (.fn 52) [.agg b.c, .agg x.c] [] = some (vb (b.isCount x), []) := by
  rw [K_fn P06.f52 _ _ rfl]
  cases h1 : within x.day 0 (b.days.length - 1) with
  | false => (simp only [go_sem, simprocAttr, decaniref06_isCount, h1, Book.isCount, Book.isDay, Bool.false_and]; repeat' (first | ((first | (refine br_yes (by omega) ?_) | (refine br_no (by omega) ?_) | (apply br_all; (· simp only [Bool.and_eq_true, decide_eq_true_eq]; omega)) | (apply br_free; (· simp [go_sem, Pm.acc, Acc.free, refsOf, offOf, keyEq, tagEq, cellsEq, cellEq]; done)) | ((first | apply br_mergeT | apply br_mergeF); (· intro h; simp only [go_sem, simprocAttr, sel_of h, decaniref06_isCount, h1, Book.isCount, Book.isDay, Bool.false_and]; exact rfl))); (try simp only [go_sem, simprocAttr, decaniref06_isCount, h1, Book.isCount, Book.isDay, Bool.false_and])) | ((first | apply onGuard_sel | (apply pickV_split; apply br_split) | apply br_split) <;> intro h <;> (try simp only [go_sem, simprocAttr, h, decaniref06_isCount, h1, Book.isCount, Book.isDay, Bool.false_and]))))
  | true => cases h2 : within x.kind 0 1 with
    | false => (simp only [go_sem, simprocAttr, decaniref06_isCount, h1, h2, Book.isCount, Book.isDay, Bool.false_and]; repeat' (first | ((first | (refine br_yes (by omega) ?_) | (refine br_no (by omega) ?_) | (apply br_all; (· simp only [Bool.and_eq_true, decide_eq_true_eq]; omega)) | (apply br_free; (· simp [go_sem, Pm.acc, Acc.free, refsOf, offOf, keyEq, tagEq, cellsEq, cellEq]; done)) | ((first | apply br_mergeT | apply br_mergeF); (· intro h; simp only [go_sem, simprocAttr, sel_of h, decaniref06_isCount, h1, h2, Book.isCount, Book.isDay, Bool.false_and]; exact rfl))); (try simp only [go_sem, simprocAttr, decaniref06_isCount, h1, h2, Book.isCount, Book.isDay, Bool.false_and])) | ((first | apply onGuard_sel | (apply pickV_split; apply br_split) | apply br_split) <;> intro h <;> (try simp only [go_sem, simprocAttr, h, decaniref06_isCount, h1, h2, Book.isCount, Book.isDay, Bool.false_and]))))
    | true => cases h3 : within x.left (-300) 300 with
      | false => (simp only [go_sem, simprocAttr, decaniref06_isCount, h1, h2, h3, Book.isCount, Book.isDay, Bool.false_and]; repeat' (first | ((first | (refine br_yes (by omega) ?_) | (refine br_no (by omega) ?_) | (apply br_all; (· simp only [Bool.and_eq_true, decide_eq_true_eq]; omega)) | (apply br_free; (· simp [go_sem, Pm.acc, Acc.free, refsOf, offOf, keyEq, tagEq, cellsEq, cellEq]; done)) | ((first | apply br_mergeT | apply br_mergeF); (· intro h; simp only [go_sem, simprocAttr, sel_of h, decaniref06_isCount, h1, h2, h3, Book.isCount, Book.isDay, Bool.false_and]; exact rfl))); (try simp only [go_sem, simprocAttr, decaniref06_isCount, h1, h2, h3, Book.isCount, Book.isDay, Bool.false_and])) | ((first | apply onGuard_sel | (apply pickV_split; apply br_split) | apply br_split) <;> intro h <;> (try simp only [go_sem, simprocAttr, h, decaniref06_isCount, h1, h2, h3, Book.isCount, Book.isDay, Bool.false_and]))))
      | true => (simp only [go_sem, simprocAttr, decaniref06_isCount, h1, h2, h3, Book.isCount, Book.isDay]; repeat' (first | ((first | (refine br_yes (by omega) ?_) | (refine br_no (by omega) ?_) | (apply br_all; (· simp only [Bool.and_eq_true, decide_eq_true_eq]; omega)) | (apply br_free; (· simp [go_sem, Pm.acc, Acc.free, refsOf, offOf, keyEq, tagEq, cellsEq, cellEq]; done)) | ((first | apply br_mergeT | apply br_mergeF); (· intro h; simp only [go_sem, simprocAttr, sel_of h, decaniref06_isCount, h1, h2, h3, Book.isCount, Book.isDay]; exact rfl))); (try simp only [go_sem, simprocAttr, decaniref06_isCount, h1, h2, h3, Book.isCount, Book.isDay])) | ((first | apply onGuard_sel | (apply pickV_split; apply br_split) | apply br_split) <;> intro h <;> (try simp only [go_sem, simprocAttr, h, decaniref06_isCount, h1, h2, h3, Book.isCount, Book.isDay]))))

theorem E_while {β : Type} {α : Type} {keep : List Nat} {B : AC} (S : Nat → Bool → St) (l : List α) (p : α → Bool) (T : Nat → Bool → Ex × St) {Q : Ex → St → Option β} {r : Option β}
    (hstep : ∀ (i : Nat) x, l[i]? = some x → E Γ B (S i true) (fun e s1 => match e with | .norm => trim keep (S i true).h.length s1 | _ => none) = some (S (i + 1) (p x)))
    (hstop : ∀ (i : Nat), i ≤ l.length → E Γ B (S i false) (fun e s1 => match e with | .norm => none | e => some (e, s1)) = some (T i false))
    (hend : E Γ B (S l.length true) (fun e s1 => match e with | .norm => none | e => some (e, s1)) = some (T l.length true))
    (hQ : ∀ i, Q (T i (l.all p)).1 (T i (l.all p)).2 = r) : E Γ (.loop keep B) (S 0 true) Q = r := by
  have main : ∀ (m : List α) (i : Nat), l.drop i = m → i ≤ l.length → ∃ j, X Γ (.loop keep B) (S i true) = some (T j (m.all p)) := by
    intro m
    induction m with
    | nil =>
      intro i hm hi
      have : i = l.length := by have := List.drop_eq_nil_iff.1 hm; omega
      subst this
      exact ⟨l.length, X_loop_exit hend⟩
    | cons x m ih =>
      intro i hm hi
      have hlt : i < l.length := by
        by_cases h : i < l.length
        · exact h
        · rw [List.drop_eq_nil_of_le (by omega)] at hm; cases hm
      have hx : l[i]? = some x := by
        have := congrArg (fun l => l[0]?) hm
        simpa [List.getElem?_drop] using this
      have hd : l.drop (i + 1) = m := by rw [← List.drop_drop, hm]; rfl
      have h1 := X_loop_next (hstep i x hx)
      cases hp : p x with
      | true =>
        rw [hp] at h1
        obtain ⟨j, hj⟩ := ih (i + 1) hd (by omega)
        exact ⟨j, by rw [h1, hj, List.all_cons, hp, Bool.true_and]⟩
      | false =>
        rw [hp] at h1
        exact ⟨i + 1, by rw [h1, X_loop_exit (hstop (i + 1) (by omega)), List.all_cons, hp, Bool.false_and]⟩
  obtain ⟨j, hj⟩ := main l 0 rfl (Nat.zero_le _)
  rw [E_use hj]
  exact hQ j
end
end Go.Pm.Cd

namespace Go.Pm.Cd
open Ac
set_option maxRecDepth 100000
set_option linter.unusedSimpArgs false
set_option linter.unusedSectionVars false
set_option linter.unusedVariables false
section
variable {Γ : Env} [P06 Γ] [G06 Γ]
def kindOk (b : Book) (k : Nat) : Bool := if k = 0 then b.s0.is 0 60 2 && b.f0.is 1 6 1 else b.s1.is 0 60 2 && b.f1.is 1 6 1
theorem rchk_L0 (b : Book) [hb : b.Fits] (ok : Bool) {β : Type} {Q : Ex → St → Option β} {r : Option β}
    (hQ : ∀ i : Nat, Q (.exit 0) ⟨[(1, .sc (.ptr 0 0)), (3, vb (ok && (kindOk b 0 && kindOk b 1))), (4, vi i), (30, vb false)], [.var b.c]⟩ = r) :
    E Γ decaniref06_Check_L0 ⟨[(1, .sc (.ptr 0 0)), (3, vb ok), (4, vi 0)], [.var b.c]⟩ Q = r := by
  cases ok with
  | false => (simp only [go_sem, simprocAttr, decaniref06_Check_L0, decaniref06_Check_B0, E_loop]; repeat' (first | ((first | (refine br_yes (by omega) ?_) | (refine br_no (by omega) ?_) | (apply br_all; (· simp only [Bool.and_eq_true, decide_eq_true_eq]; omega)) | (apply br_free; (· simp [go_sem, Pm.acc, Acc.free, refsOf, offOf, keyEq, tagEq, cellsEq, cellEq]; done)) | ((first | apply br_mergeT | apply br_mergeF); (· intro h; simp only [go_sem, simprocAttr, sel_of h, decaniref06_Check_L0, decaniref06_Check_B0, E_loop]; exact rfl))); (try simp only [go_sem, simprocAttr, decaniref06_Check_L0, decaniref06_Check_B0, E_loop])) | ((first | apply onGuard_sel | (apply pickV_split; apply br_split) | apply br_split) <;> intro h <;> (try simp only [go_sem, simprocAttr, h, decaniref06_Check_L0, decaniref06_Check_B0, E_loop])))); exact hQ 0
  | true =>
    refine E_while (fun i ok => ⟨[(1, .sc (.ptr 0 0)), (3, vb ok), (4, vi i)], [.var b.c]⟩) [0, 1] (kindOk b) (fun i ok => (.exit 0, ⟨[(1, .sc (.ptr 0 0)), (3, vb ok), (4, vi i), (30, vb false)], [.var b.c]⟩)) ?_ ?_ ?_ ?_
    · intro i x hx
      have hc : (i = 0 ∧ x = 0) ∨ (i = 1 ∧ x = 1) := by
        have := (List.getElem?_eq_some_iff.1 hx).1
        simp only [List.length_cons, List.length_nil] at this
        have h2 : i = 0 ∨ i = 1 := by omega
        rcases h2 with rfl | rfl
        · simp at hx; exact .inl ⟨rfl, hx.symm⟩
        · simp at hx; exact .inr ⟨rfl, hx.symm⟩
      rcases hc with ⟨rfl, rfl⟩ | ⟨rfl, rfl⟩
      · cases h1 : b.s0.is 0 60 2 with
        | false => (simp only [go_sem, simprocAttr, decaniref06_Check_B0, h1, kindOk, Bool.false_and]; repeat' (first | ((first | (refine br_yes (by omega) ?_) | (refine br_no (by omega) ?_) | (apply br_all; (· simp only [Bool.and_eq_true, decide_eq_true_eq]; omega)) | (apply br_free; (· simp [go_sem, Pm.acc, Acc.free, refsOf, offOf, keyEq, tagEq, cellsEq, cellEq]; done)) | ((first | apply br_mergeT | apply br_mergeF); (· intro h; simp only [go_sem, simprocAttr, sel_of h, decaniref06_Check_B0, h1, kindOk, Bool.false_and]; exact rfl))); (try simp only [go_sem, simprocAttr, decaniref06_Check_B0, h1, kindOk, Bool.false_and])) | ((first | apply onGuard_sel | (apply pickV_split; apply br_split) | apply br_split) <;> intro h <;> (try simp only [go_sem, simprocAttr, h, decaniref06_Check_B0, h1, kindOk, Bool.false_and]))))
        | true => (simp only [go_sem, simprocAttr, decaniref06_Check_B0, h1, kindOk]; repeat' (first | ((first | (refine br_yes (by omega) ?_) | (refine br_no (by omega) ?_) | (apply br_all; (· simp only [Bool.and_eq_true, decide_eq_true_eq]; omega)) | (apply br_free; (· simp [go_sem, Pm.acc, Acc.free, refsOf, offOf, keyEq, tagEq, cellsEq, cellEq]; done)) | ((first | apply br_mergeT | apply br_mergeF); (· intro h; simp only [go_sem, simprocAttr, sel_of h, decaniref06_Check_B0, h1, kindOk]; exact rfl))); (try simp only [go_sem, simprocAttr, decaniref06_Check_B0, h1, kindOk])) | ((first | apply onGuard_sel | (apply pickV_split; apply br_split) | apply br_split) <;> intro h <;> (try simp only [go_sem, simprocAttr, h, decaniref06_Check_B0, h1, kindOk]))))
      · cases h1 : b.s1.is 0 60 2 with
        | false => (simp only [go_sem, simprocAttr, decaniref06_Check_B0, h1, kindOk, Bool.false_and]; repeat' (first | ((first | (refine br_yes (by omega) ?_) | (refine br_no (by omega) ?_) | (apply br_all; (· simp only [Bool.and_eq_true, decide_eq_true_eq]; omega)) | (apply br_free; (· simp [go_sem, Pm.acc, Acc.free, refsOf, offOf, keyEq, tagEq, cellsEq, cellEq]; done)) | ((first | apply br_mergeT | apply br_mergeF); (· intro h; simp only [go_sem, simprocAttr, sel_of h, decaniref06_Check_B0, h1, kindOk, Bool.false_and]; exact rfl))); (try simp only [go_sem, simprocAttr, decaniref06_Check_B0, h1, kindOk, Bool.false_and])) | ((first | apply onGuard_sel | (apply pickV_split; apply br_split) | apply br_split) <;> intro h <;> (try simp only [go_sem, simprocAttr, h, decaniref06_Check_B0, h1, kindOk, Bool.false_and]))))
        | true => (simp only [go_sem, simprocAttr, decaniref06_Check_B0, h1, kindOk]; repeat' (first | ((first | (refine br_yes (by omega) ?_) | (refine br_no (by omega) ?_) | (apply br_all; (· simp only [Bool.and_eq_true, decide_eq_true_eq]; omega)) | (apply br_free; (· simp [go_sem, Pm.acc, Acc.free, refsOf, offOf, keyEq, tagEq, cellsEq, cellEq]; done)) | ((first | apply br_mergeT | apply br_mergeF); (· intro h; simp only [go_sem, simprocAttr, sel_of h, decaniref06_Check_B0, h1, kindOk]; exact rfl))); (try simp only [go_sem, simprocAttr, decaniref06_Check_B0, h1, kindOk])) | ((first | apply onGuard_sel | (apply pickV_split; apply br_split) | apply br_split) <;> intro h <;> (try simp only [go_sem, simprocAttr, h, decaniref06_Check_B0, h1, kindOk]))))
    · intro i hi
      (simp only [go_sem, simprocAttr, decaniref06_Check_B0]; repeat' (first | ((first | (refine br_yes (by omega) ?_) | (refine br_no (by omega) ?_) | (apply br_all; (· simp only [Bool.and_eq_true, decide_eq_true_eq]; omega)) | (apply br_free; (· simp [go_sem, Pm.acc, Acc.free, refsOf, offOf, keyEq, tagEq, cellsEq, cellEq]; done)) | ((first | apply br_mergeT | apply br_mergeF); (· intro h; simp only [go_sem, simprocAttr, sel_of h, decaniref06_Check_B0]; exact rfl))); (try simp only [go_sem, simprocAttr, decaniref06_Check_B0])) | ((first | apply onGuard_sel | (apply pickV_split; apply br_split) | apply br_split) <;> intro h <;> (try simp only [go_sem, simprocAttr, h, decaniref06_Check_B0]))))
    · (simp only [go_sem, simprocAttr, decaniref06_Check_B0]; repeat' (first | ((first | (refine br_yes (by omega) ?_) | (refine br_no (by omega) ?_) | (apply br_all; (· simp only [Bool.and_eq_true, decide_eq_true_eq]; omega)) | (apply br_free; (· simp [go_sem, Pm.acc, Acc.free, refsOf, offOf, keyEq, tagEq, cellsEq, cellEq]; done)) | ((first | apply br_mergeT | apply br_mergeF); (· intro h; simp only [go_sem, simprocAttr, sel_of h, decaniref06_Check_B0]; exact rfl))); (try simp only [go_sem, simprocAttr, decaniref06_Check_B0])) | ((first | apply onGuard_sel | (apply pickV_split; apply br_split) | apply br_split) <;> intro h <;> (try simp only [go_sem, simprocAttr, h, decaniref06_Check_B0]))))
    · intro i
      have := hQ i
      simpa using this
theorem rchk_L1 (b : Book) [hb : b.Fits] (ok : Bool) {β : Type} {Q : Ex → St → Option β} {r : Option β}
    (hQ : ∀ i : Nat, Q (.exit 2) ⟨[(1, .sc (.ptr 0 0)), (3, vb (ok && b.days.all Day.ok)), (5, vi i), (52, vb false)], [.var b.c]⟩ = r) :
    E Γ decaniref06_Check_L1 ⟨[(1, .sc (.ptr 0 0)), (3, vb ok), (5, vi 0)], [.var b.c]⟩ Q = r := by
  cases ok with
  | false => (simp only [go_sem, simprocAttr, decaniref06_Check_L1, decaniref06_Check_B1, E_loop]; repeat' (first | ((first | (refine br_yes (by omega) ?_) | (refine br_no (by omega) ?_) | (apply br_all; (· simp only [Bool.and_eq_true, decide_eq_true_eq]; omega)) | (apply br_free; (· simp [go_sem, Pm.acc, Acc.free, refsOf, offOf, keyEq, tagEq, cellsEq, cellEq]; done)) | ((first | apply br_mergeT | apply br_mergeF); (· intro h; simp only [go_sem, simprocAttr, sel_of h, decaniref06_Check_L1, decaniref06_Check_B1, E_loop]; exact rfl))); (try simp only [go_sem, simprocAttr, decaniref06_Check_L1, decaniref06_Check_B1, E_loop])) | ((first | apply onGuard_sel | (apply pickV_split; apply br_split) | apply br_split) <;> intro h <;> (try simp only [go_sem, simprocAttr, h, decaniref06_Check_L1, decaniref06_Check_B1, E_loop])))); exact hQ 0
  | true =>
    refine E_while (fun i ok => ⟨[(1, .sc (.ptr 0 0)), (3, vb ok), (5, vi i)], [.var b.c]⟩) b.days Day.ok (fun i ok => (.exit 2, ⟨[(1, .sc (.ptr 0 0)), (3, vb ok), (5, vi i), (52, vb false)], [.var b.c]⟩)) ?_ ?_ ?_ ?_
    · intro i x hx
      have hi := (List.getElem?_eq_some_iff.1 hx).1
      have hb1 := hb.1
      have hlt := decide_eq_true (show (i : Int) < b.days.length by omega)
      have hiw : IntKind.i64.wrap ((i : Int) + 1) = i + 1 := wrap_i64 (by omega) (by omega)
      cases h1 : within x.hours 0 6 with
      | false => (simp only [go_sem, simprocAttr, decaniref06_Check_B1, hx, hlt, hiw, h1, Day.ok, Bool.false_and]; repeat' (first | ((first | (refine br_yes (by omega) ?_) | (refine br_no (by omega) ?_) | (apply br_all; (· simp only [Bool.and_eq_true, decide_eq_true_eq]; omega)) | (apply br_free; (· simp [go_sem, Pm.acc, Acc.free, refsOf, offOf, keyEq, tagEq, cellsEq, cellEq]; done)) | ((first | apply br_mergeT | apply br_mergeF); (· intro h; simp only [go_sem, simprocAttr, sel_of h, decaniref06_Check_B1, hx, hlt, hiw, h1, Day.ok, Bool.false_and]; exact rfl))); (try simp only [go_sem, simprocAttr, decaniref06_Check_B1, hx, hlt, hiw, h1, Day.ok, Bool.false_and])) | ((first | apply onGuard_sel | (apply pickV_split; apply br_split) | apply br_split) <;> intro h <;> (try simp only [go_sem, simprocAttr, h, decaniref06_Check_B1, hx, hlt, hiw, h1, Day.ok, Bool.false_and])))); rfl
      | true => cases h2 : x.dark.is 0 6 2 with
        | false => (simp only [go_sem, simprocAttr, decaniref06_Check_B1, hx, hlt, hiw, h1, h2, Day.ok, Bool.false_and]; repeat' (first | ((first | (refine br_yes (by omega) ?_) | (refine br_no (by omega) ?_) | (apply br_all; (· simp only [Bool.and_eq_true, decide_eq_true_eq]; omega)) | (apply br_free; (· simp [go_sem, Pm.acc, Acc.free, refsOf, offOf, keyEq, tagEq, cellsEq, cellEq]; done)) | ((first | apply br_mergeT | apply br_mergeF); (· intro h; simp only [go_sem, simprocAttr, sel_of h, decaniref06_Check_B1, hx, hlt, hiw, h1, h2, Day.ok, Bool.false_and]; exact rfl))); (try simp only [go_sem, simprocAttr, decaniref06_Check_B1, hx, hlt, hiw, h1, h2, Day.ok, Bool.false_and])) | ((first | apply onGuard_sel | (apply pickV_split; apply br_split) | apply br_split) <;> intro h <;> (try simp only [go_sem, simprocAttr, h, decaniref06_Check_B1, hx, hlt, hiw, h1, h2, Day.ok, Bool.false_and])))); rfl
        | true => cases h3 : within x.l0 0 9 with
          | false => (simp only [go_sem, simprocAttr, decaniref06_Check_B1, hx, hlt, hiw, h1, h2, h3, Day.ok, Bool.false_and]; repeat' (first | ((first | (refine br_yes (by omega) ?_) | (refine br_no (by omega) ?_) | (apply br_all; (· simp only [Bool.and_eq_true, decide_eq_true_eq]; omega)) | (apply br_free; (· simp [go_sem, Pm.acc, Acc.free, refsOf, offOf, keyEq, tagEq, cellsEq, cellEq]; done)) | ((first | apply br_mergeT | apply br_mergeF); (· intro h; simp only [go_sem, simprocAttr, sel_of h, decaniref06_Check_B1, hx, hlt, hiw, h1, h2, h3, Day.ok, Bool.false_and]; exact rfl))); (try simp only [go_sem, simprocAttr, decaniref06_Check_B1, hx, hlt, hiw, h1, h2, h3, Day.ok, Bool.false_and])) | ((first | apply onGuard_sel | (apply pickV_split; apply br_split) | apply br_split) <;> intro h <;> (try simp only [go_sem, simprocAttr, h, decaniref06_Check_B1, hx, hlt, hiw, h1, h2, h3, Day.ok, Bool.false_and])))); rfl
          | true => (simp only [go_sem, simprocAttr, decaniref06_Check_B1, hx, hlt, hiw, h1, h2, h3, Day.ok]; repeat' (first | ((first | (refine br_yes (by omega) ?_) | (refine br_no (by omega) ?_) | (apply br_all; (· simp only [Bool.and_eq_true, decide_eq_true_eq]; omega)) | (apply br_free; (· simp [go_sem, Pm.acc, Acc.free, refsOf, offOf, keyEq, tagEq, cellsEq, cellEq]; done)) | ((first | apply br_mergeT | apply br_mergeF); (· intro h; simp only [go_sem, simprocAttr, sel_of h, decaniref06_Check_B1, hx, hlt, hiw, h1, h2, h3, Day.ok]; exact rfl))); (try simp only [go_sem, simprocAttr, decaniref06_Check_B1, hx, hlt, hiw, h1, h2, h3, Day.ok])) | ((first | apply onGuard_sel | (apply pickV_split; apply br_split) | apply br_split) <;> intro h <;> (try simp only [go_sem, simprocAttr, h, decaniref06_Check_B1, hx, hlt, hiw, h1, h2, h3, Day.ok])))); rfl
    · intro i hi
      (simp only [go_sem, simprocAttr, decaniref06_Check_B1]; repeat' (first | ((first | (refine br_yes (by omega) ?_) | (refine br_no (by omega) ?_) | (apply br_all; (· simp only [Bool.and_eq_true, decide_eq_true_eq]; omega)) | (apply br_free; (· simp [go_sem, Pm.acc, Acc.free, refsOf, offOf, keyEq, tagEq, cellsEq, cellEq]; done)) | ((first | apply br_mergeT | apply br_mergeF); (· intro h; simp only [go_sem, simprocAttr, sel_of h, decaniref06_Check_B1]; exact rfl))); (try simp only [go_sem, simprocAttr, decaniref06_Check_B1])) | ((first | apply onGuard_sel | (apply pickV_split; apply br_split) | apply br_split) <;> intro h <;> (try simp only [go_sem, simprocAttr, h, decaniref06_Check_B1]))))
    · have hlt := decide_eq_false (show ¬ (b.days.length : Int) < b.days.length by omega)
      (simp only [go_sem, simprocAttr, decaniref06_Check_B1, hlt]; repeat' (first | ((first | (refine br_yes (by omega) ?_) | (refine br_no (by omega) ?_) | (apply br_all; (· simp only [Bool.and_eq_true, decide_eq_true_eq]; omega)) | (apply br_free; (· simp [go_sem, Pm.acc, Acc.free, refsOf, offOf, keyEq, tagEq, cellsEq, cellEq]; done)) | ((first | apply br_mergeT | apply br_mergeF); (· intro h; simp only [go_sem, simprocAttr, sel_of h, decaniref06_Check_B1, hlt]; exact rfl))); (try simp only [go_sem, simprocAttr, decaniref06_Check_B1, hlt])) | ((first | apply onGuard_sel | (apply pickV_split; apply br_split) | apply br_split) <;> intro h <;> (try simp only [go_sem, simprocAttr, h, decaniref06_Check_B1, hlt]))))
    · intro i
      have := hQ i
      simpa using this
theorem rchk_L2 (b : Book) [hb : b.Fits] (ok : Bool) {β : Type} {Q : Ex → St → Option β} {r : Option β}
    (hQ : ∀ i : Nat, Q (.exit 4) ⟨[(1, .sc (.ptr 0 0)), (3, vb (ok && b.orders.all b.orderOk)), (7, vi i), (87, vb false)], [.var b.c]⟩ = r) :
    E Γ decaniref06_Check_L2 ⟨[(1, .sc (.ptr 0 0)), (3, vb ok), (7, vi 0)], [.var b.c]⟩ Q = r := by
  cases ok with
  | false => (simp only [go_sem, simprocAttr, decaniref06_Check_L2, decaniref06_Check_B2, E_loop]; repeat' (first | ((first | (refine br_yes (by omega) ?_) | (refine br_no (by omega) ?_) | (apply br_all; (· simp only [Bool.and_eq_true, decide_eq_true_eq]; omega)) | (apply br_free; (· simp [go_sem, Pm.acc, Acc.free, refsOf, offOf, keyEq, tagEq, cellsEq, cellEq]; done)) | ((first | apply br_mergeT | apply br_mergeF); (· intro h; simp only [go_sem, simprocAttr, sel_of h, decaniref06_Check_L2, decaniref06_Check_B2, E_loop]; exact rfl))); (try simp only [go_sem, simprocAttr, decaniref06_Check_L2, decaniref06_Check_B2, E_loop])) | ((first | apply onGuard_sel | (apply pickV_split; apply br_split) | apply br_split) <;> intro h <;> (try simp only [go_sem, simprocAttr, h, decaniref06_Check_L2, decaniref06_Check_B2, E_loop])))); exact hQ 0
  | true =>
    refine E_while (fun i ok => ⟨[(1, .sc (.ptr 0 0)), (3, vb ok), (7, vi i)], [.var b.c]⟩) b.orders b.orderOk (fun i ok => (.exit 4, ⟨[(1, .sc (.ptr 0 0)), (3, vb ok), (7, vi i), (87, vb false)], [.var b.c]⟩)) ?_ ?_ ?_ ?_
    · intro i x hx
      have hi := (List.getElem?_eq_some_iff.1 hx).1
      have hb1 := hb.2
      have hlt := decide_eq_true (show (i : Int) < b.orders.length by omega)
      have hiw : IntKind.i64.wrap ((i : Int) + 1) = i + 1 := wrap_i64 (by omega) (by omega)
      cases h1 : within x.day 0 (b.days.length - 1) with
      | false => (simp only [go_sem, simprocAttr, decaniref06_Check_B2, hx, hlt, hiw, h1, Book.orderOk, Bool.false_and]; repeat' (first | ((first | (refine br_yes (by omega) ?_) | (refine br_no (by omega) ?_) | (apply br_all; (· simp only [Bool.and_eq_true, decide_eq_true_eq]; omega)) | (apply br_free; (· simp [go_sem, Pm.acc, Acc.free, refsOf, offOf, keyEq, tagEq, cellsEq, cellEq]; done)) | ((first | apply br_mergeT | apply br_mergeF); (· intro h; simp only [go_sem, simprocAttr, sel_of h, decaniref06_Check_B2, hx, hlt, hiw, h1, Book.orderOk, Bool.false_and]; exact rfl))); (try simp only [go_sem, simprocAttr, decaniref06_Check_B2, hx, hlt, hiw, h1, Book.orderOk, Bool.false_and])) | ((first | apply onGuard_sel | (apply pickV_split; apply br_split) | apply br_split) <;> intro h <;> (try simp only [go_sem, simprocAttr, h, decaniref06_Check_B2, hx, hlt, hiw, h1, Book.orderOk, Bool.false_and])))); rfl
      | true => cases h2 : within x.kind 0 1 with
        | false => (simp only [go_sem, simprocAttr, decaniref06_Check_B2, hx, hlt, hiw, h1, h2, Book.orderOk, Bool.false_and]; repeat' (first | ((first | (refine br_yes (by omega) ?_) | (refine br_no (by omega) ?_) | (apply br_all; (· simp only [Bool.and_eq_true, decide_eq_true_eq]; omega)) | (apply br_free; (· simp [go_sem, Pm.acc, Acc.free, refsOf, offOf, keyEq, tagEq, cellsEq, cellEq]; done)) | ((first | apply br_mergeT | apply br_mergeF); (· intro h; simp only [go_sem, simprocAttr, sel_of h, decaniref06_Check_B2, hx, hlt, hiw, h1, h2, Book.orderOk, Bool.false_and]; exact rfl))); (try simp only [go_sem, simprocAttr, decaniref06_Check_B2, hx, hlt, hiw, h1, h2, Book.orderOk, Bool.false_and])) | ((first | apply onGuard_sel | (apply pickV_split; apply br_split) | apply br_split) <;> intro h <;> (try simp only [go_sem, simprocAttr, h, decaniref06_Check_B2, hx, hlt, hiw, h1, h2, Book.orderOk, Bool.false_and])))); rfl
        | true => (simp only [go_sem, simprocAttr, decaniref06_Check_B2, hx, hlt, hiw, h1, h2, Book.orderOk]; repeat' (first | ((first | (refine br_yes (by omega) ?_) | (refine br_no (by omega) ?_) | (apply br_all; (· simp only [Bool.and_eq_true, decide_eq_true_eq]; omega)) | (apply br_free; (· simp [go_sem, Pm.acc, Acc.free, refsOf, offOf, keyEq, tagEq, cellsEq, cellEq]; done)) | ((first | apply br_mergeT | apply br_mergeF); (· intro h; simp only [go_sem, simprocAttr, sel_of h, decaniref06_Check_B2, hx, hlt, hiw, h1, h2, Book.orderOk]; exact rfl))); (try simp only [go_sem, simprocAttr, decaniref06_Check_B2, hx, hlt, hiw, h1, h2, Book.orderOk])) | ((first | apply onGuard_sel | (apply pickV_split; apply br_split) | apply br_split) <;> intro h <;> (try simp only [go_sem, simprocAttr, h, decaniref06_Check_B2, hx, hlt, hiw, h1, h2, Book.orderOk])))); rfl
    · intro i hi
      (simp only [go_sem, simprocAttr, decaniref06_Check_B2]; repeat' (first | ((first | (refine br_yes (by omega) ?_) | (refine br_no (by omega) ?_) | (apply br_all; (· simp only [Bool.and_eq_true, decide_eq_true_eq]; omega)) | (apply br_free; (· simp [go_sem, Pm.acc, Acc.free, refsOf, offOf, keyEq, tagEq, cellsEq, cellEq]; done)) | ((first | apply br_mergeT | apply br_mergeF); (· intro h; simp only [go_sem, simprocAttr, sel_of h, decaniref06_Check_B2]; exact rfl))); (try simp only [go_sem, simprocAttr, decaniref06_Check_B2])) | ((first | apply onGuard_sel | (apply pickV_split; apply br_split) | apply br_split) <;> intro h <;> (try simp only [go_sem, simprocAttr, h, decaniref06_Check_B2]))))
    · have hlt := decide_eq_false (show ¬ (b.orders.length : Int) < b.orders.length by omega)
      (simp only [go_sem, simprocAttr, decaniref06_Check_B2, hlt]; repeat' (first | ((first | (refine br_yes (by omega) ?_) | (refine br_no (by omega) ?_) | (apply br_all; (· simp only [Bool.and_eq_true, decide_eq_true_eq]; omega)) | (apply br_free; (· simp [go_sem, Pm.acc, Acc.free, refsOf, offOf, keyEq, tagEq, cellsEq, cellEq]; done)) | ((first | apply br_mergeT | apply br_mergeF); (· intro h; simp only [go_sem, simprocAttr, sel_of h, decaniref06_Check_B2, hlt]; exact rfl))); (try simp only [go_sem, simprocAttr, decaniref06_Check_B2, hlt])) | ((first | apply onGuard_sel | (apply pickV_split; apply br_split) | apply br_split) <;> intro h <;> (try simp only [go_sem, simprocAttr, h, decaniref06_Check_B2, hlt]))))
    · intro i
      have := hQ i
      simpa using this
theorem rchk_L3 (b : Book) [hb : b.Fits] (ok : Bool) {β : Type} {Q : Ex → St → Option β} {r : Option β}
    (hQ : ∀ i : Nat, Q (.exit 6) ⟨[(1, .sc (.ptr 0 0)), (3, vb (ok && b.counts.all b.isCount)), (9, vi i), (116, vb false)], [.var b.c]⟩ = r) :
    E Γ decaniref06_Check_L3 ⟨[(1, .sc (.ptr 0 0)), (3, vb ok), (9, vi 0)], [.var b.c]⟩ Q = r := by
  cases ok with
  | false => (simp only [go_sem, simprocAttr, decaniref06_Check_L3, decaniref06_Check_B3, E_loop]; repeat' (first | ((first | (refine br_yes (by omega) ?_) | (refine br_no (by omega) ?_) | (apply br_all; (· simp only [Bool.and_eq_true, decide_eq_true_eq]; omega)) | (apply br_free; (· simp [go_sem, Pm.acc, Acc.free, refsOf, offOf, keyEq, tagEq, cellsEq, cellEq]; done)) | ((first | apply br_mergeT | apply br_mergeF); (· intro h; simp only [go_sem, simprocAttr, sel_of h, decaniref06_Check_L3, decaniref06_Check_B3, E_loop]; exact rfl))); (try simp only [go_sem, simprocAttr, decaniref06_Check_L3, decaniref06_Check_B3, E_loop])) | ((first | apply onGuard_sel | (apply pickV_split; apply br_split) | apply br_split) <;> intro h <;> (try simp only [go_sem, simprocAttr, h, decaniref06_Check_L3, decaniref06_Check_B3, E_loop])))); exact hQ 0
  | true =>
    refine E_while (fun i ok => ⟨[(1, .sc (.ptr 0 0)), (3, vb ok), (9, vi i)], [.var b.c]⟩) b.counts b.isCount (fun i ok => (.exit 6, ⟨[(1, .sc (.ptr 0 0)), (3, vb ok), (9, vi i), (116, vb false)], [.var b.c]⟩)) ?_ ?_ ?_ ?_
    · intro i x hx
      have hi := (List.getElem?_eq_some_iff.1 hx).1
      have hb1 := hb.3
      have hlt := decide_eq_true (show (i : Int) < b.counts.length by omega)
      have hiw : IntKind.i64.wrap ((i : Int) + 1) = i + 1 := wrap_i64 (by omega) (by omega)
      (simp only [go_sem, simprocAttr, decaniref06_Check_B3, hx, hlt, hiw]; repeat' (first | ((first | (refine br_yes (by omega) ?_) | (refine br_no (by omega) ?_) | (apply br_all; (· simp only [Bool.and_eq_true, decide_eq_true_eq]; omega)) | (apply br_free; (· simp [go_sem, Pm.acc, Acc.free, refsOf, offOf, keyEq, tagEq, cellsEq, cellEq]; done)) | ((first | apply br_mergeT | apply br_mergeF); (· intro h; simp only [go_sem, simprocAttr, sel_of h, decaniref06_Check_B3, hx, hlt, hiw]; exact rfl))); (try simp only [go_sem, simprocAttr, decaniref06_Check_B3, hx, hlt, hiw])) | ((first | apply onGuard_sel | (apply pickV_split; apply br_split) | apply br_split) <;> intro h <;> (try simp only [go_sem, simprocAttr, h, decaniref06_Check_B3, hx, hlt, hiw]))))
      rfl
    · intro i hi
      (simp only [go_sem, simprocAttr, decaniref06_Check_B3]; repeat' (first | ((first | (refine br_yes (by omega) ?_) | (refine br_no (by omega) ?_) | (apply br_all; (· simp only [Bool.and_eq_true, decide_eq_true_eq]; omega)) | (apply br_free; (· simp [go_sem, Pm.acc, Acc.free, refsOf, offOf, keyEq, tagEq, cellsEq, cellEq]; done)) | ((first | apply br_mergeT | apply br_mergeF); (· intro h; simp only [go_sem, simprocAttr, sel_of h, decaniref06_Check_B3]; exact rfl))); (try simp only [go_sem, simprocAttr, decaniref06_Check_B3])) | ((first | apply onGuard_sel | (apply pickV_split; apply br_split) | apply br_split) <;> intro h <;> (try simp only [go_sem, simprocAttr, h, decaniref06_Check_B3]))))
    · have hlt := decide_eq_false (show ¬ (b.counts.length : Int) < b.counts.length by omega)
      (simp only [go_sem, simprocAttr, decaniref06_Check_B3, hlt]; repeat' (first | ((first | (refine br_yes (by omega) ?_) | (refine br_no (by omega) ?_) | (apply br_all; (· simp only [Bool.and_eq_true, decide_eq_true_eq]; omega)) | (apply br_free; (· simp [go_sem, Pm.acc, Acc.free, refsOf, offOf, keyEq, tagEq, cellsEq, cellEq]; done)) | ((first | apply br_mergeT | apply br_mergeF); (· intro h; simp only [go_sem, simprocAttr, sel_of h, decaniref06_Check_B3, hlt]; exact rfl))); (try simp only [go_sem, simprocAttr, decaniref06_Check_B3, hlt])) | ((first | apply onGuard_sel | (apply pickV_split; apply br_split) | apply br_split) <;> intro h <;> (try simp only [go_sem, simprocAttr, h, decaniref06_Check_B3, hlt]))))
    · intro i
      have := hQ i
      simpa using this

@[go_sem] theorem rCheck_k (b : Book) [hb : b.Fits] : K Γ (.fn 5) [.agg b.c] [] = some (vi (if b.valid then 0 else 60), []) := by
  have main (ok : Bool) (h : ok = (within b.days.length 1 5 && decide ((b.orders.length : Int) ≤ 4) && decide ((b.counts.length : Int) ≤ 5))) :
      b.valid = (ok && (kindOk b 0 && kindOk b 1) && b.days.all Day.ok && b.orders.all b.orderOk && b.counts.all b.isCount) := by
    rw [h]
    simp only [Book.valid, kindOk, if_true, Nat.one_ne_zero, if_false]
    ac_rfl
  rw [K_fn P06.f5 _ _ rfl]
  have fin (ok : Bool) (h : ok = (within b.days.length 1 5 && decide ((b.orders.length : Int) ≤ 4) && decide ((b.counts.length : Int) ≤ 5))) :=
    main ok h
  cases h1 : within b.days.length 1 5 with
  | false =>
    have hv := main false (by rw [h1]; rfl)
    simp only [Bool.false_and] at hv
    (simp only [go_sem, simprocAttr, decaniref06_Check, h1, hv, decaniref06_Check_L0, decaniref06_Check_B0, decaniref06_Check_L1, decaniref06_Check_B1, decaniref06_Check_L2, decaniref06_Check_B2, decaniref06_Check_L3, decaniref06_Check_B3, E_loop, Bool.false_eq_true]; repeat' (first | ((first | (refine br_yes (by omega) ?_) | (refine br_no (by omega) ?_) | (apply br_all; (· simp only [Bool.and_eq_true, decide_eq_true_eq]; omega)) | (apply br_free; (· simp [go_sem, Pm.acc, Acc.free, refsOf, offOf, keyEq, tagEq, cellsEq, cellEq]; done)) | ((first | apply br_mergeT | apply br_mergeF); (· intro h; simp only [go_sem, simprocAttr, sel_of h, decaniref06_Check, h1, hv, decaniref06_Check_L0, decaniref06_Check_B0, decaniref06_Check_L1, decaniref06_Check_B1, decaniref06_Check_L2, decaniref06_Check_B2, decaniref06_Check_L3, decaniref06_Check_B3, E_loop, Bool.false_eq_true]; exact rfl))); (try simp only [go_sem, simprocAttr, decaniref06_Check, h1, hv, decaniref06_Check_L0, decaniref06_Check_B0, decaniref06_Check_L1, decaniref06_Check_B1, decaniref06_Check_L2, decaniref06_Check_B2, decaniref06_Check_L3, decaniref06_Check_B3, E_loop, Bool.false_eq_true])) | ((first | apply onGuard_sel | (apply pickV_split; apply br_split) | apply br_split) <;> intro h <;> (try simp only [go_sem, simprocAttr, h, decaniref06_Check, h1, hv, decaniref06_Check_L0, decaniref06_Check_B0, decaniref06_Check_L1, decaniref06_Check_B1, decaniref06_Check_L2, decaniref06_Check_B2, decaniref06_Check_L3, decaniref06_Check_B3, E_loop, Bool.false_eq_true]))))
  | true =>
    cases h2 : decide ((b.orders.length : Int) ≤ 4) with
    | false =>
      have hv := main false (by rw [h1, h2]; rfl)
      simp only [Bool.false_and] at hv
      (simp only [go_sem, simprocAttr, decaniref06_Check, h1, h2, hv, decaniref06_Check_L0, decaniref06_Check_B0, decaniref06_Check_L1, decaniref06_Check_B1, decaniref06_Check_L2, decaniref06_Check_B2, decaniref06_Check_L3, decaniref06_Check_B3, E_loop, Bool.false_eq_true]; repeat' (first | ((first | (refine br_yes (by omega) ?_) | (refine br_no (by omega) ?_) | (apply br_all; (· simp only [Bool.and_eq_true, decide_eq_true_eq]; omega)) | (apply br_free; (· simp [go_sem, Pm.acc, Acc.free, refsOf, offOf, keyEq, tagEq, cellsEq, cellEq]; done)) | ((first | apply br_mergeT | apply br_mergeF); (· intro h; simp only [go_sem, simprocAttr, sel_of h, decaniref06_Check, h1, h2, hv, decaniref06_Check_L0, decaniref06_Check_B0, decaniref06_Check_L1, decaniref06_Check_B1, decaniref06_Check_L2, decaniref06_Check_B2, decaniref06_Check_L3, decaniref06_Check_B3, E_loop, Bool.false_eq_true]; exact rfl))); (try simp only [go_sem, simprocAttr, decaniref06_Check, h1, h2, hv, decaniref06_Check_L0, decaniref06_Check_B0, decaniref06_Check_L1, decaniref06_Check_B1, decaniref06_Check_L2, decaniref06_Check_B2, decaniref06_Check_L3, decaniref06_Check_B3, E_loop, Bool.false_eq_true])) | ((first | apply onGuard_sel | (apply pickV_split; apply br_split) | apply br_split) <;> intro h <;> (try simp only [go_sem, simprocAttr, h, decaniref06_Check, h1, h2, hv, decaniref06_Check_L0, decaniref06_Check_B0, decaniref06_Check_L1, decaniref06_Check_B1, decaniref06_Check_L2, decaniref06_Check_B2, decaniref06_Check_L3, decaniref06_Check_B3, E_loop, Bool.false_eq_true]))))
    | true =>
      have hv := main (decide ((b.counts.length : Int) ≤ 5)) (by rw [h1, h2]; rfl)
      rw [hv]
      (simp only [go_sem, simprocAttr, decaniref06_Check, h1, h2]; repeat' (first | ((first | (refine br_yes (by omega) ?_) | (refine br_no (by omega) ?_) | (apply br_all; (· simp only [Bool.and_eq_true, decide_eq_true_eq]; omega)) | (apply br_free; (· simp [go_sem, Pm.acc, Acc.free, refsOf, offOf, keyEq, tagEq, cellsEq, cellEq]; done)) | ((first | apply br_mergeT | apply br_mergeF); (· intro h; simp only [go_sem, simprocAttr, sel_of h, decaniref06_Check, h1, h2]; exact rfl))); (try simp only [go_sem, simprocAttr, decaniref06_Check, h1, h2])) | ((first | apply onGuard_sel | (apply pickV_split; apply br_split) | apply br_split) <;> intro h <;> (try simp only [go_sem, simprocAttr, h, decaniref06_Check, h1, h2]))))
      refine rchk_L0 b _ fun i => ?_
      (simp only [go_sem, simprocAttr]; repeat' (first | ((first | (refine br_yes (by omega) ?_) | (refine br_no (by omega) ?_) | (apply br_all; (· simp only [Bool.and_eq_true, decide_eq_true_eq]; omega)) | (apply br_free; (· simp [go_sem, Pm.acc, Acc.free, refsOf, offOf, keyEq, tagEq, cellsEq, cellEq]; done)) | ((first | apply br_mergeT | apply br_mergeF); (· intro h; simp only [go_sem, simprocAttr, sel_of h]; exact rfl))); (try simp only [go_sem, simprocAttr])) | ((first | apply onGuard_sel | (apply pickV_split; apply br_split) | apply br_split) <;> intro h <;> (try simp only [go_sem, simprocAttr, h]))))
      refine rchk_L1 b _ fun i => ?_
      (simp only [go_sem, simprocAttr]; repeat' (first | ((first | (refine br_yes (by omega) ?_) | (refine br_no (by omega) ?_) | (apply br_all; (· simp only [Bool.and_eq_true, decide_eq_true_eq]; omega)) | (apply br_free; (· simp [go_sem, Pm.acc, Acc.free, refsOf, offOf, keyEq, tagEq, cellsEq, cellEq]; done)) | ((first | apply br_mergeT | apply br_mergeF); (· intro h; simp only [go_sem, simprocAttr, sel_of h]; exact rfl))); (try simp only [go_sem, simprocAttr])) | ((first | apply onGuard_sel | (apply pickV_split; apply br_split) | apply br_split) <;> intro h <;> (try simp only [go_sem, simprocAttr, h]))))
      refine rchk_L2 b _ fun i => ?_
      (simp only [go_sem, simprocAttr]; repeat' (first | ((first | (refine br_yes (by omega) ?_) | (refine br_no (by omega) ?_) | (apply br_all; (· simp only [Bool.and_eq_true, decide_eq_true_eq]; omega)) | (apply br_free; (· simp [go_sem, Pm.acc, Acc.free, refsOf, offOf, keyEq, tagEq, cellsEq, cellEq]; done)) | ((first | apply br_mergeT | apply br_mergeF); (· intro h; simp only [go_sem, simprocAttr, sel_of h]; exact rfl))); (try simp only [go_sem, simprocAttr])) | ((first | apply onGuard_sel | (apply pickV_split; apply br_split) | apply br_split) <;> intro h <;> (try simp only [go_sem, simprocAttr, h]))))
      refine rchk_L3 b _ fun i => ?_
      (simp only [go_sem, simprocAttr]; repeat' (first | ((first | (refine br_yes (by omega) ?_) | (refine br_no (by omega) ?_) | (apply br_all; (· simp only [Bool.and_eq_true, decide_eq_true_eq]; omega)) | (apply br_free; (· simp [go_sem, Pm.acc, Acc.free, refsOf, offOf, keyEq, tagEq, cellsEq, cellEq]; done)) | ((first | apply br_mergeT | apply br_mergeF); (· intro h; simp only [go_sem, simprocAttr, sel_of h]; exact rfl))); (try simp only [go_sem, simprocAttr])) | ((first | apply onGuard_sel | (apply pickV_split; apply br_split) | apply br_split) <;> intro h <;> (try simp only [go_sem, simprocAttr, h]))))
      all_goals (simp only [Bool.not_eq_true', Bool.not_eq_false'] at h; rw [h]; rfl)
end
end Go.Pm.Cd

namespace Go.Pm.Cd
open Ac
set_option maxRecDepth 100000
set_option linter.unusedSimpArgs false
set_option linter.unusedSectionVars false
set_option linter.unusedVariables false

def Incr (f n : Int) : List Int → Prop
  | [] => True
  | x :: xs => f ≤ x ∧ x < n ∧ Incr (x + 1) n xs
theorem Incr.mem {n : Int} : ∀ {f : Int} {l : List Int}, Incr f n l → ∀ x, x ∈ l → f ≤ x ∧ x < n
  | f, [], _, x, h => by simp at h
  | f, y :: l, hi, x, h => by
    obtain ⟨h1, h2, h3⟩ := hi
    rcases List.mem_cons.1 h with rfl | h
    · exact ⟨h1, h2⟩
    · have := h3.mem x h; omega
theorem incr_of {n : Int} : ∀ {f : Int} {l : List Int}, (∀ x, x ∈ l → f ≤ x ∧ x < n) → l.Pairwise (· < ·) → Incr f n l
  | f, [], _, _ => trivial
  | f, x :: l, h, hp => by
    rw [List.pairwise_cons] at hp
    have hx := h x (by simp)
    exact ⟨hx.1, hx.2, incr_of (fun y hy => ⟨by have := hp.1 y hy; omega, (h y (by simp [hy])).2⟩) hp.2⟩
theorem bitsN_incr (set : Int) (m : Nat) : Incr 0 m (bitsN set m) := by
  refine incr_of (fun x hx => ?_) ?_
  · simp only [bitsN, List.mem_map, List.mem_filter, List.mem_range] at hx
    obtain ⟨j, ⟨hj, -⟩, rfl⟩ := hx
    omega
  · simp only [bitsN]
    rw [List.pairwise_map]
    exact (List.Pairwise.filter _ (List.pairwise_lt_range (n := m))).imp (fun h => by omega)

def before : List Int → List Int → Bool
  | [], [] => false
  | [], _ :: _ => true
  | _ :: _, [] => false
  | x :: xs, y :: ys => if x = y then before xs ys else decide (x < y)
theorem findFrom_shift {α : Type} (p : α → Bool) : ∀ (l : List α) (n m : Nat), (findFrom (fun _ x => p x) n l).map Prod.snd = (findFrom (fun _ x => p x) m l).map Prod.snd
  | [], _, _ => rfl
  | x :: l, n, m => by
    by_cases h : p x = true
    · simp only [findFrom, h, if_true, Option.map_some]
    · simp only [findFrom, h, if_false]; exact findFrom_shift p l (n + 1) (m + 1)
theorem earlier_map (l m : List Int) (n : Nat) : earlier l m = match (findFrom (fun _ (p : Int × Int) => decide (p.1 ≠ p.2)) n (l.zip m)).map Prod.snd with | some p => decide (p.1 < p.2) | none => decide ((l.length : Int) < m.length) := by
  rw [findFrom_shift (fun p : Int × Int => decide (p.1 ≠ p.2)) (l.zip m) n 0]
  unfold earlier
  cases findFrom (fun _ (p : Int × Int) => decide (p.1 ≠ p.2)) 0 (l.zip m) with
  | none => rfl
  | some q => rfl
theorem earlier_before : ∀ (l m : List Int), earlier l m = before l m
  | [], [] => rfl
  | [], y :: ys => by simp [earlier, findFrom, before]; try omega
  | x :: xs, [] => by simp [earlier, findFrom, before]; try omega
  | x :: xs, y :: ys => by
    have ih := earlier_before xs ys
    rw [earlier_map xs ys 1] at ih
    rw [earlier_map (x :: xs) (y :: ys) 0]
    simp only [List.zip_cons_cons, findFrom, before]
    by_cases h : x = y
    · have d : decide (x ≠ y) = false := decide_eq_false (fun e => e h)
      simp only [d, Bool.false_eq_true, if_false, if_pos h, Nat.zero_add]
      rw [← ih]
      cases (findFrom (fun _ (p : Int × Int) => decide (p.1 ≠ p.2)) 1 (xs.zip ys)).map Prod.snd with
      | none => simp only [List.length_cons, decide_eq_decide]; omega
      | some p => rfl
    · have d : decide (x ≠ y) = true := decide_eq_true h
      simp only [d, if_true, Option.map_some, if_neg h]

theorem fromOf_snoc (l : List Int) (x : Int) : fromOf (l ++ [x]) = x + 1 := by
  have : l ++ [x] ≠ [] := by simp
  simp [fromOf]

theorem choose_spec (b : Book) : ∀ (r : Nat) (l : List Int),
    ((b.choose r l).2 = true → ∃ e, (b.choose r l).1 = l ++ e ∧ e.length = r ∧ Incr (fromOf l) b.counts.length e ∧ b.truths (l ++ e) ≠ [] ∧ ∀ e', e'.length = r → Incr (fromOf l) b.counts.length e' → b.truths (l ++ e') ≠ [] → before e' e = false) ∧
    ((b.choose r l).2 = false → ∀ e', e'.length = r → Incr (fromOf l) b.counts.length e' → b.truths (l ++ e') = [])
  | 0, l => by
    refine ⟨fun h => ?_, fun h => ?_⟩
    · simp only [Book.choose, decide_eq_true_eq] at h
      exact ⟨[], by simp [Book.choose], rfl, trivial, by simpa using h, fun e' he' _ _ => by cases e' with | nil => rfl | cons => simp at he'⟩
    · intro e' he' _
      simp only [Book.choose, decide_eq_false_iff_not, Decidable.not_not] at h
      cases e' with
      | nil => simpa using h
      | cons => simp at he'
  | r + 1, l => by
    have hr : ∀ i : Nat, i < (b.counts.length - fromOf l).toNat → (List.range (b.counts.length - fromOf l).toNat)[i]? = some i := fun i hi => List.getElem?_range hi
    cases hf : findFrom (fun i _ => (b.choose r (l ++ [fromOf l + (i : Nat)])).2) 0 (List.range (b.counts.length - fromOf l).toNat) with
    | none =>
      have hc : b.choose (r + 1) l = ([], false) := by simp only [Book.choose, hf]
      rw [hc]
      refine ⟨fun h => (by cases h), fun _ e' he' hi => ?_⟩
      cases e' with
      | nil => simp at he'
      | cons x xs =>
        obtain ⟨h1, h2, h3⟩ := hi
        have hx : x = fromOf l + ((x - fromOf l).toNat : Int) := by omega
        have := findFrom_none.1 hf (x - fromOf l).toNat _ (hr _ (by omega))
        rw [Nat.zero_add, ← hx] at this
        have hq := (choose_spec b r (l ++ [x])).2 this xs (by simpa using he') (by rw [fromOf_snoc]; exact h3)
        simpa using hq
    | some q =>
      obtain ⟨i, j⟩ := q
      obtain ⟨-, g2, g3, g4⟩ := findFrom_some hf
      have hil : i < (b.counts.length - fromOf l).toNat := by have := (List.getElem?_eq_some_iff.1 g2).1; simp at this; omega
      have hc : b.choose (r + 1) l = ((b.choose r (l ++ [fromOf l + (i : Nat)])).1, true) := by simp only [Book.choose, hf]
      rw [hc]
      refine ⟨fun _ => ?_, fun h => (by cases h)⟩
      obtain ⟨e, h1, h2, h3, h4, h5⟩ := (choose_spec b r (l ++ [fromOf l + (i : Nat)])).1 g3
      rw [fromOf_snoc] at h3 h5
      refine ⟨(fromOf l + (i : Nat)) :: e, by rw [h1]; simp, by simp [h2], ⟨by omega, by omega, h3⟩, by simpa using h4, ?_⟩
      intro e' he' hi' ht'
      cases e' with
      | nil => simp at he'
      | cons x xs =>
        obtain ⟨k1, k2, k3⟩ := hi'
        simp only [before]
        by_cases hxe : x = fromOf l + (i : Nat)
        · rw [if_pos hxe]
          subst hxe
          exact h5 xs (by simpa using he') k3 (by simpa using ht')
        · rw [if_neg hxe]
          by_cases hlt : x < fromOf l + (i : Nat)
          · have hx : x = fromOf l + ((x - fromOf l).toNat : Int) := by omega
            have := g4 (x - fromOf l).toNat _ (by omega) (hr _ (by omega))
            rw [Nat.zero_add, ← hx] at this
            have hq := (choose_spec b r (l ++ [x])).2 this xs (by simpa using he') (by rw [fromOf_snoc]; exact k3)
            exact absurd (by simpa using hq) ht'
          · exact decide_eq_false hlt

theorem all_but {b : Book} (hv : b.valid = true) : b.truths ((List.range b.counts.length).map fun (j : Nat) => (j : Int)) ≠ [] := by
  have hs := sane_of_valid hv
  rw [truths_ne hs]
  obtain ⟨n, f, dk, w⟩ := (truths_ne (sane_of_valid (bare_valid hv)) []).1 (bare_ne hs (sane_of_valid (bare_valid hv)))
  refine ⟨n, f, dk, w.stock, w.life, w.dark, fun i x hx hb => ?_⟩
  have : ((List.range b.counts.length).map fun (j : Nat) => (j : Int)).contains (i : Int) = true := by
    rw [List.contains_iff_mem, List.mem_map]
    exact ⟨i, List.mem_range.2 (List.getElem?_eq_some_iff.1 hx).1, rfl⟩
  rw [this] at hb; cases hb

theorem wrong_spec {b : Book} (hv : b.valid = true) : b.wrong.2 = 0 ∧ Incr 0 b.counts.length b.wrong.1 ∧ b.truths b.wrong.1 ≠ [] ∧ b.wrong.1.length ≤ b.counts.length ∧
    ∀ l, Incr 0 b.counts.length l → b.truths l ≠ [] → shorter l b.wrong.1 = false := by
  have hall : (b.choose b.counts.length []).2 = true := by
    cases h : (b.choose b.counts.length []).2 with
    | true => rfl
    | false =>
      have := (choose_spec b b.counts.length []).2 h ((List.range b.counts.length).map fun (j : Nat) => (j : Int)) (by simp) (incr_of (fun x hx => by
        simp only [List.mem_map, List.mem_range] at hx
        obtain ⟨j, hj, rfl⟩ := hx
        simp [fromOf]; omega) (by rw [List.pairwise_map]; exact List.pairwise_lt_range.imp (fun h => by omega)))
      exact absurd (by simpa using this) (all_but hv)
  cases hf : findFrom (fun m _ => (b.choose m []).2) 0 (List.range (b.counts.length + 1)) with
  | none =>
    have := findFrom_none.1 hf b.counts.length b.counts.length (List.getElem?_range (by omega))
    rw [Nat.zero_add, hall] at this; cases this
  | some q =>
    obtain ⟨m, j⟩ := q
    obtain ⟨-, g2, g3, g4⟩ := findFrom_some hf
    have hm : m < b.counts.length + 1 := by have := (List.getElem?_eq_some_iff.1 g2).1; simp at this; omega
    have hw : b.wrong = ((b.choose m []).1, 0) := by simp only [Book.wrong, hv, if_true, hf]
    rw [hw]
    obtain ⟨e, h1, h2, h3, h4, h5⟩ := (choose_spec b m []).1 g3
    have hf0 : fromOf [] = 0 := rfl
    rw [hf0] at h3 h5
    simp only [List.nil_append] at h1 h4 h5
    refine ⟨rfl, by rw [h1]; exact h3, by rw [h1]; exact h4, by rw [h1, h2]; omega, fun l hl ht => ?_⟩
    simp only [h1, shorter, Bool.or_eq_false_iff, Bool.and_eq_false_iff, decide_eq_false_iff_not]
    constructor
    · intro hlt
      have hq := g4 l.length l.length (by omega) (List.getElem?_range (by omega))
      rw [Nat.zero_add] at hq
      have := (choose_spec b l.length []).2 hq l rfl hl
      exact ht (by simpa using this)
    · by_cases hle : (l.length : Int) = e.length
      · right
        rw [earlier_before]
        exact h5 l (by omega) hl ht
      · exact .inl hle

def Book.keptN (b : Book) (l : List Int) (i : Nat) : List Count := (List.range i).foldl (fun acc (j : Nat) => match b.counts[j]? with | some x => if l.contains (j : Int) then acc else acc ++ [x] | none => acc) []
def Book.withC (b : Book) (L : List Count) : Book := { b with kc := if L = [] then .nil else .shared, counts := L }
def Book.without (b : Book) (l : List Int) : Book := b.withC (b.keptN l b.counts.length)
theorem valid_counts5 {b : Book} (hv : b.valid = true) : b.counts.length ≤ 5 := by
  simp only [Book.valid, Bool.and_eq_true, decide_eq_true_eq] at hv
  have := hv.1.1.1.1.1.1.1.2; omega
def B10 (b : Book) (c : C) : List C := [ci b.s0.lo, ci b.s0.hi, ci b.s1.lo, ci b.s1.hi, ci b.f0.lo, ci b.f0.hi, ci b.f1.lo, ci b.f1.hi, .sl b.kd 5 (b.days.map Day.c), .sl b.ko 3 (b.orders.map Order.c), c]
section
variable (b : Book) (c c' : C)
@[go_sem] theorem B10_get : (B10 b c)[10]? = some c := nrfl rfl
@[go_sem] theorem B10_set : (B10 b c).set 10 c' = B10 b c' := nrfl rfl
@[go_sem] theorem B10_under (n : Nat) : C.underL n (B10 b c) = C.underL n [c] := by simp [B10, C.underL, C.under]
@[go_sem] theorem B10_len : (B10 b c).length = 11 := nrfl rfl
@[go_sem] theorem B10_all : cellsAt (B10 b c) 0 11 = some (B10 b c) := nrfl rfl
end
section
variable {Γ : Env} [P06 Γ] [G06 Γ]
end
end Go.Pm.Cd

namespace Go.Pm.Cd
open Ac
set_option maxRecDepth 100000
set_option linter.unusedSimpArgs false
set_option linter.unusedSectionVars false
set_option linter.unusedVariables false

/-! ### No more than there were and came -/
section
variable {Γ : Env} [P06 Γ] [G06 Γ]
end
end Go.Pm.Cd

namespace Go.Pm.Cd
open Ac
set_option maxRecDepth 100000
set_option linter.unusedSimpArgs false
set_option linter.unusedSectionVars false
set_option linter.unusedVariables false

def dkOf (dark : List Int) (d : Nat) : Int := dark.getD d 0
def leftsR (b : Book) (k n f : Int) (dark : List Int) (m : Nat) : List Int := (List.range m).map fun d => b.runK k n f (dkOf dark) (d + 1)
theorem leftsR_succ (b : Book) (k n f : Int) (dark : List Int) (m : Nat) : leftsR b k n f dark (m + 1) = leftsR b k n f dark m ++ [b.runK k n f (dkOf dark) (m + 1)] := by simp [leftsR, List.range_succ]
theorem leftsR_len (b : Book) (k n f : Int) (dark : List Int) (m : Nat) : (leftsR b k n f dark m).length = m := by simp [leftsR]
theorem leftsR_get (b : Book) (k n f : Int) (dark : List Int) {m d : Nat} (h : d < m) : (leftsR b k n f dark m)[d]? = some (b.runK k n f (dkOf dark) (d + 1)) := by simp [leftsR, h]
def DarkOk (b : Book) (dark : List Int) : Prop := ∀ (d : Nat) (x : Day) (v : Int), b.days[d]? = some x → dark[d]? = some v → x.dark.has v
theorem runK_bound {b : Book} (hv : b.sane = true) {k n f : Int} {dk : Nat → Int} (hk : k = 0 ∨ k = 1) (hn : 0 ≤ n ∧ n ≤ 60) (hf : 1 ≤ f ∧ f ≤ 6) (hd : ∀ (d : Nat) (x : Day), b.days[d]? = some x → 0 ≤ dk d ∧ dk d ≤ 6) : ∀ (d : Nat), -54 * d ≤ b.runK k n f dk d ∧ b.runK k n f dk d ≤ 60 + 240 * d
  | 0 => by simp only [Book.runK]; omega
  | d + 1 => by
    have ih := runK_bound hv hk hn hf hd d
    have hc := comes_bound hv k d
    cases hx : b.days[d]? with
    | none => simp only [Book.runK, hx]; omega
    | some x =>
      rw [runK_succ b k n f dk hx]
      have hvx := valid_day hv hx
      have hdx := hd d x hx
      have hlt : 0 ≤ x.lights k ∧ x.lights k ≤ 9 := by
        rcases hk with rfl | rfl
        · exact hvx.2.2.1
        · exact hvx.2.2.2
      have hb := burnt_bound f (x.lights k) (min x.hours (dk d)) hf (by omega) hlt
      simp only [after1]
      omega
theorem darkOk_6 {b : Book} (hv : b.sane = true) {dark : List Int} (hd : DarkOk b dark) (hl : b.days.length ≤ dark.length) : ∀ (d : Nat) (x : Day), b.days[d]? = some x → 0 ≤ dkOf dark d ∧ dkOf dark d ≤ 6 := by
  intro d x hx
  have hlt := (List.getElem?_eq_some_iff.1 hx).1
  have hg : dark[d]? = some (dkOf dark d) := by simp only [dkOf, List.getD, List.getElem?_eq_getElem (show d < dark.length by omega), Option.getD_some]
  have h := hd d x _ hx hg
  have hvx := (valid_day hv hx).2.1
  have h1 := h.1; have h2 := h.2
  omega

section
variable {Γ : Env} [P06 Γ] [G06 Γ]
theorem rlefts_L1 (b : Book) [hb : b.Fits] (hv : b.sane = true) (kind now : Int) (d : Nat) (v7 : V) (hv7 : ∀ n, v7.under n = true) (hnow : -100000 ≤ now ∧ now ≤ 100000) (hd : d ≤ 5) (z : Obj) (hz : z.under 2 = true) {β : Type} (Q : Ex → St → Option β) :
    E Γ decaniref06_lefts_L1 ⟨[(1, vi kind), (3, .sc (.ptr 0 0)), (5, .sc (.ptr 1 0)), (7, v7), (8, vi now), (9, vi d), (10, vi 0)], [.var b.c, z]⟩ Q =
      Q (.exit 2) ⟨[(1, vi kind), (3, .sc (.ptr 0 0)), (5, .sc (.ptr 1 0)), (7, v7), (8, vi (now + got2 b.comes kind d)), (9, vi d), (10, vi b.orders.length), (27, vb false)], [.var b.c, z]⟩ := by
  have hvd := valid_days hv
  refine E_countS b.orders.length (fun i (_ : Unit) => ⟨[(1, vi kind), (3, .sc (.ptr 0 0)), (5, .sc (.ptr 1 0)), (7, v7), (8, vi (now + got2 (b.comesN i) kind d)), (9, vi d), (10, vi i)], [.var b.c, z]⟩) (fun _ _ => True)
    (fun _ => (.exit 2, ⟨[(1, vi kind), (3, .sc (.ptr 0 0)), (5, .sc (.ptr 1 0)), (7, v7), (8, vi (now + got2 b.comes kind d)), (9, vi d), (10, vi b.orders.length), (27, vb false)], [.var b.c, z]⟩)) () ?_ trivial ?_ ?_ ?_
  · simp [Book.comesN, got2]
  · intro i _ hi _
    refine ⟨(), trivial, ?_⟩
    obtain ⟨x, hx⟩ : ∃ x, b.orders[i]? = some x := ⟨_, List.getElem?_eq_getElem hi⟩
    have hlt := decide_eq_true (show (i : Int) < b.orders.length by omega)
    have hiw : IntKind.i64.wrap ((i : Int) + 1) = i + 1 := wrap_i64 (by omega) (by omega)
    have hs : now + got2 (b.comesN (i + 1)) kind d = if x.kind = kind ∧ x.day = d then now + got2 (b.comesN i) kind d + x.many else now + got2 (b.comesN i) kind d := by
      rw [comesN_succ b hx, addOrder, got2_put]
      by_cases h : kind = x.kind ∧ (d : Int) = x.day
      · rw [if_pos h, if_pos ⟨h.1.symm, h.2.symm⟩, h.1, h.2]; omega
      · rw [if_neg h, if_neg (fun e => h ⟨e.1.symm, e.2.symm⟩)]
    have hbd := comesN_bound hv i (by omega) kind d
    have hxo := valid_order hv hx
    have hcw : IntKind.i64.wrap (now + got2 (b.comesN i) kind d + x.many) = now + got2 (b.comesN i) kind d + x.many := wrap_i64 (by omega) (by omega)
    (simp only [go_sem, simprocAttr, decaniref06_lefts_B1, hx, hiw, hlt, hcw, hz, hv7]; repeat' (first | ((first | (refine br_yes (by omega) ?_) | (refine br_no (by omega) ?_) | (apply br_all; (· simp only [Bool.and_eq_true, decide_eq_true_eq]; omega)) | (apply br_free; (· simp [go_sem, Pm.acc, Acc.free, refsOf, offOf, keyEq, tagEq, cellsEq, cellEq]; done)) | ((first | apply br_mergeT | apply br_mergeF); (· intro h; simp only [go_sem, simprocAttr, sel_of h, decaniref06_lefts_B1, hx, hiw, hlt, hcw, hz, hv7]; exact rfl))); (try simp only [go_sem, simprocAttr, decaniref06_lefts_B1, hx, hiw, hlt, hcw, hz, hv7])) | ((first | apply onGuard_sel | (apply pickV_split; apply br_split) | apply br_split) <;> intro h <;> (try simp only [go_sem, simprocAttr, h, decaniref06_lefts_B1, hx, hiw, hlt, hcw, hz, hv7]))))
    all_goals (simp only [Bool.and_eq_true, Bool.or_eq_true, Bool.not_eq_true', Bool.and_eq_false_iff, Bool.or_eq_false_iff, Bool.not_eq_false', Bool.not_eq_true, decide_eq_true_eq, decide_eq_false_iff_not, Bool.false_eq_true] at *; first | (rw [hs, if_pos (by omega)]; rfl) | (rw [hs, if_neg (by omega)]; rfl))
  · intro _ _
    have hld := decide_eq_false (show ¬ (b.orders.length : Int) < b.orders.length by omega)
    (simp only [go_sem, simprocAttr, decaniref06_lefts_B1, hld, comesN_all]; repeat' (first | ((first | (refine br_yes (by omega) ?_) | (refine br_no (by omega) ?_) | (apply br_all; (· simp only [Bool.and_eq_true, decide_eq_true_eq]; omega)) | (apply br_free; (· simp [go_sem, Pm.acc, Acc.free, refsOf, offOf, keyEq, tagEq, cellsEq, cellEq]; done)) | ((first | apply br_mergeT | apply br_mergeF); (· intro h; simp only [go_sem, simprocAttr, sel_of h, decaniref06_lefts_B1, hld, comesN_all]; exact rfl))); (try simp only [go_sem, simprocAttr, decaniref06_lefts_B1, hld, comesN_all])) | ((first | apply onGuard_sel | (apply pickV_split; apply br_split) | apply br_split) <;> intro h <;> (try simp only [go_sem, simprocAttr, h, decaniref06_lefts_B1, hld, comesN_all]))))
  · intro _ _
    rfl

theorem rlefts_L2 (b : Book) [hb : b.Fits] (hv : b.sane = true) (kind now h f n : Int) (cd : C) (hcd : ∀ m, cd.under m = true) (hk : kind = 0 ∨ kind = 1) (d : Nat) {x : Day} (hx : b.days[d]? = some x) (v7 : V) (hv7 : ∀ n, v7.under n = true) (hnow : -100000 ≤ now ∧ now ≤ 100000) (hf : 1 ≤ f ∧ f ≤ 6) (hh : 0 ≤ h ∧ h ≤ 6) {β : Type} {Q : Ex → St → Option β} {r : Option β}
    (hQ : ∀ j : Nat, Q (.exit 4) ⟨[(1, vi kind), (3, .sc (.ptr 0 0)), (5, .sc (.ptr 1 0)), (7, v7), (8, vi (now - (h + f - 1).tdiv f * x.lights kind)), (9, vi d), (11, vi h), (12, vi j), (70, vb false)], [.var b.c, .var [cd, ci n, ci f]]⟩ = r) :
    E Γ decaniref06_lefts_L2 ⟨[(1, vi kind), (3, .sc (.ptr 0 0)), (5, .sc (.ptr 1 0)), (7, v7), (8, vi now), (9, vi d), (11, vi h), (12, vi 0)], [.var b.c, .var [cd, ci n, ci f]]⟩ Q = r := by
  have hvd := valid_days hv
  have hvx := valid_day hv hx
  have hdl := (List.getElem?_eq_some_iff.1 hx).1
  have eb := each_bound f h hf hh
  have hlt9 : 0 ≤ x.lights kind ∧ x.lights kind ≤ 9 := by
    rcases hk with rfl | rfl
    · exact hvx.2.2.1
    · exact hvx.2.2.2
  obtain ⟨m, hm⟩ : ∃ m, (h + f - 1).tdiv f = m := ⟨_, rfl⟩
  obtain ⟨g, hg⟩ : ∃ g, x.lights kind = g := ⟨_, rfl⟩
  rw [hm] at eb
  rw [hg] at hlt9
  have hcount : ∀ i : Nat, ((i : Int) < m → (i : Int) * f < h) ∧ ((i : Int) = m → ¬ (i : Int) * f < h) := by
    intro i
    have hfc : f = 1 ∨ f = 2 ∨ f = 3 ∨ f = 4 ∨ f = 5 ∨ f = 6 := by omega
    rcases hfc with rfl | rfl | rfl | rfl | rfl | rfl <;> (rw [Int.tdiv_eq_ediv_of_nonneg (by omega)] at hm; omega)
  have hmul : ∀ i : Nat, (i : Int) ≤ m → 0 ≤ (i : Int) * g ∧ (i : Int) * g ≤ 54 := by
    intro i hi
    have hic : (i : Int) = 0 ∨ (i : Int) = 1 ∨ (i : Int) = 2 ∨ (i : Int) = 3 ∨ (i : Int) = 4 ∨ (i : Int) = 5 ∨ (i : Int) = 6 := by omega
    rcases hic with e | e | e | e | e | e | e <;> rw [e] <;> omega
  have hmf : ∀ i : Nat, (i : Int) ≤ m → 0 ≤ (i : Int) * f ∧ (i : Int) * f ≤ 36 := by
    intro i hi
    have hic : (i : Int) = 0 ∨ (i : Int) = 1 ∨ (i : Int) = 2 ∨ (i : Int) = 3 ∨ (i : Int) = 4 ∨ (i : Int) = 5 ∨ (i : Int) = 6 := by omega
    rcases hic with e | e | e | e | e | e | e <;> rw [e] <;> omega
  have hmn : ((m.toNat : Nat) : Int) = m := by omega
  refine E_countS m.toNat (fun i (_ : Unit) => ⟨[(1, vi kind), (3, .sc (.ptr 0 0)), (5, .sc (.ptr 1 0)), (7, v7), (8, vi (now - (i : Nat) * g)), (9, vi d), (11, vi h), (12, vi ((i : Nat) * f))], [.var b.c, .var [cd, ci n, ci f]]⟩) (fun _ _ => True)
    (fun _ => (.exit 4, ⟨[(1, vi kind), (3, .sc (.ptr 0 0)), (5, .sc (.ptr 1 0)), (7, v7), (8, vi (now - m * g)), (9, vi d), (11, vi h), (12, vi ((m.toNat : Nat) * f)), (70, vb false)], [.var b.c, .var [cd, ci n, ci f]]⟩)) () ?_ trivial ?_ ?_ ?_
  · simp
  · intro i _ hi _
    refine ⟨(), trivial, ?_⟩
    have hlt := decide_eq_true ((hcount i).1 (by omega))
    have h1 := hmul i (by omega)
    have h2 := hmf i (by omega)
    have hw1 : IntKind.i64.wrap (now - (i : Int) * g - g) = now - (i + 1 : Nat) * g := by
      rw [wrap_i64 (by omega) (by omega)]
      have : ((i + 1 : Nat) : Int) * g = i * g + g := by rw [show ((i + 1 : Nat) : Int) = (i : Int) + 1 by omega, Int.add_mul, Int.one_mul]
      rw [this]; omega
    have hw2 : IntKind.i64.wrap ((i : Int) * f + f) = (i + 1 : Nat) * f := by
      rw [wrap_i64 (by omega) (by omega)]
      rw [show ((i + 1 : Nat) : Int) = (i : Int) + 1 by omega, Int.add_mul, Int.one_mul]
    rcases hk with rfl | rfl
    · have hg' : x.l0 = g := hg
      (simp only [go_sem, simprocAttr, decaniref06_lefts_B2, hx, hlt, hg', hw1, hw2, hv7, hcd]; repeat' (first | ((first | (refine br_yes (by omega) ?_) | (refine br_no (by omega) ?_) | (apply br_all; (· simp only [Bool.and_eq_true, decide_eq_true_eq]; omega)) | (apply br_free; (· simp [go_sem, Pm.acc, Acc.free, refsOf, offOf, keyEq, tagEq, cellsEq, cellEq]; done)) | ((first | apply br_mergeT | apply br_mergeF); (· intro h; simp only [go_sem, simprocAttr, sel_of h, decaniref06_lefts_B2, hx, hlt, hg', hw1, hw2, hv7, hcd]; exact rfl))); (try simp only [go_sem, simprocAttr, decaniref06_lefts_B2, hx, hlt, hg', hw1, hw2, hv7, hcd])) | ((first | apply onGuard_sel | (apply pickV_split; apply br_split) | apply br_split) <;> intro h <;> (try simp only [go_sem, simprocAttr, h, decaniref06_lefts_B2, hx, hlt, hg', hw1, hw2, hv7, hcd]))))
    · have hg' : x.l1 = g := hg
      (simp only [go_sem, simprocAttr, decaniref06_lefts_B2, hx, hlt, hg', hw1, hw2, hv7, hcd]; repeat' (first | ((first | (refine br_yes (by omega) ?_) | (refine br_no (by omega) ?_) | (apply br_all; (· simp only [Bool.and_eq_true, decide_eq_true_eq]; omega)) | (apply br_free; (· simp [go_sem, Pm.acc, Acc.free, refsOf, offOf, keyEq, tagEq, cellsEq, cellEq]; done)) | ((first | apply br_mergeT | apply br_mergeF); (· intro h; simp only [go_sem, simprocAttr, sel_of h, decaniref06_lefts_B2, hx, hlt, hg', hw1, hw2, hv7, hcd]; exact rfl))); (try simp only [go_sem, simprocAttr, decaniref06_lefts_B2, hx, hlt, hg', hw1, hw2, hv7, hcd])) | ((first | apply onGuard_sel | (apply pickV_split; apply br_split) | apply br_split) <;> intro h <;> (try simp only [go_sem, simprocAttr, h, decaniref06_lefts_B2, hx, hlt, hg', hw1, hw2, hv7, hcd]))))
  · intro _ _
    have hlt := decide_eq_false ((hcount m.toNat).2 (by omega))
    rw [hmn] at hlt
    simp only [hmn]
    (simp only [go_sem, simprocAttr, decaniref06_lefts_B2, hlt]; repeat' (first | ((first | (refine br_yes (by omega) ?_) | (refine br_no (by omega) ?_) | (apply br_all; (· simp only [Bool.and_eq_true, decide_eq_true_eq]; omega)) | (apply br_free; (· simp [go_sem, Pm.acc, Acc.free, refsOf, offOf, keyEq, tagEq, cellsEq, cellEq]; done)) | ((first | apply br_mergeT | apply br_mergeF); (· intro h; simp only [go_sem, simprocAttr, sel_of h, decaniref06_lefts_B2, hlt]; exact rfl))); (try simp only [go_sem, simprocAttr, decaniref06_lefts_B2, hlt])) | ((first | apply onGuard_sel | (apply pickV_split; apply br_split) | apply br_split) <;> intro h <;> (try simp only [go_sem, simprocAttr, h, decaniref06_lefts_B2, hlt]))))
  · intro _ _
    have := hQ (m.toNat * f.toNat)
    rw [hm, hg] at this
    have e : ((m.toNat * f.toNat : Nat) : Int) = (m.toNat : Nat) * f := by
      rw [Int.natCast_mul]
      have : ((f.toNat : Nat) : Int) = f := by omega
      rw [this]
    rw [e] at this
    exact this

theorem rlefts_L0 (b : Book) [hb : b.Fits] (hv : b.sane = true) (kind f n : Int) (kd : SK) (dark : List Int) (hdl : dark.length = b.days.length) (hdk : DarkOk b dark) (hk : kind = 0 ∨ kind = 1) (hn : 0 ≤ n ∧ n ≤ 60) (hf : 1 ≤ f ∧ f ≤ 6) {β : Type} (Q : Ex → St → Option β) :
    E Γ decaniref06_lefts_L0 ⟨[(1, vi kind), (3, .sc (.ptr 0 0)), (5, .sc (.ptr 1 0)), (7, .sc (.sl .full 1 [])), (8, vi n), (9, vi 0)], [.var b.c, .var [.sl kd 1 (dark.map fun x => [ci x]), ci n, ci f]]⟩ Q =
      Q (.exit 0) ⟨[(1, vi kind), (3, .sc (.ptr 0 0)), (5, .sc (.ptr 1 0)), (7, .sc (ownF 1 ((leftsR b kind n f dark b.days.length).map fun x => [ci x]))), (8, vi (b.runK kind n f (dkOf dark) b.days.length)), (9, vi b.days.length), (20, vb false)], [.var b.c, .var [.sl kd 1 (dark.map fun x => [ci x]), ci n, ci f]]⟩ := by
  have hvd := valid_days hv
  refine E_countS b.days.length (fun i (_ : Unit) => ⟨[(1, vi kind), (3, .sc (.ptr 0 0)), (5, .sc (.ptr 1 0)), (7, .sc (ownF 1 ((leftsR b kind n f dark i).map fun x => [ci x]))), (8, vi (b.runK kind n f (dkOf dark) i)), (9, vi i)], [.var b.c, .var [.sl kd 1 (dark.map fun x => [ci x]), ci n, ci f]]⟩) (fun _ _ => True)
    (fun _ => (.exit 0, ⟨[(1, vi kind), (3, .sc (.ptr 0 0)), (5, .sc (.ptr 1 0)), (7, .sc (ownF 1 ((leftsR b kind n f dark b.days.length).map fun x => [ci x]))), (8, vi (b.runK kind n f (dkOf dark) b.days.length)), (9, vi b.days.length), (20, vb false)], [.var b.c, .var [.sl kd 1 (dark.map fun x => [ci x]), ci n, ci f]]⟩)) () rfl trivial ?_ ?_ ?_
  · intro i _ hi _
    refine ⟨(), trivial, ?_⟩
    obtain ⟨x, hx⟩ : ∃ x, b.days[i]? = some x := ⟨_, List.getElem?_eq_getElem hi⟩
    have hvx := valid_day hv hx
    have hlt := decide_eq_true (show (i : Int) < b.days.length by omega)
    have hiw : IntKind.i64.wrap ((i : Int) + 1) = i + 1 := wrap_i64 (by omega) (by omega)
    have hd6 := darkOk_6 hv hdk (by omega)
    have hbd := runK_bound hv (dk := dkOf dark) hk hn hf hd6 i
    have hcb := comes_bound hv kind i
    have hdg : dark[i]? = some (dkOf dark i) := by simp only [dkOf, List.getD, List.getElem?_eq_getElem (show i < dark.length by omega), Option.getD_some]
    have hdi := hd6 i x hx
    have hv7 : ∀ m, V.under m (.sc (ownF 1 ((leftsR b kind n f dark i).map fun x => [ci x]))) = true := fun m => by simp only [V.under, under_ownF]
    have hL1 {β : Type} (Q : Ex → St → Option β) := rlefts_L1 (Γ := Γ) b hv kind (b.runK kind n f (dkOf dark) i) i _ hv7 (by omega) (by omega) (.var [.sl kd 1 (dark.map fun x => [ci x]), ci n, ci f]) rfl Q
    have hrun := runK_succ b kind n f (dkOf dark) hx
    have hA := appended_ownF 1 .full ((leftsR b kind n f dark i).map fun x => [ci x]) [ci (b.runK kind n f (dkOf dark) (i + 1))] (by simp only [List.length_map, leftsR_len, room]; omega)
    have hmin : 0 ≤ min x.hours (dkOf dark i) ∧ min x.hours (dkOf dark i) ≤ 6 := by omega
    rw [leftsR_succ, List.map_append, List.map_cons, List.map_nil, ownF_app]
    (simp only [go_sem, simprocAttr, decaniref06_lefts_B0, hx, hlt, hL1, hdg]; repeat' (first | ((first | (refine br_yes (by omega) ?_) | (refine br_no (by omega) ?_) | (apply br_all; (· simp only [Bool.and_eq_true, decide_eq_true_eq]; omega)) | (apply br_free; (· simp [go_sem, Pm.acc, Acc.free, refsOf, offOf, keyEq, tagEq, cellsEq, cellEq]; done)) | ((first | apply br_mergeT | apply br_mergeF); (· intro h; simp only [go_sem, simprocAttr, sel_of h, decaniref06_lefts_B0, hx, hlt, hL1, hdg]; exact rfl))); (try simp only [go_sem, simprocAttr, decaniref06_lefts_B0, hx, hlt, hL1, hdg])) | ((first | apply onGuard_sel | (apply pickV_split; apply br_split) | apply br_split) <;> intro h <;> (try simp only [go_sem, simprocAttr, h, decaniref06_lefts_B0, hx, hlt, hL1, hdg]))))
    refine rlefts_L2 b hv kind (b.runK kind n f (dkOf dark) i + got2 b.comes kind i) (min x.hours (dkOf dark i)) f n _ (fun m => rfl) hk i hx _ hv7 (by omega) hf hmin fun j => ?_
    have hfin : b.runK kind n f (dkOf dark) i + got2 b.comes kind i - (min x.hours (dkOf dark i) + f - 1).tdiv f * x.lights kind = b.runK kind n f (dkOf dark) (i + 1) := by rw [hrun]; rfl
    rw [hfin]
    (simp only [go_sem, simprocAttr, hA, hiw]; repeat' (first | ((first | (refine br_yes (by omega) ?_) | (refine br_no (by omega) ?_) | (apply br_all; (· simp only [Bool.and_eq_true, decide_eq_true_eq]; omega)) | (apply br_free; (· simp [go_sem, Pm.acc, Acc.free, refsOf, offOf, keyEq, tagEq, cellsEq, cellEq]; done)) | ((first | apply br_mergeT | apply br_mergeF); (· intro h; simp only [go_sem, simprocAttr, sel_of h, hA, hiw]; exact rfl))); (try simp only [go_sem, simprocAttr, hA, hiw])) | ((first | apply onGuard_sel | (apply pickV_split; apply br_split) | apply br_split) <;> intro h <;> (try simp only [go_sem, simprocAttr, h, hA, hiw]))))
    rfl
  · intro _ _
    have hlt := decide_eq_false (show ¬ (b.days.length : Int) < b.days.length by omega)
    (simp only [go_sem, simprocAttr, decaniref06_lefts_B0, hlt]; repeat' (first | ((first | (refine br_yes (by omega) ?_) | (refine br_no (by omega) ?_) | (apply br_all; (· simp only [Bool.and_eq_true, decide_eq_true_eq]; omega)) | (apply br_free; (· simp [go_sem, Pm.acc, Acc.free, refsOf, offOf, keyEq, tagEq, cellsEq, cellEq]; done)) | ((first | apply br_mergeT | apply br_mergeF); (· intro h; simp only [go_sem, simprocAttr, sel_of h, decaniref06_lefts_B0, hlt]; exact rfl))); (try simp only [go_sem, simprocAttr, decaniref06_lefts_B0, hlt])) | ((first | apply onGuard_sel | (apply pickV_split; apply br_split) | apply br_split) <;> intro h <;> (try simp only [go_sem, simprocAttr, h, decaniref06_lefts_B0, hlt]))))
  · intro _ _
    rfl

theorem rlefts_k (b : Book) [hb : b.Fits] (hv : b.sane = true) (kind f n : Int) (kd : SK) (dark : List Int) (hdl : dark.length = b.days.length) (hdk : DarkOk b dark) (hk : kind = 0 ∨ kind = 1) (hn : 0 ≤ n ∧ n ≤ 60) (hf : 1 ≤ f ∧ f ≤ 6) :
    K Γ (.fn 74) [.agg b.c, vi kind, .agg [.sl kd 1 (dark.map fun x => [ci x]), ci n, ci f]] [] = some (.sc (.sl (kF (leftsR b kind n f dark b.days.length)) 1 ((leftsR b kind n f dark b.days.length).map fun x => [ci x])), []) := by
  have hL {β : Type} (Q : Ex → St → Option β) := rlefts_L0 (Γ := Γ) b hv kind f n kd dark hdl hdk hk hn hf Q
  rw [K_fn P06.f74 _ _ rfl]
  (simp only [go_sem, simprocAttr, decaniref06_lefts, hL, unown_ownF, kF_map]; repeat' (first | ((first | (refine br_yes (by omega) ?_) | (refine br_no (by omega) ?_) | (apply br_all; (· simp only [Bool.and_eq_true, decide_eq_true_eq]; omega)) | (apply br_free; (· simp [go_sem, Pm.acc, Acc.free, refsOf, offOf, keyEq, tagEq, cellsEq, cellEq]; done)) | ((first | apply br_mergeT | apply br_mergeF); (· intro h; simp only [go_sem, simprocAttr, sel_of h, decaniref06_lefts, hL, unown_ownF, kF_map]; exact rfl))); (try simp only [go_sem, simprocAttr, decaniref06_lefts, hL, unown_ownF, kF_map])) | ((first | apply onGuard_sel | (apply pickV_split; apply br_split) | apply br_split) <;> intro h <;> (try simp only [go_sem, simprocAttr, h, decaniref06_lefts, hL, unown_ownF, kF_map]))))

def rightR (b : Book) (k : Int) (l : List Int) (but : Int) : Bool := (findFrom (fun i (x : Count) => decide (x.kind = k) && !hasBit but (i : Nat) && !within (x.left - l.getD x.day.toNat 0) (-x.err) x.err) 0 b.counts).isNone
theorem rright_k (b : Book) [hb : b.Fits] (hv : b.sane = true) (k : Int) (kl : SK) (l : List Int) (hll : l.length = b.days.length) (hl : ∀ v, v ∈ l → -10000 ≤ v ∧ v ≤ 10000) (but : Int) :
    K Γ (.fn 82) [.agg b.c, vi k, .sc (.sl kl 1 (l.map fun x => [ci x])), vi but] [] = some (vb (rightR b k l but), []) := by
  have hvd := valid_days hv
  rw [K_fn P06.f82 _ _ rfl]
  (simp only [go_sem, simprocAttr, decaniref06_right]; repeat' (first | ((first | (refine br_yes (by omega) ?_) | (refine br_no (by omega) ?_) | (apply br_all; (· simp only [Bool.and_eq_true, decide_eq_true_eq]; omega)) | (apply br_free; (· simp [go_sem, Pm.acc, Acc.free, refsOf, offOf, keyEq, tagEq, cellsEq, cellEq]; done)) | ((first | apply br_mergeT | apply br_mergeF); (· intro h; simp only [go_sem, simprocAttr, sel_of h, decaniref06_right]; exact rfl))); (try simp only [go_sem, simprocAttr, decaniref06_right])) | ((first | apply onGuard_sel | (apply pickV_split; apply br_split) | apply br_split) <;> intro h <;> (try simp only [go_sem, simprocAttr, h, decaniref06_right]))))
  refine (E_find (fun i => ⟨[(1, vi k), (2, .sc (.sl kl 1 (l.map fun x => [ci x]))), (3, vi but), (4, .sc (.ptr 0 0)), (9, vi i)], [.var b.c]⟩) b.counts (fun i (x : Count) => decide (x.kind = k) && !hasBit but (i : Nat) && !within (x.left - l.getD x.day.toNat 0) (-x.err) x.err)
    (fun i x => (.ret, ⟨[(8, vb false)], [.var b.c, .var x.c]⟩)) (.exit 0, ⟨[(1, vi k), (2, .sc (.sl kl 1 (l.map fun x => [ci x]))), (3, vi but), (4, .sc (.ptr 0 0)), (9, vi b.counts.length), (15, vb false)], [.var b.c]⟩) _ ?_ ?_ ?_).trans ?_
  · intro i x hx hf
    have hc := valid_counts hv x (List.mem_of_getElem? hx)
    simp only [Book.isCount, Book.isDay, Bool.and_eq_true, within_iff] at hc
    have hlen := (List.getElem?_eq_some_iff.1 hx).1
    have hlt := decide_eq_true (show (i : Int) < b.counts.length by omega)
    have hiw : IntKind.i64.wrap ((i : Int) + 1) = i + 1 := wrap_i64 (by omega) (by omega)
    have hg : l[x.day.toNat]? = some (l.getD x.day.toNat 0) := by simp only [List.getD, List.getElem?_eq_getElem (show x.day.toNat < l.length by omega), Option.getD_some]
    have hlb := hl _ (List.mem_of_getElem? hg)
    have hw1 : IntKind.i64.wrap (x.left - l.getD x.day.toNat 0) = x.left - l.getD x.day.toNat 0 := wrap_i64 (by omega) (by omega)
    have hw2 : IntKind.i64.wrap (0 - x.err) = -x.err := by rw [wrap_i64 (by omega) (by omega)]; omega
    by_cases hk : x.kind = k
    · have d1 := decide_eq_true hk
      cases hh : hasBit but (i : Int) with
      | true =>
        (simp only [go_sem, simprocAttr, decaniref06_right_B0, hx, hlt, hiw, d1, hh]; repeat' (first | ((first | (refine br_yes (by omega) ?_) | (refine br_no (by omega) ?_) | (apply br_all; (· simp only [Bool.and_eq_true, decide_eq_true_eq]; omega)) | (apply br_free; (· simp [go_sem, Pm.acc, Acc.free, refsOf, offOf, keyEq, tagEq, cellsEq, cellEq]; done)) | ((first | apply br_mergeT | apply br_mergeF); (· intro h; simp only [go_sem, simprocAttr, sel_of h, decaniref06_right_B0, hx, hlt, hiw, d1, hh]; exact rfl))); (try simp only [go_sem, simprocAttr, decaniref06_right_B0, hx, hlt, hiw, d1, hh])) | ((first | apply onGuard_sel | (apply pickV_split; apply br_split) | apply br_split) <;> intro h <;> (try simp only [go_sem, simprocAttr, h, decaniref06_right_B0, hx, hlt, hiw, d1, hh]))))
        rfl
      | false =>
        rw [d1, hh] at hf
        simp only [Bool.not_false, Bool.true_and, Bool.not_eq_false'] at hf
        (simp only [go_sem, simprocAttr, decaniref06_right_B0, hx, hlt, hiw, d1, hh, hg, hw1, hw2, hf]; repeat' (first | ((first | (refine br_yes (by omega) ?_) | (refine br_no (by omega) ?_) | (apply br_all; (· simp only [Bool.and_eq_true, decide_eq_true_eq]; omega)) | (apply br_free; (· simp [go_sem, Pm.acc, Acc.free, refsOf, offOf, keyEq, tagEq, cellsEq, cellEq]; done)) | ((first | apply br_mergeT | apply br_mergeF); (· intro h; simp only [go_sem, simprocAttr, sel_of h, decaniref06_right_B0, hx, hlt, hiw, d1, hh, hg, hw1, hw2, hf]; exact rfl))); (try simp only [go_sem, simprocAttr, decaniref06_right_B0, hx, hlt, hiw, d1, hh, hg, hw1, hw2, hf])) | ((first | apply onGuard_sel | (apply pickV_split; apply br_split) | apply br_split) <;> intro h <;> (try simp only [go_sem, simprocAttr, h, decaniref06_right_B0, hx, hlt, hiw, d1, hh, hg, hw1, hw2, hf]))))
        rfl
    · have d1 := decide_eq_false hk
      (simp only [go_sem, simprocAttr, decaniref06_right_B0, hx, hlt, hiw, d1]; repeat' (first | ((first | (refine br_yes (by omega) ?_) | (refine br_no (by omega) ?_) | (apply br_all; (· simp only [Bool.and_eq_true, decide_eq_true_eq]; omega)) | (apply br_free; (· simp [go_sem, Pm.acc, Acc.free, refsOf, offOf, keyEq, tagEq, cellsEq, cellEq]; done)) | ((first | apply br_mergeT | apply br_mergeF); (· intro h; simp only [go_sem, simprocAttr, sel_of h, decaniref06_right_B0, hx, hlt, hiw, d1]; exact rfl))); (try simp only [go_sem, simprocAttr, decaniref06_right_B0, hx, hlt, hiw, d1])) | ((first | apply onGuard_sel | (apply pickV_split; apply br_split) | apply br_split) <;> intro h <;> (try simp only [go_sem, simprocAttr, h, decaniref06_right_B0, hx, hlt, hiw, d1]))))
      rfl
  · intro i x hx hf
    have hc := valid_counts hv x (List.mem_of_getElem? hx)
    simp only [Book.isCount, Book.isDay, Bool.and_eq_true, within_iff] at hc
    have hlen := (List.getElem?_eq_some_iff.1 hx).1
    have hlt := decide_eq_true (show (i : Int) < b.counts.length by omega)
    have hg : l[x.day.toNat]? = some (l.getD x.day.toNat 0) := by simp only [List.getD, List.getElem?_eq_getElem (show x.day.toNat < l.length by omega), Option.getD_some]
    have hlb := hl _ (List.mem_of_getElem? hg)
    have hw1 : IntKind.i64.wrap (x.left - l.getD x.day.toNat 0) = x.left - l.getD x.day.toNat 0 := wrap_i64 (by omega) (by omega)
    have hw2 : IntKind.i64.wrap (0 - x.err) = -x.err := by rw [wrap_i64 (by omega) (by omega)]; omega
    simp only [Bool.and_eq_true, Bool.not_eq_true'] at hf
    obtain ⟨⟨d1, hh⟩, hf⟩ := hf
    (simp only [go_sem, simprocAttr, decaniref06_right_B0, hx, hlt, d1, hh, hg, hw1, hw2, hf]; repeat' (first | ((first | (refine br_yes (by omega) ?_) | (refine br_no (by omega) ?_) | (apply br_all; (· simp only [Bool.and_eq_true, decide_eq_true_eq]; omega)) | (apply br_free; (· simp [go_sem, Pm.acc, Acc.free, refsOf, offOf, keyEq, tagEq, cellsEq, cellEq]; done)) | ((first | apply br_mergeT | apply br_mergeF); (· intro h; simp only [go_sem, simprocAttr, sel_of h, decaniref06_right_B0, hx, hlt, d1, hh, hg, hw1, hw2, hf]; exact rfl))); (try simp only [go_sem, simprocAttr, decaniref06_right_B0, hx, hlt, d1, hh, hg, hw1, hw2, hf])) | ((first | apply onGuard_sel | (apply pickV_split; apply br_split) | apply br_split) <;> intro h <;> (try simp only [go_sem, simprocAttr, h, decaniref06_right_B0, hx, hlt, d1, hh, hg, hw1, hw2, hf]))))
  · have hlt := decide_eq_false (show ¬ (b.counts.length : Int) < b.counts.length by omega)
    (simp only [go_sem, simprocAttr, decaniref06_right_B0, hlt]; repeat' (first | ((first | (refine br_yes (by omega) ?_) | (refine br_no (by omega) ?_) | (apply br_all; (· simp only [Bool.and_eq_true, decide_eq_true_eq]; omega)) | (apply br_free; (· simp [go_sem, Pm.acc, Acc.free, refsOf, offOf, keyEq, tagEq, cellsEq, cellEq]; done)) | ((first | apply br_mergeT | apply br_mergeF); (· intro h; simp only [go_sem, simprocAttr, sel_of h, decaniref06_right_B0, hlt]; exact rfl))); (try simp only [go_sem, simprocAttr, decaniref06_right_B0, hlt])) | ((first | apply onGuard_sel | (apply pickV_split; apply br_split) | apply br_split) <;> intro h <;> (try simp only [go_sem, simprocAttr, h, decaniref06_right_B0, hlt]))))
  · cases h : findFrom (fun i (x : Count) => decide (x.kind = k) && !hasBit but (i : Nat) && !within (x.left - l.getD x.day.toNat 0) (-x.err) x.err) 0 b.counts with
    | none => (simp only [go_sem, simprocAttr, rightR, h, Option.isNone_none]; repeat' (first | ((first | (refine br_yes (by omega) ?_) | (refine br_no (by omega) ?_) | (apply br_all; (· simp only [Bool.and_eq_true, decide_eq_true_eq]; omega)) | (apply br_free; (· simp [go_sem, Pm.acc, Acc.free, refsOf, offOf, keyEq, tagEq, cellsEq, cellEq]; done)) | ((first | apply br_mergeT | apply br_mergeF); (· intro h; simp only [go_sem, simprocAttr, sel_of h, rightR, h, Option.isNone_none]; exact rfl))); (try simp only [go_sem, simprocAttr, rightR, h, Option.isNone_none])) | ((first | apply onGuard_sel | (apply pickV_split; apply br_split) | apply br_split) <;> intro h <;> (try simp only [go_sem, simprocAttr, h, rightR, h, Option.isNone_none]))))
    | some q => (simp only [go_sem, simprocAttr, rightR, h, Option.isNone_some]; repeat' (first | ((first | (refine br_yes (by omega) ?_) | (refine br_no (by omega) ?_) | (apply br_all; (· simp only [Bool.and_eq_true, decide_eq_true_eq]; omega)) | (apply br_free; (· simp [go_sem, Pm.acc, Acc.free, refsOf, offOf, keyEq, tagEq, cellsEq, cellEq]; done)) | ((first | apply br_mergeT | apply br_mergeF); (· intro h; simp only [go_sem, simprocAttr, sel_of h, rightR, h, Option.isNone_some]; exact rfl))); (try simp only [go_sem, simprocAttr, rightR, h, Option.isNone_some])) | ((first | apply onGuard_sel | (apply pickV_split; apply br_split) | apply br_split) <;> intro h <;> (try simp only [go_sem, simprocAttr, h, rightR, h, Option.isNone_some]))))
end
end Go.Pm.Cd
