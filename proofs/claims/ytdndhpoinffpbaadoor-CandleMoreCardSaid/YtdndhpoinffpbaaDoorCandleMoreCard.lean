/- The statement CandleMore: whatever its arguments, the call returns true, and each argument reads as before. No condition beside the row's own. -/
import Derived.Test.YtdndhpoinffpbaaDoorCandleMoreL5
set_option linter.all false
namespace Go.Pm.Cd
open Ac
set_option maxRecDepth 100000
set_option linter.unusedSimpArgs false
set_option linter.unusedSectionVars false
set_option linter.unusedVariables false

theorem add_valid {b : Book} (hv : b.valid = true) (hc : b.counts.length ≤ 4) (x : Count) : (b.add x).valid = b.isCount x := by
  have e1 : (b.add x).orderOk = b.orderOk := rfl
  have e2 : (b.add x).isCount = b.isCount := rfl
  have hvv := hv
  simp only [Book.valid, Bool.and_eq_true, decide_eq_true_eq] at hvv
  cases hx : b.isCount x with
  | false =>
    have : (b.add x).counts.all b.isCount = false := by simp [Book.add, hx]
    unfold Book.valid
    rw [e2, this, Bool.and_false]
  | true =>
    simp only [Book.valid, Bool.and_eq_true, decide_eq_true_eq, e1, e2]
    refine ⟨⟨⟨⟨⟨⟨⟨⟨⟨hvv.1.1.1.1.1.1.1.1.1, hvv.1.1.1.1.1.1.1.1.2⟩, ?_⟩, hvv.1.1.1.1.1.1.2⟩, hvv.1.1.1.1.1.2⟩, hvv.1.1.1.1.2⟩, hvv.1.1.1.2⟩, hvv.1.1.2⟩, hvv.1.2⟩, ?_⟩
    · simp only [Book.add, List.length_append, List.length_cons, List.length_nil]; omega
    · simp only [Book.add, List.all_append, List.all_cons, List.all_nil, hvv.2, hx]; rfl

theorem firstOn_mono (b : Book) (p q : Nat → Bool) (h : ∀ i, i < b.days.length → p i = true → q i = true) :
    ((b.firstOn p).2 = 4 ∨ ((b.firstOn p).2 = 0 ∧ (b.firstOn q).2 = 0 ∧ (b.firstOn q).1 ≤ (b.firstOn p).1)) := by
  unfold Book.firstOn
  cases hp : findFrom (fun i _ => p i) 0 b.days with
  | none => exact .inl rfl
  | some u =>
    obtain ⟨i, x⟩ := u
    obtain ⟨-, h2, h3, -⟩ := findFrom_some hp
    have hlt : i < b.days.length := by have := (List.getElem?_eq_some_iff.1 h2).1; omega
    have hqi := h i hlt h3
    cases hq : findFrom (fun i _ => q i) 0 b.days with
    | none =>
      have := findFrom_none.1 hq i x (by simpa using h2)
      rw [Nat.zero_add, hqi] at this; cases this
    | some w =>
      obtain ⟨j, y⟩ := w
      obtain ⟨-, g2, g3, g4⟩ := findFrom_some hq
      refine .inr ⟨rfl, rfl, ?_⟩
      simp only
      by_cases hc : i < j
      · have := g4 i x (by omega) (by simpa using h2)
        rw [Nat.zero_add, hqi] at this; cases this
      · omega

section
variable {Γ : Env} [P06 Γ] [G06 Γ]
set_option maxHeartbeats 4000000 in
theorem CandleMore_k (b : Book) [hb : b.Fits] (y : Count) (n0 n1 : Int) : K Γ (.fn 92) [.agg b.c, .agg y.c, .agg [ci n0, ci n1]] [] = some (vb true, []) := by
  rw [K_fn P06.f92 _ _ rfl]
  rcases Bool.eq_false_or_eq_true b.valid with hv | hv
  rotate_left
  · (simp only [go_sem, simprocAttr, decanilaw06_CandleMore, hv, Bool.false_eq_true]; repeat' (first | ((first | (refine br_yes (by omega) ?_) | (refine br_no (by omega) ?_) | (apply br_all; (· simp only [Bool.and_eq_true, decide_eq_true_eq]; omega)) | (apply br_free; (· simp [go_sem, Pm.acc, Acc.free, refsOf, keyEq, tagEq, cellsEq, cellEq]; done)) | ((first | apply br_mergeT | apply br_mergeF); (· intro h; simp only [go_sem, simprocAttr, sel_of h, decanilaw06_CandleMore, hv, Bool.false_eq_true]; exact rfl))); (try simp only [go_sem, simprocAttr, decanilaw06_CandleMore, hv, Bool.false_eq_true])) | ((first | apply onGuard_sel | (apply pickV_split; apply br_split) | apply br_split) <;> intro h <;> (try simp only [go_sem, simprocAttr, h, decanilaw06_CandleMore, hv, Bool.false_eq_true]))))
  by_cases hc5 : (b.counts.length : Int) = 5
  · (simp only [go_sem, simprocAttr, decanilaw06_CandleMore, hv, hc5]; repeat' (first | ((first | (refine br_yes (by omega) ?_) | (refine br_no (by omega) ?_) | (apply br_all; (· simp only [Bool.and_eq_true, decide_eq_true_eq]; omega)) | (apply br_free; (· simp [go_sem, Pm.acc, Acc.free, refsOf, keyEq, tagEq, cellsEq, cellEq]; done)) | ((first | apply br_mergeT | apply br_mergeF); (· intro h; simp only [go_sem, simprocAttr, sel_of h, decanilaw06_CandleMore, hv, hc5]; exact rfl))); (try simp only [go_sem, simprocAttr, decanilaw06_CandleMore, hv, hc5])) | ((first | apply onGuard_sel | (apply pickV_split; apply br_split) | apply br_split) <;> intro h <;> (try simp only [go_sem, simprocAttr, h, decanilaw06_CandleMore, hv, hc5]))))
  have hcd := decide_eq_false hc5
  have hs := sane_of_valid hv
  have hvd := valid_days hs
  have hc4 : b.counts.length ≤ 4 := by
    have := hv
    simp only [Book.valid, Bool.and_eq_true, decide_eq_true_eq] at this
    have := this.1.1.1.1.1.1.1.2; omega
  have h0 := appended_ownF0 4 b.kc (b.counts.map Count.c) (by simp only [List.length_map, room]; omega)
  have h1 := appended_ownF 4 .full (b.counts.map Count.c) y.c (by simp only [List.length_map, room]; omega)
  haveI := fits_add hv y
  have hF := Fits_k (Γ := Γ) b y
  have hR := Right_k (Γ := Γ) (b.add y)
  have hval := add_valid hv hc4 y
  rw [hval] at hR
  cases hx : b.isCount y with
  | false =>
    have ha : b.askE false = 61 := by simp [Book.askE, hv]
    simp only [hx, Bool.false_and, Bool.false_eq_true, if_false] at hR
    simp only [Book.fits, hx, ha, Int.reduceEq, if_false] at hF
    (simp only [go_sem, simprocAttr, decanilaw06_CandleMore, hv, hcd, h0, h1, hF, hR]; repeat' (first | ((first | (refine br_yes (by omega) ?_) | (refine br_no (by omega) ?_) | (apply br_all; (· simp only [Bool.and_eq_true, decide_eq_true_eq]; omega)) | (apply br_free; (· simp [go_sem, Pm.acc, Acc.free, refsOf, keyEq, tagEq, cellsEq, cellEq]; done)) | ((first | apply br_mergeT | apply br_mergeF); (· intro h; simp only [go_sem, simprocAttr, sel_of h, decanilaw06_CandleMore, hv, hcd, h0, h1, hF, hR]; exact rfl))); (try simp only [go_sem, simprocAttr, decanilaw06_CandleMore, hv, hcd, h0, h1, hF, hR])) | ((first | apply onGuard_sel | (apply pickV_split; apply br_split) | apply br_split) <;> intro h <;> (try simp only [go_sem, simprocAttr, h, decanilaw06_CandleMore, hv, hcd, h0, h1, hF, hR]))))
  | true =>
    rw [hx] at hval
    simp only [hx, Bool.true_and, if_true] at hR
    have hsub : (b.add y).truths [] ≠ [] → b.truths [] ≠ [] := by
      intro h
      rw [truths_ne (sane_of_valid hval)] at h
      rw [truths_ne hs]
      obtain ⟨n, f, dk, w⟩ := h
      exact ⟨n, f, dk, ((add_way b y).1 w).1⟩
    by_cases ht : b.truths [] = []
    · have ha := ask_no hv ht
      have hn : (b.add y).truths [] = [] := by
        by_cases e : (b.add y).truths [] = []
        · exact e
        · exact absurd ht (hsub e)
      have hnd : decide ((b.add y).truths [] ≠ []) = false := decide_eq_false (fun h => h hn)
      rw [hnd] at hR
      simp only [Book.fits, hx, ha, Int.reduceEq, if_false] at hF
      (simp only [go_sem, simprocAttr, decanilaw06_CandleMore, hv, hcd, h0, h1, hF, hR]; repeat' (first | ((first | (refine br_yes (by omega) ?_) | (refine br_no (by omega) ?_) | (apply br_all; (· simp only [Bool.and_eq_true, decide_eq_true_eq]; omega)) | (apply br_free; (· simp [go_sem, Pm.acc, Acc.free, refsOf, keyEq, tagEq, cellsEq, cellEq]; done)) | ((first | apply br_mergeT | apply br_mergeF); (· intro h; simp only [go_sem, simprocAttr, sel_of h, decanilaw06_CandleMore, hv, hcd, h0, h1, hF, hR]; exact rfl))); (try simp only [go_sem, simprocAttr, decanilaw06_CandleMore, hv, hcd, h0, h1, hF, hR])) | ((first | apply onGuard_sel | (apply pickV_split; apply br_split) | apply br_split) <;> intro h <;> (try simp only [go_sem, simprocAttr, h, decanilaw06_CandleMore, hv, hcd, h0, h1, hF, hR]))))
    · have ha := ask_ok hv ht
      simp only [Book.fits, hx, ha, if_true] at hF
      by_cases hn : (b.add y).truths [] = []
      · have hnd : decide ((b.add y).truths [] ≠ []) = false := decide_eq_false (fun h => h hn)
        rw [hnd] at hR hF
        (simp only [go_sem, simprocAttr, decanilaw06_CandleMore, hv, hcd, h0, h1, hF, hR]; repeat' (first | ((first | (refine br_yes (by omega) ?_) | (refine br_no (by omega) ?_) | (apply br_all; (· simp only [Bool.and_eq_true, decide_eq_true_eq]; omega)) | (apply br_free; (· simp [go_sem, Pm.acc, Acc.free, refsOf, keyEq, tagEq, cellsEq, cellEq]; done)) | ((first | apply br_mergeT | apply br_mergeF); (· intro h; simp only [go_sem, simprocAttr, sel_of h, decanilaw06_CandleMore, hv, hcd, h0, h1, hF, hR]; exact rfl))); (try simp only [go_sem, simprocAttr, decanilaw06_CandleMore, hv, hcd, h0, h1, hF, hR])) | ((first | apply onGuard_sel | (apply pickV_split; apply br_split) | apply br_split) <;> intro h <;> (try simp only [go_sem, simprocAttr, h, decanilaw06_CandleMore, hv, hcd, h0, h1, hF, hR]))))
      · have hnd : decide ((b.add y).truths [] ≠ []) = true := decide_eq_true hn
        rw [hnd] at hR hF
        have hk := turn_lt n0 2 (by decide)
        have hd := turn_lt n1 b.days.length (by omega)
        have hdl : (b.days.length : Int) ≤ 1000000 := by omega
        obtain ⟨kind, hkind⟩ : ∃ k, turn n0 2 = k := ⟨_, rfl⟩
        obtain ⟨day, hday⟩ : ∃ k, turn n1 b.days.length = k := ⟨_, rfl⟩
        rw [hkind] at hk
        rw [hday] at hd
        have hk' : kind = 0 ∨ kind = 1 := by omega
        have hd2 : day < (b.add y).days.length := hd.2
        have hsx := sane_of_valid hval
        have A1 := Left_yes (Γ := Γ) b hv ht hk' hd.1 hd.2
        have A2 := Left_yes (Γ := Γ) (b.add y) hval hn hk' hd.1 hd2
        have A3 := Life_yes (Γ := Γ) b hv ht hk'
        have A4 := Life_yes (Γ := Γ) (b.add y) hval hn hk'
        have A5 := Dark_yes (Γ := Γ) b hv ht hd.1 hd.2
        have A6 := Dark_yes (Γ := Γ) (b.add y) hval hn hd.1 hd2
        have A7 := Short_yes (Γ := Γ) b hv ht hk'
        have A8 := Short_yes (Γ := Γ) (b.add y) hval hn hk'
        have A9 := Buy_yes (Γ := Γ) b hv ht hk' hd.1 hd.2
        have A10 := Buy_yes (Γ := Γ) (b.add y) hval hn hk' hd.1 hd2
        have lefts : ∀ d : Int, 0 ≤ d → d < b.days.length → (spanOf (tLeft kind d) (b.truths [])).1 ≤ (spanOf (tLeft kind d) ((b.add y).truths [])).1 ∧ (spanOf (tLeft kind d) ((b.add y).truths [])).2 ≤ (spanOf (tLeft kind d) (b.truths [])).2 ∧ (spanOf (tLeft kind d) ((b.add y).truths [])).1 ≤ (spanOf (tLeft kind d) ((b.add y).truths [])).2 := by
          intro d hd0 hd1
          obtain ⟨p1, -, -⟩ := left_ways hs ht hk' hd0 hd1
          obtain ⟨q1, ⟨nA, fA, dA, wA, eA⟩, ⟨nB, fB, dB, wB, eB⟩⟩ := left_ways hsx hn hk' hd0 (show d < (b.add y).days.length from hd1)
          have a := p1 _ _ _ ((add_way b y).1 wA).1
          have c := p1 _ _ _ ((add_way b y).1 wB).1
          have e := q1 _ _ _ wA
          rw [runK_same b (b.add y) rfl rfl] at eA eB e
          omega
        have L := lefts day hd.1 hd.2
        have F : (spanOf (tLife kind) (b.truths [])).1 ≤ (spanOf (tLife kind) ((b.add y).truths [])).1 ∧ (spanOf (tLife kind) ((b.add y).truths [])).2 ≤ (spanOf (tLife kind) (b.truths [])).2 := by
          obtain ⟨p1, -, -⟩ := life_ways hs ht hk'
          obtain ⟨q1, ⟨nA, fA, dA, wA, eA⟩, ⟨nB, fB, dB, wB, eB⟩⟩ := life_ways hsx hn hk'
          have a := p1 _ _ _ ((add_way b y).1 wA).1
          have c := p1 _ _ _ ((add_way b y).1 wB).1
          omega
        have D : (spanOf (tDark day) (b.truths [])).1 ≤ (spanOf (tDark day) ((b.add y).truths [])).1 ∧ (spanOf (tDark day) ((b.add y).truths [])).2 ≤ (spanOf (tDark day) (b.truths [])).2 := by
          obtain ⟨p1, -, -⟩ := dark_ways hs ht hd.1 hd.2
          obtain ⟨q1, ⟨nA, fA, dA, wA, eA⟩, ⟨nB, fB, dB, wB, eB⟩⟩ := dark_ways hsx hn hd.1 hd2
          have a := p1 _ _ _ ((add_way b y).1 wA).1
          have c := p1 _ _ _ ((add_way b y).1 wB).1
          omega
        have S := firstOn_mono b (fun i => decide ((spanOf (tLeft kind i) ((b.add y).truths [])).1 < 0)) (fun i => decide ((spanOf (tLeft kind i) (b.truths [])).1 < 0)) (fun i hi h => by
          have := lefts i (by omega) (by omega)
          simp only [decide_eq_true_eq] at h ⊢; omega)
        have B : (b.add y).buyN kind day (b.days.length - day).toNat ≤ b.buyN kind day (b.days.length - day).toNat := by
          rw [buyN_lackF, buyN_lackF, lackF_le]
          obtain ⟨g0, g1⟩ := (lackF_le _ _ (b.days.length - day).toNat).1 (Int.le_refl (lackF (fun j => (spanOf (tLeft kind (day + j)) (b.truths [])).1) (b.days.length - day).toNat))
          refine ⟨g0, fun j hj => ?_⟩
          have h1 := g1 j hj
          have h2 := (lefts (day + j) (by omega) (by omega)).1
          omega
        have hfo (q : Nat → Bool) : (b.add y).firstOn q = b.firstOn q := rfl
        have hlen : (b.add y).days.length = b.days.length := rfl
        rw [hfo] at A8
        rw [hlen] at A10
        have g1 := decide_eq_true L.1
        have g2 := decide_eq_true L.2.1
        have g3 := decide_eq_false (show ¬ (spanOf (tLeft kind day) ((b.add y).truths [])).2 < (spanOf (tLeft kind day) ((b.add y).truths [])).1 by omega)
        have g4 := decide_eq_true F.1
        have g5 := decide_eq_true F.2
        have g6 := decide_eq_true D.1
        have g7 := decide_eq_true D.2
        have g8 := decide_eq_true B
        obtain ⟨o, ho⟩ : ∃ o, b.firstOn (fun i => decide ((spanOf (tLeft kind i) ((b.add y).truths [])).1 < 0)) = o := ⟨_, rfl⟩
        obtain ⟨p, hp⟩ : ∃ o, b.firstOn (fun i => decide ((spanOf (tLeft kind i) (b.truths [])).1 < 0)) = o := ⟨_, rfl⟩
        rw [ho, hp] at S
        rw [ho] at A8
        rw [hp] at A7
        rcases S with h4 | ⟨h4, h5, h6⟩
        · rw [h4] at A8
          (simp only [go_sem, simprocAttr, decanilaw06_CandleMore, hv, hcd, h0, h1, hF, hR, hkind, hday, hdl, A1, A2, A3, A4, A5, A6, A7, A8, A9, A10, g1, g2, g3, g4, g5, g6, g7, g8]; repeat' (first | ((first | (refine br_yes (by omega) ?_) | (refine br_no (by omega) ?_) | (apply br_all; (· simp only [Bool.and_eq_true, decide_eq_true_eq]; omega)) | (apply br_free; (· simp [go_sem, Pm.acc, Acc.free, refsOf, keyEq, tagEq, cellsEq, cellEq]; done)) | ((first | apply br_mergeT | apply br_mergeF); (· intro h; simp only [go_sem, simprocAttr, sel_of h, decanilaw06_CandleMore, hv, hcd, h0, h1, hF, hR, hkind, hday, hdl, A1, A2, A3, A4, A5, A6, A7, A8, A9, A10, g1, g2, g3, g4, g5, g6, g7, g8]; exact rfl))); (try simp only [go_sem, simprocAttr, decanilaw06_CandleMore, hv, hcd, h0, h1, hF, hR, hkind, hday, hdl, A1, A2, A3, A4, A5, A6, A7, A8, A9, A10, g1, g2, g3, g4, g5, g6, g7, g8])) | ((first | apply onGuard_sel | (apply pickV_split; apply br_split) | apply br_split) <;> intro h <;> (try simp only [go_sem, simprocAttr, h, decanilaw06_CandleMore, hv, hcd, h0, h1, hF, hR, hkind, hday, hdl, A1, A2, A3, A4, A5, A6, A7, A8, A9, A10, g1, g2, g3, g4, g5, g6, g7, g8]))))
        · rw [h4] at A8
          rw [h5] at A7
          have g9 := decide_eq_true h6
          (simp only [go_sem, simprocAttr, decanilaw06_CandleMore, hv, hcd, h0, h1, hF, hR, hkind, hday, hdl, A1, A2, A3, A4, A5, A6, A7, A8, A9, A10, g1, g2, g3, g4, g5, g6, g7, g8, g9]; repeat' (first | ((first | (refine br_yes (by omega) ?_) | (refine br_no (by omega) ?_) | (apply br_all; (· simp only [Bool.and_eq_true, decide_eq_true_eq]; omega)) | (apply br_free; (· simp [go_sem, Pm.acc, Acc.free, refsOf, keyEq, tagEq, cellsEq, cellEq]; done)) | ((first | apply br_mergeT | apply br_mergeF); (· intro h; simp only [go_sem, simprocAttr, sel_of h, decanilaw06_CandleMore, hv, hcd, h0, h1, hF, hR, hkind, hday, hdl, A1, A2, A3, A4, A5, A6, A7, A8, A9, A10, g1, g2, g3, g4, g5, g6, g7, g8, g9]; exact rfl))); (try simp only [go_sem, simprocAttr, decanilaw06_CandleMore, hv, hcd, h0, h1, hF, hR, hkind, hday, hdl, A1, A2, A3, A4, A5, A6, A7, A8, A9, A10, g1, g2, g3, g4, g5, g6, g7, g8, g9])) | ((first | apply onGuard_sel | (apply pickV_split; apply br_split) | apply br_split) <;> intro h <;> (try simp only [go_sem, simprocAttr, h, decanilaw06_CandleMore, hv, hcd, h0, h1, hF, hR, hkind, hday, hdl, A1, A2, A3, A4, A5, A6, A7, A8, A9, A10, g1, g2, g3, g4, g5, g6, g7, g8, g9]))))
end
end Go.Pm.Cd

namespace Go.Proofs.YtdndhpoinffpbaaDoor
open Go Go.Pm Go.Pm.Cd Go.ChangeShapes Go.WideShapes Go.ChangeAt Go.RowKit
set_option maxRecDepth 100000

theorem lifted (os : Os) (started : os.Started) (H : Type) (enc : TypeId × Value → H) :
    ReturnsInHanded {} Tryd.checked os 8 .any (fun w args => (Rows.candleMoreSpec.pre enc Tryd.prog Tryd.f8 [] false w args ∧ laidMetH Tryd.prog laidL w) ∧ sizedMet enc Tryd.prog Tryd.f8 (OpenSpec.ofChange Rows.candleMoreSpec) false w args)
      (Rows.candleMoreSpec.post enc Tryd.prog Tryd.f8 false true false false) := by
  refine returnsInHanded_of_change_and (C := Tryd.checked) (X := fun w _ => laidMetH Tryd.prog laidL w) (fun _ _ _ hh h => h.of_heap hh) own started (by kernel_rfl) Tryd.func8
    (ChangeSpec.witness_shaped (enc := enc) (C := Tryd.checked) (os := os) (X := fun w _ => laidMetH Tryd.prog laidL w) false (World.doorLaid Tryd.prog 600 os) #[.agg #[.int .i64 0, .int .i64 0, .int .i64 0, .int .i64 0, .int .i64 0, .int .i64 0, .int .i64 0, .int .i64 0, .slice none 0 0, .slice none 0 0, .slice none 0 0], .agg #[.int .i64 0, .int .i64 0, .int .i64 0, .int .i64 0], .agg #[.int .i64 0, .int .i64 0]] 8 rfl (World.shaped_of_RefB (by kernel_rfl) (by kernel_rfl)) (by kernel_rfl) (by kernel_rfl) (by kernel_rfl) (door_met os _)) ?_
  intro W base args ds gs before hval hW _ _ hL _
  refine law_contract (S := S1) (G := G1) (id := 92) (tb := 4) (base := base) seat_ok 8 [bookT, countT, (T.st [i1, i1])] (by kernel_rfl) (by kernel_rfl) laidOut (by kernel_rfl) (by kernel_rfl) rfl ?_ ?_ hval hW (globs hL)
  · intro ds hd
    match ds, hd with
    | [d0, d1, d2], _ => rfl
  · show ∀ vs, HasVs [bookT, countT, (T.st [i1, i1])] vs → K Γ1 (.fn 92) vs [] = some (.sc (.bool true), [])
    intro vs hvs
    simp only [HasVs] at hvs
    obtain ⟨v0, r0, rfl, h0, v1, r1, rfl, h1, v2, r2, rfl, h2, rfl⟩ := hvs
    obtain ⟨b, rfl, hb⟩ := book_of _ h0
    haveI := hb
    obtain ⟨y, rfl⟩ := countV_of _ h1
    obtain ⟨n0, n1, rfl⟩ := ints2_of _ h2
    exact CandleMore_k (Γ := Γ1) b y n0 n1

theorem row_holds : Rows.CandleMoreSaid :=
  OpenClaim.holds_of_wide 8 Tryd.f8 rfl rfl rfl rfl rfl rfl rfl ⟨rfl, rfl, rfl, rfl, rfl⟩ rfl rfl rfl rfl rfl (by kernel_rfl) Tryd.func8 (by kernel_rfl)
    (of_decide_eq_true (by kernel_rfl)) (by unfold Func.isWrapper; first | (rw [if_pos (by decide +kernel)]; kernel_rfl) | (rw [if_neg (by decide +kernel)]; exact ⟨rfl, rfl⟩))
    (fun os started H enc _ => lifted os started H enc)

theorem candleMore_card_holds : Rows.CandleMoreCardSaid :=
  Claim7.holds_tied_plain_at .later [] [.data, .funcs] true (true, "60d50f35f64f42411113777cba31078ec0ca6d528e83348940a62dd418a71482") false
    row_holds (fun _ h => by cases h) (by kernel_rfl) (fun _ h => by cases h) candleMore_row_tie rfl ⟨rfl, rfl⟩ (by kernel_rfl) rfl
    (fun f fn hf hfn => by
      obtain rfl : f = 8 := Option.some.inj ((show Tryd.prog.funcNamed "decani/decanilaw06.CandleMore" = some 8 by kernel_rfl).symm.trans hf) |>.symm
      obtain rfl : fn = Tryd.f8 := (Option.some.inj (Tryd.func8.symm.trans hfn)).symm
      exact ⟨by kernel_rfl, fun j t ht => by
        have hp : Tryd.f8.params = #[29, 44, 30] := by kernel_rfl
        rw [hp] at ht
        have hm : t ∈ ([29, 44, 30] : List TypeId) := by simpa using Array.mem_of_getElem? ht
        have hall : (([29, 44, 30] : List TypeId).all fun u => !Tryd.prog.wantsStandIn u) = true := by kernel_rfl
        exact (show Tryd.prog.wantsStandIn t = false by simpa using List.all_eq_true.1 hall t hm)⟩)
    (by kernel_rfl)
#print axioms candleMore_card_holds
end Go.Proofs.YtdndhpoinffpbaaDoor
