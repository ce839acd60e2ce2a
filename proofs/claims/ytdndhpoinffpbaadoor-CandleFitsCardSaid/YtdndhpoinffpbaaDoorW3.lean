/- The plain machine, part 3. -/
import Derived.Test.YtdndhpoinffpbaaDoorW2
import Derived.Handed
import Derived.ChangeReads
import Derived.ChangeArms
import Derived.OpenShut
import Derived.ChangeSame
import Derived.ChangeShapes
import Derived.ChangeOld
import Derived.ChangeAt
import Derived.ChangeBook
import Derived.ChangeStays
import Derived.RowKit
import Derived.LaidMore
import Derived.LaidSub
import Derived.Stop.Joined
import Derived.Attr
set_option linter.all false
namespace Go.Pm

section
variable {S : Seat} {G : List Nat}

theorem placesOf_ok {t : TypeId} {f : Nat → Option (Nat × Nat)} (h : placesOf S t = some f) :
    (∃ fs, S.P.underlying t = some (.struct fs) ∧ (∀ x ∈ fs, (S.P.info? x.type).isSome) ∧ f = fun i => fs[i]?.map fun x => (x.offset, S.P.cellsOf x.type)) ∨
       (∃ len e, S.P.underlying t = some (.array len e) ∧ (S.P.info? e).isSome ∧ f = fun i => some (i * S.P.cellsOf e, S.P.cellsOf e)) := by
  unfold placesOf at h
  split at h
  · rename_i fs hu
    split at h
    · rename_i hall
      simp only [Option.some.injEq] at h
      exact .inl ⟨fs, hu, fun x hx => Array.all_eq_true_iff_forall_mem.1 hall x hx, h.symm⟩
    · cases h
  · rename_i n e hu
    split at h
    · rename_i hi
      simp only [Option.some.injEq] at h
      exact .inr ⟨n, e, hu, hi, h.symm⟩
    · cases h
  · cases h

theorem kt_eq {ty : KT} (h1 : ty.agg = false) (h2 : ty.tags = [0]) : ty = ⟨false, [0]⟩ := by
  cases ty
  simp_all

theorem mop_ok {o : Op} {o' : Go.Op} (h : mop S G o o' = true) : MOp S G o o' := by
  unfold mop at h
  split at h
  · exact .mv _ _ (mt_ok h)
  · exact .asg _ _ (mt_ok h)
  · simp only [Bool.and_eq_true] at h
    exact .pick _ _ _ _ _ _ (mr_ok h.1.1) (mr_ok h.1.2) (mr_ok h.2)
  · exact .alloc _ _ _ (tz_ok h)
  · exact .box _ _ _ _ (mt_ok h)
  · simp only [Bool.and_eq_true] at h
    obtain ⟨⟨h1, h2⟩, h3⟩ := h
    split at h3
    · rename_i f hf
      exact .build _ _ _ _ (tz_ok h1) ⟨f, of_decide_eq_true h3, placesOf_ok hf⟩ (mrs_ok h2)
    · cases h3
  · split at h
    · rename_i e he
      simp only [Bool.and_eq_true, decide_eq_true_eq] at h
      obtain ⟨⟨⟨⟨⟨⟨h1, h2⟩, rfl⟩, h4⟩, h5⟩, h6⟩, h7⟩ := h
      exact .bslice _ _ _ _ _ _ e (sliceOf_ok he) (szIs_ok h1) (tz_ok h2) h4 h5 h6 (mrs_ok h7)
    · cases h
  · rename_i es n z ps t l c
    split at h
    · rename_i e he
      split at h
      · rename_i i hi
        simp only [Bool.and_eq_true, decide_eq_true_eq, beq_iff_eq, List.isEmpty_iff] at h
        obtain ⟨⟨⟨⟨⟨⟨⟨h1, h2⟩, rfl⟩, rfl⟩, rfl⟩, h4⟩, h5⟩, h6⟩ := h
        exact .mkslice _ _ _ _ e i (sliceOf_ok he) hi h1 (tz_ok h2) h4 h5 h6
      · cases h
    · cases h
  · split at h
    · rename_i e he
      simp only [Bool.and_eq_true, decide_eq_true_eq] at h
      obtain ⟨⟨⟨⟨⟨⟨h1, h2⟩, rfl⟩, h4⟩, h5⟩, h6⟩, h7⟩ := h
      exact .bmsl _ _ _ _ _ _ _ e (sliceOf_ok he) (szIs_ok h1) (tz_ok h2) h4 h5 h6 (mrs_ok h7)
    · cases h
  · simp only [Bool.and_eq_true] at h
    exact .load _ _ _ _ (mr_ok h.1) (tsh_ok h.2)
  · simp only [Bool.and_eq_true] at h
    exact .loadT _ _ _ (mr_ok h.1) (tsh_ok h.2)
  · simp only [Bool.and_eq_true] at h
    exact .store _ _ _ _ _ _ (mr_ok h.1.1) (mt_ok h.1.2) (szIs_ok h.2)
  · simp only [Bool.and_eq_true, decide_eq_true_eq] at h
    obtain ⟨⟨rfl, h1⟩, h2⟩ := h
    exact .bin _ _ _ _ _ _ _ (mr_ok h1) (mr_ok h2)
  · simp only [Bool.and_eq_true, decide_eq_true_eq, Bool.or_eq_true, Bool.not_eq_true'] at h
    obtain ⟨⟨⟨⟨⟨rfl, h1⟩, h2⟩, h3⟩, h4⟩, h5⟩ := h
    refine .eqf _ _ _ _ _ _ _ _ 20 (mr_ok h1) (mr_ok h2) (flatIs_ok h3) (by omega) ?_ h5
    rcases h4 with h4 | ⟨h4, h6⟩
    · exact .inl h4
    · exact .inr (kt_eq h4 h6)
  · simp only [Bool.and_eq_true, decide_eq_true_eq] at h
    obtain ⟨⟨rfl, h1⟩, h2⟩ := h
    split at h2
    · rename_i e hu; exact .isnil _ _ _ _ _ _ _ _ (mr_ok h1) hu (.inl ⟨rfl, rfl, _, rfl⟩)
    · rename_i e1 e2 e3 hu; exact .isnil _ _ _ _ _ _ _ _ (mr_ok h1) hu (.inr (.inl ⟨rfl, rfl, _, _, _, rfl⟩))
    · rename_i e hu; exact .isnil _ _ _ _ _ _ _ _ (mr_ok h1) hu (.inr (.inr ⟨rfl, rfl, _, rfl⟩))
    · cases h2
  · simp only [Bool.and_eq_true, decide_eq_true_eq] at h
    obtain ⟨rfl, h1⟩ := h
    exact .un _ _ _ _ (mr_ok h1)
  · simp only [Bool.and_eq_true] at h
    obtain ⟨h1, h2⟩ := h
    split at h2
    · rename_i k' k'' hd hs
      simp only [decide_eq_true_eq] at h2
      subst h2
      exact .conv _ _ _ _ _ _ (mr_ok h1) hd hs (by simp)
    · cases h2
  · simp only [Bool.and_eq_true, beq_iff_eq] at h
    obtain ⟨⟨rfl, h1⟩, h2⟩ := h
    rename_i id sh first cap first' cap'
    have := MOp.mkf (S := S) (G := G) id sh first cap first'.toList cap'.toList (mrs_ok h1) (mrs_ok h2)
    simpa using this
  · exact .mkmap _ _ _ _
  · simp only [Bool.and_eq_true] at h
    obtain ⟨⟨⟨⟨h1, h2⟩, h3⟩, h4⟩, h5⟩ := h
    split at h5
    · rename_i e he; exact .slice _ _ _ _ _ _ _ _ _ _ e (mr_ok h1) (mro_ok h2) (mro_ok h3) (mro_ok h4) (sliceOf_ok he) (szIs_ok h5)
    · cases h5
  · simp only [Bool.and_eq_true] at h
    obtain ⟨⟨⟨⟨h1, h2⟩, h3⟩, h4⟩, h5⟩ := h
    split at h5
    · rename_i n' e he
      simp only [Bool.and_eq_true, beq_iff_eq] at h5
      obtain ⟨rfl, h6⟩ := h5
      exact .slArr _ _ _ _ _ _ _ _ _ _ _ e (mr_ok h1) (mro_ok h2) (mro_ok h3) (mro_ok h4) (arrOf_ok he) (szIs_ok h6)
    · cases h5
  · simp only [Bool.and_eq_true] at h
    obtain ⟨⟨⟨h1, h2⟩, h3⟩, h5⟩ := h
    exact .slStr _ _ _ _ _ _ _ (mr_ok h1) (mro_ok h2) (mro_ok h3) (isStr_ok h5)
  · simp only [Bool.and_eq_true] at h
    obtain ⟨h1, h2⟩ := h
    split at h2
    · rename_i fs hfs
      split at h2
      · rename_i f hf
        simp only [Bool.and_eq_true, beq_iff_eq] at h2
        obtain ⟨h3, h4⟩ := h2
        split at h4
        · rename_i i hi; exact .faddr _ _ _ _ _ fs f (mr_ok h1) (fldsOf_ok hfs) hf h3 ⟨i, hi, by simpa using h4⟩
        · cases h4
      · cases h2
    · cases h2
  · simp only [Bool.and_eq_true] at h
    obtain ⟨h1, h2⟩ := h
    split at h2
    · rename_i fs hfs
      split at h2
      · rename_i f hf
        simp only [Bool.and_eq_true, beq_iff_eq] at h2
        exact .field _ _ _ _ _ _ fs f (mr_ok h1) (fldsOf_ok hfs) hf h2.1 (tsh_ok h2.2)
      · cases h2
    · cases h2
  · simp only [Bool.and_eq_true] at h
    obtain ⟨⟨h1, h2⟩, h3⟩ := h
    split at h3
    · rename_i e he; exact .iaddr _ _ _ _ _ _ e (mr_ok h1) (mr_ok h2) (sliceOf_ok he) (szIs_ok h3)
    · cases h3
  · simp only [Bool.and_eq_true] at h
    obtain ⟨⟨h1, h2⟩, h3⟩ := h
    split at h3
    · rename_i n e he
      simp only [Bool.and_eq_true, beq_iff_eq] at h3
      obtain ⟨rfl, h4⟩ := h3
      exact .iarr _ _ _ _ _ _ _ e (mr_ok h1) (mr_ok h2) (arrOf_ok he) (szIs_ok h4)
    · cases h3
  · simp only [Bool.and_eq_true] at h
    obtain ⟨⟨h1, h2⟩, h3⟩ := h
    split at h3
    · rename_i n e he
      simp only [Bool.and_eq_true, beq_iff_eq] at h3
      obtain ⟨⟨rfl, h4⟩, h5⟩ := h3
      exact .index _ _ _ _ _ _ _ _ e (mr_ok h1) (mr_ok h2) (arrOf_ok he) (szIs_ok h4) (tsh_ok h5)
    · cases h3
  · simp only [Bool.and_eq_true] at h
    exact .istr _ _ _ _ _ (mr_ok h.1.1) (mr_ok h.1.2) (isStr_ok h.2)
  · simp only [Bool.and_eq_true, beq_iff_eq] at h
    obtain ⟨⟨⟨rfl, h1⟩, h2⟩, h3⟩ := h
    split at h3
    · rename_i k e he
      simp only [Bool.and_eq_true] at h3
      exact .lookup _ _ _ _ _ _ _ _ k e 20 (mr_ok h1) (mr_ok h2) (mapOf_ok he) (tzv_ok h3.1) (flatIs_ok h3.2) (by omega)
    · cases h3
  · simp only [Bool.and_eq_true] at h
    obtain ⟨⟨h1, h2⟩, h3⟩ := h
    split at h3
    · rename_i k e he
      simp only [Bool.and_eq_true] at h3
      exact .ment _ _ _ _ _ _ _ k e 20 (mr_ok h1) (mr_ok h2) (mapOf_ok he) (tzv_ok h3.1) (flatIs_ok h3.2) (by omega)
    · cases h3
  · simp only [Bool.and_eq_true] at h
    exact .estore _ _ _ _ _ _ _ (mr_ok h.1.1) (mr_ok h.1.2) (mr_ok h.2)
  · simp only [Bool.and_eq_true] at h
    obtain ⟨⟨⟨h1, h2⟩, h3⟩, h4⟩ := h
    split at h4
    · rename_i k e he; exact .mupd _ _ _ _ _ _ _ _ k e 20 (mr_ok h1) (mr_ok h2) (mr_ok h3) (mapOf_ok he) (flatIs_ok h4) (by omega)
    · cases h4
  · simp only [Bool.and_eq_true] at h
    obtain ⟨⟨⟨h1, h2⟩, h3⟩, h4⟩ := h
    split at h4
    · rename_i k e he; exact .ins _ _ _ _ _ _ _ _ k e 20 (mr_ok h1) (mr_ok h2) (mr_ok h3) (mapOf_ok he) (flatIs_ok h4) (by omega)
    · cases h4
  · simp only [Bool.and_eq_true, beq_iff_eq] at h
    obtain ⟨h1, rfl⟩ := h
    exact .ext _ _ _ (mr_ok h1)
  · exact .nilchk _ _ (mr_ok h)
  · rename_i b args ts
    split at h
    · rename_i k x x' t ha hts
      have ha' : args = #[x'] := Array.ext' ha
      have ht' : ts = #[t] := Array.ext' hts
      subst ha'; subst ht'
      simp only [Bool.and_eq_true] at h
      obtain ⟨h1, h2⟩ := h
      split at h2
      · rename_i hu; exact .len _ _ _ _ (mr_ok h1) (.inl ⟨rfl, hu⟩)
      · rename_i hu; exact .len _ _ _ _ (mr_ok h1) (.inr (.inl ⟨rfl, _, hu⟩))
      · rename_i hu; exact .len _ _ _ _ (mr_ok h1) (.inr (.inr ⟨rfl, _, _, hu⟩))
      · cases h2
    · rename_i n x' t ha hts
      have ha' : args = #[x'] := Array.ext' ha
      have ht' : ts = #[t] := Array.ext' hts
      subst ha'; subst ht'
      split at h
      · rename_i m e hu
        have : n = m := by simpa using h
        subst this
        exact .lenArr _ _ _ (.inl ⟨e, hu⟩)
      · rename_i p hu
        split at h
        · rename_i m e hp
          have : n = m := by simpa using h
          subst this
          exact .lenArr _ _ _ (.inr ⟨p, e, hu, hp⟩)
        · cases h
      · cases h
    · rename_i x xs x' xs' ha
      have ha' : args = (x' :: xs').toArray := Array.ext' (by simpa using ha)
      subst ha'
      simp only [Bool.and_eq_true] at h
      exact .min _ _ _ _ _ (mr_ok h.1) (mrs_ok h.2)
    · rename_i x xs x' xs' ha
      have ha' : args = (x' :: xs').toArray := Array.ext' (by simpa using ha)
      subst ha'
      simp only [Bool.and_eq_true] at h
      exact .max _ _ _ _ _ (mr_ok h.1) (mrs_ok h.2)
    · rename_i es x y x' y' t t2 ha hts
      have ha' : args = #[x', y'] := Array.ext' ha
      have ht' : ts = #[t, t2] := Array.ext' hts
      subst ha'; subst ht'
      simp only [Bool.and_eq_true] at h
      obtain ⟨⟨h1, h2⟩, h3⟩ := h
      obtain ⟨T⟩ := appTy_ok h3
      exact .append _ _ _ _ _ _ _ (mt_ok h1) (mr_ok h2) T
    · rename_i a0 es x y x' y' t t2 ha hts
      have ha' : args = #[x', y'] := Array.ext' ha
      have ht' : ts = #[t, t2] := Array.ext' hts
      subst ha'; subst ht'
      simp only [Bool.and_eq_true] at h
      obtain ⟨⟨h1, h2⟩, h3⟩ := h
      obtain ⟨T⟩ := appTy_ok h3
      exact .appendM _ _ _ _ _ _ _ _ (mr_ok h1) (mr_ok h2) T
    · cases h
  · rename_i p f args f' args' ts
    simp only [Bool.and_eq_true] at h
    have := MOp.call (S := S) (G := G) p f args f' args'.toList ts (mr_ok h.1) (mrs_ok h.2)
    simpa using this
  · cases h

variable (S) (G) in
def mopL : Op → Go.Op → Bool
  | .late o, o' => o.plain && mop S G o o'
  | o, o' => mop S G o o'

theorem mopL_ok {o : Op} {o' : Go.Op} (h : mopL S G o o' = true) : MOp S G o o' := by
  unfold mopL at h
  split at h
  · simp only [Bool.and_eq_true] at h
    exact .late _ _ h.1 (mop_ok h.2)
  · exact mop_ok h

end
end Go.Pm

namespace Go.Pm

section
variable (S : Seat) (G : List Nat) (nt : Nat)

def moper (ops : Array Go.Oper) (o : Oper) (o' : Go.Oper) : Bool :=
  decide (o'.dst = o.dst) && (match o.dst with | some d => decide (d < nt) | none => true) && mopL S G o.op o'.op &&
  (match o.guard, o'.guard with
   | none, none => true
   | some (s, b), some (j, b') => b == b' && decide ((ops[j]?).bind (·.dst) = some s)
   | _, _ => false)

def mopers (ops : Array Go.Oper) : List Oper → List Go.Oper → Bool
  | [], [] => true
  | o :: os, o' :: os' => moper S G nt ops o o' && mopers ops os os'
  | _, _ => false

def ancs : List Go.Oper → List (List Nat) → List (List Nat)
  | [], acc => acc
  | o :: os, acc => ancs os (acc ++ [(binds o ++ (binds o).flatMap fun k => acc.getD k []).eraseDups])

def drawOk (ops : List Oper) (ops' : List Go.Oper) : Bool :=
  let an := ancs ops' []
  (List.range ops.length).all (fun i => match ops[i]? with | some o => o.ix == i | none => true) &&
  (List.range ops'.length).all (fun i => match ops'[i]? with
    | some o => (binds o).all (fun j => decide (j < i)) && (an.getD i []).all fun j => (binds o).contains j || (binds o).any fun k => (an.getD k []).contains j
    | none => true) &&
  (List.range ops.length).all (fun i => (List.range i).all fun j => (an.getD i []).contains j || (match ops[i]?, ops[j]? with
    | some a, some b => pairOk a b
    | _, _ => true))

def stripf : AC → AC
  | .frz _ a => stripf a
  | .frzc _ a => stripf a
  | a => a

def mc : Bool → Code → AC → Bool
  | r, .scope y, a => mc r y a
  | r, .seq (.label _) y, a => mc r y a
  | r, .seq x y, a => (match stripf a with
    | .seq a b => mc r x a && mc r y b
    | _ => false)
  | _, .skip, a => (match stripf a with | .skip => true | _ => false)
  | _, .label _, a => (match stripf a with | .skip => true | _ => false)
  | r, .cond c x y, a => (match stripf a with
    | .cond c' a b => mr S G c' c && mc r x a && mc r y b
    | _ => false)
  | r, .block id x, a => (match stripf a with
    | .block id' a => id == id' && mc r x a
    | _ => false)
  | r, .loop x, a => (match stripf a with
    | .loop _ a => mc r x a
    | _ => false)
  | _, .exit id, a => (match stripf a with | .exit id' => id == id' | _ => false)
  | _, .ret, a => (match stripf a with | .ret => true | _ => false)
  | _, .region _ ops' d, a => (match stripf a with
    | .region _ ops d' _ => d == d' && mopers S G nt ops' ops ops'.toList && (!d || drawOk ops ops'.toList)
    | _ => false)
  | r, .rangeFunc f' ps' x y, a => (match stripf a with
    | .rfunc f ps a b => !r && mr S G f f' && decide (ps = ps'.toList) && ps.all (fun p => decide (p < nt)) && mc true x a && mc true y b
    | _ => false)
  | _, _, _ => false

def mres (P : Program) : List (Nat × Option (Option Nat)) → List ResultVar → Bool
  | [], [] => true
  | (t, none) :: rs, .tmp t' :: rs' => t == t' && mres P rs rs'
  | (t, some n) :: rs, .cell t' ty :: rs' => t == t' && tsh P ty n && mres P rs rs'
  | _, _ => false

def fnChk (f : Fn) (fn : Func) : Bool :=
  (match fn.body with | some c => mc S G f.nt false c f.body | none => false) && fn.ntmps == f.nt && decide (f.np ≤ f.nt) && fn.name != "runtime.NumGoroutine" && mres S.P f.res fn.results.toList

end

section
variable {S : Seat} {G : List Nat} {nt : Nat}

theorem moper_ok {ops : Array Go.Oper} {o : Oper} {o' : Go.Oper} (h : moper S G nt ops o o' = true) : MOper S G nt ops o o' := by
  simp only [moper, Bool.and_eq_true, decide_eq_true_eq] at h
  obtain ⟨⟨⟨h1, h2⟩, h3⟩, h4⟩ := h
  refine ⟨h1, fun d hd => by rw [hd] at h2; exact of_decide_eq_true h2, mopL_ok h3, ?_⟩
  cases hg : o.guard with
  | none =>
    cases hg' : o'.guard with
    | none => trivial
    | some q => rw [hg, hg'] at h4; cases h4
  | some p =>
    obtain ⟨s, b⟩ := p
    cases hg' : o'.guard with
    | none => rw [hg, hg'] at h4; cases h4
    | some q =>
      obtain ⟨j, b'⟩ := q
      rw [hg, hg'] at h4
      simp only [Bool.and_eq_true, beq_iff_eq, decide_eq_true_eq] at h4
      exact h4

theorem mopers_ok {ops : Array Go.Oper} : ∀ {os : List Oper} {os' : List Go.Oper}, mopers S G nt ops os os' = true → MOpers S G nt ops os os'
  | [], [], _ => trivial
  | o :: os, o' :: os', h => by
    simp only [mopers, Bool.and_eq_true] at h
    exact ⟨moper_ok h.1, mopers_ok h.2⟩
  | [], _ :: _, h => by cases h
  | _ :: _, [], h => by cases h

theorem drawOk_ok {ops : List Oper} {ops' : List Go.Oper} (h : drawOk ops ops' = true) : DrawOk ops ops' := by
  simp only [drawOk, Bool.and_eq_true, List.all_eq_true, List.mem_range] at h
  obtain ⟨⟨h1, h2⟩, h3⟩ := h
  have g2 : ∀ (i : Nat) o, ops'[i]? = some o → (∀ j ∈ binds o, j < i) ∧ ∀ j ∈ (ancs ops' []).getD i [], j ∈ binds o ∨ ∃ k ∈ binds o, j ∈ (ancs ops' []).getD k [] := fun i o hi => by
    have := h2 i (List.getElem?_eq_some_iff.1 hi).1
    rw [hi] at this
    simp only [Bool.and_eq_true, List.all_eq_true, decide_eq_true_eq, Bool.or_eq_true, List.contains_iff_mem, List.any_eq_true] at this
    exact this
  refine ⟨fun i o hi => ?_, fun i o hi => (g2 i o hi).1, fun i => (ancs ops' []).getD i [], fun i o hi => (g2 i o hi).2, fun i j a b hji ha hb hn => ?_⟩
  · have := h1 i (List.getElem?_eq_some_iff.1 hi).1
    rw [hi] at this
    simpa using this
  · have := h3 i (List.getElem?_eq_some_iff.1 ha).1 j hji
    rw [ha, hb] at this
    simp only [Bool.or_eq_true, List.contains_iff_mem] at this
    exact this.resolve_left hn

theorem stripf_ok {r : Bool} {y : Code} : ∀ {a : AC}, MC S G nt r (stripf a) y → MC S G nt r a y
  | .frz i a, h => .frz _ i a y (stripf_ok (a := a) h)
  | .frzc i a, h => .frzc _ i a y (stripf_ok (a := a) h)
  | .skip, h | .region _ _ _ _, h | .seq _ _, h | .cond _ _ _, h | .block _ _, h | .loop _ _, h | .rfunc _ _ _ _, h | .exit _, h | .scope _, h | .ret, h => h

theorem mc_ok : ∀ (y : Code) {r : Bool} {a : AC}, mc S G nt r y a = true → MC S G nt r a y
  | .scope y, r, a, h => .scope _ _ _ (mc_ok y (by simpa only [mc] using h))
  | .seq (.label l) y, r, a, h => .seqLabel _ l _ _ (mc_ok y (by simpa only [mc] using h))
  | .skip, r, a, h => by
    simp only [mc] at h
    apply stripf_ok
    split at h
    · rename_i h1; rw [h1]; exact .skip _
    · cases h
  | .label l, r, a, h => by
    simp only [mc] at h
    apply stripf_ok
    split at h
    · rename_i h1; rw [h1]; exact .label _ _
    · cases h
  | .cond c x y, r, a, h => by
    simp only [mc] at h
    apply stripf_ok
    split at h
    · rename_i h1
      simp only [Bool.and_eq_true] at h
      rw [h1]; exact .cond _ _ _ _ _ _ _ (mr_ok h.1.1) (mc_ok x h.1.2) (mc_ok y h.2)
    · cases h
  | .block id x, r, a, h => by
    simp only [mc] at h
    apply stripf_ok
    split at h
    · rename_i h1
      simp only [Bool.and_eq_true, beq_iff_eq] at h
      obtain ⟨rfl, h2⟩ := h
      rw [h1]; exact .block _ _ _ _ (mc_ok x h2)
    · cases h
  | .loop x, r, a, h => by
    simp only [mc] at h
    apply stripf_ok
    split at h
    · rename_i h1
      rw [h1]; exact .loop _ _ _ _ (mc_ok x h)
    · cases h
  | .exit id, r, a, h => by
    simp only [mc] at h
    apply stripf_ok
    split at h
    · rename_i h1
      have := beq_iff_eq.1 h
      subst this
      rw [h1]; exact .exit _ _
    · cases h
  | .ret, r, a, h => by
    simp only [mc] at h
    apply stripf_ok
    split at h
    · rename_i h1; rw [h1]; exact .ret _
    · cases h
  | .region id ops' d, r, a, h => by
    simp only [mc] at h
    apply stripf_ok
    split at h
    · rename_i h1
      simp only [Bool.and_eq_true, beq_iff_eq, Bool.or_eq_true, Bool.not_eq_true'] at h
      obtain ⟨⟨rfl, h2⟩, h3⟩ := h
      rw [h1]
      cases d with
      | false => exact .region _ _ _ _ _ _ (mopers_ok h2)
      | true => exact .draw _ _ _ _ _ _ (mopers_ok h2) (drawOk_ok (h3.resolve_left (by simp)))
    · cases h
  | .rangeFunc f' ps' x y, r, a, h => by
    simp only [mc] at h
    apply stripf_ok
    split at h
    · rename_i h1
      simp only [Bool.and_eq_true, decide_eq_true_eq, Bool.not_eq_true', List.all_eq_true] at h
      obtain ⟨⟨⟨⟨⟨rfl, h2⟩, rfl⟩, h4⟩, h5⟩, h6⟩ := h
      rw [h1]
      have := MC.rfunc (S := S) (G := G) (nt := nt) _ f' ps'.toList _ _ x y (mr_ok h2) (mc_ok x h5) (mc_ok y h6) h4
      simpa using this
    · cases h
  | .goto l, r, a, h => by simp [mc] at h
  | .refuse w, r, a, h => by simp [mc] at h
  | .seq .skip y, r, a, h | .seq (.region _ _ _) y, r, a, h | .seq (.seq _ _) y, r, a, h | .seq (.cond _ _ _) y, r, a, h | .seq (.block _ _) y, r, a, h | .seq (.loop _) y, r, a, h | .seq (.rangeFunc _ _ _ _) y, r, a, h | .seq (.exit _) y, r, a, h
  | .seq (.scope _) y, r, a, h | .seq (.goto _) y, r, a, h | .seq .ret y, r, a, h | .seq (.refuse _) y, r, a, h => by
    unfold mc at h
    apply stripf_ok
    split at h
    · rename_i h1
      simp only [Bool.and_eq_true] at h
      rw [h1]; exact .seq _ _ _ _ _ (mc_ok _ h.1) (mc_ok y h.2)
    · cases h

theorem mres_ok {P : Program} : ∀ {rs : List (Nat × Option (Option Nat))} {rs' : List ResultVar}, mres P rs rs' = true → MRes P rs rs'
  | [], [], _ => trivial
  | (t, none) :: rs, .tmp t' :: rs', h => by
    simp only [mres, Bool.and_eq_true, beq_iff_eq] at h
    exact ⟨h.1, mres_ok h.2⟩
  | (t, some n) :: rs, .cell t' ty :: rs', h => by
    simp only [mres, Bool.and_eq_true, beq_iff_eq] at h
    exact ⟨h.1.1, tsh_ok h.1.2, mres_ok h.2⟩
  | [], _ :: _, h => by cases h
  | (_, none) :: _, [], h => by cases h
  | (_, some _) :: _, [], h => by cases h
  | (_, none) :: _, .cell _ _ :: _, h => by cases h
  | (_, some _) :: _, .tmp _ :: _, h => by cases h

theorem fnChk_ok {id : Nat} {f : Fn} {fn : Func} (hf : S.P.funcs[S.fm id]? = some fn) (h : fnChk S G f fn = true) : FnOk S G id f := by
  simp only [fnChk, Bool.and_eq_true, beq_iff_eq, decide_eq_true_eq, bne_iff_ne, ne_eq] at h
  obtain ⟨⟨⟨⟨h1, h2⟩, h3⟩, h4⟩, h5⟩ := h
  split at h1
  · rename_i c hc
    exact ⟨fn, c, hf, hc, h4, h2, mc_ok c h1, h3, mres_ok h5⟩
  · cases h1

end
end Go.Pm

namespace Go.Pm
open Go.ChangeShapes Go.WideShapes Go.ChangeAt Go.RowKit

inductive T where
  | int (k : IntKind)
  | bool
  | str
  | sl (es : Nat) (e : T)
  | st (ts : List T)

mutual
def T.size : T → Nat
  | .st ts => T.sizeL ts
  | _ => 1
def T.sizeL : List T → Nat
  | [] => 0
  | t :: ts => T.size t + T.sizeL ts
end

mutual
def T.flat : T → Bool
  | .sl _ _ => false
  | .st ts => T.flatL ts
  | _ => true
def T.flatL : List T → Bool
  | [] => true
  | t :: ts => T.flat t && T.flatL ts
end

mutual
def T.has : T → List C → Prop
  | .int k, cs => ∃ n, cs = [.int k n] ∧ (Lit.int k n).wf = true
  | .bool, cs => ∃ b, cs = [.bool b]
  | .str, cs => ∃ s, cs = [.str s]
  | .sl es e, cs => cs = [.sl .nil es []] ∨ ∃ k l, cs = [.sl k es l] ∧ k ≠ .nil ∧ l.length ≤ maxLen ∧ ∀ x ∈ l, T.has e x
  | .st ts, cs => T.hasL ts cs
def T.hasL : List T → List C → Prop
  | [], cs => cs = []
  | t :: ts, cs => ∃ a b, cs = a ++ b ∧ T.has t a ∧ T.hasL ts b
end

def T.hasV (t : T) (v : V) : Prop :=
  match t with
  | .st ts => ∃ cl, v = .agg cl ∧ T.hasL ts cl
  | t => ∃ c, v = .sc c ∧ T.has t [c]

def HasVs : List T → List V → Prop
  | [], vs => vs = []
  | t :: ts, vs => ∃ v r, vs = v :: r ∧ t.hasV v ∧ HasVs ts r

mutual
theorem has_len : ∀ (t : T) (cs : List C), t.has cs → cs.length = t.size
  | .int k, cs, h => by simp only [T.has] at h; obtain ⟨n, rfl, _⟩ := h; rfl
  | .bool, cs, h => by simp only [T.has] at h; obtain ⟨n, rfl⟩ := h; rfl
  | .str, cs, h => by simp only [T.has] at h; obtain ⟨n, rfl⟩ := h; rfl
  | .sl es e, cs, h => by simp only [T.has] at h; rcases h with rfl | ⟨k, l, rfl, _⟩ <;> rfl
  | .st ts, cs, h => by simp only [T.has] at h; simp only [T.size]; exact hasL_len ts cs h
theorem hasL_len : ∀ (ts : List T) (cs : List C), T.hasL ts cs → cs.length = T.sizeL ts
  | [], cs, h => by simp only [T.hasL] at h; subst h; rfl
  | t :: ts, cs, h => by
    simp only [T.hasL] at h
    obtain ⟨a, b, rfl, ha, hb⟩ := h
    rw [List.length_append, has_len t a ha, hasL_len ts b hb]; rfl
end

theorem pureL_append (a b : List C) : C.pureL (a ++ b) = (C.pureL a && C.pureL b) := by
  induction a with
  | nil => simp [C.pureL]
  | cons x xs ih => simp [C.pureL, ih, Bool.and_assoc]

mutual
theorem has_pure : ∀ (t : T) (cs : List C), t.has cs → C.pureL cs = true
  | .int k, cs, h => by simp only [T.has] at h; obtain ⟨n, rfl, _⟩ := h; rfl
  | .bool, cs, h => by simp only [T.has] at h; obtain ⟨n, rfl⟩ := h; rfl
  | .str, cs, h => by simp only [T.has] at h; obtain ⟨n, rfl⟩ := h; rfl
  | .sl es e, cs, h => by simp only [T.has] at h; rcases h with rfl | ⟨k, l, rfl, _⟩ <;> rfl
  | .st ts, cs, h => by simp only [T.has] at h; exact hasL_pure ts cs h
theorem hasL_pure : ∀ (ts : List T) (cs : List C), T.hasL ts cs → C.pureL cs = true
  | [], cs, h => by simp only [T.hasL] at h; subst h; rfl
  | t :: ts, cs, h => by
    simp only [T.hasL] at h
    obtain ⟨a, b, rfl, ha, hb⟩ := h
    rw [pureL_append, has_pure t a ha, hasL_pure ts b hb]; rfl
end

section
variable (P : Program)

def fieldsIs (f : TypeId → T → Bool) : Nat → List Field → List T → Bool
  | _, [], [] => true
  | off, x :: xs, t :: ts => x.offset == off && P.cellsOf x.type == t.size && f x.type t && fieldsIs f (off + t.size) xs ts
  | _, _, _ => false

def tyIs : Nat → TypeId → T → Bool
  | 0, _, _ => false
  | d + 1, t, sh => P.cellsOf t == sh.size && (match P.underlying t, sh with
    | some (.int k), .int k' => decide (k = k')
    | some .bool, .bool => true
    | some .string, .str => true
    | some (.slice e), .sl es e' => P.cellsOf e == es && e'.size == es && decide (0 < es) && e'.flat && tyIs d e e'
    | some (.struct fs), .st ts => fieldsIs P (tyIs d) 0 fs.toList ts
    | some (.array n e), .st ts => ts.length == n && ts.all fun x => P.cellsOf e == x.size && tyIs d e x
    | _, _ => false)

def paramsIs (d : Nat) : List TypeId → List T → Bool
  | [], [] => true
  | t :: ts, x :: xs => tyIs P d t x && paramsIs d ts xs
  | _, _ => false
end

def Cls (S : Seat) (g : Gh) (cl : List C) (cs : List Value) : Prop := cl.length = cs.length ∧ ∀ (j : Nat) c v, cl[j]? = some c → cs[j]? = some v → RC S g c v

theorem Cls.append {S : Seat} {g : Gh} {a b : List C} {x y : List Value} (h : Cls S g a x) (k : Cls S g b y) : Cls S g (a ++ b) (x ++ y) := by
  refine ⟨by simp [h.1, k.1], fun j c v hc hv => ?_⟩
  by_cases hj : j < a.length
  · rw [List.getElem?_append_left hj] at hc
    rw [List.getElem?_append_left (by rw [← h.1]; exact hj)] at hv
    exact h.2 j c v hc hv
  · rw [List.getElem?_append_right (by omega)] at hc
    rw [List.getElem?_append_right (by rw [← h.1]; omega), ← h.1] at hv
    exact k.2 _ c v hc hv

theorem Cls.one {S : Seat} {g : Gh} {c : C} {v : Value} (h : RC S g c v) : Cls S g [c] [v] :=
  ⟨rfl, fun j c' v' a b => by
    rcases j with _ | j
    · simp at a b; subst a; subst b; exact h
    · simp at a⟩

section
variable {H : Type} {enc : TypeId × Value → H} {S : Seat} {g : Gh} {w : World} {base : Nat} {sp : Nat → Bool} {held : Bool}

def Spots (cs : List Value) : Prop := ∀ (j : Nat) (a : Addr) n c, cs[j]? = some (.slice (some a) n c) → a.spot = none

theorem fields_open {d : Nat} (ih : ∀ (t : TypeId) (sh : T) (fuel : Nat) (cs : List Value) x, tyIs S.P d t sh = true → DataW.trod enc S.P w base sp held fuel t cs = some x → (sh.flat = false → Spots cs) → ∃ cl, sh.has cl ∧ Cls S g cl cs) {fuel : Nat} {cs : List Value} :
    ∀ (fs : List Field) (ts : List T) (off : Nat), fieldsIs S.P (tyIs S.P d) off fs ts = true → cs.length = off + T.sizeL ts → (T.flatL ts = false → Spots cs) →
      (∀ f ∈ fs, ∃ x, DataW.trod enc S.P w base sp held fuel f.type ((cs.drop f.offset).take (S.P.cellsOf f.type)) = some x) → ∃ cl, T.hasL ts cl ∧ Cls S g cl (cs.drop off)
  | [], [], off, _, hl, _, _ => ⟨[], rfl, by simp only [T.sizeL, Nat.add_zero] at hl; simp [← hl], fun j c v a => by simp at a⟩
  | f :: fs, t :: ts, off, h, hl, hs, hx => by
    simp only [fieldsIs, Bool.and_eq_true, beq_iff_eq] at h
    obtain ⟨⟨⟨h1, h2⟩, h3⟩, h4⟩ := h
    obtain ⟨x, hx1⟩ := hx f (by simp)
    rw [h1, h2] at hx1
    simp only [T.sizeL] at hl
    simp only [T.flatL, Bool.and_eq_false_iff] at hs
    obtain ⟨a, ha, hca⟩ := ih f.type t fuel _ x h3 hx1 (fun hf j ad n c hj => by
      rw [List.getElem?_take] at hj
      split at hj
      · rw [List.getElem?_drop] at hj; exact hs (.inl hf) _ ad n c hj
      · cases hj)
    obtain ⟨b, hb, hcb⟩ := fields_open ih fs ts (off + t.size) h4 (by omega) (fun hf => hs (.inr hf)) (fun y hy => hx y (by simp [hy]))
    refine ⟨a ++ b, by simp only [T.hasL]; exact ⟨a, b, rfl, ha, hb⟩, ?_⟩
    have := hca.append hcb
    rwa [← List.drop_drop, List.take_append_drop] at this
  | [], _ :: _, _, h, _, _, _ => by simp [fieldsIs] at h
  | _ :: _, [], _, h, _, _, _ => by simp [fieldsIs] at h

theorem elems_open {d : Nat} {e : TypeId} (ih : ∀ (t : TypeId) (sh : T) (fuel : Nat) (cs : List Value) x, tyIs S.P d t sh = true → DataW.trod enc S.P w base sp held fuel t cs = some x → (sh.flat = false → Spots cs) → ∃ cl, sh.has cl ∧ Cls S g cl cs) {fuel : Nat} {cs : List Value} :
    ∀ (ts : List T) (n : Nat), (∀ x ∈ ts, S.P.cellsOf e = x.size ∧ tyIs S.P d e x = true) → cs.length = n * S.P.cellsOf e + T.sizeL ts → (T.flatL ts = false → Spots cs) →
      (∀ i, n ≤ i → i < n + ts.length → ∃ x, DataW.trod enc S.P w base sp held fuel e ((cs.drop (i * S.P.cellsOf e)).take (S.P.cellsOf e)) = some x) → ∃ cl, T.hasL ts cl ∧ Cls S g cl (cs.drop (n * S.P.cellsOf e))
  | [], n, _, hl, _, _ => ⟨[], rfl, by simp only [T.sizeL, Nat.add_zero] at hl; simp [← hl], fun j c v a => by simp at a⟩
  | t :: ts, n, h, hl, hs, hx => by
    obtain ⟨h2, h3⟩ := h t (by simp)
    obtain ⟨x, hx1⟩ := hx n (Nat.le_refl _) (by simp)
    simp only [T.sizeL] at hl
    simp only [T.flatL, Bool.and_eq_false_iff] at hs
    obtain ⟨a, ha, hca⟩ := ih e t fuel _ x h3 hx1 (fun hf j ad m c hj => by
      rw [List.getElem?_take] at hj
      split at hj
      · rw [List.getElem?_drop] at hj; exact hs (.inl hf) _ ad m c hj
      · cases hj)
    obtain ⟨b, hb, hcb⟩ := elems_open ih ts (n + 1) (fun y hy => h y (by simp [hy])) (by rw [Nat.add_mul, Nat.one_mul]; omega) (fun hf => hs (.inr hf)) (fun i h1 h2 => hx i (by omega) (by simp; omega))
    refine ⟨a ++ b, by simp only [T.hasL]; exact ⟨a, b, rfl, ha, hb⟩, ?_⟩
    have := hca.append hcb
    rw [Nat.add_mul, Nat.one_mul, ← List.drop_drop] at this
    rwa [List.take_append_drop] at this

theorem open_shape (hM : ∀ b o, g.M b o = w.cell? ⟨b, o, none⟩) : ∀ (d : Nat) (t : TypeId) (sh : T) (fuel : Nat) (cs : List Value) x, tyIs S.P d t sh = true → DataW.trod enc S.P w base sp held fuel t cs = some x → (sh.flat = false → Spots cs) →
    ∃ cl, sh.has cl ∧ Cls S g cl cs
  | 0, _, _, _, _, _, h, _, _ => by simp [tyIs] at h
  | d + 1, t, sh, fuel, cs, x, h, hx, hs => by
    simp only [tyIs, Bool.and_eq_true, beq_iff_eq] at h
    obtain ⟨hsz, h⟩ := h
    split at h
    · rename_i k k' hu
      have := of_decide_eq_true h
      subst this
      obtain ⟨n, rfl, _, hw⟩ := DataW.trod_int hu hx
      exact ⟨[.int k n], by simp only [T.has]; exact ⟨n, rfl, hw⟩, .one (.int k n)⟩
    · rename_i hu
      obtain ⟨b, rfl, _⟩ := DataW.trod_bool hu hx
      exact ⟨[.bool b], by simp only [T.has]; exact ⟨b, rfl⟩, .one (.bool b)⟩
    · rename_i hu
      obtain ⟨s, rfl, _⟩ := DataW.trod_string hu hx
      exact ⟨[.str s], by simp only [T.has]; exact ⟨s, rfl⟩, .one (.str s)⟩
    · rename_i e es e' hu
      simp only [Bool.and_eq_true, beq_iff_eq, decide_eq_true_eq] at h
      obtain ⟨⟨⟨⟨h1, h2⟩, h3⟩, h4⟩, h5⟩ := h
      rcases DataW.trod_slice hu hx with ⟨rfl, _⟩ | ⟨a, len, cap, elems, rest, n, _, rfl, _, hb, hl, hm, hlen, hel, _, _⟩
      · exact ⟨[.sl .nil es []], by simp only [T.has]; exact .inl trivial, .one (.slNil es)⟩
      · have hspot := hs rfl 0 a len cap rfl
        obtain ⟨b, off, spot⟩ := a
        simp only at hspot
        subst hspot
        have each : ∀ i, ∃ cl, i < len → e'.has cl ∧ ∃ cs', w.cells? base (Addr.add ⟨b, off, none⟩ (i * es)) es = some cs' ∧ Cls S g cl cs' := fun i => by
          by_cases hi : i < len
          · have h0 := hel i hi
            rw [h1] at h0
            rw [List.getElem?_eq_getElem (by omega)] at h0
            obtain ⟨cs', hc, ht⟩ := Option.bind_eq_some_iff.1 h0
            obtain ⟨cl, hcl, hcs⟩ := open_shape hM d e e' n cs' _ h5 ht (fun hf => by rw [h4] at hf; cases hf)
            exact ⟨cl, fun _ => ⟨hcl, cs', hc, hcs⟩⟩
          · exact ⟨[], fun hh => absurd hh hi⟩
        obtain ⟨F, hF⟩ := Classical.axiomOfChoice each
        have hget : ∀ (i : Nat) (x : List C), ((List.range len).map F)[i]? = some x → i < len ∧ x = F i := fun i x hi => by
          rw [List.getElem?_map] at hi
          by_cases hil : i < len
          · rw [List.getElem?_range hil] at hi
            simp at hi
            exact ⟨hil, hi.symm⟩
          · rw [List.getElem?_eq_none (by simpa using hil)] at hi
            simp at hi
        have hlenF : ∀ i, i < len → (F i).length = es := fun i hi => by rw [has_len _ _ (hF i hi).1, h2]
        refine ⟨[.sl (if cap = len then .full else .shared) es ((List.range len).map F)], ?_, .one ?_⟩
        · simp only [T.has]
          refine .inr ⟨_, _, rfl, by split <;> simp, by simp; omega, fun x hx => ?_⟩
          obtain ⟨i, hi, rfl⟩ := List.mem_map.1 hx
          exact (hF i (by simpa using hi)).1
        · have key := RC.sl (S := S) (g := g) (if cap = len then SK.full else SK.shared) es ((List.range len).map F) b off cap (fun i j => (w.cell? ⟨b, off + i * es + j, none⟩).getD undef) (by split <;> simp)
            (fun hk => by
              simp only [List.length_map, List.length_range]
              by_cases hcl : cap = len
              · exact hcl
              · rw [if_neg hcl] at hk; cases hk) (by simpa using hl)
            (fun i x hi => by obtain ⟨hi2, rfl⟩ := hget i x hi; exact hlenF i hi2) (fun i x hi => by obtain ⟨hi2, rfl⟩ := hget i x hi; exact has_pure _ _ (hF i hi2).1)
            (fun i x j hi hj => by
              obtain ⟨hi2, rfl⟩ := hget i x hi
              obtain ⟨_, cs', hc, hcs⟩ := hF i hi2
              obtain ⟨_, hl', hc'⟩ := World.cells?_some hc
              have := hc' j hj
              rw [Addr.add_none, Addr.add_none] at this
              rw [hM, this, List.getElem?_eq_getElem (by omega)]; rfl)
            (fun i x j c hi hj => by
              obtain ⟨hi2, rfl⟩ := hget i x hi
              obtain ⟨_, cs', hc, hcs⟩ := hF i hi2
              obtain ⟨_, hl', hc'⟩ := World.cells?_some hc
              have hjl : j < es := by rw [← hlenF i hi2]; exact (List.getElem?_eq_some_iff.1 hj).1
              have := hc' j hjl
              rw [Addr.add_none, Addr.add_none] at this
              rw [this]
              have h6 : cs'[j]? = some (cs'[j]'(by omega)) := List.getElem?_eq_getElem _
              rw [h6]
              exact hcs.2 j c _ hj h6)
          simpa using key
    · rename_i fs ts hu
      obtain ⟨xs, n, _, _, hcl, hxl, hf⟩ := DataW.trod_struct hu hx
      simp only [T.flat] at hs
      simp only [T.size] at hsz
      obtain ⟨cl, h1, h2⟩ := fields_open (S := S) (g := g) (fun t sh fuel cs x => open_shape hM d t sh fuel cs x) (fuel := n) (cs := cs) fs.toList ts 0 h (by omega) hs (fun f hfm => by
        obtain ⟨i, hi⟩ := List.getElem?_of_mem hfm
        have hi' : i < xs.length := by rw [hxl]; have := (List.getElem?_eq_some_iff.1 hi).1; simpa using this
        have := hf i f (by simpa using hi)
        rw [List.getElem?_eq_getElem hi'] at this
        exact ⟨_, this⟩)
      exact ⟨cl, by simp only [T.has]; exact h1, by simpa using h2⟩
    · rename_i n e ts hu
      simp only [Bool.and_eq_true, beq_iff_eq, List.all_eq_true] at h
      obtain ⟨xs, m, _, _, hcl, hxl, hf⟩ := DataW.trod_array hu hx
      simp only [T.flat] at hs
      simp only [T.size] at hsz
      obtain ⟨cl, h1, h2⟩ := elems_open (S := S) (g := g) (e := e) (fun t sh fuel cs x => open_shape hM d t sh fuel cs x) (fuel := m) (cs := cs) ts 0 h.2 (by omega) hs (fun i _ hi => by
        have hi' : i < n := by omega
        have := hf i hi'
        rw [List.getElem?_eq_getElem (by omega)] at this
        exact ⟨_, this⟩)
      exact ⟨cl, by simp only [T.has]; exact h1, by simpa using h2⟩
    · cases h

theorem spot_of {P : Program} {u : TypeId} {a : Addr} {n c : Nat} (h : Cell.okWide P w .any base u (.slice (some a) n c)) : a.spot = none := by
  unfold Cell.okWide at h
  cases hu : P.underlying u with
  | none => simp [hu, Cell.ok] at h
  | some d =>
    cases d <;> simp [hu, Cell.ok] at h
    exact h.2.2.2.1

theorem open_value (hM : ∀ b o, g.M b o = w.cell? ⟨b, o, none⟩) {d : Nat} {t : TypeId} {sh : T} {v : Value} {x : DataW H} {ps : List MemPlace} (h : tyIs S.P d t sh = true) (hx : DataW.Trod enc S.P w base sp held t v x ps)
    (hok : Value.okWide S.P w .any base t v) : ∃ y, sh.hasV y ∧ RV S g y v := by
  obtain ⟨fuel, hx⟩ := hx
  have agg : (∃ fs, S.P.underlying t = some (.struct fs)) ∨ (∃ n e, S.P.underlying t = some (.array n e)) → ∃ cs, v = .agg cs ∧ Spots cs.toList := fun hu => by
    have : ∃ cs, v = .agg cs ∧ cs.size = S.P.cellsOf t ∧ Row.okWide S.P w .any base t cs := by
      rcases hu with ⟨fs, hu⟩ | ⟨n, e, hu⟩ <;> simpa [Value.okWide, hu] using hok
    obtain ⟨cs, rfl, _, ts, _, _, hr⟩ := this
    refine ⟨cs, rfl, fun j a n c hj => ?_⟩
    obtain ⟨u, _, hu⟩ := hr j _ (by simpa using hj)
    exact spot_of hu
  cases d with
  | zero => simp [tyIs] at h
  | succ d =>
    have h' := h
    simp only [tyIs, Bool.and_eq_true, beq_iff_eq] at h
    obtain ⟨hsz, h⟩ := h
    split at h
    · rename_i k k' hu
      have := of_decide_eq_true h
      subst this
      simp only [Value.okWide, hu] at hok
      cases v <;> simp [Cell.okWide, Cell.ok, hu] at hok
      obtain ⟨cl, h1, h2⟩ := open_shape (S := S) (g := g) hM (d + 1) t _ fuel _ _ h' hx (by simp [T.flat])
      simp only [T.has] at h1
      obtain ⟨n, rfl, hw⟩ := h1
      exact ⟨.sc (.int k n), by simp only [T.hasV, T.has]; exact ⟨_, rfl, n, rfl, hw⟩, .sc _ _ (h2.2 0 _ _ rfl rfl)⟩
    · rename_i hu
      simp only [Value.okWide, hu] at hok
      cases v <;> simp [Cell.okWide, Cell.ok, hu] at hok
      obtain ⟨cl, h1, h2⟩ := open_shape (S := S) (g := g) hM (d + 1) t _ fuel _ _ h' hx (by simp [T.flat])
      simp only [T.has] at h1
      obtain ⟨n, rfl⟩ := h1
      exact ⟨.sc (.bool n), by simp only [T.hasV, T.has]; exact ⟨_, rfl, n, rfl⟩, .sc _ _ (h2.2 0 _ _ rfl rfl)⟩
    · rename_i hu
      simp only [Value.okWide, hu] at hok
      cases v <;> simp [Cell.okWide, Cell.ok, hu] at hok
      obtain ⟨cl, h1, h2⟩ := open_shape (S := S) (g := g) hM (d + 1) t _ fuel _ _ h' hx (by simp [T.flat])
      simp only [T.has] at h1
      obtain ⟨n, rfl⟩ := h1
      exact ⟨.sc (.str n), by simp only [T.hasV, T.has]; exact ⟨_, rfl, n, rfl⟩, .sc _ _ (h2.2 0 _ _ rfl rfl)⟩
    · rename_i e es e' hu
      simp only [Value.okWide, hu] at hok
      obtain ⟨p, n, c, rfl⟩ : ∃ p n c, v = .slice p n c := by
        cases v <;> first | exact ⟨_, _, _, rfl⟩ | simp [Cell.okWide, Cell.ok, hu] at hok
      obtain ⟨cl, h1, h2⟩ := open_shape (S := S) (g := g) hM (d + 1) t _ fuel _ _ h' hx (fun _ j a n' c' hj => by
        rcases j with _ | j
        · simp [Value.cells] at hj
          obtain ⟨rfl, rfl, rfl⟩ := hj
          exact spot_of hok
        · simp [Value.cells] at hj)
      have hl := h2.1
      have hone : ∃ c, cl = [c] := by
        simp only [T.has] at h1
        rcases h1 with rfl | ⟨k, l, rfl, _⟩ <;> exact ⟨_, rfl⟩
      obtain ⟨c0, rfl⟩ := hone
      exact ⟨.sc c0, by simp only [T.hasV]; exact ⟨c0, rfl, h1⟩, .sc _ _ (h2.2 0 _ _ rfl rfl)⟩
    · rename_i fs ts hu
      obtain ⟨cs, rfl, hsp⟩ := agg (.inl ⟨fs, hu⟩)
      obtain ⟨cl, h1, h2⟩ := open_shape (S := S) (g := g) hM (d + 1) t _ fuel _ _ h' hx (fun _ => hsp)
      simp only [T.has] at h1
      exact ⟨.agg cl, by simp only [T.hasV]; exact ⟨cl, rfl, h1⟩, .agg cl cs (by simpa [Value.cells] using h2.1) fun j c v a b => h2.2 j c v a (by simpa [Value.cells] using b)⟩
    · rename_i n e ts hu
      obtain ⟨cs, rfl, hsp⟩ := agg (.inr ⟨n, e, hu⟩)
      obtain ⟨cl, h1, h2⟩ := open_shape (S := S) (g := g) hM (d + 1) t _ fuel _ _ h' hx (fun _ => hsp)
      simp only [T.has] at h1
      exact ⟨.agg cl, by simp only [T.hasV]; exact ⟨cl, rfl, h1⟩, .agg cl cs (by simpa [Value.cells] using h2.1) fun j c v a b => h2.2 j c v a (by simpa [Value.cells] using b)⟩
    · cases h

theorem open_args (hM : ∀ b o, g.M b o = w.cell? ⟨b, o, none⟩) {d : Nat} : ∀ {ts : List TypeId} {shs : List T} {vs : List Value} {ds : List (DataW H)} {ps : List MemPlace}, paramsIs S.P d ts shs = true → DataW.TrodAll enc S.P w base sp held ts vs ds ps →
    (∀ (j : Nat) t v, ts[j]? = some t → vs[j]? = some v → Value.okWide S.P w .any base t v) → ∃ ys, HasVs shs ys ∧ RVs S g ys vs
  | [], [], vs, ds, ps, _, h, _ => by
    obtain ⟨rfl, rfl, rfl⟩ := trodAll_nil h
    exact ⟨[], rfl, rfl, fun j v x a => by simp at a⟩
  | t :: ts, sh :: shs, vs, ds, ps, hp, h, hok => by
    simp only [paramsIs, Bool.and_eq_true] at hp
    obtain ⟨v, vs', x, ds', p, q, rfl, rfl, rfl, hv, hr⟩ := trodAll_cons h
    obtain ⟨y, hy, hyv⟩ := open_value (S := S) (g := g) hM hp.1 hv (hok 0 t v rfl rfl)
    obtain ⟨ys, hys, hl, hyvs⟩ := open_args hM hp.2 hr (fun j t v a b => hok (j + 1) t v (by simpa using a) (by simpa using b))
    refine ⟨y :: ys, ⟨y, ys, rfl, hy, hys⟩, by simp [hl], fun j a b h1 h2 => ?_⟩
    rcases j with _ | j
    · simp at h1 h2; subst h1; subst h2; exact hyv
    · exact hyvs j a b (by simpa using h1) (by simpa using h2)
  | [], _ :: _, _, _, _, hp, _, _ => by simp [paramsIs] at hp
  | _ :: _, [], _, _, _, hp, _, _ => by simp [paramsIs] at hp

def Gh.start (w : World) : Gh := { σ := fun _ => 0, A := fun _ => False, M := fun b o => w.cell? ⟨b, o, none⟩, N := fun b => match w.heap[b]? with | some (.map es _) => some es | _ => none }

theorem start_relH {G : List Nat} (hgl : ∀ id ∈ G, RC S (.start w) (.eptr (S.Γ.glob id) 0) (.pointer (some ⟨S.gm id, 0, none⟩))) : RelH S G (.start w) [] w where
  ob := fun r o h => by simp at h
  as := fun r h => h.elim
  lv := fun r o h => by simp at h
  inj := fun r r' o o' h => by simp at h
  im := fun b o v h => h
  mm := fun b es h => by
    simp only [Gh.start] at h
    split at h
    · rename_i es' n he
      simp only [Option.some.injEq] at h
      subst h
      exact ⟨n, he⟩
    · cases h
  djM := fun r o h => by simp at h
  djN := fun r o h => by simp at h
  gl := hgl
  ex := fun r j r' j' b h => by obtain ⟨cs, es, l, vals, elem, fr, a, n, cap, h1, _⟩ := h; simp at h1
  cl := fun r j b r' o h => by obtain ⟨cs, es, l, vals, elem, fr, a, n, cap, h1, _⟩ := h; simp at h1

theorem HasVs.len : ∀ {ts : List T} {vs : List V}, HasVs ts vs → vs.length = ts.length
  | [], vs, h => by simp only [HasVs] at h; subst h; rfl
  | t :: ts, vs, h => by
    simp only [HasVs] at h
    obtain ⟨v, r, rfl, _, hr⟩ := h
    simp [HasVs.len hr]

theorem trodAll_len : ∀ {ts : List TypeId} {vs : List Value} {ds : List (DataW H)} {ps : List MemPlace}, DataW.TrodAll enc S.P w base sp held ts vs ds ps → ds.length = vs.length
  | [], vs, ds, ps, h => by obtain ⟨rfl, rfl, rfl⟩ := trodAll_nil h; rfl
  | t :: ts, vs, ds, ps, h => by
    obtain ⟨v, vs', x, ds', p, q, rfl, rfl, rfl, hv, hr⟩ := trodAll_cons h
    simp [trodAll_len hr]

theorem trodAll_keep {w' : World} (hs : ∀ b, b < w.heap.size → w'.heap[b]? = w.heap[b]?) {sp' : Nat → Bool} (hl : laidOutB S.P = true) : ∀ {ts : List TypeId} {vs : List Value} {ds : List (DataW H)} {ps : List MemPlace}, (∀ t ∈ ts, S.P.readableRec t = true ∧ t < S.P.types.size) →
    DataW.TrodAll enc S.P w 0 (fun _ => true) true ts vs ds ps → (∀ p ∈ ps, p.block < w.heap.size) → (∀ p ∈ ps, sp' p.block = true) → DataW.TrodAll enc S.P w' 0 sp' true ts vs ds ps
  | [], vs, ds, ps, _, h, _, _ => by obtain ⟨rfl, rfl, rfl⟩ := trodAll_nil h; rfl
  | t :: ts, vs, ds, ps, ht, h, hlt, hsp => by
    obtain ⟨v, vs', x, ds', p, q, rfl, rfl, rfl, ⟨n, hv⟩, hr⟩ := trodAll_cons h
    have ht1 := ht t (by simp)
    have same : ∀ z : MemPlace, z.block < w.heap.size → w.sameAt w' z := fun z hz => by
      cases z with
      | cell b off => simp only [World.sameAt, World.cell?]; rw [hs b hz]
      | map b => exact hs b hz
    exact ⟨p, q, ⟨n, DataW.trod_stays (kids_book hl ht1.1) (book_sized ht1.1) (fun e => by cases e) ⟨ht1.2, book_self t⟩ hv (fun z hz => same z (hlt z (by simp [show z ∈ p from hz]))) fun z hz => hsp z (by simp [show z ∈ p from hz])⟩,
      trodAll_keep hs hl (fun t' h' => ht t' (by simp [h'])) hr (fun z hz => hlt z (by simp [hz])) (fun z hz => hsp z (by simp [hz])), rfl⟩

theorem law_contract {G : List Nat} (hS : SeatOk S G) {id : Nat} {fn : Func} {s : ChangeSpec} {fresh : Bool} {tb : TypeId} (d : Nat) (shs : List T) (hps : paramsIs S.P d fn.params.toList shs = true) (hrd : (fn.params.toList.all fun t => S.P.readableRec t && decide (t < S.P.types.size)) = true)
    (hlo : laidOutB S.P = true) (hres : fn.resultTypes = #[tb]) (htb : S.P.underlying tb = some .bool) (hvars : s.vars = []) (hspec : ∀ ds : List (DataW H), ds.length = shs.length → s.fn H ds = { results := [.lit (.bool true)], args := ds })
    (hK : ∀ vs, HasVs shs vs → K S.Γ (.fn id) vs [] = some (.sc (.bool true), [])) {W : World} {args : Array Value} {ds gs : List (DataW H)} {before : List MemPlace}
    (hval : ∀ (j : Nat) t v, fn.params[j]? = some t → args[j]? = some v → Value.okWide S.P W .any base t v) (hW : DataW.Whole enc S.P fn.params.toList s.vars false W args.toList ds gs before)
    (hgl : ∀ id ∈ G, RC S (.start W) (.eptr (S.Γ.glob id) 0) (.pointer (some ⟨S.gm id, 0, none⟩))) :
    Calls S.P (S.fm id) args W fun e W' => ∃ v, e = .returned v ∧ s.post enc S.P fn false fresh false false W args v W' := by
  have hW' := hW
  obtain ⟨p, q, hA, hV, rfl, hfz, hnd⟩ := hW
  rw [hvars] at hV
  obtain ⟨rfl, rfl⟩ := trodVars_none hV
  obtain ⟨ys, hys, hr⟩ := open_args (S := S) (g := .start W) (fun _ _ => rfl) (held := true) hps hA (fun j t v a b => hval j t v (by simpa using a) (by simpa using b))
  have hc := K_sim hS (hK ys hys) (start_relH hgl) hr
  refine hc.mono fun e w' ⟨x, g', he, hG, hx⟩ => ⟨x, he, ?_⟩
  obtain rfl : x = .bool true := by
    cases hx with
    | sc _ _ h => cases h; rfl
  have hsame : ∀ b, b < W.heap.size → w'.heap[b]? = W.heap[b]? := fun b hb => hG.keeps.same b hb (by
    rintro ((⟨r, o, h, _⟩ | ⟨r, j, cs, es, l, vals, elem, fr, a, n, cap, h1, _⟩) | ⟨i, es, l, a, n, cap, h1, _⟩)
    · simp at h
    · simp at h1
    · simp [get] at h1)
  have hdl : ds.length = shs.length := by
    rw [trodAll_len hA, ← hys.len]
    exact hr.1.symm
  have hsp := hspec ds hdl
  simp only [List.all_eq_true, Bool.and_eq_true, decide_eq_true_eq] at hrd
  have hkeep := trodAll_keep (S := S) (enc := enc) (w' := w') hsame (sp' := fun b => decide (b < W.heap.size)) hlo hrd hA (fun z hz => hW'.lt z (by simpa using hz)) (fun z hz => by simpa using hW'.lt z (by simpa using hz))
  refine ⟨ds, [], p ++ [], [], p, [], hW', ?_, ?_, ?_, ?_, fun h => by cases h⟩
  · simp only [List.append_nil, hsp, hres]
    exact trodAll_mk1 ⟨1, by simp [DataW.trod, Value.cells, htb]⟩
  · simp only [List.append_nil, hsp]
    exact hkeep
  · rw [hvars]
    simp only [List.append_nil, hsp]
    rfl
  · refine ⟨hG.keeps.os, hG.keeps.out, fun i hi => ?_⟩
    rw [hsame i hi]
    exact (World.keptBut_refl W (fun z => z ∈ p ++ [] ∧ (z ∈ [] ∨ z ∈ p ∨ z ∈ []))).2.2 i hi
end
end Go.Pm

namespace Go.Pm

section
variable {H : Type} {enc : TypeId × Value → H} {S : Seat} {g : Gh} {w : World} {base : Nat} {sp : Nat → Bool} {held : Bool}

theorem fields_ints {P : Program} {d : Nat} : ∀ (fs : List Field) (n off : Nat), fieldsIs P (tyIs P d) off fs (List.replicate n (.int .i64)) = true → ∀ (i : Nat) f, fs[i]? = some f → f.offset = off + i ∧ P.cellsOf f.type = 1 ∧ P.underlying f.type = some (.int .i64)
  | [], n, off, _, i, f, hf => by simp at hf
  | x :: xs, 0, off, h, _, _, _ => by simp [fieldsIs] at h
  | x :: xs, n + 1, off, h, i, f, hf => by
    simp only [List.replicate_succ, fieldsIs, Bool.and_eq_true, beq_iff_eq] at h
    obtain ⟨⟨⟨h1, h2⟩, h3⟩, h4⟩ := h
    rcases i with _ | i
    · simp at hf
      subst hf
      refine ⟨h1, h2, ?_⟩
      cases d with
      | zero => simp [tyIs] at h3
      | succ d =>
        simp only [tyIs, Bool.and_eq_true] at h3
        have h5 := h3.2
        split at h5 <;> simp_all
    · have := fields_ints xs n _ h4 i f (by simpa using hf)
      simp only [T.size] at this
      exact ⟨by omega, this.2⟩

theorem ints_vals {d : Nat} {t : TypeId} {n fuel : Nat} {cs : List Value} {zs : List Int} {p : List MemPlace} (h : tyIs S.P d t (.st (List.replicate n (.int .i64))) = true)
    (hx : DataW.trod enc S.P w base sp held fuel t cs = some (.agg (zs.map fun z => .lit (.int .i64 z)), p)) : cs = zs.map (Value.int .i64 ·) := by
  have sz : ∀ n, T.sizeL (List.replicate n (.int .i64)) = n := fun n => by
    induction n with
    | zero => rfl
    | succ n ih => simp only [List.replicate_succ, T.sizeL, T.size, ih]; omega
  have main : ∀ (xs : List (DataW H × List MemPlace)) (m : Nat), DataW.agg (H := H) (zs.map fun z => .lit (.int .i64 z)) = .agg (xs.map (·.1)) → cs.length = n → xs.length = n →
      (∀ i, i < n → ∃ ti, S.P.underlying ti = some (.int .i64) ∧ DataW.trod enc S.P w base sp held m ti ((cs.drop i).take 1) = xs[i]?) → cs = zs.map (Value.int .i64 ·) := fun xs m he hcl hxl hf => by
    simp only [DataW.agg.injEq] at he
    apply List.ext_getElem?
    intro i
    by_cases hi : i < n
    · obtain ⟨ti, hu, ht⟩ := hf i hi
      rw [List.getElem?_eq_getElem (by omega)] at ht
      obtain ⟨z, h1, h2, _⟩ := DataW.trod_int hu ht
      have h3 : (zs.map fun z => DataW.lit (H := H) (.int .i64 z))[i]? = some (xs[i]).1 := by rw [he]; simp [hxl, hi]
      rw [h2, List.getElem?_map] at h3
      cases hz : zs[i]? with
      | none => rw [hz] at h3; simp at h3
      | some z' =>
        rw [hz] at h3
        simp at h3
        subst h3
        rw [List.getElem?_map, hz]
        have : ((cs.drop i).take 1)[0]? = some (Value.int .i64 z') := by rw [h1]; rfl
        simpa [List.getElem?_take, List.getElem?_drop] using this
    · have : zs.length = n := by have := congrArg List.length he; simp at this; omega
      rw [List.getElem?_eq_none (by omega), List.getElem?_eq_none (by simp; omega)]
  cases d with
  | zero => simp [tyIs] at h
  | succ d =>
    simp only [tyIs, Bool.and_eq_true, beq_iff_eq, T.size, sz] at h
    obtain ⟨hsz, h⟩ := h
    split at h
    · rename_i e; cases e
    · rename_i e; cases e
    · rename_i e; cases e
    · rename_i e; cases e
    · rename_i fs ts hu e
      cases e
      obtain ⟨xs, m, _, he, hcl, hxl, hf⟩ := DataW.trod_struct hu hx
      have hfl : ∀ (fs : List Field) (k off : Nat), fieldsIs S.P (tyIs S.P d) off fs (List.replicate k (.int .i64)) = true → fs.length = k := fun fs => by
        induction fs with
        | nil => intro k off h; cases k with | zero => rfl | succ k => simp [List.replicate_succ, fieldsIs] at h
        | cons x xs ih => intro k off h; cases k with | zero => simp [fieldsIs] at h | succ k => simp only [List.replicate_succ, fieldsIs, Bool.and_eq_true] at h; simp [ih k _ h.2]
      have hfs := hfl _ _ _ h
      have hfs' : fs.size = n := by simpa using hfs
      refine main xs m (Prod.mk.inj he).1 (by omega) (by omega) (fun i hi => ?_)
      have hfi : fs[i]? = some (fs[i]'(by omega)) := Array.getElem?_eq_getElem _
      obtain ⟨h1, h2, h3⟩ := fields_ints _ _ _ h i _ (by rw [Array.getElem?_toList]; exact hfi)
      have := hf i _ hfi
      rw [h1, h2, Nat.zero_add] at this
      exact ⟨_, h3, this⟩
    · rename_i n' e ts hu e'
      cases e'
      simp only [Bool.and_eq_true, beq_iff_eq, List.length_replicate, List.all_eq_true] at h
      obtain ⟨rfl, h⟩ := h
      obtain ⟨xs, m, _, he, hcl, hxl, hf⟩ := DataW.trod_array hu hx
      refine main xs m (Prod.mk.inj he).1 (by omega) (by omega) (fun i hi => ?_)
      have h0 := h (.int .i64) (List.mem_replicate.2 ⟨by omega, rfl⟩)
      have := hf i hi
      rw [h0.1] at this
      simp only [T.size, Nat.mul_one] at this
      refine ⟨e, ?_, this⟩
      have h3 := h0.2
      cases d with
      | zero => simp [tyIs] at h3
      | succ d =>
        simp only [tyIs, Bool.and_eq_true] at h3
        have h5 := h3.2
        split at h5 <;> simp_all
    · cases h

theorem funcs_vals {t e : TypeId} {n fuel : Nat} {cs : List Value} {l : List (List UInt8 × FuncId)} {p : List MemPlace} {ps rs : Array TypeId} {va : Bool} (hu : S.P.underlying t = some (.array n e)) (he : S.P.underlying e = some (.func ps rs va)) (hc : S.P.cellsOf e = 1)
    (hsz : S.P.cellsOf t = n) (hl : (l.all fun x => !x.1.isEmpty && decide (((List.range S.P.funcs.size).filter fun f => (S.P.funcs[f]?).any (·.name.toUTF8.data.toList == x.1)) = [x.2])) = true)
    (hx : DataW.trod (funcToken S.P) S.P w base sp true fuel t cs = some (.agg (l.map fun x => .held x.1), p)) : cs = l.map fun x => Value.func (.func x.2) #[] #[] := by
  obtain ⟨xs, m, _, hagg, hcl, hxl, hf⟩ := DataW.trod_array hu hx
  have hagg := (Prod.mk.inj hagg).1
  simp only [DataW.agg.injEq] at hagg
  have hll : l.length = n := by have := congrArg List.length hagg; simp at this; omega
  apply List.ext_getElem?
  intro i
  by_cases hi : i < n
  · have ht := hf i hi
    rw [hc, Nat.mul_one, List.getElem?_eq_getElem (by omega)] at ht
    have hseg : (cs.drop i).take 1 = [cs[i]'(by omega)] := by rw [List.drop_eq_getElem_cons (by omega)]; rfl
    rw [hseg] at ht
    have h3 : (l.map fun x => DataW.held (H := List UInt8) x.1)[i]? = some (xs[i]).1 := by rw [hagg]; simp [hxl, hi]
    have hli : l[i]? = some (l[i]'(by omega)) := List.getElem?_eq_getElem _
    rw [List.getElem?_map, hli] at h3
    simp only [Option.map_some, Option.some.injEq] at h3
    have hm := List.all_eq_true.1 hl (l[i]'(by omega)) (List.getElem_mem _)
    simp only [Bool.and_eq_true, Bool.not_eq_true', decide_eq_true_eq] at hm
    cases hn : (l[i]'(by omega)).1 with
    | nil => rw [hn] at hm; simp at hm
    | cons b r =>
      have ht' : DataW.trod (funcToken S.P) S.P w base sp true m e [cs[i]'(by omega)] = some (.held (b :: r), (xs[i]'(by omega)).2) := by rw [ht, ← hn, h3]
      rw [hn] at hm
      have := func_of_trod he hm.2 ht'
      rw [List.getElem?_eq_getElem (by omega), List.getElem?_map, hli, this]
      rfl
  · rw [List.getElem?_eq_none (by omega), List.getElem?_eq_none (by simp; omega)]

theorem glob_rc {n : String} {b : Nat} {cs : Array Value} {cl : List C} (hg : S.P.globalNamed n = some b) (hv : w.var? S.P n = some cs) (hp : C.pureL cl = true) (hc : Cls S (.start w) cl cs.toList) : RC S (.start w) (.eptr cl 0) (.pointer (some ⟨b, 0, none⟩)) := by
  have hsz : cl.length = cs.size := by simpa using hc.1
  have := RC.eptr (S := S) (g := .start w) cl 0 b 0 (fun j => cs.getD j undef) hp (fun j hj => by
    simp only [Gh.start, Nat.zero_add]
    rw [World.var?_cell hg hv j]
    have : j < cs.size := by omega
    simp [Array.getD_eq_getD_getElem?, this]) (fun j c hj => by
    have hlt : j < cs.size := by have := (List.getElem?_eq_some_iff.1 hj).1; omega
    refine hc.2 j c _ hj ?_
    simp [Array.getD_eq_getD_getElem?, hlt])
  simpa using this

theorem laid_cons {P : Program} {n : String} {d : DataW Unit} {r : List (String × DataW Unit)} {ps : List MemPlace} (h : DataW.LaidVars P w ((n, d) :: r) ps) :
    (∃ g t cs fuel p, P.globalNamed n = some g ∧ (P.globals[g]?).map (·.type) = some t ∧ w.var? P n = some cs ∧ DataW.trod (fun _ => ()) P w 0 (fun _ => true) false fuel t cs.toList = some (d, p)) ∧ ∃ q, DataW.LaidVars P w r q := by
  obtain ⟨g, t, cs, fuel, p, q, h1, h2, h3, h4, h5, _⟩ := h
  exact ⟨⟨g, t, cs, fuel, p, h1, h2, h3, h4⟩, q, h5⟩

theorem laid_mem {P : Program} {n : String} {d : DataW Unit} : ∀ {l : List (String × DataW Unit)} {ps : List MemPlace}, DataW.LaidVars P w l ps → (n, d) ∈ l →
    ∃ g t cs fuel p, P.globalNamed n = some g ∧ (P.globals[g]?).map (·.type) = some t ∧ w.var? P n = some cs ∧ DataW.trod (fun _ => ()) P w 0 (fun _ => true) false fuel t cs.toList = some (d, p)
  | [], _, _, h => by simp at h
  | (n', d') :: l, ps, h, hm => by
    obtain ⟨h1, q, h2⟩ := laid_cons h
    rcases List.mem_cons.1 hm with e | hm
    · cases e; exact h1
    · exact laid_mem h2 hm

theorem glob_ints {n : String} {b t k d : Nat} {zs : List Int} {l : List (String × DataW Unit)} (h : laidMetH S.P l w) (hm : (n, .agg (zs.map fun z => .lit (.int .i64 z))) ∈ l) (hg : S.P.globalNamed n = some b) (ht : (S.P.globals[b]?).map (·.type) = some t)
    (hty : tyIs S.P d t (.st (List.replicate k (.int .i64))) = true) : RC S (.start w) (.eptr (zs.map (C.int .i64 ·)) 0) (.pointer (some ⟨b, 0, none⟩)) := by
  have h1 := (laidMetH_iff.1 h).1
  obtain ⟨ps, hl, _⟩ := h1
  obtain ⟨g, t', cs, fuel, p, k1, k2, k3, k4⟩ := laid_mem (n := n) (d := .agg (zs.map fun z => .lit (.int .i64 z))) hl (List.mem_filter.2 ⟨hm, rfl⟩)
  obtain rfl := Option.some.inj (hg.symm.trans k1)
  obtain rfl := Option.some.inj (ht.symm.trans k2)
  have := ints_vals hty k4
  refine glob_rc hg k3 (pureL_iff.2 fun c hc => by obtain ⟨z, _, rfl⟩ := List.mem_map.1 hc; rfl) ?_
  rw [this]
  refine ⟨by simp, fun j c v a b => ?_⟩
  rw [List.getElem?_map] at a b
  cases hz : zs[j]? with
  | none => rw [hz] at a; cases a
  | some z => rw [hz] at a b; cases a; cases b; exact .int .i64 z

theorem glob_funcs {n : String} {b t e k : Nat} {dd : DataW Unit} {ids : List Nat} {names : List (List UInt8)} {l : List (String × DataW Unit)} {ps rs : Array TypeId} {va : Bool} (h : laidMetH S.P l w) (hm : (n, .iface "func table" dd) ∈ l) (hg : S.P.globalNamed n = some b)
    (ht : (S.P.globals[b]?).map (·.type) = some t) (hu : S.P.underlying t = some (.array k e)) (he : S.P.underlying e = some (.func ps rs va)) (hc : S.P.cellsOf e = 1) (hsz : S.P.cellsOf t = k)
    (hd : dd.funcsOut = .agg (names.map .held)) (hlen : names.length = ids.length)
    (hl : ((names.zip (ids.map S.fm)).all fun x => !x.1.isEmpty && decide (((List.range S.P.funcs.size).filter fun f => (S.P.funcs[f]?).any (·.name.toUTF8.data.toList == x.1)) = [x.2])) = true) :
    RC S (.start w) (.eptr (ids.map fun i => C.fn (.fn i) [] [] []) 0) (.pointer (some ⟨b, 0, none⟩)) := by
  obtain ⟨g, t', cs, fuel, p, k1, k2, k3, k4⟩ := h.funcs hm
  obtain rfl := Option.some.inj (hg.symm.trans k1)
  obtain rfl := Option.some.inj (ht.symm.trans k2)
  rw [hd] at k4
  have e0 : (names.zip (ids.map S.fm)).map Prod.fst = names := List.map_fst_zip (by simp [hlen])
  have e1 : names.map DataW.held = ((names.zip (ids.map S.fm)).map fun x => DataW.held (H := List UInt8) x.1) :=
    (congrArg (List.map DataW.held) e0).symm.trans (List.map_map ..)
  rw [e1] at k4
  have := funcs_vals hu he hc hsz hl k4
  refine glob_rc hg k3 (pureL_iff.2 fun c hc => by obtain ⟨z, _, rfl⟩ := List.mem_map.1 hc; rfl) ?_
  rw [this]
  refine ⟨by simp [hlen], fun j c v a b => ?_⟩
  rw [List.getElem?_map] at a b
  cases hz : ids[j]? with
  | none => rw [hz] at a; cases a
  | some i =>
    have hj : j < ids.length := (List.getElem?_eq_some_iff.1 hz).1
    have hzip : (names.zip (ids.map S.fm))[j]? = some (names[j]'(by omega), S.fm i) := by
      rw [List.getElem?_zip_eq_some]
      exact ⟨List.getElem?_eq_getElem _, by rw [List.getElem?_map, hz]; rfl⟩
    rw [hz] at a
    rw [hzip] at b
    cases a
    cases b
    exact .fn i [] [] [] [] [] [] rfl rfl (fun j c v a => by simp at a) rfl (fun j c v a => by simp at a)
end
end Go.Pm

namespace Go.Pm

inductive Tag {α : Type} (a : α) : Type where
  | mk
inductive Tag2 {α β : Type} (a : α) (b : β) : Type where
  | mk
inductive Tag3 {α β γ : Type} (a : α) (b : β) (c : γ) : Type where
  | mk

def andThen {β : Type} (r : Option (Ex × St)) (Q : Ex → St → Option β) : Option β :=
  match r with
  | some (e, s) => Q e s
  | none => none

noncomputable def E {β : Type} (Γ : Env) (c : AC) (s : St) (Q : Ex → St → Option β) (_ : Tag2 c Q := .mk) : Option β := andThen (X Γ c s) Q

theorem nrfl {α : Sort _} {a b : α} (h : a = b) : a = b := h

noncomputable def P1 {β : Type} (Γ : Env) (base : Nat) (dst : Option Nat) (o : Op) (s : St) (k : St → Option β) (_ : Tag3 dst o k := .mk) : Option β :=
  match perform (K Γ) base s.h (rd Γ s.t) o with
  | none => none
  | some (v, h) => k { t := put1 dst v (drop o.takes s.t), h := h }

noncomputable def R0 {β : Type} (Γ : Env) (base : Nat) : List Oper → St → (St → Option β) → Option β
  | [], s, k => k s
  | o :: os, s, k => match o.guard with
    | none => P1 Γ base o.dst o.op s fun s => R0 Γ base os s k
    | some (g, w) => match get s.t g with
      | .sc (.bool b) => if b = w then P1 Γ base o.dst o.op { t := (g, .sc (.bool w)) :: s.t, h := s.h } fun s => R0 Γ base os s k else R0 Γ base os { t := put1 o.dst (.tup []) ((g, .sc (.bool !w)) :: s.t), h := s.h } k
      | .tup [] => R0 Γ base os { t := put1 o.dst (.tup []) s.t, h := s.h } k
      | _ => none
noncomputable def R {β : Type} (Γ : Env) (base : Nat) (os : List Oper) (s : St) (k : St → Option β) (_ : Tag2 os k := .mk) : Option β := R0 Γ base os s k

def Same (s s' : St) : Prop := (∀ i, get s.t i = get s'.t i) ∧ s.h = s'.h

theorem Same.refl (s : St) : Same s s := ⟨fun _ => rfl, rfl⟩
theorem Same.rd {Γ : Env} {s s' : St} (h : Same s s') (x : Rand) : rd Γ s.t x = rd Γ s'.t x := by
  cases x <;> simp only [Pm.rd] <;> rw [h.1]
theorem Same.put {s s' : St} (h : Same s s') (d : Option Nat) (v : V) (k : List Obj) : Same { t := put1 d v s.t, h := k } { t := put1 d v s'.t, h := k } := by
  refine ⟨fun i => ?_, rfl⟩
  cases d with
  | none => exact h.1 i
  | some d => simp only [put1, get]; rw [h.1]
theorem Same.drop {s s' : St} (h : Same s s') : ∀ (l : List Nat) (k : List Obj), Same { t := drop l s.t, h := k } { t := drop l s'.t, h := k }
  | [], k => ⟨h.1, rfl⟩
  | j :: l, k => by
    have : Same { t := (j, (get s.t j).unown) :: s.t, h := k } { t := (j, (get s'.t j).unown) :: s'.t, h := k } := ⟨fun i => by simp only [get]; rw [h.1, h.1], rfl⟩
    exact Same.drop this l k
theorem Same.learn {s : St} {g : Nat} {v : V} (h : get s.t g = v) : Same s { t := (g, v) :: s.t, h := s.h } := ⟨fun i => by
  simp only [get]
  split
  · rename_i e; subst e; exact h
  · rfl, rfl⟩
theorem Same.put' {s s' : St} (h : Same s s') (d : Option Nat) (v : V) (l : List Nat) (k : List Obj) : Same { t := put1 d v (Pm.drop l s.t), h := k } { t := put1 d v (Pm.drop l s'.t), h := k } :=
  (h.drop l k).put d v k

theorem P1_same {β : Type} {Γ : Env} {base : Nat} {d : Option Nat} {o : Op} {s s' : St} {k : St → Option β} (hk : ∀ s s', Same s s' → k s = k s') (h : Same s s') : P1 Γ base d o s k = P1 Γ base d o s' k := by
  have hp : perform (K Γ) base s.h (rd Γ s.t) o = perform (K Γ) base s'.h (rd Γ s'.t) o := by
    rw [h.2]; exact congrArg (fun r => perform (K Γ) base s'.h r o) (funext fun x => h.rd x)
  unfold P1
  rw [hp]
  cases perform (K Γ) base s'.h (rd Γ s'.t) o with
  | none => rfl
  | some q => exact hk _ _ (h.put' _ _ _ _)

theorem R_same {β : Type} {Γ : Env} {base : Nat} : ∀ {os : List Oper} {s s' : St} {k : St → Option β}, (∀ s s', Same s s' → k s = k s') → Same s s' → R0 Γ base os s k = R0 Γ base os s' k
  | [], s, s', k, hk, h => hk _ _ h
  | o :: os, s, s', k, hk, h => by
    unfold R0
    cases o.guard with
    | none => exact P1_same (fun _ _ h => R_same hk h) h
    | some p =>
      obtain ⟨g, w⟩ := p
      have lrn : ∀ v, Same { t := (g, v) :: s.t, h := s.h } { t := (g, v) :: s'.t, h := s'.h } := fun v => ⟨fun i => by simp only [get]; rw [h.1], h.2⟩
      simp only
      rw [h.1 g]
      cases get s'.t g with
      | sc c => cases c with
        | bool b =>
          simp only
          by_cases hb : b = w
          · rw [if_pos hb, if_pos hb]; exact P1_same (fun _ _ h => R_same hk h) (lrn _)
          · rw [if_neg hb, if_neg hb]; refine R_same hk ?_; rw [h.2]; exact (lrn _).put _ _ _
        | _ => rfl
      | agg => rfl
      | tup vs => cases vs with
        | nil => simp only; refine R_same hk ?_; rw [h.2]; exact h.put _ _ _
        | cons => rfl

theorem steps_R {β : Type} (Γ : Env) (base : Nat) {k : St → Option β} (hk : ∀ s s', Same s s' → k s = k s') : ∀ (os : List Oper) (s : St), (match steps Γ (K Γ) base os s with | some s => k s | none => none) = R0 Γ base os s k
  | [], s => rfl
  | o :: os, s => by
    have ih := steps_R Γ base hk os
    have one : ∀ s0 : St, Same s s0 → (match (match (match perform (K Γ) base s.h (rd Γ s.t) o.op with
        | none => none
        | some (v, h) => some ({ t := put1 o.dst v (drop o.op.takes s.t), h := h } : St)) with
        | none => none
        | some s => steps Γ (K Γ) base os s) with | some s => k s | none => none) = P1 Γ base o.dst o.op s0 fun s => R0 Γ base os s k := fun s0 h0 => by
      rw [← P1_same (fun _ _ h => R_same hk h) h0]
      unfold P1
      cases perform (K Γ) base s.h (rd Γ s.t) o.op with
      | none => rfl
      | some q => exact ih _
    unfold steps R0
    cases hg : o.guard with
    | none =>
      simp only [step, wanted, hg]
      exact one s (.refl s)
    | some p =>
      obtain ⟨g, w⟩ := p
      simp only [step, wanted, hg]
      cases hv : get s.t g with
      | sc c =>
        cases c with
        | bool b =>
          by_cases hb : b = w
          · subst hb
            simp only [beq_self_eq_true, if_true]
            exact one _ (.learn hv)
          · have : (b == w) = false := by simpa using hb
            simp only [this, if_neg hb]
            refine (ih _).trans (R_same hk ?_)
            have : b = !w := by cases b <;> cases w <;> simp at hb ⊢
            exact (Same.learn (s := s) (g := g) (by rw [hv, this])).put _ _ _
        | _ => rfl
      | agg cs => rfl
      | tup vs =>
        cases vs with
        | nil => exact ih _
        | cons => rfl

noncomputable def RT0 {β : Type} (Γ : Env) (base : Nat) : List Oper → St → List (Nat × Acc) → (St → Option β) → Option β
  | [], s, _, k => k s
  | o :: os, s, l, k => match o.guard with
    | none => if (o.conf.all fun j => l.all fun p => decide (p.1 ≠ j) || Acc.free p.2 (acc base (rd Γ s.t) o.op)) = true then P1 Γ base o.dst o.op s fun s' => RT0 Γ base os s' ((o.ix, acc base (rd Γ s.t) o.op) :: l) k else none
    | some (g, w) => match get s.t g with
      | .sc (.bool b) => if b = w then (if (o.conf.all fun j => l.all fun p => decide (p.1 ≠ j) || Acc.free p.2 (acc base (rd Γ s.t) o.op)) = true then P1 Γ base o.dst o.op { t := (g, .sc (.bool w)) :: s.t, h := s.h } fun s' => RT0 Γ base os s' ((o.ix, acc base (rd Γ s.t) o.op) :: l) k else none)
          else RT0 Γ base os { t := put1 o.dst (.tup []) ((g, .sc (.bool !w)) :: s.t), h := s.h } l k
      | .tup [] => RT0 Γ base os { t := put1 o.dst (.tup []) s.t, h := s.h } l k
      | _ => none

noncomputable def RTs {β : Type} (Γ : Env) (base : Nat) (os : List Oper) (s : St) (l : List (Nat × Acc)) (k : St → Option β) (_ : Tag3 os l k := .mk) : Option β := RT0 Γ base os s l k

theorem RT_same {β : Type} {Γ : Env} {base : Nat} : ∀ {os : List Oper} {s s' : St} {l : List (Nat × Acc)} {k : St → Option β}, (∀ s s', Same s s' → k s = k s') → Same s s' → RT0 Γ base os s l k = RT0 Γ base os s' l k
  | [], s, s', l, k, hk, h => hk _ _ h
  | o :: os, s, s', l, k, hk, h => by
    have hacc : acc base (rd Γ s.t) o.op = acc base (rd Γ s'.t) o.op := congrArg (fun r => acc base r o.op) (funext fun x => h.rd x)
    unfold RT0
    rw [hacc]
    cases o.guard with
    | none => simp only; split
              · exact P1_same (fun _ _ h => RT_same hk h) h
              · rfl
    | some p =>
      obtain ⟨g, w⟩ := p
      have lrn : ∀ v, Same { t := (g, v) :: s.t, h := s.h } { t := (g, v) :: s'.t, h := s'.h } := fun v => ⟨fun i => by simp only [get]; rw [h.1], h.2⟩
      simp only
      rw [h.1 g]
      cases get s'.t g with
      | sc c => cases c with
        | bool b =>
          simp only
          by_cases hb : b = w
          · rw [if_pos hb, if_pos hb]
            split
            · exact P1_same (fun _ _ h => RT_same hk h) (lrn _)
            · rfl
          · rw [if_neg hb, if_neg hb]; refine RT_same hk ?_; rw [h.2]; exact (lrn _).put _ _ _
        | _ => rfl
      | agg => rfl
      | tup vs => cases vs with
        | nil => simp only; refine RT_same hk ?_; rw [h.2]; exact h.put _ _ _
        | cons => rfl

theorem stepsT_RT {β : Type} (Γ : Env) (base : Nat) {k : St → Option β} (hk : ∀ s s', Same s s' → k s = k s') : ∀ (os : List Oper) (s : St) (l : List (Nat × Acc)), (match stepsT Γ (K Γ) base os (s, l) with | some s => k s.1 | none => none) = RT0 Γ base os s l k
  | [], s, l => rfl
  | o :: os, s, l => by
    have ih := stepsT_RT Γ base hk os
    unfold stepsT RT0
    have done : ∀ s0 : St, Same s s0 → (match (match (if (o.conf.all fun j => l.all fun p => decide (p.1 ≠ j) || Acc.free p.2 (acc base (rd Γ s.t) o.op)) = true then
        Option.map (fun s' => (s', (o.ix, acc base (rd Γ s.t) o.op) :: l)) (match perform (K Γ) base s.h (rd Γ s.t) o.op with
          | none => none
          | some (v, h) => some ({ t := put1 o.dst v (drop o.op.takes s.t), h := h } : St)) else none) with
        | none => (none : Option (St × List (Nat × Acc)))
        | some s => stepsT Γ (K Γ) base os s) with | some s => k s.1 | none => none) =
        (if (o.conf.all fun j => l.all fun p => decide (p.1 ≠ j) || Acc.free p.2 (acc base (rd Γ s.t) o.op)) = true then P1 Γ base o.dst o.op s0 fun s' => RT0 Γ base os s' ((o.ix, acc base (rd Γ s.t) o.op) :: l) k else none) := fun s0 h0 => by
      by_cases hc : (o.conf.all fun j => l.all fun p => decide (p.1 ≠ j) || Acc.free p.2 (acc base (rd Γ s.t) o.op)) = true
      · rw [if_pos hc, if_pos hc, ← P1_same (fun _ _ h => RT_same hk h) h0]
        unfold P1
        cases hp : perform (K Γ) base s.h (rd Γ s.t) o.op with
        | none => rfl
        | some q => obtain ⟨v, h⟩ := q; exact ih _ _
      · rw [if_neg hc, if_neg hc]
    have skip : (match (match Option.map (fun s' => (s', l)) (some ({ t := put1 o.dst (.tup []) s.t, h := s.h } : St)) with
        | none => (none : Option (St × List (Nat × Acc)))
        | some s => stepsT Γ (K Γ) base os s) with | some s => k s.1 | none => none) = RT0 Γ base os { t := put1 o.dst (.tup []) s.t, h := s.h } l k := ih _ _
    cases hg : o.guard with
    | none =>
      simp only [stepT, step, wanted, hg]
      exact done s (.refl s)
    | some p =>
      obtain ⟨g, w⟩ := p
      simp only [stepT, step, wanted, hg]
      cases hv : get s.t g with
      | sc c =>
        cases c with
        | bool b =>
          by_cases hb : b = w
          · subst hb
            simp only [beq_self_eq_true, if_true]
            exact done _ (.learn hv)
          · have h1 : (b == w) = false := by simpa using hb
            simp only [h1, if_neg hb]
            refine skip.trans (RT_same hk ?_)
            have : b = !w := by cases b <;> cases w <;> simp at hb ⊢
            exact (Same.learn (s := s) (g := g) (by rw [hv, this])).put _ _ _
        | _ => rfl
      | agg cs => rfl
      | tup vs =>
        cases vs with
        | nil => exact skip
        | cons => rfl

theorem restrict_same {β : Type} {keep : List Nat} {f : St → Option β} : ∀ s s', Same s s' → f { t := restrict keep s.t, h := s.h } = f { t := restrict keep s'.t, h := s'.h } := fun s s' h => by
  have : restrict keep s.t = restrict keep s'.t := List.map_congr_left fun i _ => by rw [h.1]
  rw [this, h.2]

/-! ### Words that are gone into from the front alone -/

def obind {α β : Type} (a : Option α) (f : α → Option β) (_ : Tag f := .mk) : Option β :=
  match a with
  | some x => f x
  | none => none
@[simp, go_sem] theorem obind_some {α β : Type} (x : α) (f : α → Option β) : obind (some x) f = f x := nrfl rfl
@[simp, go_sem] theorem obind_none {α β : Type} (f : α → Option β) : obind none f = none := nrfl rfl

def br {α : Type} (b : Bool) (x y : α) (_ : Tag2 x y := .mk) : α := match b with | true => x | false => y
@[simp, go_sem] theorem br_true {α : Type} (x y : α) : br true x y = x := nrfl rfl
@[simp, go_sem] theorem br_false {α : Type} (x y : α) : br false x y = y := nrfl rfl
theorem br_yes {α : Type} {p : Prop} [Decidable p] {x y r : α} (h : p) (h1 : x = r) : br (decide p) x y = r := by rw [decide_eq_true h]; exact h1
theorem br_no {α : Type} {p : Prop} [Decidable p] {x y r : α} (h : ¬ p) (h1 : y = r) : br (decide p) x y = r := by rw [decide_eq_false h]; exact h1
theorem br_all {α : Type} {b : Bool} {x y r : α} (h : b = true) (h1 : x = r) : br b x y = r := by rw [h]; exact h1
theorem br_free {α : Type} {c d : Bool} {x y r : α} (h : (c && d) = true) (h1 : x = r) : br (c && d) x y = r := by rw [h]; exact h1
theorem br_split {α : Type} {b : Bool} {x y r : α} (h1 : b = true → x = r) (h2 : b = false → y = r) : br b x y = r := by cases b <;> simp_all

def sel (b : Bool) (v : V) : V := if b then v else .tup []
@[go_sem] theorem sel_unown (b : Bool) (v : V) : (sel b v).unown = sel b v.unown := by cases b <;> rfl
@[go_sem] theorem sel_true (v : V) : sel true v = v := nrfl rfl
@[go_sem] theorem sel_false (v : V) : sel false v = .tup [] := nrfl rfl
theorem sel_of {b : Bool} (h : b = true) (v : V) : sel b v = v := by rw [h]; rfl
theorem sel_not {b : Bool} (h : b = false) (v : V) : sel (!b) v = v := by rw [h]; rfl
def pickV {β : Type} (c x y : V) (f : V → Option β) (_ : Tag f := .mk) : Option β := match c with | .sc (.bool b) => f (if b then x else y) | _ => none
@[go_sem] theorem pickV_true {β : Type} (x y : V) (f : V → Option β) : pickV (.sc (.bool true)) x y f = f x := nrfl rfl
@[go_sem] theorem pickV_false {β : Type} (x y : V) (f : V → Option β) : pickV (.sc (.bool false)) x y f = f y := nrfl rfl
@[go_sem] theorem pickV_and {β : Type} (b c : Bool) (f : V → Option β) : pickV (.sc (.bool b)) (sel b (.sc (.bool c))) (.sc (.bool false)) f = f (.sc (.bool (b && c))) := by cases b <;> rfl
@[go_sem] theorem pickV_or {β : Type} (b c : Bool) (f : V → Option β) : pickV (.sc (.bool b)) (.sc (.bool true)) (sel (!b) (.sc (.bool c))) f = f (.sc (.bool (b || c))) := by cases b <;> rfl
theorem pickV_split {β : Type} {b : Bool} {x y : V} {f : V → Option β} {r : Option β} (h : br b (f x) (f y) = r) : pickV (.sc (.bool b)) x y f = r := by cases b <;> exact h
def onBool {β : Type} (v : V) (f : Bool → Option β) (_ : Tag f := .mk) : Option β := match v with | .sc (.bool b) => f b | _ => none
@[simp, go_sem] theorem onBool_mk {β : Type} (b : Bool) (f : Bool → Option β) : onBool (.sc (.bool b)) f = f b := nrfl rfl

def onGuard {β : Type} (v : V) (f : Bool → Option β) (g : Option β) (_ : Tag2 f g := .mk) : Option β := match v with | .sc (.bool b) => f b | .tup [] => g | _ => none
@[simp, go_sem] theorem onGuard_bool {β : Type} (b : Bool) (f : Bool → Option β) (g : Option β) : onGuard (.sc (.bool b)) f g = f b := nrfl rfl
@[simp, go_sem] theorem onGuard_tup {β : Type} (f : Bool → Option β) (g : Option β) : onGuard (.tup []) f g = g := nrfl rfl

theorem onGuard_sel {β : Type} {b : Bool} {v : V} {f : Bool → Option β} {g r : Option β} (h1 : b = true → onGuard v f g = r) (h2 : b = false → g = r) : onGuard (sel b v) f g = r := by
  cases b with
  | true => exact h1 rfl
  | false => exact h2 rfl

def onInt {β : Type} (v : V) (f : IntKind → Int → Option β) (_ : Tag f := .mk) : Option β := match v with | .sc (.int k n) => f k n | _ => none
@[simp, go_sem] theorem onInt_mk {β : Type} (k : IntKind) (n : Int) (f : IntKind → Int → Option β) : onInt (.sc (.int k n)) f = f k n := nrfl rfl

def onPtr {β : Type} (v : V) (f : Nat → Nat → Option β) (g : List C → Nat → Option β) (_ : Tag2 f g := .mk) : Option β := match v with | .sc (.ptr p o) => f p o | .sc (.eptr cs o) => g cs o | _ => none
@[simp, go_sem] theorem onPtr_ptr {β : Type} (p o : Nat) (f : Nat → Nat → Option β) (g : List C → Nat → Option β) : onPtr (.sc (.ptr p o)) f g = f p o := nrfl rfl
@[simp, go_sem] theorem onPtr_eptr {β : Type} (cs : List C) (o : Nat) (f : Nat → Nat → Option β) (g : List C → Nat → Option β) : onPtr (.sc (.eptr cs o)) f g = g cs o := nrfl rfl

def onVar {β : Type} (o : Option Obj) (f : List C → Option β) (_ : Tag f := .mk) : Option β := match o with | some (.var cs) => f cs | _ => none
@[simp, go_sem] theorem onVar_mk {β : Type} (cs : List C) (f : List C → Option β) : onVar (some (.var cs)) f = f cs := nrfl rfl

def onFree {β : Type} (o : Option Obj) (x : Option β) (_ : Tag x := .mk) : Option β := match o with | some .free => x | _ => none
@[simp, go_sem] theorem onFree_mk {β : Type} (x : Option β) : onFree (some .free) x = x := nrfl rfl

def onAgg {β : Type} (v : V) (f : List C → Option β) (_ : Tag f := .mk) : Option β := match v with | .agg cs => f cs | _ => none
@[simp, go_sem] theorem onAgg_mk {β : Type} (cs : List C) (f : List C → Option β) : onAgg (.agg cs) f = f cs := nrfl rfl

def onTup {β : Type} (v : V) (f : List V → Option β) (_ : Tag f := .mk) : Option β := match v with | .tup vs => f vs | _ => none
@[simp, go_sem] theorem onTup_mk {β : Type} (vs : List V) (f : List V → Option β) : onTup (.tup vs) f = f vs := nrfl rfl

def onElems {β : Type} (es : Nat) (v : V) (f : List (List C) → Option β) (_ : Tag f := .mk) : Option β := match elems es v with | some l => f l | none => none
@[simp, go_sem] theorem onElems_sl {β : Type} (es : Nat) (k : SK) (l : List (List C)) (f : List (List C) → Option β) : onElems es (.sc (.sl k es l)) f = f l := by simp [onElems, elems]
@[simp, go_sem] theorem onElems_own {β : Type} (es : Nat) (l : List (List C)) (f : List (List C) → Option β) : onElems es (.sc (.own es l)) f = f l := by simp [onElems, elems]

def onElem {β : Type} (es : Nat) (v i : V) (f : Nat → Nat → Option β) (g : List C → Option β) (_ : Tag2 f g := .mk) : Option β :=
  match v with
  | .sc (.msl p off len _ es') => if es' ≠ es then none else match place len i with | some j => f p (off + j * es) | none => none
  | v => match elems es v with
    | some l => match nth l i with | some e => g e | none => none
    | none => none
@[simp, go_sem] theorem onElem_msl {β : Type} (es p off len cap : Nat) (i : Int) (k : IntKind) (f : Nat → Nat → Option β) (g : List C → Option β) :
    onElem es (.sc (.msl p off len cap es)) (.sc (.int k i)) f g = br (decide (0 ≤ i ∧ i < len)) (f p (off + i.toNat * es)) none := by
  simp only [onElem, place, ne_eq, not_true_eq_false, if_false]
  by_cases h : 0 ≤ i ∧ i < len <;> simp [h]
@[simp, go_sem] theorem onElem_sl {β : Type} (es : Nat) (s : SK) (l : List (List C)) (i : Int) (k : IntKind) (f : Nat → Nat → Option β) (g : List C → Option β) :
    onElem es (.sc (.sl s es l)) (.sc (.int k i)) f g = br (decide (0 ≤ i)) (obind (l[i.toNat]?) g) none := by
  simp only [onElem, elems, if_true, nth]
  by_cases h : 0 ≤ i
  · simp only [h, if_true, decide_true, br_true]; cases l[i.toNat]? <;> rfl
  · simp [h]

section
variable {β : Type} (Γ : Env) (s : St) (Q : Ex → St → Option β)

def onNorm {β : Type} (e : Ex) (x y : Option β) : Option β := match e with | .norm => x | _ => y

@[go_sem] theorem E_skip : E Γ .skip s Q = Q .norm s := by unfold E; rw [X_eq]; rfl
@[go_sem] theorem E_ret : E Γ .ret s Q = Q .ret s := by unfold E; rw [X_eq]; rfl
@[go_sem] theorem E_exit (id : Nat) : E Γ (.exit id) s Q = Q (.exit id) s := by unfold E; rw [X_eq]; rfl
@[go_sem] theorem E_seq (a b : AC) : E Γ (.seq a b) s Q = E Γ a s fun e s => match e with | .norm => E Γ b s Q | e => Q e s := by
  unfold E
  rw [X_eq]
  simp only [execF]
  cases X Γ a s with
  | none => rfl
  | some p => obtain ⟨e, s'⟩ := p; cases e <;> rfl
@[go_sem] theorem E_cond (c : Rand) (a b : AC) : E Γ (.cond c a b) s Q = onBool (rd Γ s.t c) fun x => br x (E Γ a s Q) (E Γ b s Q) := by
  unfold E
  rw [X_eq]
  simp only [execF]
  cases rd Γ s.t c with
  | sc c => cases c with
    | bool x => cases x <;> rfl
    | _ => rfl
  | _ => rfl
@[go_sem] theorem E_block (id : Nat) (a : AC) : E Γ (.block id a) s Q = E Γ a s fun e s => match e with | .exit id' => if id' = id then Q .norm s else Q (.exit id') s | e => Q e s := by
  unfold E
  rw [X_eq]
  simp only [execF]
  cases X Γ a s with
  | none => rfl
  | some p =>
    obtain ⟨e, s'⟩ := p
    cases e with
    | exit id' => simp only [andThen]; by_cases h : id' = id <;> simp [h]
    | _ => rfl
@[go_sem] theorem E_frz (i : Nat) (a : AC) : E Γ (.frz i a) s Q = obind (frozen i s) fun s => E Γ a s Q := by
  unfold E
  rw [X_eq]
  simp only [execF]
  cases frozen i s <;> rfl
@[go_sem] theorem E_frzc (i : Nat) (a : AC) : E Γ (.frzc i a) s Q = obind (frozenC i s) fun s => E Γ a s Q := by
  unfold E
  rw [X_eq]
  simp only [execF]
  cases frozenC i s <;> rfl
@[go_sem] theorem E_region (nal : Nat) (ops : List Oper) (keep : List Nat) : E Γ (.region nal ops false keep) s Q = R Γ s.h.length ops { t := s.t, h := s.h ++ List.replicate nal .free } fun s => Q .norm { t := restrict keep s.t, h := s.h } := by
  unfold E R
  rw [X_eq, ← steps_R Γ _ (restrict_same (f := fun s => Q .norm s))]
  simp only [execF, region]
  cases steps Γ (K Γ) s.h.length ops { t := s.t, h := s.h ++ List.replicate nal .free } <;> rfl
@[go_sem] theorem E_draw (nal : Nat) (ops : List Oper) (keep : List Nat) : E Γ (.region nal ops true keep) s Q = RTs Γ s.h.length ops { t := s.t, h := s.h ++ List.replicate nal .free } [] fun s => Q .norm { t := restrict keep s.t, h := s.h } := by
  unfold E RTs
  rw [X_eq, ← stepsT_RT Γ _ (restrict_same (f := fun s => Q .norm s))]
  simp only [execF, region]
  cases stepsT Γ (K Γ) s.h.length ops ({ t := s.t, h := s.h ++ List.replicate nal .free }, []) <;> rfl

theorem E_of {c : AC} {r : Ex × St} (h : X Γ c s = some r) : E Γ c s Q = Q r.1 r.2 := by unfold E; rw [h]; rfl
end


/-! ### Operations in their order -/

section
variable {β : Type} (Γ : Env) (base : Nat) (os : List Oper) (s : St) (k : St → Option β) (ix : Nat) (dst : Option Nat) (op : Op) (cf : List Nat) (l : List (Nat × Acc))

@[go_sem] theorem R_nil : R Γ base [] s k = k s := nrfl rfl
@[go_sem] theorem R_cons : R Γ base (⟨ix, dst, op, none, cf⟩ :: os) s k = P1 Γ base dst op s fun s => R Γ base os s k := nrfl rfl
theorem R_guard (g : Nat) (w : Bool) : R Γ base (⟨ix, dst, op, some (g, w), cf⟩ :: os) s k = onGuard (get s.t g) (fun b => br b
      (br w (P1 Γ base dst op { t := (g, .sc (.bool true)) :: s.t, h := s.h } fun s => R Γ base os s k) (R Γ base os { t := put1 dst (.tup []) ((g, .sc (.bool true)) :: s.t), h := s.h } k))
      (br w (R Γ base os { t := put1 dst (.tup []) ((g, .sc (.bool false)) :: s.t), h := s.h } k) (P1 Γ base dst op { t := (g, .sc (.bool false)) :: s.t, h := s.h } fun s => R Γ base os s k)))
    (R Γ base os { t := put1 dst (.tup []) s.t, h := s.h } k) := by
  unfold R
  rw [R0]
  simp only
  cases get s.t g with
  | sc c => cases c with
    | bool b => cases b <;> cases w <;> simp
    | _ => rfl
  | agg => rfl
  | tup vs => cases vs <;> rfl

@[go_sem] theorem R_guardT (g : Nat) (t : List (Nat × V)) (h : List Obj) : R Γ base (⟨ix, dst, op, some (g, true), cf⟩ :: os) ⟨t, h⟩ k = onGuard (get t g) (fun b => br b
      (P1 Γ base dst op { t := (g, .sc (.bool true)) :: t, h := h } fun s => R Γ base os s k) (R Γ base os { t := put1 dst (.tup []) ((g, .sc (.bool false)) :: t), h := h } k))
    (R Γ base os { t := put1 dst (.tup []) t, h := h } k) := R_guard ..
@[go_sem] theorem R_guardF (g : Nat) (t : List (Nat × V)) (h : List Obj) : R Γ base (⟨ix, dst, op, some (g, false), cf⟩ :: os) ⟨t, h⟩ k = onGuard (get t g) (fun b => br b
      (R Γ base os { t := put1 dst (.tup []) ((g, .sc (.bool true)) :: t), h := h } k) (P1 Γ base dst op { t := (g, .sc (.bool false)) :: t, h := h } fun s => R Γ base os s k))
    (R Γ base os { t := put1 dst (.tup []) t, h := h } k) := R_guard ..
@[go_sem] theorem RT_nil : RTs Γ base [] s l k = k s := nrfl rfl
@[go_sem] theorem RT_cons0 : RTs Γ base (⟨ix, dst, op, none, []⟩ :: os) s l k = P1 Γ base dst op s fun s' => RTs Γ base os s' ((ix, acc base (rd Γ s.t) op) :: l) k := by
  unfold RTs
  rw [RT0]; simp
theorem RT_cons : RTs Γ base (⟨ix, dst, op, none, cf⟩ :: os) s l k = br (cf.all fun j => l.all fun p => decide (p.1 ≠ j) || Acc.free p.2 (acc base (rd Γ s.t) op)) (P1 Γ base dst op s fun s' => RTs Γ base os s' ((ix, acc base (rd Γ s.t) op) :: l) k) none := by
  unfold RTs
  rw [RT0]
  simp only
  cases cf.all fun j => l.all fun p => decide (p.1 ≠ j) || Acc.free p.2 (acc base (rd Γ s.t) op) <;> rfl
@[go_sem] theorem RT_cons1 (c : Nat) (cs : List Nat) : RTs Γ base (⟨ix, dst, op, none, c :: cs⟩ :: os) s l k = br ((c :: cs).all fun j => l.all fun p => decide (p.1 ≠ j) || Acc.free p.2 (acc base (rd Γ s.t) op)) (P1 Γ base dst op s fun s' => RTs Γ base os s' ((ix, acc base (rd Γ s.t) op) :: l) k) none :=
  RT_cons ..
@[go_sem] theorem RT_guard0 (g : Nat) (w : Bool) : RTs Γ base (⟨ix, dst, op, some (g, w), []⟩ :: os) s l k = onGuard (get s.t g) (fun b => br b
      (br w (P1 Γ base dst op { t := (g, .sc (.bool true)) :: s.t, h := s.h } fun s' => RTs Γ base os s' ((ix, acc base (rd Γ s.t) op) :: l) k) (RTs Γ base os { t := put1 dst (.tup []) ((g, .sc (.bool true)) :: s.t), h := s.h } l k))
      (br w (RTs Γ base os { t := put1 dst (.tup []) ((g, .sc (.bool false)) :: s.t), h := s.h } l k) (P1 Γ base dst op { t := (g, .sc (.bool false)) :: s.t, h := s.h } fun s' => RTs Γ base os s' ((ix, acc base (rd Γ s.t) op) :: l) k)))
    (RTs Γ base os { t := put1 dst (.tup []) s.t, h := s.h } l k) := by
  unfold RTs
  rw [RT0]
  simp only [List.all_nil, if_true]
  cases get s.t g with
  | sc c => cases c with
    | bool b => cases b <;> cases w <;> simp
    | _ => rfl
  | agg => rfl
  | tup vs => cases vs <;> rfl
@[go_sem] theorem RT_guard1 (g : Nat) (w : Bool) (c : Nat) (cs : List Nat) : RTs Γ base (⟨ix, dst, op, some (g, w), c :: cs⟩ :: os) s l k = onGuard (get s.t g) (fun b => br (b == w)
      (br ((c :: cs).all fun j => l.all fun p => decide (p.1 ≠ j) || Acc.free p.2 (acc base (rd Γ s.t) op)) (P1 Γ base dst op { t := (g, .sc (.bool w)) :: s.t, h := s.h } fun s' => RTs Γ base os s' ((ix, acc base (rd Γ s.t) op) :: l) k) none)
      (RTs Γ base os { t := put1 dst (.tup []) ((g, .sc (.bool !w)) :: s.t), h := s.h } l k))
    (RTs Γ base os { t := put1 dst (.tup []) s.t, h := s.h } l k) := by
  unfold RTs
  rw [RT0]
  simp only
  cases get s.t g with
  | sc c => cases c with
    | bool b =>
      simp only [onGuard_bool]
      generalize (List.all (_ :: _) fun j => l.all fun p => decide (p.1 ≠ j) || Acc.free p.2 (acc base (rd Γ s.t) op)) = z
      cases b <;> cases w <;> cases z <;> simp
    | _ => rfl
  | agg => rfl
  | tup vs => cases vs <;> rfl
end

/-! ### Each operation -/

theorem isFree_iff {h : List Obj} {r : Nat} : isFree h r = true ↔ h[r]? = some .free := by
  unfold isFree
  constructor
  · intro e
    split at e
    · assumption
    · cases e
  · intro e; rw [e]
theorem onFree_not {β : Type} {o : Option Obj} (x : Option β) (h : o ≠ some .free) : onFree o x = none := by
  unfold onFree
  split
  · exact absurd rfl h
  · rfl

section
variable {β : Type} (Γ : Env) (base : Nat) (d : Option Nat) (t : List (Nat × V)) (h : List Obj) (k : St → Option β)

@[go_sem] theorem P1_mv (x : Rand) : P1 Γ base d (.mv x) ⟨t, h⟩ k = k ⟨put1 d (rd Γ t x) (drop x.takes t), h⟩ := nrfl rfl
@[go_sem] theorem P1_pick (c a b : Rand) : P1 Γ base d (.pick c a b) ⟨t, h⟩ k = pickV (rd Γ t c) (rd Γ t a) (rd Γ t b) (fun v => k ⟨put1 d v t, h⟩) := by
  simp only [P1, perform, eff, pickV]
  cases rd Γ t c with
  | sc c => cases c with
    | bool b => cases b <;> rfl
    | _ => rfl
  | _ => rfl
theorem P1_obind {op : Op} {s : St} : P1 Γ base d op s k = obind (P1 Γ base d op s some) k := by
  unfold P1
  cases perform (K Γ) base s.h (rd Γ s.t) op <;> rfl
theorem br_mergeT {op : Op} {i g : Nat} {v : V} {b : Bool} {r : Option β} (hv : b = true → P1 Γ base (some i) op ⟨(g, .sc (.bool true)) :: t, h⟩ some = some ⟨(i, v) :: (g, .sc (.bool true)) :: t, h⟩)
    (hr : k ⟨(i, sel b v) :: (g, .sc (.bool b)) :: t, h⟩ = r) :
    br b (P1 Γ base (some i) op ⟨(g, .sc (.bool true)) :: t, h⟩ k) (k ⟨(i, .tup []) :: (g, .sc (.bool false)) :: t, h⟩) = r := by
  cases b with
  | true => rw [br_true, P1_obind, hv rfl]; exact hr
  | false => exact hr
theorem br_mergeF {op : Op} {i g : Nat} {v : V} {b : Bool} {r : Option β} (hv : (!b) = true → P1 Γ base (some i) op ⟨(g, .sc (.bool false)) :: t, h⟩ some = some ⟨(i, v) :: (g, .sc (.bool false)) :: t, h⟩)
    (hr : k ⟨(i, sel (!b) v) :: (g, .sc (.bool b)) :: t, h⟩ = r) :
    br b (k ⟨(i, .tup []) :: (g, .sc (.bool true)) :: t, h⟩) (P1 Γ base (some i) op ⟨(g, .sc (.bool false)) :: t, h⟩ k) = r := by
  cases b with
  | false => rw [br_false, P1_obind, hv rfl]; exact hr
  | true => exact hr
@[go_sem] theorem P1_alloc (a : Nat) (z : List C) : P1 Γ base d (.alloc a z) ⟨t, h⟩ k = onFree (h[base + a]?) (br (C.pureL z) (k ⟨put1 d (.sc (.ptr (base + a) 0)) t, h.set (base + a) (.var z)⟩) none) := by
  simp only [P1, perform, eff]
  by_cases hf : h[base + a]? = some .free
  · have hi := isFree_iff.2 hf
    rw [hf]
    cases hz : C.pureL z <;> simp [hi] <;> rfl
  · have hi : isFree h (base + a) = false := by cases e : isFree h (base + a) with | false => rfl | true => exact absurd (isFree_iff.1 e) hf
    rw [onFree_not _ hf]; simp [hi]
@[go_sem] theorem P1_box (a : Nat) (x : Rand) : P1 Γ base d (.box a x) ⟨t, h⟩ k = onFree (h[base + a]?) (k ⟨put1 d (.sc (.ptr (base + a) 0)) (drop x.takes t), h.set (base + a) (.var (rd Γ t x).cells)⟩) := by
  simp only [P1, perform, eff]
  by_cases hf : h[base + a]? = some .free
  · have hi := isFree_iff.2 hf
    rw [hf]; simp [hi]; rfl
  · have hi : isFree h (base + a) = false := by cases e : isFree h (base + a) with | false => rfl | true => exact absurd (isFree_iff.1 e) hf
    rw [onFree_not _ hf]; simp [hi]
@[go_sem] theorem P1_build (z : List C) (ps : List (Nat × Nat × Rand)) : P1 Γ base d (.build z ps) ⟨t, h⟩ k = obind (fillCells z (ps.map fun p => (p.1, p.2.1, rd Γ t p.2.2))) fun cs => k ⟨put1 d (.agg cs) t, h⟩ := by
  simp only [P1, perform, eff]
  cases fillCells z (ps.map fun p => (p.1, p.2.1, rd Γ t p.2.2)) <;> rfl
@[go_sem] theorem P1_bslice (es n : Nat) (z : List C) (ps : List (Nat × Rand)) : P1 Γ base d (.bslice es n z ps) ⟨t, h⟩ k = obind (fillElems es (List.replicate n z) (ps.map fun p => (p.1, rd Γ t p.2))) fun l =>
    br (decide (z.length = es) && l.all C.pureL) (k ⟨put1 d (.sc (.sl .full es l)) t, h⟩) none := by
  simp only [P1, perform, eff]
  cases fillElems es (List.replicate n z) (ps.map fun p => (p.1, rd Γ t p.2)) with
  | none => rfl
  | some l =>
    simp only [obind_some]
    by_cases h1 : z.length = es
    · cases h2 : l.all C.pureL <;> simp [h1, h2] <;> rfl
    · simp [h1]
@[go_sem] theorem P1_bmsl (a es n : Nat) (z : List C) (ps : List (Nat × Rand)) : P1 Γ base d (.bmsl a es n z ps) ⟨t, h⟩ k = obind (fillElems es (List.replicate n z) (ps.map fun p => (p.1, rd Γ t p.2))) fun l =>
    onFree (h[base + a]?) (br (decide (z.length = es)) (k ⟨put1 d (.sc (.msl (base + a) 0 n n es)) t, h.set (base + a) (.var l.flatten)⟩) none) := by
  simp only [P1, perform, eff]
  cases fillElems es (List.replicate n z) (ps.map fun p => (p.1, rd Γ t p.2)) with
  | none => rfl
  | some l =>
    simp only [obind_some]
    by_cases hf : h[base + a]? = some .free
    · have hi := isFree_iff.2 hf
      rw [hf]
      by_cases h1 : z.length = es <;> simp [h1, hi] <;> rfl
    · have hi : isFree h (base + a) = false := by cases e : isFree h (base + a) with | false => rfl | true => exact absurd (isFree_iff.1 e) hf
      rw [onFree_not _ hf]; simp [hi]
@[go_sem] theorem P1_load (n : Option Nat) (x : Rand) : P1 Γ base d (.load n x) ⟨t, h⟩ k = onPtr (rd Γ t x) (fun p off => onVar (h[p]?) fun cs => obind (loadFrom cs off n) fun v => k ⟨put1 d v t, h⟩) (fun cs off => obind (loadFrom cs off n) fun v => k ⟨put1 d v t, h⟩) := by
  simp only [P1, perform, eff]
  cases rd Γ t x with
  | sc c => cases c with
    | ptr p off =>
      simp only [onPtr_ptr]
      cases h[p]? with
      | none => rfl
      | some o => cases o with
        | var cs => simp only [onVar_mk]; cases loadFrom cs off n <;> rfl
        | _ => rfl
    | eptr cs off => simp only [onPtr_eptr]; cases loadFrom cs off n <;> rfl
    | _ => rfl
  | _ => rfl
@[go_sem] theorem P1_loadT (x : Rand) : P1 Γ base d (.loadT x) ⟨t, h⟩ k = onPtr (rd Γ t x) (fun p off => onVar (h[p]?) fun cs => obind (cs[off]?) fun c => k ⟨put1 d (.sc c) t, h.set p (.var (cs.set off (Pm.unown c)))⟩) (fun _ _ => none) := by
  simp only [P1, perform, eff]
  cases rd Γ t x with
  | sc c => cases c with
    | ptr p off =>
      simp only [onPtr_ptr]
      cases h[p]? with
      | none => rfl
      | some o => cases o with
        | var cs => simp only [onVar_mk]; cases cs[off]? <;> rfl
        | _ => rfl
    | _ => rfl
  | _ => rfl
@[go_sem] theorem P1_store (n : Nat) (x v : Rand) : P1 Γ base d (.store n x v) ⟨t, h⟩ k = onPtr (rd Γ t x) (fun p off => onVar (h[p]?) fun cs =>
    br (decide ((rd Γ t v).cells.length = n ∧ 0 < n ∧ off + n ≤ cs.length)) (k ⟨put1 d (.tup []) (drop (x.takes ++ v.takes) t), h.set p (.var (setAll cs off (rd Γ t v).cells))⟩) none) (fun _ _ => none) := by
  simp only [P1, perform, eff]
  cases rd Γ t x with
  | sc c => cases c with
    | ptr p off =>
      simp only [onPtr_ptr]
      cases h[p]? with
      | none => rfl
      | some o => cases o with
        | var cs => simp only [onVar_mk]; by_cases hc : (rd Γ t v).cells.length = n ∧ 0 < n ∧ off + n ≤ cs.length <;> simp only [hc, decide_true, decide_false, br_true, br_false, if_true, if_false] <;> rfl
        | _ => rfl
    | _ => rfl
  | _ => rfl
@[go_sem] theorem P1_bin (op : BinOp) (x y : Rand) : P1 Γ base d (.bin op x y) ⟨t, h⟩ k = obind (bin op (rd Γ t x) (rd Γ t y)) fun c => k ⟨put1 d (.sc c) t, h⟩ := by
  simp only [P1, perform, eff, one]
  cases bin op (rd Γ t x) (rd Γ t y) <;> rfl
@[go_sem] theorem P1_eqf (neg : Bool) (ty : KT) (x y : Rand) : P1 Γ base d (.eqf neg ty x y) ⟨t, h⟩ k = br (decide ((rd Γ t x).isAgg = ty.agg ∧ (rd Γ t y).isAgg = ty.agg)) (obind (keyEq ty.tags (rd Γ t x).cells (rd Γ t y).cells) fun b => k ⟨put1 d (.sc (.bool (neg ^^ b))) t, h⟩) none := by
  simp only [P1, perform, eff]
  by_cases hc : (rd Γ t x).isAgg = ty.agg ∧ (rd Γ t y).isAgg = ty.agg
  · simp only [hc, and_self, if_true, decide_true, br_true]; cases keyEq ty.tags (rd Γ t x).cells (rd Γ t y).cells <;> rfl
  · simp [hc]
theorem P1_isnil (kd : Nat) (neg : Bool) (x : Rand) : P1 Γ base d (.isnil kd neg x) ⟨t, h⟩ k = obind (eff base h (rd Γ t) (.isnil kd neg x)) fun p => k ⟨put1 d p.1 t, setObjs h p.2⟩ := by
  simp only [P1, perform]
  cases eff base h (rd Γ t) (.isnil kd neg x) <;> rfl
@[go_sem] theorem P1_un (op : UnOp) (x : Rand) : P1 Γ base d (.un op x) ⟨t, h⟩ k = obind (un op (rd Γ t x)) fun c => k ⟨put1 d (.sc c) t, h⟩ := by
  simp only [P1, perform, eff, one]
  cases un op (rd Γ t x) <;> rfl
@[go_sem] theorem P1_conv (ki : IntKind) (x : Rand) : P1 Γ base d (.conv ki x) ⟨t, h⟩ k = onInt (rd Γ t x) fun _ n => k ⟨put1 d (.sc (.int ki (ki.wrap n))) t, h⟩ := by
  simp only [P1, perform, eff]
  cases rd Γ t x with
  | sc c => cases c <;> rfl
  | _ => rfl
@[go_sem] theorem P1_mkf (id : Nat) (sh : List (Option Nat)) (first cap : List Rand) : P1 Γ base d (.mkf id sh first cap) ⟨t, h⟩ k = br (decide (shapes (first.map (rd Γ t)) = some sh) && decide (shapes (cap.map (rd Γ t)) = some (cap.map fun _ => none)))
    (k ⟨put1 d (.sc (.fn (.fn id) sh ((first.map (rd Γ t)).flatMap V.cells) ((cap.map (rd Γ t)).flatMap V.cells))) t, h⟩) none := by
  simp only [P1, perform, eff]
  by_cases h1 : shapes (first.map (rd Γ t)) = some sh
  · by_cases h2 : shapes (cap.map (rd Γ t)) = some (cap.map fun _ => none) <;> simp [h1, h2] <;> rfl
  · simp [h1]
@[go_sem] theorem P1_mkmap (a : Nat) (ka va : Bool) : P1 Γ base d (.mkmap a ka va) ⟨t, h⟩ k = onFree (h[base + a]?) (k ⟨put1 d (.sc (.map (base + a))) t, h.set (base + a) (.map ka va [] none)⟩) := by
  simp only [P1, perform, eff]
  by_cases hf : h[base + a]? = some .free
  · have hi := isFree_iff.2 hf
    rw [hf]; simp [hi]; rfl
  · have hi : isFree h (base + a) = false := by cases e : isFree h (base + a) with | false => rfl | true => exact absurd (isFree_iff.1 e) hf
    rw [onFree_not _ hf]; simp [hi]
@[go_sem] theorem P1_slice (es : Nat) (x : Rand) (lo hi mx : Option Rand) : P1 Γ base d (.slice es x lo hi mx) ⟨t, h⟩ k = obind (sliced es (rd Γ t x) (lo.map (rd Γ t)) (hi.map (rd Γ t)) (mx.map (rd Γ t))) fun c => k ⟨put1 d (.sc c) t, h⟩ := by
  simp only [P1, perform, eff, one]
  cases sliced es (rd Γ t x) (lo.map (rd Γ t)) (hi.map (rd Γ t)) (mx.map (rd Γ t)) <;> rfl
@[go_sem] theorem P1_slArr (n es : Nat) (x : Rand) (lo hi mx : Option Rand) : P1 Γ base d (.slArr n es x lo hi mx) ⟨t, h⟩ k = obind (slicedArr n es (rd Γ t x) (lo.map (rd Γ t)) (hi.map (rd Γ t)) (mx.map (rd Γ t))) fun c => k ⟨put1 d (.sc c) t, h⟩ := by
  simp only [P1, perform, eff, one]
  cases slicedArr n es (rd Γ t x) (lo.map (rd Γ t)) (hi.map (rd Γ t)) (mx.map (rd Γ t)) <;> rfl
@[go_sem] theorem P1_faddr (off : Nat) (x : Rand) : P1 Γ base d (.faddr off x) ⟨t, h⟩ k = onPtr (rd Γ t x) (fun p o => k ⟨put1 d (.sc (.ptr p (o + off))) t, h⟩) (fun cs o => k ⟨put1 d (.sc (.eptr cs (o + off))) t, h⟩) := by
  simp only [P1, perform, eff]
  cases rd Γ t x with
  | sc c => cases c <;> rfl
  | _ => rfl
@[go_sem] theorem P1_field (off : Nat) (n : Option Nat) (x : Rand) : P1 Γ base d (.field off n x) ⟨t, h⟩ k = onAgg (rd Γ t x) fun cs => obind (loadFrom cs off n) fun v => k ⟨put1 d v t, h⟩ := by
  simp only [P1, perform, eff]
  cases rd Γ t x with
  | agg cs => simp only [onAgg_mk]; cases loadFrom cs off n <;> rfl
  | _ => rfl
@[go_sem] theorem P1_iaddr (es : Nat) (x i : Rand) : P1 Γ base d (.iaddr es x i) ⟨t, h⟩ k = onElem es (rd Γ t x) (rd Γ t i) (fun p o => k ⟨put1 d (.sc (.ptr p o)) t, h⟩) (fun e => k ⟨put1 d (.sc (.eptr e 0)) t, h⟩) := by
  simp only [P1, perform, eff, onElem]
  cases rd Γ t x with
  | sc c => cases c with
    | msl p off len cap es' =>
      simp only
      by_cases hes : es' = es
      · simp only [hes, ne_eq, not_true_eq_false, if_false]; cases place len (rd Γ t i) <;> rfl
      · simp [hes]
    | sl kk es' l => simp only [elems]; by_cases hes : es' = es
                     · simp only [hes, if_true]; cases nth l (rd Γ t i) <;> rfl
                     · simp [hes]
    | own es' l => simp only [elems]; by_cases hes : es' = es
                   · simp only [hes, if_true]; cases nth l (rd Γ t i) <;> rfl
                   · simp [hes]
    | _ => rfl
  | _ => rfl
@[go_sem] theorem P1_iarr (len es : Nat) (x i : Rand) : P1 Γ base d (.iarr len es x i) ⟨t, h⟩ k = onPtr (rd Γ t x) (fun p o => onInt (rd Γ t i) fun _ n => br (decide (0 ≤ n ∧ n < len)) (k ⟨put1 d (.sc (.ptr p (o + n.toNat * es))) t, h⟩) none)
    (fun cs o => onInt (rd Γ t i) fun _ n => br (decide (0 ≤ n ∧ n < len)) (k ⟨put1 d (.sc (.eptr cs (o + n.toNat * es))) t, h⟩) none) := by
  simp only [P1, perform, eff]
  cases rd Γ t x with
  | sc c => cases c with
    | ptr p o =>
      simp only [onPtr_ptr]
      cases rd Γ t i with
      | sc c => cases c with
        | int ki n => simp only [place, onInt_mk]; by_cases hc : 0 ≤ n ∧ n < len <;> simp [hc] <;> rfl
        | _ => rfl
      | _ => rfl
    | eptr p o =>
      simp only [onPtr_eptr]
      cases rd Γ t i with
      | sc c => cases c with
        | int ki n => simp only [place, onInt_mk]; by_cases hc : 0 ≤ n ∧ n < len <;> simp [hc] <;> rfl
        | _ => rfl
      | _ => rfl
    | _ => rfl
  | _ => rfl
@[go_sem] theorem P1_index (len es : Nat) (n : Option Nat) (x i : Rand) : P1 Γ base d (.index len es n x i) ⟨t, h⟩ k = onAgg (rd Γ t x) fun cs => onInt (rd Γ t i) fun _ j => br (decide (0 ≤ j ∧ j < len)) (obind (loadFrom cs (j.toNat * es) n) fun v => k ⟨put1 d v t, h⟩) none := by
  simp only [P1, perform, eff]
  cases rd Γ t x with
  | agg cs =>
    simp only [onAgg_mk]
    cases rd Γ t i with
    | sc c => cases c with
      | int ki j =>
        simp only [place, onInt_mk]
        by_cases hc : 0 ≤ j ∧ j < len
        · simp only [hc, and_self, if_true, decide_true, br_true]; cases loadFrom cs (j.toNat * es) n <;> rfl
        · simp [hc]
      | _ => rfl
    | _ => rfl
  | _ => rfl
theorem P1_eff (o : Op) (hp : match o with | .call _ _ _ | .late _ => False | _ => True) : P1 Γ base d o ⟨t, h⟩ k = obind (eff base h (rd Γ t) o) fun p => k ⟨put1 d p.1 (drop o.takes t), setObjs h p.2⟩ := by
  unfold P1
  cases o <;> first | exact hp.elim | (simp only [perform]; cases eff base h (rd Γ t) _ <;> rfl)
@[go_sem] theorem P1_ext (x : Rand) (i : Nat) : P1 Γ base d (.ext x i) ⟨t, h⟩ k = onTup (rd Γ t x) fun vs => obind (vs[i]?) fun v => k ⟨put1 d v t, h⟩ := by
  simp only [P1, perform, eff]
  cases rd Γ t x with
  | tup vs => simp only [onTup_mk]; cases vs[i]? <;> rfl
  | _ => rfl
@[go_sem] theorem P1_len1 (x : Rand) : P1 Γ base d (.len 1 x) ⟨t, h⟩ k = obind (match rd Γ t x with | .sc (.sl _ _ l) => some (l.length : Int) | .sc (.msl _ _ n _ _) => some (n : Int) | _ => none) fun n => k ⟨put1 d (.sc (.int .i64 n)) t, h⟩ := by
  simp only [P1, perform, eff]
  cases rd Γ t x with
  | sc c => cases c <;> rfl
  | _ => rfl
@[go_sem] theorem P1_lenArr (n : Nat) : P1 Γ base d (.lenArr n) ⟨t, h⟩ k = k ⟨put1 d (.sc (.int .i64 n)) t, h⟩ := nrfl rfl
@[go_sem] theorem P1_min (x : Rand) (xs : List Rand) : P1 Γ base d (.min x xs) ⟨t, h⟩ k = onInt (rd Γ t x) fun ki n => obind (minOf ki n (xs.map (rd Γ t))) fun c => k ⟨put1 d (.sc c) t, h⟩ := by
  simp only [P1, perform, eff, one]
  cases rd Γ t x with
  | sc c => cases c with
    | int ki n => simp only [onInt_mk]; cases minOf ki n (xs.map (rd Γ t)) <;> rfl
    | _ => rfl
  | _ => rfl
@[go_sem] theorem P1_max (x : Rand) (xs : List Rand) : P1 Γ base d (.max x xs) ⟨t, h⟩ k = onInt (rd Γ t x) fun ki n => obind (maxOf ki n (xs.map (rd Γ t))) fun c => k ⟨put1 d (.sc c) t, h⟩ := by
  simp only [P1, perform, eff, one]
  cases rd Γ t x with
  | sc c => cases c with
    | int ki n => simp only [onInt_mk]; cases maxOf ki n (xs.map (rd Γ t)) <;> rfl
    | _ => rfl
  | _ => rfl
@[go_sem] theorem P1_append (es : Nat) (x y : Rand) : P1 Γ base d (.append es x y) ⟨t, h⟩ k = obind (appended es (rd Γ t x) (rd Γ t y)) fun c => k ⟨put1 d (.sc c) (drop (x.takes ++ y.takes) t), h⟩ := by
  simp only [P1, perform, eff, one]
  cases appended es (rd Γ t x) (rd Γ t y) <;> rfl
@[go_sem] theorem P1_nilchk (x : Rand) : P1 Γ base d (.nilchk x) ⟨t, h⟩ k = obind (match rd Γ t x with | .sc (.ptr p o) => some (V.sc (.ptr p o)) | .sc (.eptr cs o) => some (.sc (.eptr cs o)) | .sc (.fn f sh a b) => some (.sc (.fn f sh a b)) | _ => none) fun v => k ⟨put1 d v t, h⟩ := by
  simp only [P1, perform, eff]
  cases rd Γ t x with
  | sc c => cases c <;> rfl
  | _ => rfl
@[go_sem] theorem P1_call (p : Bool) (f : Rand) (args : List Rand) : P1 Γ base d (.call p f args) ⟨t, h⟩ k = obind (target (rd Γ t f) (args.map (rd Γ t))) fun q =>
    br p (br (q.2.all V.pure) (obind (K Γ q.1 q.2 []) fun r => obind (alone h r) fun r => k ⟨put1 d r.1 t, r.2⟩) none) (obind (K Γ q.1 q.2 h) fun r => k ⟨put1 d r.1 t, r.2⟩) := by
  simp only [P1, perform, calls]
  cases target (rd Γ t f) (args.map (rd Γ t)) with
  | none => rfl
  | some q =>
    obtain ⟨fk, vs⟩ := q
    simp only [obind_some]
    cases p with
    | false =>
      simp only [br_false, Bool.false_eq_true, if_false]
      cases K Γ fk vs h <;> rfl
    | true =>
      simp only [br_true, if_true]
      by_cases hv : vs.all V.pure = true
      · rw [if_pos hv, hv]
        simp only [br_true]
        cases K Γ fk vs [] with
        | none => rfl
        | some r => simp only [Option.bind_some, obind_some]; cases alone h r <;> rfl
      · rw [if_neg hv]
        have : vs.all V.pure = false := by simpa using hv
        rw [this]; rfl
end

theorem X_of_E {Γ : Env} {c : AC} {s : St} {r : Ex × St} (h : E Γ c s (fun e s => some (e, s)) = some r) : X Γ c s = some r := by
  unfold E andThen at h
  cases hx : X Γ c s with
  | none => rw [hx] at h; cases h
  | some p => rw [hx] at h; exact h

theorem X_loop_next {Γ : Env} {keep : List Nat} {body : AC} {s s' : St} (h : E Γ body s (fun e s1 => match e with | .norm => trim keep s.h.length s1 | _ => none) = some s') : X Γ (.loop keep body) s = X Γ (.loop keep body) s' := by
  unfold E andThen at h
  rw [X_eq]
  simp only [execF]
  cases hx : X Γ body s with
  | none => rw [hx] at h; cases h
  | some p =>
    obtain ⟨e, s1⟩ := p
    rw [hx] at h
    cases e with
    | norm => simp only at h ⊢; rw [h]
    | _ => simp at h
theorem X_loop_exit {Γ : Env} {keep : List Nat} {body : AC} {s : St} {r : Ex × St} (h : E Γ body s (fun e s1 => match e with | .norm => none | e => some (e, s1)) = some r) : X Γ (.loop keep body) s = some r := by
  unfold E andThen at h
  rw [X_eq]
  simp only [execF]
  cases hx : X Γ body s with
  | none => rw [hx] at h; cases h
  | some p =>
    obtain ⟨e, s1⟩ := p
    rw [hx] at h
    cases e with
    | norm => simp at h
    | exit id => exact h
    | ret => exact h

theorem E_step {β : Type} {Γ : Env} {a b : AC} {s s' : St} {Q : Ex → St → Option β} {r : Option β} (h1 : E Γ a s (fun e s1 => match e with | .norm => some s1 | _ => none) = some s') (h2 : E Γ b s' Q = r) : E Γ (.seq a b) s Q = r := by
  unfold E andThen at h1
  rw [E_seq]
  unfold E andThen
  cases hx : X Γ a s with
  | none => rw [hx] at h1; cases h1
  | some p =>
    obtain ⟨e, s1⟩ := p
    rw [hx] at h1
    cases e with
    | norm => simp only [Option.some.injEq] at h1; subst h1; exact h2
    | _ => simp at h1

theorem E_loop {β : Type} (Γ : Env) (keep : List Nat) (body : AC) (s : St) (Q : Ex → St → Option β) :
    E Γ (.loop keep body) s Q = E Γ body s fun e s1 => match e with | .norm => obind (trim keep s.h.length s1) fun s' => E Γ (.loop keep body) s' Q | e => Q e s1 := by
  unfold E
  rw [X_eq]
  simp only [execF]
  cases hx : X Γ body s with
  | none => rfl
  | some p =>
    obtain ⟨e, s1⟩ := p
    cases e with
    | norm => simp only [andThen]; cases trim keep s.h.length s1 <;> rfl
    | _ => rfl

def goFold {σ α ρ : Type} (f : Nat → σ → α → Sum σ ρ) (e : σ → ρ) : Nat → σ → List α → ρ
  | _, a, [] => e a
  | n, a, x :: l => match f n a x with
    | .inl a => goFold f e (n + 1) a l
    | .inr r => r

theorem X_range {Γ : Env} {σ α : Type} {keep : List Nat} {B : AC} (S : Nat → σ → St) (l : List α) (f : Nat → σ → α → Sum σ (Ex × St)) (T : σ → Ex × St)
    (hstep : ∀ (i : Nat) a x a', l[i]? = some x → f i a x = .inl a' → E Γ B (S i a) (fun e s1 => match e with | .norm => trim keep (S i a).h.length s1 | _ => none) = some (S (i + 1) a'))
    (hexit : ∀ (i : Nat) a x r, l[i]? = some x → f i a x = .inr r → E Γ B (S i a) (fun e s1 => match e with | .norm => none | e => some (e, s1)) = some r)
    (hend : ∀ a, E Γ B (S l.length a) (fun e s1 => match e with | .norm => none | e => some (e, s1)) = some (T a)) (a : σ) :
    X Γ (.loop keep B) (S 0 a) = some (goFold f T 0 a l) := by
  have main : ∀ (m : List α) (i : Nat) (a : σ), l.drop i = m → i ≤ l.length → X Γ (.loop keep B) (S i a) = some (goFold f T i a m) := by
    intro m
    induction m with
    | nil =>
      intro i a hm hi
      have : l.length ≤ i := by simpa using hm
      obtain rfl : i = l.length := by omega
      exact X_loop_exit (hend a)
    | cons x m ih =>
      intro i a hm hi
      have hx : l[i]? = some x := by
        have := congrArg (fun z => z[0]?) hm
        simpa using this
      have hlt : i < l.length := (List.getElem?_eq_some_iff.1 hx).1
      unfold goFold
      cases hf : f i a x with
      | inl a' =>
        simp only
        rw [X_loop_next (hstep i a x a' hx hf)]
        exact ih (i + 1) a' (by rw [← List.drop_drop, hm]; rfl) hlt
      | inr r => exact X_loop_exit (hexit i a x r hx hf)
  exact main l 0 a rfl (Nat.zero_le _)

theorem X_each {Γ : Env} {σ α : Type} {keep : List Nat} {B : AC} (S : Nat → σ → St) (l : List α) (f : σ → α → σ) (T : σ → Ex × St)
    (hstep : ∀ (i : Nat) a x, l[i]? = some x → E Γ B (S i a) (fun e s1 => match e with | .norm => trim keep (S i a).h.length s1 | _ => none) = some (S (i + 1) (f a x)))
    (hend : ∀ a, E Γ B (S l.length a) (fun e s1 => match e with | .norm => none | e => some (e, s1)) = some (T a)) (a : σ) :
    X Γ (.loop keep B) (S 0 a) = some (T (l.foldl f a)) := by
  rw [X_range S l (fun _ a x => .inl (f a x)) T (fun i a x a' hx hf => by cases hf; exact hstep i a x hx) (fun i a x r hx hf => by cases hf) hend a]
  have : ∀ (m : List α) (n : Nat) (a : σ), goFold (fun _ a x => Sum.inl (f a x)) T n a m = T (m.foldl f a) := by
    intro m
    induction m with
    | nil => intro n a; rfl
    | cons x m ih => intro n a; exact ih (n + 1) (f a x)
  rw [this]

theorem E_use {β : Type} {Γ : Env} {c : AC} {s : St} {Q : Ex → St → Option β} {r : Ex × St} (h : X Γ c s = some r) : E Γ c s Q = Q r.1 r.2 := E_of Γ s Q h
theorem E_each {β : Type} {Γ : Env} {σ α : Type} {keep : List Nat} {B : AC} (S : Nat → σ → St) (l : List α) (f : σ → α → σ) (T : σ → Ex × St) (Q : Ex → St → Option β)
    (hstep : ∀ (i : Nat) a x, l[i]? = some x → E Γ B (S i a) (fun e s1 => match e with | .norm => trim keep (S i a).h.length s1 | _ => none) = some (S (i + 1) (f a x)))
    (hend : ∀ a, E Γ B (S l.length a) (fun e s1 => match e with | .norm => none | e => some (e, s1)) = some (T a)) (a : σ) :
    E Γ (.loop keep B) (S 0 a) Q = Q (T (l.foldl f a)).1 (T (l.foldl f a)).2 := E_use (X_each S l f T hstep hend a)
theorem E_range {β : Type} {Γ : Env} {σ α : Type} {keep : List Nat} {B : AC} (S : Nat → σ → St) (l : List α) (f : Nat → σ → α → Sum σ (Ex × St)) (T : σ → Ex × St) (Q : Ex → St → Option β)
    (hstep : ∀ (i : Nat) a x a', l[i]? = some x → f i a x = .inl a' → E Γ B (S i a) (fun e s1 => match e with | .norm => trim keep (S i a).h.length s1 | _ => none) = some (S (i + 1) a'))
    (hexit : ∀ (i : Nat) a x r, l[i]? = some x → f i a x = .inr r → E Γ B (S i a) (fun e s1 => match e with | .norm => none | e => some (e, s1)) = some r)
    (hend : ∀ a, E Γ B (S l.length a) (fun e s1 => match e with | .norm => none | e => some (e, s1)) = some (T a)) (a : σ) :
    E Γ (.loop keep B) (S 0 a) Q = Q (goFold f T 0 a l).1 (goFold f T 0 a l).2 := E_use (X_range S l f T hstep hexit hend a)

def fin (f : Fn) (n : Nat) (s : St) : Option (V × List Obj) :=
  obind (results s f.res) fun rs => br f.opn (some (tuple rs, s.h)) (obind (frzVs n s.h rs) fun rs => br ((s.h.take n).all (Obj.under n)) (some (tuple rs, s.h.take n)) none)

theorem K_fn {Γ : Env} {id : Nat} {f : Fn} (hf : Γ.fn id = some f) (vs : List V) (h : List Obj) (hl : vs.length = f.np) :
    K Γ (.fn id) vs h = E Γ f.body { t := number 0 vs, h := h } fun e s => match e with | .exit _ => none | _ => fin f h.length s := by
  rw [K_eq]
  unfold E
  simp only [callF, hf, hl, ne_eq, not_true_eq_false, if_false]
  have key : ∀ s : St, (match results s f.res with
      | some rs => if f.opn then some (tuple rs, s.h) else match frzVs h.length s.h rs with
        | some rs => if (s.h.take h.length).all (Obj.under h.length) then some (tuple rs, s.h.take h.length) else none
        | none => none
      | none => none) = fin f h.length s := fun s => by
    unfold fin
    cases results s f.res with
    | none => rfl
    | some rs =>
      simp only [obind_some]
      cases f.opn with
      | true => rfl
      | false =>
        simp only [Bool.false_eq_true, if_false, br_false]
        cases frzVs h.length s.h rs with
        | none => rfl
        | some rs => simp only [obind_some]; cases (s.h.take h.length).all (Obj.under h.length) <;> rfl
  cases X Γ f.body { t := number 0 vs, h := h } with
  | none => rfl
  | some p =>
    obtain ⟨e, s⟩ := p
    cases e with
    | exit id => rfl
    | norm => exact key s
    | ret => exact key s

@[go_sem] theorem unown_int (k : IntKind) (n : Int) : unown (.int k n) = (.int k n) := nrfl rfl
@[go_sem] theorem cells_int (k : IntKind) (n : Int) : V.cells (.sc (.int k n)) = [(.int k n)] := nrfl rfl
@[go_sem] theorem shapes_int (k : IntKind) (n : Int) (vs : List V) : shapes (.sc (.int k n) :: vs) = (shapes vs).map (none :: ·) := nrfl rfl
@[go_sem] theorem unown_bool (b : Bool) : unown (.bool b) = (.bool b) := nrfl rfl
@[go_sem] theorem cells_bool (b : Bool) : V.cells (.sc (.bool b)) = [(.bool b)] := nrfl rfl
@[go_sem] theorem shapes_bool (b : Bool) (vs : List V) : shapes (.sc (.bool b) :: vs) = (shapes vs).map (none :: ·) := nrfl rfl
@[go_sem] theorem unown_str (s : ByteArray) : unown (.str s) = (.str s) := nrfl rfl
@[go_sem] theorem cells_str (s : ByteArray) : V.cells (.sc (.str s)) = [(.str s)] := nrfl rfl
@[go_sem] theorem shapes_str (s : ByteArray) (vs : List V) : shapes (.sc (.str s) :: vs) = (shapes vs).map (none :: ·) := nrfl rfl
@[go_sem] theorem unown_sl (k : SK) (es : Nat) (l : List (List C)) : unown (.sl k es l) = (.sl k es l) := nrfl rfl
@[go_sem] theorem cells_sl (k : SK) (es : Nat) (l : List (List C)) : V.cells (.sc (.sl k es l)) = [(.sl k es l)] := nrfl rfl
@[go_sem] theorem shapes_sl (k : SK) (es : Nat) (l : List (List C)) (vs : List V) : shapes (.sc (.sl k es l) :: vs) = (shapes vs).map (none :: ·) := nrfl rfl
@[go_sem] theorem unown_imap (ka va : Bool) (l : List (List C × List C)) : unown (.imap ka va l) = (.imap ka va l) := nrfl rfl
@[go_sem] theorem cells_imap (ka va : Bool) (l : List (List C × List C)) : V.cells (.sc (.imap ka va l)) = [(.imap ka va l)] := nrfl rfl
@[go_sem] theorem shapes_imap (ka va : Bool) (l : List (List C × List C)) (vs : List V) : shapes (.sc (.imap ka va l) :: vs) = (shapes vs).map (none :: ·) := nrfl rfl
@[go_sem] theorem unown_eptr (cs : List C) (off : Nat) : unown (.eptr cs off) = (.eptr cs off) := nrfl rfl
@[go_sem] theorem cells_eptr (cs : List C) (off : Nat) : V.cells (.sc (.eptr cs off)) = [(.eptr cs off)] := nrfl rfl
@[go_sem] theorem shapes_eptr (cs : List C) (off : Nat) (vs : List V) : shapes (.sc (.eptr cs off) :: vs) = (shapes vs).map (none :: ·) := nrfl rfl
@[go_sem] theorem unown_fn (f : Fk) (sh : List (Option Nat)) (first cap : List C) : unown (.fn f sh first cap) = (.fn f sh first cap) := nrfl rfl
@[go_sem] theorem cells_fn (f : Fk) (sh : List (Option Nat)) (first cap : List C) : V.cells (.sc (.fn f sh first cap)) = [(.fn f sh first cap)] := nrfl rfl
@[go_sem] theorem shapes_fn (f : Fk) (sh : List (Option Nat)) (first cap : List C) (vs : List V) : shapes (.sc (.fn f sh first cap) :: vs) = (shapes vs).map (none :: ·) := nrfl rfl
@[go_sem] theorem unown_nilf  : unown .nilf = .nilf := nrfl rfl
@[go_sem] theorem cells_nilf  : V.cells (.sc .nilf) = [.nilf] := nrfl rfl
@[go_sem] theorem shapes_nilf  (vs : List V) : shapes (.sc .nilf :: vs) = (shapes vs).map (none :: ·) := nrfl rfl
@[go_sem] theorem unown_nilp  : unown .nilp = .nilp := nrfl rfl
@[go_sem] theorem cells_nilp  : V.cells (.sc .nilp) = [.nilp] := nrfl rfl
@[go_sem] theorem shapes_nilp  (vs : List V) : shapes (.sc .nilp :: vs) = (shapes vs).map (none :: ·) := nrfl rfl
@[go_sem] theorem unown_nili  : unown .nili = .nili := nrfl rfl
@[go_sem] theorem cells_nili  : V.cells (.sc .nili) = [.nili] := nrfl rfl
@[go_sem] theorem shapes_nili  (vs : List V) : shapes (.sc .nili :: vs) = (shapes vs).map (none :: ·) := nrfl rfl
@[go_sem] theorem unown_ptr (r off : Nat) : unown (.ptr r off) = (.ptr r off) := nrfl rfl
@[go_sem] theorem cells_ptr (r off : Nat) : V.cells (.sc (.ptr r off)) = [(.ptr r off)] := nrfl rfl
@[go_sem] theorem shapes_ptr (r off : Nat) (vs : List V) : shapes (.sc (.ptr r off) :: vs) = (shapes vs).map (none :: ·) := nrfl rfl
@[go_sem] theorem unown_map (r : Nat) : unown (.map r) = (.map r) := nrfl rfl
@[go_sem] theorem cells_map (r : Nat) : V.cells (.sc (.map r)) = [(.map r)] := nrfl rfl
@[go_sem] theorem shapes_map (r : Nat) (vs : List V) : shapes (.sc (.map r) :: vs) = (shapes vs).map (none :: ·) := nrfl rfl
@[go_sem] theorem unown_msl (r off len cap es : Nat) : unown (.msl r off len cap es) = (.msl r off len cap es) := nrfl rfl
@[go_sem] theorem cells_msl (r off len cap es : Nat) : V.cells (.sc (.msl r off len cap es)) = [(.msl r off len cap es)] := nrfl rfl
@[go_sem] theorem shapes_msl (r off len cap es : Nat) (vs : List V) : shapes (.sc (.msl r off len cap es) :: vs) = (shapes vs).map (none :: ·) := nrfl rfl
@[go_sem] theorem unown_stamp (r i : Nat) : unown (.stamp r i) = (.stamp r i) := nrfl rfl
@[go_sem] theorem cells_stamp (r i : Nat) : V.cells (.sc (.stamp r i)) = [(.stamp r i)] := nrfl rfl
@[go_sem] theorem shapes_stamp (r i : Nat) (vs : List V) : shapes (.sc (.stamp r i) :: vs) = (shapes vs).map (none :: ·) := nrfl rfl
@[go_sem] theorem unown_own (es : Nat) (l : List (List C)) : unown (.own es l) = .sl .shared es l := nrfl rfl
@[go_sem] theorem cells_own (es : Nat) (l : List (List C)) : V.cells (.sc (.own es l)) = [.own es l] := nrfl rfl
@[go_sem] theorem frz_int (k : IntKind) (m : Int) (b' : Nat) (h : List Obj) (n : Nat) : frz b' h (n + 1) (.int k m) = some (.int k m) := nrfl rfl
@[go_sem] theorem pure_int (k : IntKind) (n : Int) : C.pure (.int k n) = true := nrfl rfl
@[go_sem] theorem under_int (k : IntKind) (n : Int) (m : Nat) : C.under m (.int k n) = true := nrfl rfl
@[go_sem] theorem frz_bool (b : Bool) (b' : Nat) (h : List Obj) (n : Nat) : frz b' h (n + 1) (.bool b) = some (.bool b) := nrfl rfl
@[go_sem] theorem pure_bool (b : Bool) : C.pure (.bool b) = true := nrfl rfl
@[go_sem] theorem under_bool (b : Bool) (m : Nat) : C.under m (.bool b) = true := nrfl rfl
@[go_sem] theorem frz_str (s : ByteArray) (b' : Nat) (h : List Obj) (n : Nat) : frz b' h (n + 1) (.str s) = some (.str s) := nrfl rfl
@[go_sem] theorem pure_str (s : ByteArray) : C.pure (.str s) = true := nrfl rfl
@[go_sem] theorem under_str (s : ByteArray) (m : Nat) : C.under m (.str s) = true := nrfl rfl
@[go_sem] theorem frz_sl (k : SK) (es : Nat) (l : List (List C)) (b' : Nat) (h : List Obj) (n : Nat) : frz b' h (n + 1) (.sl k es l) = some (.sl k es l) := nrfl rfl
@[go_sem] theorem pure_sl (k : SK) (es : Nat) (l : List (List C)) : C.pure (.sl k es l) = true := nrfl rfl
@[go_sem] theorem under_sl (k : SK) (es : Nat) (l : List (List C)) (m : Nat) : C.under m (.sl k es l) = true := nrfl rfl
@[go_sem] theorem frz_imap (ka va : Bool) (l : List (List C × List C)) (b' : Nat) (h : List Obj) (n : Nat) : frz b' h (n + 1) (.imap ka va l) = some (.imap ka va l) := nrfl rfl
@[go_sem] theorem pure_imap (ka va : Bool) (l : List (List C × List C)) : C.pure (.imap ka va l) = true := nrfl rfl
@[go_sem] theorem under_imap (ka va : Bool) (l : List (List C × List C)) (m : Nat) : C.under m (.imap ka va l) = true := nrfl rfl
@[go_sem] theorem frz_eptr (cs : List C) (off : Nat) (b' : Nat) (h : List Obj) (n : Nat) : frz b' h (n + 1) (.eptr cs off) = some (.eptr cs off) := nrfl rfl
@[go_sem] theorem pure_eptr (cs : List C) (off : Nat) : C.pure (.eptr cs off) = true := nrfl rfl
@[go_sem] theorem under_eptr (cs : List C) (off : Nat) (m : Nat) : C.under m (.eptr cs off) = true := nrfl rfl
@[go_sem] theorem frz_nilf  (b' : Nat) (h : List Obj) (n : Nat) : frz b' h (n + 1) .nilf = some .nilf := nrfl rfl
@[go_sem] theorem pure_nilf  : C.pure .nilf = true := nrfl rfl
@[go_sem] theorem under_nilf  (m : Nat) : C.under m .nilf = true := nrfl rfl
@[go_sem] theorem frz_nilp  (b' : Nat) (h : List Obj) (n : Nat) : frz b' h (n + 1) .nilp = some .nilp := nrfl rfl
@[go_sem] theorem pure_nilp  : C.pure .nilp = true := nrfl rfl
@[go_sem] theorem under_nilp  (m : Nat) : C.under m .nilp = true := nrfl rfl
@[go_sem] theorem frz_nili  (b' : Nat) (h : List Obj) (n : Nat) : frz b' h (n + 1) .nili = some .nili := nrfl rfl
@[go_sem] theorem pure_nili  : C.pure .nili = true := nrfl rfl
@[go_sem] theorem under_nili  (m : Nat) : C.under m .nili = true := nrfl rfl

@[go_sem] theorem frz_own (b : Nat) (h : List Obj) (n es : Nat) (l : List (List C)) : frz b h (n + 1) (.own es l) = some (.sl .shared es l) := nrfl rfl
@[go_sem] theorem frz_ptr (b : Nat) (h : List Obj) (n r off : Nat) : frz b h (n + 1) (.ptr r off) = br (decide (r < b)) (some (.ptr r off)) (onVar (h[r]?) fun cs => obind (frzL b h n cs) fun cs => br (C.pureL cs) (some (.eptr cs off)) none) := by
  simp only [frz]
  by_cases hc : r < b
  · simp [hc]
  · simp only [hc, if_false, decide_false, br_false]
    cases h[r]? with
    | none => rfl
    | some o => cases o with
      | var cs => simp only [onVar_mk]; cases frzL b h n cs with
                  | none => rfl
                  | some cs => simp only [obind_some]; cases C.pureL cs <;> rfl
      | _ => rfl
@[go_sem] theorem frz_map (b : Nat) (h : List Obj) (n r : Nat) : frz b h (n + 1) (.map r) = br (decide (r < b)) (some (.map r)) (match h[r]? with | some (.map ka va l none) => some (.imap ka va l) | _ => none) := by
  simp only [frz]
  by_cases hc : r < b
  · simp [hc]
  · simp only [hc, if_false, decide_false, br_false]; rfl
@[go_sem] theorem frz_msl (b : Nat) (h : List Obj) (n r off len cap es : Nat) : frz b h (n + 1) (.msl r off len cap es) = br (decide (r < b)) (some (.msl r off len cap es)) (onVar (h[r]?) fun cs => obind (frzL b h n cs) fun cs => br (C.pureL cs) ((chunks cs off es len).map fun l => .sl (if cap = len ∧ cap ≠ 0 then .full else .shared) es l) none) := by
  simp only [frz]
  by_cases hc : r < b
  · simp [hc]
  · simp only [hc, if_false, decide_false, br_false]
    cases h[r]? with
    | none => rfl
    | some o => cases o with
      | var cs => simp only [onVar_mk]; cases frzL b h n cs with
                  | none => rfl
                  | some cs => simp only [obind_some]; cases C.pureL cs <;> rfl
      | _ => rfl
@[go_sem] theorem frz_fn (b : Nat) (h : List Obj) (n id : Nat) (sh : List (Option Nat)) (first cap : List C) : frz b h (n + 1) (.fn (.fn id) sh first cap) = obind (frzL b h n first) fun a => obind (frzL b h n cap) fun d => some (.fn (.fn id) sh a d) := by
  simp only [frz]
  cases frzL b h n first with
  | none => rfl
  | some a => simp only [obind_some]; cases frzL b h n cap <;> rfl
@[go_sem] theorem frzL_nil (b : Nat) (h : List Obj) (n : Nat) : frzL b h (n + 1) [] = some [] := by simp [frzL]
@[go_sem] theorem frzL_cons (b : Nat) (h : List Obj) (n : Nat) (c : C) (cs : List C) : frzL b h (n + 1) (c :: cs) = obind (frz b h n c) fun c => obind (frzL b h n cs) fun cs => some (c :: cs) := by
  simp only [frzL]
  cases frz b h n c with
  | none => rfl
  | some c => simp only [obind_some]; cases frzL b h n cs <;> rfl
@[go_sem] theorem frzV_sc (b : Nat) (h : List Obj) (c : C) : frzV b h (.sc c) = (frz b h 64 c).map .sc := nrfl rfl
@[go_sem] theorem frzV_agg (b : Nat) (h : List Obj) (cs : List C) : frzV b h (.agg cs) = (frzL b h 128 cs).map .agg := nrfl rfl
@[go_sem] theorem frzVs_nil (b : Nat) (h : List Obj) : frzVs b h [] = some [] := nrfl rfl
@[go_sem] theorem frzVs_cons (b : Nat) (h : List Obj) (v : V) (vs : List V) : frzVs b h (v :: vs) = obind (frzV b h v) fun v => obind (frzVs b h vs) fun vs => some (v :: vs) := by
  simp only [frzVs]
  cases frzV b h v with
  | none => rfl
  | some v => simp only [obind_some]; cases frzVs b h vs <;> rfl

@[go_sem] theorem pure_ptr (r off : Nat) : C.pure (.ptr r off) = false := nrfl rfl
@[go_sem] theorem pure_map (r : Nat) : C.pure (.map r) = false := nrfl rfl
@[go_sem] theorem pure_msl (r off len cap es : Nat) : C.pure (.msl r off len cap es) = false := nrfl rfl
@[go_sem] theorem pure_own (es : Nat) (l : List (List C)) : C.pure (.own es l) = false := nrfl rfl
@[go_sem] theorem pure_fn (id : Nat) (sh : List (Option Nat)) (first cap : List C) : C.pure (.fn (.fn id) sh first cap) = (C.pureL first && C.pureL cap) := by simp [C.pure]
@[go_sem] theorem under_ptr (m r off : Nat) : C.under m (.ptr r off) = decide (r < m) := nrfl rfl
@[go_sem] theorem under_map (m r : Nat) : C.under m (.map r) = decide (r < m) := nrfl rfl
@[go_sem] theorem under_msl (m r off len cap es : Nat) : C.under m (.msl r off len cap es) = decide (r < m) := nrfl rfl
@[go_sem] theorem under_own (m es : Nat) (l : List (List C)) : C.under m (.own es l) = true := nrfl rfl
@[go_sem] theorem under_top (m : Nat) : C.under m .top = true := nrfl rfl
@[go_sem] theorem under_fn (m id : Nat) (sh : List (Option Nat)) (first cap : List C) : C.under m (.fn (.fn id) sh first cap) = (C.underL m first && C.underL m cap) := by simp [C.under]
@[go_sem] theorem under_yield (m l : Nat) (sh : List (Option Nat)) (first cap : List C) : C.under m (.fn (.yield l) sh first cap) = (decide (l < m) && C.underL m first && C.underL m cap) := by simp [C.under]
@[go_sem] theorem underL_nil (m : Nat) : C.underL m [] = true := nrfl rfl
@[go_sem] theorem underL_cons (m : Nat) (c : C) (cs : List C) : C.underL m (c :: cs) = (C.under m c && C.underL m cs) := nrfl rfl
@[go_sem] theorem pureL_nil : C.pureL [] = true := nrfl rfl
@[go_sem] theorem pureL_cons (c : C) (cs : List C) : C.pureL (c :: cs) = (C.pure c && C.pureL cs) := nrfl rfl
@[go_sem] theorem Vpure_sc (c : C) : V.pure (.sc c) = c.pure := nrfl rfl
@[go_sem] theorem Vpure_agg (cs : List C) : V.pure (.agg cs) = C.pureL cs := nrfl rfl
@[go_sem] theorem Vunder_sc (m : Nat) (c : C) : V.under m (.sc c) = c.under m := by simp [V.under]
@[go_sem] theorem Vunder_agg (m : Nat) (cs : List C) : V.under m (.agg cs) = C.underL m cs := by simp [V.under]
@[go_sem] theorem Vunder_tup (m : Nat) (vs : List V) : V.under m (.tup vs) = V.underVs m vs := by simp [V.under]
@[go_sem] theorem Vunders_nil (m : Nat) : V.underVs m [] = true := by simp [V.underVs]
@[go_sem] theorem Vunders_cons (m : Nat) (v : V) (vs : List V) : V.underVs m (v :: vs) = (v.under m && V.underVs m vs) := by simp [V.underVs]
@[go_sem] theorem Ounder_var (m : Nat) (cs : List C) : Obj.under m (.var cs) = C.underL m cs := nrfl rfl
@[go_sem] theorem Ounder_dead (m : Nat) : Obj.under m .dead = true := nrfl rfl
@[go_sem] theorem Ounder_free (m : Nat) : Obj.under m .free = true := nrfl rfl
@[go_sem] theorem Ounder_map (m : Nat) (ka va : Bool) (l : List (List C × List C)) (ph : Option (List C × List C)) : Obj.under m (.map ka va l ph) = true := nrfl rfl
@[go_sem] theorem Ounder_loop (m : Nat) (st : LS) (pend : Option Ex) (t : List (Nat × V)) (ps : List Nat) (a b : AC) : Obj.under m (.loop st pend t ps a b) = t.all fun p => p.2.under m := nrfl rfl

@[go_sem] theorem Vunown_sc (c : C) : V.unown (.sc c) = .sc (unown c) := nrfl rfl
@[go_sem] theorem Vunown_agg (cs : List C) : V.unown (.agg cs) = .agg cs := nrfl rfl
@[go_sem] theorem Vunown_tup (vs : List V) : V.unown (.tup vs) = .tup vs := nrfl rfl
@[go_sem] theorem cells_agg (cs : List C) : V.cells (.agg cs) = cs := nrfl rfl
@[go_sem] theorem isAgg_sc (c : C) : V.isAgg (.sc c) = false := nrfl rfl
@[go_sem] theorem isAgg_agg (cs : List C) : V.isAgg (.agg cs) = true := nrfl rfl
@[go_sem] theorem shapes_nil : shapes [] = some [] := nrfl rfl
@[go_sem] theorem shapes_agg (cs : List C) (vs : List V) : shapes (.agg cs :: vs) = (shapes vs).map (some cs.length :: ·) := nrfl rfl

section
variable (Γ : Env) (t : List (Nat × V)) (i j : Nat) (v : V) (h : List Obj)
@[go_sem] theorem rd_t : rd Γ t (.t i) = (get t i).unown := nrfl rfl
@[go_sem] theorem rd_tk : rd Γ t (.tk i) = get t i := nrfl rfl
@[go_sem] theorem rd_k : rd Γ t (.k v) = v := nrfl rfl
@[go_sem] theorem rd_f : rd Γ t (.f i) = .sc (.fn (.fn i) [] [] []) := nrfl rfl
@[go_sem] theorem rd_g : rd Γ t (.g i) = .sc (.eptr (Γ.glob i) 0) := nrfl rfl
@[go_sem] theorem get_cons : get ((j, v) :: t) i = if j = i then v else get t i := nrfl rfl
@[go_sem] theorem put1_some : put1 (some i) v t = (i, v) :: t := nrfl rfl
@[go_sem] theorem put1_none : put1 none v t = t := nrfl rfl
@[go_sem] theorem drop_nilL : Pm.drop [] t = t := nrfl rfl
@[go_sem] theorem drop_cons (l : List Nat) : Pm.drop (i :: l) t = Pm.drop l ((i, (get t i).unown) :: t) := nrfl rfl
@[go_sem] theorem takes_t : Rand.takes (.t i) = [] := nrfl rfl
@[go_sem] theorem takes_tk : Rand.takes (.tk i) = [i] := nrfl rfl
@[go_sem] theorem takes_k : Rand.takes (.k v) = [] := nrfl rfl
@[go_sem] theorem takes_f : Rand.takes (.f i) = [] := nrfl rfl
@[go_sem] theorem takes_g : Rand.takes (.g i) = [] := nrfl rfl
@[go_sem] theorem restrict_nil : restrict [] t = [] := nrfl rfl
@[go_sem] theorem restrict_cons (l : List Nat) : restrict (i :: l) t = (i, get t i) :: restrict l t := nrfl rfl
@[go_sem] theorem number_nil : number i [] = [] := nrfl rfl
@[go_sem] theorem number_cons (vs : List V) : number i (v :: vs) = (i, v) :: number (i + 1) vs := nrfl rfl
@[go_sem] theorem results_nil : results ⟨t, h⟩ [] = some [] := nrfl rfl
@[go_sem] theorem results_cons0 (ps : List (Nat × Option (Option Nat))) : results ⟨t, h⟩ ((i, none) :: ps) = obind (results ⟨t, h⟩ ps) fun vs => some ((get t i).unown :: vs) := by
  simp only [results, result1]
  cases results ⟨t, h⟩ ps <;> rfl
@[go_sem] theorem results_cons1 (n : Option Nat) (ps : List (Nat × Option (Option Nat))) : results ⟨t, h⟩ ((i, some n) :: ps) = onPtr (get t i) (fun r off => onVar (h[r]?) fun cs => obind (loadFrom cs off n) fun v => obind (results ⟨t, h⟩ ps) fun vs => some (v :: vs)) (fun _ _ => none) := by
  simp only [results, result1]
  cases get t i with
  | sc c => cases c with
    | ptr r off =>
      simp only [onPtr_ptr]
      cases h[r]? with
      | none => rfl
      | some o => cases o with
        | var cs => simp only [onVar_mk]; cases loadFrom cs off n with
                    | none => rfl
                    | some v => simp only [obind_some]; cases results ⟨t, h⟩ ps <;> rfl
        | _ => rfl
    | _ => rfl
  | _ => rfl
@[go_sem] theorem tuple_one : tuple [v] = v := nrfl rfl
@[go_sem] theorem tuple_nil : tuple [] = .tup [] := nrfl rfl
@[go_sem] theorem tuple_two (a b : V) (l : List V) : tuple (a :: b :: l) = .tup (a :: b :: l) := nrfl rfl
@[go_sem] theorem frozen_eq : frozen i ⟨t, h⟩ = onPtr (get t i) (fun r off => onVar (h[r]?) fun cs => br (C.pureL (cs.map unown)) (some ⟨(i, .sc (.eptr (cs.map unown) off)) :: t, h.set r .dead⟩) none) (fun _ _ => none) := by
  simp only [frozen]
  cases get t i with
  | sc c => cases c with
    | ptr r off =>
      simp only [onPtr_ptr]
      cases h[r]? with
      | none => rfl
      | some o => cases o with
        | var cs => simp only [onVar_mk]; cases C.pureL (cs.map unown) <;> rfl
        | _ => rfl
    | _ => rfl
  | _ => rfl
@[go_sem] theorem trim_eq (keep : List Nat) (n : Nat) : trim keep n ⟨t, h⟩ = br ((restrict keep t).all (fun p => p.2.under n) && (h.take n).all (Obj.under n)) (some ⟨restrict keep t, h.take n⟩) none := by
  simp only [trim]
  cases (restrict keep t).all (fun p => p.2.under n) <;> cases (h.take n).all (Obj.under n) <;> simp [br]
end

section
variable (k : IntKind) (x y : Int)
@[go_sem] theorem bin_add : bin .add (.sc (.int k x)) (.sc (.int k y)) = some (.int k (k.wrap (x + y))) := by simp [bin, arith]
@[go_sem] theorem bin_sub : bin .sub (.sc (.int k x)) (.sc (.int k y)) = some (.int k (k.wrap (x - y))) := by simp [bin, arith]
@[go_sem] theorem bin_mul : bin .mul (.sc (.int k x)) (.sc (.int k y)) = some (.int k (k.wrap (x * y))) := by simp [bin, arith]
@[go_sem] theorem bin_quo : bin .quo (.sc (.int k x)) (.sc (.int k y)) = br (decide (y = 0)) none (some (.int k (k.wrap (x.tdiv y)))) := by
  by_cases h : y = 0 <;> simp [bin, arith, h]
@[go_sem] theorem bin_rem : bin .rem (.sc (.int k x)) (.sc (.int k y)) = br (decide (y = 0)) none (some (.int k (x.tmod y))) := by
  by_cases h : y = 0 <;> simp [bin, arith, h]
@[go_sem] theorem bin_eql : bin .eql (.sc (.int k x)) (.sc (.int k y)) = some (.bool (decide (x = y))) := by simp [bin, arith, BEq.beq]
@[go_sem] theorem bin_neq : bin .neq (.sc (.int k x)) (.sc (.int k y)) = some (.bool (!decide (x = y))) := by simp [bin, arith, bne, BEq.beq]
@[go_sem] theorem bin_lss : bin .lss (.sc (.int k x)) (.sc (.int k y)) = some (.bool (decide (x < y))) := by simp [bin, arith]
@[go_sem] theorem bin_leq : bin .leq (.sc (.int k x)) (.sc (.int k y)) = some (.bool (decide (x ≤ y))) := by simp [bin, arith]
@[go_sem] theorem bin_gtr : bin .gtr (.sc (.int k x)) (.sc (.int k y)) = some (.bool (decide (y < x))) := by simp [bin, arith]
@[go_sem] theorem bin_geq : bin .geq (.sc (.int k x)) (.sc (.int k y)) = some (.bool (decide (y ≤ x))) := by simp [bin, arith]
@[go_sem] theorem un_neg : un .neg (.sc (.int k x)) = some (.int k (k.wrap (0 - x))) := nrfl rfl
@[go_sem] theorem un_not (b : Bool) : un .not (.sc (.bool b)) = some (.bool !b) := nrfl rfl
end

@[go_sem] theorem loadFrom_none (cs : List C) (off : Nat) : loadFrom cs off none = obind (cs[off]?) fun c => some (.sc (unown c)) := by
  simp only [loadFrom]; cases cs[off]? <;> rfl
@[go_sem] theorem loadFrom_some (cs : List C) (off n : Nat) : loadFrom cs off (some n) = obind (cellsAt cs off n) fun l => some (.agg (l.map unown)) := by
  simp only [loadFrom]; cases cellsAt cs off n <;> rfl
@[go_sem] theorem cellsAt_zero (cs : List C) (off : Nat) : cellsAt cs off 0 = some [] := nrfl rfl
theorem cellsAt_succ (cs : List C) (off n : Nat) : cellsAt cs off (n + 1) = obind (cs[off]?) fun c => obind (cellsAt cs (off + 1) n) fun l => some (c :: l) := by
  simp only [cellsAt]
  cases cs[off]? with
  | none => rfl
  | some c => simp only [obind_some]; cases cellsAt cs (off + 1) n <;> rfl
@[go_sem] theorem cellsAt_skip (c : C) (cs : List C) : ∀ (n k : Nat), cellsAt (c :: cs) (k + 1) n = cellsAt cs k n
  | 0, _ => rfl
  | n + 1, k => by rw [cellsAt_succ, cellsAt_succ, cellsAt_skip c cs n (k + 1), List.getElem?_cons_succ]
@[go_sem] theorem cellsAt_cons (c : C) (cs : List C) (n : Nat) : cellsAt (c :: cs) 0 (n + 1) = obind (cellsAt cs 0 n) fun l => some (c :: l) := by
  rw [cellsAt_succ, List.getElem?_cons_zero, obind_some, cellsAt_skip]
@[go_sem] theorem setAll_nil (cs : List C) (off : Nat) : setAll cs off [] = cs := nrfl rfl
@[go_sem] theorem setAll_cons (cs : List C) (off : Nat) (v : C) (vs : List C) : setAll cs off (v :: vs) = setAll (cs.set off v) (off + 1) vs := nrfl rfl
@[go_sem] theorem fillCells_nil (z : List C) : fillCells z [] = some z := nrfl rfl
theorem setAll_mid : ∀ (x a b z : List C), b.length = x.length → setAll (a ++ b ++ z) a.length x = a ++ x ++ z
  | [], a, b, z, h => by
    have : b = [] := List.length_eq_zero_iff.1 h
    subst this; rfl
  | c :: x, a, [], z, h => by cases h
  | c :: x, a, d :: b, z, h => by
    have := setAll_mid x (a ++ [c]) b z (by simpa using h)
    simp only [List.append_assoc, List.cons_append, List.nil_append, List.length_append, List.length_cons, List.length_nil] at this
    simp only [setAll_cons]
    rw [List.append_assoc, List.set_append_right _ _ (Nat.le_refl _), Nat.sub_self]
    simpa using this
@[go_sem] theorem fillCells_cons (z : List C) (off n : Nat) (v : V) (r : List (Nat × Nat × V)) : fillCells z ((off, n, v) :: r) = br (decide (v.cells.length = n ∧ 0 < n ∧ off + n ≤ z.length)) (fillCells (setAll z off v.cells) r) none := by
  simp only [fillCells]
  by_cases h : v.cells.length = n ∧ 0 < n ∧ off + n ≤ z.length <;> simp [h]
@[go_sem] theorem fillElems_nil (es : Nat) (l : List (List C)) : fillElems es l [] = some l := nrfl rfl
@[go_sem] theorem fillElems_cons (es : Nat) (l : List (List C)) (i : Nat) (v : V) (r : List (Nat × V)) : fillElems es l ((i, v) :: r) = br (decide (v.cells.length = es ∧ i < l.length)) (fillElems es (l.set i v.cells) r) none := by
  simp only [fillElems]
  by_cases h : v.cells.length = es ∧ i < l.length <;> simp [h]
@[go_sem] theorem target_fn (id : Nat) (sh : List (Option Nat)) (first cap : List C) (args : List V) : target (.sc (.fn (.fn id) sh first cap)) args = obind (unflat sh first) fun fs => some (.fn id, fs ++ args ++ cap.map .sc) := by
  simp only [target]; cases unflat sh first <;> rfl
@[go_sem] theorem target_yield (l : Nat) (sh : List (Option Nat)) (first cap : List C) (args : List V) : target (.sc (.fn (.yield l) sh first cap)) args = some (.yield l, args) := nrfl rfl
@[go_sem] theorem unflat_nil : unflat [] [] = some [] := nrfl rfl
@[go_sem] theorem unflat_none (sh : List (Option Nat)) (c : C) (cs : List C) : unflat (none :: sh) (c :: cs) = obind (unflat sh cs) fun l => some (.sc c :: l) := by
  simp only [unflat]; cases unflat sh cs <;> rfl
@[go_sem] theorem unflat_some (n : Nat) (sh : List (Option Nat)) (cs : List C) : unflat (some n :: sh) cs = br (decide (n ≤ cs.length)) (obind (unflat sh (cs.drop n)) fun l => some (.agg (cs.take n) :: l)) none := by
  simp only [unflat]
  by_cases h : n ≤ cs.length
  · simp only [h, if_true, decide_true, br_true]; cases unflat sh (cs.drop n) <;> rfl
  · simp [h]
@[go_sem] theorem alone_nil (h : List Obj) (v : V) : alone h (v, []) = some (v, h) := nrfl rfl
@[go_sem] theorem keyEq_nil : keyEq [] [] [] = some true := nrfl rfl
@[go_sem] theorem keyEq_consL (t : Nat) (ts : List Nat) (c d : C) (cs ds : List C) : keyEq (t :: ts) (c :: cs) (d :: ds) = obind (tagEq t c d) fun a => obind (keyEq ts cs ds) fun b => some (a && b) := by
  simp only [keyEq]
  cases tagEq t c d with
  | none => rfl
  | some a => simp only [obind_some]; cases keyEq ts cs ds <;> rfl
@[go_sem] theorem tagEq_bool (a b : Bool) : tagEq 0 (.bool a) (.bool b) = some (a == b) := nrfl rfl
@[go_sem] theorem tagEq_int (k : IntKind) (a b : Int) : tagEq 1 (.int k a) (.int k b) = some (decide (a = b)) := by simp [tagEq, BEq.beq]
@[go_sem] theorem tagEq_str (a b : ByteArray) : tagEq 2 (.str a) (.str b) = some (a == b) := nrfl rfl
@[go_sem] theorem minOf_nil (k : IntKind) (x : Int) : minOf k x [] = some (.int k x) := nrfl rfl
@[go_sem] theorem minOf_cons (k k' : IntKind) (x y : Int) (r : List V) : minOf k x (.sc (.int k' y) :: r) = minOf k (min x y) r := by
  simp only [minOf]; congr 1; omega
@[go_sem] theorem maxOf_nil (k : IntKind) (x : Int) : maxOf k x [] = some (.int k x) := nrfl rfl
@[go_sem] theorem maxOf_cons (k k' : IntKind) (x y : Int) (r : List V) : maxOf k x (.sc (.int k' y) :: r) = maxOf k (max x y) r := by
  simp only [maxOf]; congr 1; omega

mutual
theorem pure_under0 (n : Nat) : ∀ c : C, c.pure = true → c.under n = true
  | .int _ _, _ | .bool _, _ | .str _, _ | .sl _ _ _, _ | .imap _ _ _, _ | .eptr _ _, _ | .nilf, _ | .nilp, _ | .nili, _ | .top, _ => by simp [C.under]
  | .own _ _, h | .ptr _ _, h | .map _, h | .msl _ _ _ _ _, h | .stamp _ _, h => by simp [C.pure] at h
  | .fn f sh first cap, h => by
    simp only [C.pure, Bool.and_eq_true] at h
    simp only [C.under, Bool.and_eq_true]
    refine ⟨⟨?_, pureL_underL0 n first h.1.2⟩, pureL_underL0 n cap h.2⟩
    cases f with
    | fn => rfl
    | yield => simp at h
theorem pureL_underL0 (n : Nat) : ∀ cs : List C, C.pureL cs = true → C.underL n cs = true
  | [], _ => rfl
  | c :: cs, h => by
    simp only [C.pureL, Bool.and_eq_true] at h
    simp only [C.underL, Bool.and_eq_true]
    exact ⟨pure_under0 n c h.1, pureL_underL0 n cs h.2⟩
end

theorem wrap_i64 {x : Int} (h1 : -9223372036854775808 ≤ x) (h2 : x ≤ 9223372036854775807) : IntKind.i64.wrap x = x := by
  have e1 : IntKind.i64.bits = 64 := rfl
  have e2 : IntKind.i64.signed = true := rfl
  simp only [IntKind.wrap, e1, e2, Bool.true_and, decide_eq_true_eq]
  split <;> omega

attribute [go_sem] fin Int.lt_irrefl Nat.lt_irrefl List.length_nil List.length_cons List.nil_append List.cons_append List.append_nil Nat.zero_add Nat.add_zero Option.map_some List.take_nil List.take_zero List.take_succ_cons List.all_nil List.all_cons List.getElem?_cons_zero List.getElem?_cons_succ List.set_cons_zero List.set_cons_succ List.map_nil List.map_cons List.replicate_zero List.replicate_succ List.flatMap_nil List.flatMap_cons Bool.and_true Bool.true_and Bool.and_false Bool.false_and Bool.and_self Bool.not_true Bool.not_false Bool.xor_false Bool.false_xor Bool.true_xor decide_true decide_false and_self and_true true_and Option.map_none Nat.zero_mul Nat.mul_one

abbrev vi (n : Int) : V := .sc (.int .i64 n)
abbrev vb (b : Bool) : V := .sc (.bool b)
abbrev ci (n : Int) : C := .int .i64 n

attribute [go_sem] Int.toNat_natCast wrap_i64 List.length_map List.getElem?_map Option.map_some Option.map_none List.all_cons List.all_nil List.isEmpty_nil Bool.and_self Bool.true_and Bool.and_true
end Go.Pm

namespace Go.Pm
set_option linter.unusedSimpArgs false
open Go

section
variable {β : Type} (Γ : Env)

@[go_sem high] theorem E_draw0 (nal : Nat) (ops : List Oper) (keep : List Nat) (s : St) (Q : Ex → St → Option β) (hc : (ops.all fun o => o.conf.isEmpty) = true) :
    E Γ (.region nal ops true keep) s Q = R Γ s.h.length ops { t := s.t, h := s.h ++ List.replicate nal .free } fun s => Q .norm { t := restrict keep s.t, h := s.h } := by
  rw [E_draw]
  have key : ∀ (os : List Oper) (s : St) (l : List (Nat × Acc)) (k : St → Option β) (base : Nat), (os.all fun o => o.conf.isEmpty) = true → RT0 Γ base os s l k = R0 Γ base os s k := by
    intro os
    induction os with
    | nil => intros; rfl
    | cons o os ih =>
      intro s l k base hc
      obtain ⟨ix, d, op, g, cf⟩ := o
      simp only [List.all_cons, Bool.and_eq_true, List.isEmpty_iff] at hc
      obtain ⟨rfl, hc⟩ := hc
      unfold RT0 R0 P1
      simp only [List.all_nil, if_true, ih _ _ _ _ hc]
  exact key _ _ _ _ _ hc

@[go_sem] theorem obind_br {α : Type} (b : Bool) (x y : Option α) (f : α → Option β) : obind (br b x y) f = br b (obind x f) (obind y f) := by cases b <;> rfl

/-! ### Loops that seek -/
def findFrom {α : Type} (p : Nat → α → Bool) : Nat → List α → Option (Nat × α)
  | _, [] => none
  | n, x :: l => if p n x then some (n, x) else findFrom p (n + 1) l

theorem findFrom_none {α : Type} {p : Nat → α → Bool} : ∀ {l : List α} {n : Nat}, findFrom p n l = none ↔ ∀ i x, l[i]? = some x → p (n + i) x = false
  | [], _ => by simp [findFrom]
  | x :: l, n => by
    cases h : p n x with
    | true =>
      simp only [findFrom, h, if_true]
      constructor
      · intro h; cases h
      · intro hh; have := hh 0 x rfl; rw [Nat.add_zero, h] at this; cases this
    | false =>
      have := findFrom_none (p := p) (l := l) (n := n + 1)
      simp only [findFrom, h, Bool.false_eq_true, if_false]
      rw [this]
      constructor
      · intro hh i y hy
        cases i with
        | zero => simp at hy; subst hy; exact h
        | succ i => have := hh i y (by simpa using hy); rwa [show n + (i + 1) = n + 1 + i by omega]
      · intro hh i y hy
        have := hh (i + 1) y (by simpa using hy); rwa [show n + 1 + i = n + (i + 1) by omega]

theorem findFrom_some {α : Type} {p : Nat → α → Bool} : ∀ {l : List α} {n : Nat} {i : Nat} {x : α}, findFrom p n l = some (i, x) → n ≤ i ∧ l[i - n]? = some x ∧ p i x = true ∧ ∀ j y, j < i - n → l[j]? = some y → p (n + j) y = false
  | [], _, _, _, h => by cases h
  | y :: l, n, i, x, h => by
    cases hp : p n y with
    | true =>
      simp only [findFrom, hp, if_true, Option.some.injEq, Prod.mk.injEq] at h
      obtain ⟨rfl, rfl⟩ := h
      simp only [Nat.sub_self]
      exact ⟨Nat.le_refl _, rfl, hp, fun j y hj => by omega⟩
    | false =>
      simp only [findFrom, hp, Bool.false_eq_true, if_false] at h
      obtain ⟨h1, h2, h3, h4⟩ := findFrom_some h
      refine ⟨by omega, ?_, h3, ?_⟩
      · rw [show i - n = (i - (n + 1)) + 1 by omega]; simpa using h2
      · intro j z hj hz
        cases j with
        | zero => simp at hz; subst hz; exact hp
        | succ j =>
          have := h4 j z (by omega) (by simpa using hz)
          rwa [show n + (j + 1) = n + 1 + j by omega]

theorem E_find {Γ : Env} {α : Type} {keep : List Nat} {B : AC} (S : Nat → St) (l : List α) (p : Nat → α → Bool) (R : Nat → α → Ex × St) (T : Ex × St) (Q : Ex → St → Option β)
    (hstep : ∀ (i : Nat) x, l[i]? = some x → p i x = false → E Γ B (S i) (fun e s1 => match e with | .norm => trim keep (S i).h.length s1 | _ => none) = some (S (i + 1)))
    (hexit : ∀ (i : Nat) x, l[i]? = some x → p i x = true → E Γ B (S i) (fun e s1 => match e with | .norm => none | e => some (e, s1)) = some (R i x))
    (hend : E Γ B (S l.length) (fun e s1 => match e with | .norm => none | e => some (e, s1)) = some T) :
    E Γ (.loop keep B) (S 0) Q = match findFrom p 0 l with | some (i, x) => Q (R i x).1 (R i x).2 | none => Q T.1 T.2 := by
  rw [E_range (fun i (_ : Unit) => S i) l (fun i _ x => if p i x then .inr (R i x) else .inl ()) (fun _ => T) Q (fun i a x a' hx hf => by
      cases h : p i x with
      | true => simp [h] at hf
      | false => exact hstep i x hx h) (fun i a x r hx hf => by
      cases h : p i x with
      | true => simp only [h, if_true, Sum.inr.injEq] at hf; subst hf; exact hexit i x hx h
      | false => simp [h] at hf) (fun _ => hend) ()]
  have key : ∀ (m : List α) (n : Nat), goFold (fun i (_ : Unit) x => if p i x then .inr (R i x) else .inl ()) (fun _ => T) n () m = match findFrom p n m with | some (i, x) => R i x | none => T := by
    intro m
    induction m with
    | nil => intro n; rfl
    | cons x m ih =>
      intro n
      cases h : p n x with
      | true => simp [goFold, findFrom, h]
      | false => simp only [goFold, findFrom, h, Bool.false_eq_true, if_false]; exact ih (n + 1)
  rw [key]
  cases findFrom p 0 l <;> rfl

theorem E_count {Γ : Env} {σ : Type} {keep : List Nat} {B : AC} (m : Nat) (S : Nat → σ → St) (I : Nat → σ → Prop) (T : σ → Ex × St) {Q : Ex → St → Option β} {r : Option β} (a : σ)
    (h0 : I 0 a)
    (hstep : ∀ i a, i < m → I i a → ∃ a', I (i + 1) a' ∧ E Γ B (S i a) (fun e s1 => match e with | .norm => trim keep (S i a).h.length s1 | _ => none) = some (S (i + 1) a'))
    (hend : ∀ a, I m a → E Γ B (S m a) (fun e s1 => match e with | .norm => none | e => some (e, s1)) = some (T a))
    (hQ : ∀ a, I m a → Q (T a).1 (T a).2 = r) : E Γ (.loop keep B) (S 0 a) Q = r := by
  have main : ∀ (j i : Nat) (a : σ), i + j = m → I i a → ∃ b, I m b ∧ X Γ (.loop keep B) (S i a) = some (T b) := by
    intro j
    induction j with
    | zero =>
      intro i a hi hI
      obtain rfl : i = m := by omega
      exact ⟨a, hI, X_loop_exit (hend a hI)⟩
    | succ j ih =>
      intro i a hi hI
      obtain ⟨a', hI', hE⟩ := hstep i a (by omega) hI
      obtain ⟨b, hb, hX⟩ := ih (i + 1) a' (by omega) hI'
      exact ⟨b, hb, by rw [X_loop_next hE]; exact hX⟩
  obtain ⟨b, hb, hX⟩ := main m 0 a (by omega) h0
  rw [E_use hX]
  exact hQ b hb

theorem E_countS {Γ : Env} {σ : Type} {keep : List Nat} {B : AC} (m : Nat) (S : Nat → σ → St) (I : Nat → σ → Prop) (T : σ → Ex × St) {Q : Ex → St → Option β} {r : Option β} {s0 : St} (a : σ)
    (hs : s0 = S 0 a) (h0 : I 0 a)
    (hstep : ∀ i a, i < m → I i a → ∃ a', I (i + 1) a' ∧ E Γ B (S i a) (fun e s1 => match e with | .norm => trim keep (S i a).h.length s1 | _ => none) = some (S (i + 1) a'))
    (hend : ∀ a, I m a → E Γ B (S m a) (fun e s1 => match e with | .norm => none | e => some (e, s1)) = some (T a))
    (hQ : ∀ a, I m a → Q (T a).1 (T a).2 = r) : E Γ (.loop keep B) s0 Q = r := by
  subst hs; exact E_count m S I T a h0 hstep hend hQ

/-! ### Heaps of which the first part is not looked at -/
section
variable (h : List Obj) (l m : List Obj) (n p q k : Nat) (v : Obj)
theorem hget_lt (hp : p < h.length) : (h ++ l)[p]? = h[p]? := List.getElem?_append_left hp
theorem hget_ge (hn : h.length = n) : (h ++ l)[n + k]? = l[k]? := by rw [List.getElem?_append_right (by omega)]; congr 1; omega
theorem hget_eq (hn : h.length = n) : (h ++ l)[n]? = l[0]? := hget_ge h l n 0 hn
theorem hset_lt (hp : p < h.length) : (h ++ l).set p v = h.set p v ++ l := List.set_append_left _ _ hp
theorem hset_ge (hn : h.length = n) : (h ++ l).set (n + k) v = h ++ l.set k v := by rw [List.set_append_right _ _ (by omega)]; congr 2; omega
theorem hset_eq (hn : h.length = n) : (h ++ l).set n v = h ++ l.set 0 v := hset_ge h l n 0 v hn
theorem htake_ge (hn : h.length = n) : (h ++ l).take (n + k) = h ++ l.take k := by rw [List.take_append]; simp [hn, List.take_of_length_le]
theorem htake_eq (hn : h.length = n) : (h ++ l).take n = h := by rw [List.take_append]; simp [hn, List.take_of_length_le]
theorem hget_set (hp : p < h.length) : (h.set p v)[p]? = some v := by simp [hp]
theorem heapB : (∀ {α : Type} (a b c : List α), a ++ b ++ c = a ++ (b ++ c)) ∧ (∀ {α : Type} (a : α) (b c : List α), (a :: b) ++ c = a :: (b ++ c)) ∧ (∀ {α : Type} (a : List α), [] ++ a = a) ∧ (∀ {α : Type} (a b : List α), (a ++ b).length = a.length + b.length) ∧
    (∀ {α : Type} (a : α) (b : List α), (a :: b).length = b.length + 1) ∧ (∀ {α : Type}, ([] : List α).length = 0) ∧ (∀ {α : Type} (a : List α) (i : Nat) (x : α), (a.set i x).length = a.length) ∧
    (∀ (h l : List Obj) (p : Nat), p < h.length → (h ++ l)[p]? = h[p]?) ∧ (∀ (h l : List Obj) (n k : Nat), h.length = n → (h ++ l)[n + k]? = l[k]?) ∧ (∀ (h l : List Obj) (n : Nat), h.length = n → (h ++ l)[n]? = l[0]?) ∧
    (∀ (h l : List Obj) (p : Nat) (v : Obj), p < h.length → (h ++ l).set p v = h.set p v ++ l) ∧ (∀ (h l : List Obj) (n k : Nat) (v : Obj), h.length = n → (h ++ l).set (n + k) v = h ++ l.set k v) ∧ (∀ (h l : List Obj) (n : Nat) (v : Obj), h.length = n → (h ++ l).set n v = h ++ l.set 0 v) ∧
    (∀ (h l : List Obj) (n k : Nat), h.length = n → (h ++ l).take (n + k) = h ++ l.take k) ∧ (∀ (h l : List Obj) (n : Nat), h.length = n → (h ++ l).take n = h) ∧ (∀ (h : List Obj) (p : Nat) (v : Obj), p < h.length → (h.set p v)[p]? = some v) ∧
    (∀ {α : Type} (l : List α) (n : Nat) (a b : α), (l.set n a).set n b = l.set n b) ∧ (∀ {α : Type} (l m : List α) (f : α → Bool), (l ++ m).all f = (l.all f && m.all f)) ∧ (∀ a b c : Nat, a + b + c = a + (b + c)) ∧
    (∀ {α : Type} (a : α) (l : List α) (n : Nat), (a :: l).take (n + 1) = a :: l.take n) ∧ (∀ {α : Type} (l : List α), l.take 0 = []) ∧ (∀ {α : Type} (n : Nat), ([] : List α).take n = []) :=
  ⟨List.append_assoc, fun _ _ _ => rfl, fun _ => rfl, fun _ _ => List.length_append, fun _ _ => rfl, rfl, fun _ _ _ => List.length_set, hget_lt, hget_ge, hget_eq, fun h l p v => hset_lt h l p v, fun h l n k v => hset_ge h l n k v, fun h l n v => hset_eq h l n v, htake_ge, htake_eq, hget_set,
    fun _ _ _ _ => List.set_set .., fun _ _ _ => List.all_append, Nat.add_assoc, fun _ _ _ => rfl, fun _ => rfl, fun n => by simp⟩
theorem hget_set_ne (hp : p ≠ q) : (h.set p v)[q]? = h[q]? := by simp [hp]
theorem hall_set (f : Obj → Bool) (hh : h.all f = true) (hv : f v = true) : (h.set p v).all f = true := by
  simp only [List.all_eq_true] at *
  intro x hx
  rcases List.mem_or_eq_of_mem_set hx with hx | rfl
  · exact hh x hx
  · exact hv
end

mutual
theorem C.under_mono {n m : Nat} (hnm : n ≤ m) : ∀ c : C, C.under n c = true → C.under m c = true
  | .ptr r _, h => by simp only [C.under, decide_eq_true_eq] at *; omega
  | .map r, h => by simp only [C.under, decide_eq_true_eq] at *; omega
  | .msl r _ _ _ _, h => by simp only [C.under, decide_eq_true_eq] at *; omega
  | .stamp r _, h => by simp only [C.under, decide_eq_true_eq] at *; omega
  | .fn f _ first cap, h => by
    simp only [C.under, Bool.and_eq_true] at h ⊢
    refine ⟨⟨?_, C.underL_mono hnm first h.1.2⟩, C.underL_mono hnm cap h.2⟩
    cases f with
    | fn => rfl
    | yield l => have := h.1.1; simp only [decide_eq_true_eq] at this ⊢; omega
  | .int .., h => by simp [C.under] at *
  | .bool .., h => by simp [C.under] at *
  | .str .., h => by simp [C.under] at *
  | .sl .., h => by simpa [C.under] using h
  | .own .., h => by simpa [C.under] using h
  | .imap .., h => by simpa [C.under] using h
  | .eptr .., h => by simpa [C.under] using h
  | .nilf, h => by simp [C.under] at *
  | .nilp, h => by simp [C.under] at *
  | .nili, h => by simp [C.under] at *
  | .top, h => by simp [C.under] at *
theorem C.underL_mono {n m : Nat} (hnm : n ≤ m) : ∀ cs : List C, C.underL n cs = true → C.underL m cs = true
  | [], _ => rfl
  | c :: cs, h => by
    simp only [C.underL, Bool.and_eq_true] at h ⊢
    exact ⟨C.under_mono hnm c h.1, C.underL_mono hnm cs h.2⟩
end
mutual
theorem V.under_mono {n m : Nat} (hnm : n ≤ m) : ∀ v : V, v.under n = true → v.under m = true
  | .sc c, h => by simp only [V.under] at h ⊢; exact C.under_mono hnm c h
  | .agg cs, h => by simp only [V.under] at h ⊢; exact C.underL_mono hnm cs h
  | .tup vs, h => by simp only [V.under] at h ⊢; exact V.underVs_mono hnm vs h
theorem V.underVs_mono {n m : Nat} (hnm : n ≤ m) : ∀ vs : List V, V.underVs n vs = true → V.underVs m vs = true
  | [], _ => by simp [V.underVs]
  | v :: vs, h => by
    simp only [V.underVs, Bool.and_eq_true] at h ⊢
    exact ⟨V.under_mono hnm v h.1, V.underVs_mono hnm vs h.2⟩
end
theorem Obj.under_mono {n m : Nat} (hnm : n ≤ m) (o : Obj) (h : o.under n = true) : o.under m = true := by
  cases o with
  | var cs => exact C.underL_mono hnm cs h
  | loop st pend t ps a b =>
    simp only [Obj.under, List.all_eq_true] at *
    intro x hx; exact V.under_mono hnm _ (h x hx)
  | _ => rfl
theorem hall_mono (h : List Obj) (n k : Nat) (hh : h.all (Obj.under n) = true) : h.all (Obj.under (n + k)) = true := by
  simp only [List.all_eq_true] at *
  intro x hx; exact Obj.under_mono (by omega) x (hh x hx)

/-! ### Lists that grow in a variable -/
def ownC (es : Nat) (L : List (List C)) : C := match L with | [] => .sl .nil es [] | _ :: _ => .own es L
theorem appended_ownC (es : Nat) (L : List (List C)) (k : SK) (x : List C) (hr : L.length + 1 ≤ room) : appended es (.sc (ownC es L)) (.sc (.sl k es [x])) = some (ownC es (L ++ [x])) := by
  cases L with
  | nil => simp [ownC, appended, elems, room]
  | cons y L =>
    have : (y :: L).length + 1 ≤ room := hr
    simp only [List.length_cons] at this
    simp [ownC, appended, elems, this]
@[go_sem] theorem cells_ownC (es : Nat) (L : List (List C)) : (V.sc (ownC es L)).cells = [ownC es L] := by cases L <;> rfl
@[go_sem] theorem unown_ownC (es : Nat) (L : List (List C)) : (V.sc (ownC es L)).unown = .sc (unown (ownC es L)) := nrfl rfl
@[go_sem] theorem under_ownC (n es : Nat) (L : List (List C)) : C.under n (ownC es L) = true := by cases L <;> simp [ownC, C.under]
@[go_sem] theorem under_unown (n : Nat) (c : C) : C.under n (unown c) = C.under n c := by cases c <;> simp [unown, C.under]
@[go_sem] theorem pure_unown_ownC (es : Nat) (L : List (List C)) : C.pure (unown (ownC es L)) = true := by cases L <;> simp [ownC, unown, C.pure]
@[go_sem] theorem frz_unown_ownC (b : Nat) (h : List Obj) (n es : Nat) (L : List (List C)) : frz b h (n + 1) (unown (ownC es L)) = some (unown (ownC es L)) := by cases L <;> rfl
@[go_sem] theorem unown_unown (c : C) : unown (unown c) = unown c := by cases c <;> rfl
theorem set_same {α : Type} (l : List α) (p : Nat) (v : α) (h : l[p]? = some v) : l.set p v = l := by
  apply List.ext_getElem?
  intro i
  rw [List.getElem?_set]
  split
  · rename_i e; subst e
    split
    · exact h.symm
    · rename_i e; rw [List.getElem?_eq_none (by omega)]
  · rfl
theorem set_back {α : Type} (l : List α) (p q : Nat) (x v r : α) (hpq : p ≠ q) (h : l[p]? = some r) : ((l.set p x).set q v).set p r = l.set q v := by
  apply List.ext_getElem?
  intro i
  simp only [List.getElem?_set, List.length_set]
  by_cases h1 : p = i
  · subst h1
    have : p < l.length := by
      rw [List.getElem?_eq_some_iff] at h; exact h.1
    have h2 : ¬ q = p := fun e => hpq e.symm
    have h3 : l[p] = r := by rw [List.getElem?_eq_getElem this] at h; exact Option.some.inj h
    simp [h2, this, h3]
  · simp [h1]
theorem flatMap_length_le {α β : Type} (g : α → List β) (m : Nat) : ∀ (l : List α), (∀ x, x ∈ l → (g x).length ≤ m) → (l.flatMap g).length ≤ l.length * m
  | [], _ => by simp
  | x :: l, h => by
    have h1 := h x (by simp)
    have h2 := flatMap_length_le g m l (fun y hy => h y (by simp [hy]))
    simp only [List.flatMap_cons, List.length_append, List.length_cons, Nat.add_mul, Nat.one_mul]
    omega
theorem unown_pure (c : C) (h : c.pure = true) : unown c = c := by cases c <;> simp_all [unown, C.pure]
/-! Numbers in places. -/
def iv (t : List Int) : List C := t.map fun n => .int .i64 n
section
variable (t : List Int)
@[go_sem] theorem iv_len : (iv t).length = t.length := by simp [iv]
theorem iv_pure : C.pureL (iv t) = true := by
  induction t with
  | nil => rfl
  | cons n t ih => exact ih
@[go_sem] theorem iv_pure' : C.pureL (iv t) = true := iv_pure t
@[go_sem] theorem iv_under (n : Nat) : C.underL n (iv t) = true := pureL_underL0 n _ (iv_pure t)
@[go_sem] theorem iv_un : (iv t).map unown = iv t := by simp [iv, unown, Function.comp_def]
@[go_sem] theorem iv_set (i : Nat) (v : Int) : (iv t).set i (.int .i64 v) = iv (t.set i v) := by simp [iv, List.map_set]
theorem cellsAt_all : ∀ (cs : List C), cellsAt cs 0 cs.length = some cs
  | [] => rfl
  | c :: cs => by rw [List.length_cons, cellsAt_cons, cellsAt_all cs]; rfl
theorem iv_all (n : Nat) (h : t.length = n) : cellsAt (iv t) 0 n = some (iv t) := by
  have := cellsAt_all (iv t); rwa [iv_len, h] at this
theorem iv_at2 (i : Nat) (h : i + 2 ≤ t.length) : cellsAt (iv t) i 2 = some [.int .i64 (t.getD i 0), .int .i64 (t.getD (i + 1) 0)] := by
  rw [cellsAt_succ, cellsAt_succ]
  have h1 : (iv t)[i]? = some (.int .i64 (t.getD i 0)) := by simp [iv, List.getD, List.getElem?_eq_getElem (show i < t.length by omega)]
  have h2 : (iv t)[i + 1]? = some (.int .i64 (t.getD (i + 1) 0)) := by simp [iv, List.getD, List.getElem?_eq_getElem (show i + 1 < t.length by omega)]
  rw [h1, h2]; rfl
theorem iv_at1 (i : Nat) (h : i < t.length) : (iv t)[i]? = some (.int .i64 (t.getD i 0)) := by simp [iv, List.getD, List.getElem?_eq_getElem h]
end

/-! ### Maps -/

def looked (h : List Obj) (ok : Bool) (ty : KT) (z key m : V) : Option V :=
  match entries h ok ty z key m with
  | none => none
  | some (ka, va, l) => if fits ty key = false ∨ ka ≠ ty.agg ∨ z.isAgg ≠ va then none else match find ty.tags key.cells 0 l with
    | some (some (_, cs)) => (ofShape va cs).map fun v => if ok then .tup [v, .sc (.bool true)] else v
    | some none => some (if ok then .tup [z, .sc (.bool false)] else z)
    | none => none

@[go_sem] theorem P1_lookup (base : Nat) (d : Option Nat) (t : List (Nat × V)) (h : List Obj) (k : St → Option β) (ok : Bool) (ty : KT) (z : V) (m key : Rand) :
    P1 Γ base d (.lookup ok ty z m key) ⟨t, h⟩ k = obind (looked h ok ty z (rd Γ t key) (rd Γ t m)) fun v => k ⟨put1 d v t, h⟩ := by
  simp only [P1, perform, eff, looked]
  cases entries h ok ty z (rd Γ t key) (rd Γ t m) with
  | none => rfl
  | some q =>
    obtain ⟨ka, va, l⟩ := q
    simp only
    by_cases hc : fits ty (rd Γ t key) = false ∨ ka ≠ ty.agg ∨ z.isAgg ≠ va
    · simp only [if_pos hc]; rfl
    · simp only [if_neg hc]
      cases find ty.tags (rd Γ t key).cells 0 l with
      | none => rfl
      | some q => cases q with
        | none => rfl
        | some q =>
          obtain ⟨i, cs⟩ := q
          simp only
          cases ofShape va cs <;> rfl

/-! Maps from two numbers to a number. -/
def enc2 (l : List (Int × Int × Int)) : List (List C × List C) := l.map fun e => ([.int .i64 e.1, .int .i64 e.2.1], [.int .i64 e.2.2])
theorem enc2_len (l : List (Int × Int × Int)) : (enc2 l).length = l.length := by simp [enc2]
def has2 : List (Int × Int × Int) → Int → Int → Bool
  | [], _, _ => false
  | e :: l, a, b => (decide (a = e.1) && decide (b = e.2.1)) || has2 l a b
def got2 : List (Int × Int × Int) → Int → Int → Int
  | [], _, _ => 0
  | e :: l, a, b => if a = e.1 ∧ b = e.2.1 then e.2.2 else got2 l a b
def idx2 : List (Int × Int × Int) → Int → Int → Nat
  | [], _, _ => 0
  | e :: l, a, b => if a = e.1 ∧ b = e.2.1 then 0 else idx2 l a b + 1
def put2 : List (Int × Int × Int) → Int → Int → Int → List (Int × Int × Int)
  | [], a, b, v => [(a, b, v)]
  | e :: l, a, b, v => if a = e.1 ∧ b = e.2.1 then (e.1, e.2.1, v) :: l else e :: put2 l a b v

theorem keyEq2 (a b c d : Int) : keyEq [1, 1] [.int .i64 a, .int .i64 b] [.int .i64 c, .int .i64 d] = some (decide (a = c) && decide (b = d)) := by
  simp [keyEq, tagEq]
  rfl

theorem find2 (a b : Int) : ∀ (l : List (Int × Int × Int)) (n : Nat), find [1, 1] [.int .i64 a, .int .i64 b] n (enc2 l) = some (if has2 l a b then some (n + idx2 l a b, [.int .i64 (got2 l a b)]) else none)
  | [], n => rfl
  | e :: l, n => by
    show (match keyEq [1, 1] [.int .i64 a, .int .i64 b] [.int .i64 e.1, .int .i64 e.2.1] with | some true => some (some (n, [C.int .i64 e.2.2])) | some false => find [1, 1] [.int .i64 a, .int .i64 b] (n + 1) (enc2 l) | none => none) = _
    rw [keyEq2]
    by_cases h : a = e.1 ∧ b = e.2.1
    · simp [has2, got2, idx2, h]
    · have h' : (decide (a = e.1) && decide (b = e.2.1)) = false := by
        rw [Bool.eq_false_iff]; simpa using h
      simp only [h', has2, got2, idx2, if_neg h, Bool.false_or]
      rw [find2 a b l (n + 1)]
      cases has2 l a b <;> simp <;> omega

theorem got2_no : ∀ (l : List (Int × Int × Int)) (a b : Int), has2 l a b = false → got2 l a b = 0
  | [], _, _, _ => rfl
  | e :: l, a, b, h => by
    simp only [has2, Bool.or_eq_false_iff] at h
    have : ¬ (a = e.1 ∧ b = e.2.1) := by simpa using h.1
    simp only [got2, if_neg this]
    exact got2_no l a b h.2

theorem got2_put : ∀ (l : List (Int × Int × Int)) (a b v c d : Int), got2 (put2 l a b v) c d = if c = a ∧ d = b then v else got2 l c d
  | [], a, b, v, c, d => rfl
  | e :: l, a, b, v, c, d => by
    by_cases h : a = e.1 ∧ b = e.2.1
    · simp only [put2, if_pos h, got2]
      obtain ⟨rfl, rfl⟩ := h
      split <;> rfl
    · simp only [put2, if_neg h, got2, got2_put l]
      by_cases h2 : c = e.1 ∧ d = e.2.1
      · rw [if_pos h2, if_neg, if_pos h2]
        rintro ⟨rfl, rfl⟩; exact h ⟨h2.1, h2.2⟩
      · simp only [if_neg h2]

theorem idx2_lt : ∀ (l : List (Int × Int × Int)) (a b : Int), has2 l a b = true → idx2 l a b < l.length
  | [], _, _, h => by cases h
  | e :: l, a, b, h => by
    by_cases h2 : a = e.1 ∧ b = e.2.1
    · simp [idx2, h2]
    · have h' : (decide (a = e.1) && decide (b = e.2.1)) = false := by rw [Bool.eq_false_iff]; simpa using h2
      simp only [has2, h', Bool.false_or] at h
      simp only [idx2, if_neg h2, List.length_cons]
      have := idx2_lt l a b h
      omega

theorem put2_yes : ∀ (l : List (Int × Int × Int)) (a b v : Int), has2 l a b = true → setAt (idx2 l a b) [.int .i64 v] (enc2 l) = enc2 (put2 l a b v)
  | [], _, _, _, h => by cases h
  | e :: l, a, b, v, h => by
    by_cases h2 : a = e.1 ∧ b = e.2.1
    · simp [idx2, put2, h2, enc2, setAt]
    · have h' : (decide (a = e.1) && decide (b = e.2.1)) = false := by rw [Bool.eq_false_iff]; simpa using h2
      simp only [has2, h', Bool.false_or] at h
      have := put2_yes l a b v h
      simp only [idx2, put2, if_neg h2]
      simp only [setAt, enc2, List.map_cons, List.getElem?_cons_succ, List.set_cons_succ] at this ⊢
      split at this <;> simp_all

theorem put2_no : ∀ (l : List (Int × Int × Int)) (a b v : Int), has2 l a b = false → enc2 l ++ [([.int .i64 a, .int .i64 b], [.int .i64 v])] = enc2 (put2 l a b v)
  | [], _, _, _, _ => rfl
  | e :: l, a, b, v, h => by
    simp only [has2, Bool.or_eq_false_iff] at h
    have h2 : ¬ (a = e.1 ∧ b = e.2.1) := by simpa using h.1
    have := put2_no l a b v h.2
    simp only [put2, if_neg h2]
    simp only [enc2, List.map_cons, List.cons_append] at this ⊢
    rw [this]

@[go_sem] theorem looked_imap2 (h : List Obj) (l : List (Int × Int × Int)) (a b : Int) :
    looked h false ⟨true, [1, 1]⟩ (.sc (.int .i64 0)) (.agg [.int .i64 a, .int .i64 b]) (.sc (.imap true false (enc2 l))) = some (.sc (.int .i64 (got2 l a b))) := by
  have := find2 a b l 0
  simp only [looked, entries, fits, V.isAgg, V.cells, this, List.length_cons, List.length_nil]
  cases hh : has2 l a b with
  | true => simp [ofShape]
  | false => simp [got2_no l a b hh]

def lookedO (o : Option Obj) (ok : Bool) (ty : KT) (z key : V) : Option V := looked [o.getD .dead] ok ty z key (.sc (.map 0))
@[go_sem] theorem looked_map (h : List Obj) (p : Nat) (ok : Bool) (ty : KT) (z key : V) : looked h ok ty z key (.sc (.map p)) = lookedO (h[p]?) ok ty z key := by
  simp only [looked, lookedO, entries]
  cases h[p]? with
  | none => rfl
  | some o => cases o <;> rfl
@[go_sem] theorem lookedO_mk (ka va : Bool) (l : List (List C × List C)) (ok : Bool) (ty : KT) (z key : V) : lookedO (some (.map ka va l none)) ok ty z key = looked [] ok ty z key (.sc (.imap ka va l)) := nrfl rfl

def mentO (o : Option Obj) (ty : KT) (z key : V) (p : Nat) (h : List Obj) (f : V → List Obj → Option β) (_ : Tag f := .mk) : Option β :=
  match o with
  | some (.map ka va l none) => if fits ty key = false ∨ ka ≠ ty.agg ∨ proper va z = false then none else match find ty.tags key.cells 0 l with
    | some (some (i, _)) => f (.tup [.sc .top, .sc (.stamp p i)]) h
    | some none => if C.pureL key.cells ∧ C.pureL z.cells then f (.tup [.sc .top, .sc (.stamp p l.length)]) (h.set p (.map ka va l (some (key.cells, z.cells)))) else none
    | none => none
  | _ => none
def onMap (m : V) (f : Nat → Option β) (_ : Tag f := .mk) : Option β := match m with | .sc (.map p) => f p | _ => none
@[go_sem] theorem onMap_mk (p : Nat) (f : Nat → Option β) : onMap (.sc (.map p)) f = f p := nrfl rfl

@[go_sem] theorem P1_ment (base : Nat) (d : Option Nat) (t : List (Nat × V)) (h : List Obj) (k : St → Option β) (ty : KT) (z : V) (m key : Rand) :
    P1 Γ base d (.ment ty z m key) ⟨t, h⟩ k = onMap (rd Γ t m) fun p => mentO (h[p]?) ty z (rd Γ t key) p h fun v h' => k ⟨put1 d v t, h'⟩ := by
  simp only [P1, perform, eff]
  cases rd Γ t m with
  | sc c => cases c with
    | map p =>
      simp only [onMap_mk, mentO]
      cases h[p]? with
      | none => rfl
      | some o => cases o with
        | map ka va l ph => cases ph with
          | none =>
            simp only
            by_cases hc : fits ty (rd Γ t key) = false ∨ ka ≠ ty.agg ∨ proper va z = false
            · simp only [if_pos hc]; rfl
            · simp only [if_neg hc]
              cases find ty.tags (rd Γ t key).cells 0 l with
              | none => rfl
              | some q => cases q with
                | some q => rfl
                | none =>
                  by_cases hd : C.pureL (rd Γ t key).cells ∧ C.pureL z.cells
                  · simp only [if_pos hd]; rfl
                  · simp only [if_neg hd]; rfl
          | some _ => rfl
        | _ => rfl
    | _ => rfl
  | _ => rfl

@[go_sem] theorem mentO_yes (l : List (Int × Int × Int)) (a b : Int) (p : Nat) (h : List Obj) (f : V → List Obj → Option β) (hh : has2 l a b = true) :
    mentO (some (.map true false (enc2 l) none)) ⟨true, [1, 1]⟩ (.sc (.int .i64 0)) (.agg [.int .i64 a, .int .i64 b]) p h f = f (.tup [.sc .top, .sc (.stamp p (idx2 l a b))]) h := by
  have := find2 a b l 0
  simp [mentO, fits, V.isAgg, V.cells, proper, this, hh]
@[go_sem] theorem mentO_no (l : List (Int × Int × Int)) (a b : Int) (p : Nat) (h : List Obj) (f : V → List Obj → Option β) (hh : has2 l a b = false) :
    mentO (some (.map true false (enc2 l) none)) ⟨true, [1, 1]⟩ (.sc (.int .i64 0)) (.agg [.int .i64 a, .int .i64 b]) p h f =
      f (.tup [.sc .top, .sc (.stamp p l.length)]) (h.set p (.map true false (enc2 l) (some ([.int .i64 a, .int .i64 b], [.int .i64 0])))) := by
  have := find2 a b l 0
  simp [mentO, fits, V.isAgg, V.cells, proper, this, hh, C.pureL, C.pure, enc2_len]

def estoreO (o : Option Obj) (p : Nat) (s v : V) (f : Obj → Option β) (_ : Tag f := .mk) : Option β :=
  match o, s with
  | some (.map ka va l ph), .sc (.stamp q i) => if p ≠ q then none else if C.pureL v.cells ∧ proper va v then
      match ph with
      | none => if i < l.length then f (.map ka va (setAt i v.cells l) none) else none
      | some (k, _) => if i = l.length then f (.map ka va (l ++ [(k, v.cells)]) none) else none
    else none
  | _, _ => none

@[go_sem] theorem P1_estore (base : Nat) (d : Option Nat) (t : List (Nat × V)) (h : List Obj) (k : St → Option β) (m s v : Rand) :
    P1 Γ base d (.estore m s v) ⟨t, h⟩ k = onMap (rd Γ t m) fun p => estoreO (h[p]?) p (rd Γ t s) (rd Γ t v) fun o => k ⟨put1 d (.tup []) t, h.set p o⟩ := by
  simp only [P1, perform, eff]
  cases rd Γ t m with
  | sc c => cases c with
    | map p =>
      simp only [onMap_mk, estoreO]
      cases rd Γ t s with
      | sc c => cases c with
        | stamp q i =>
          by_cases hq : p = q
          · subst hq
            simp only [ne_eq, not_true_eq_false, if_false]
            cases h[p]? with
            | none => rfl
            | some o => cases o with
              | map ka va l ph =>
                simp only
                by_cases hc : C.pureL (rd Γ t v).cells ∧ proper va (rd Γ t v)
                · simp only [if_pos hc]
                  cases ph with
                  | none => by_cases h1 : i < l.length <;> simp [h1, setObjs] <;> rfl
                  | some kz => by_cases h1 : i = l.length <;> simp [h1, setObjs] <;> rfl
                · simp only [if_neg hc]; simp
              | _ => rfl
          · simp only [ne_eq, hq, not_false_eq_true, if_true]
            cases h[p]? with
            | none => rfl
            | some o => cases o <;> simp [hq]
        | _ => cases h[p]? with
            | none => rfl
            | some o => cases o <;> rfl
      | _ => cases h[p]? with
            | none => rfl
            | some o => cases o <;> rfl
    | _ => rfl
  | _ => rfl

@[go_sem] theorem estoreO_yes (l : List (Int × Int × Int)) (a b n : Int) (p : Nat) (f : Obj → Option β) (hh : has2 l a b = true) :
    estoreO (some (.map true false (enc2 l) none)) p (.sc (.stamp p (idx2 l a b))) (.sc (.int .i64 n)) f = f (.map true false (enc2 (put2 l a b n)) none) := by
  have h1 := idx2_lt l a b hh
  have h2 := put2_yes l a b n hh
  simp [estoreO, C.pureL, C.pure, V.cells, proper, V.isAgg, h1, h2, enc2_len]
@[go_sem] theorem estoreO_no (l : List (Int × Int × Int)) (a b n : Int) (z : List C) (p : Nat) (f : Obj → Option β) (hh : has2 l a b = false) :
    estoreO (some (.map true false (enc2 l) (some ([.int .i64 a, .int .i64 b], z)))) p (.sc (.stamp p l.length)) (.sc (.int .i64 n)) f = f (.map true false (enc2 (put2 l a b n)) none) := by
  have h2 := put2_no l a b n hh
  have h3 : l.length = (enc2 l).length := by simp [enc2]
  simp only [estoreO, C.pureL, C.pure, V.cells, proper, V.isAgg, ne_eq, not_true_eq_false, if_false, ← h2]
  simp [h3]

/-! ### Loops over functions -/
def onLoopEnd (o : Option Obj) (f : Ex → Option β) (_ : Tag f := .mk) : Option β :=
  match o with
  | some (.loop st pend _ _ _ _) => if st = .busy then none else f (pend.getD .norm)
  | _ => none
@[go_sem] theorem onLoopEnd_ready (t : List (Nat × V)) (ps : List Nat) (a b : AC) (f : Ex → Option β) : onLoopEnd (some (.loop .ready none t ps a b)) f = f .norm := nrfl rfl
@[go_sem] theorem onLoopEnd_done (e : Ex) (t : List (Nat × V)) (ps : List Nat) (a b : AC) (f : Ex → Option β) : onLoopEnd (some (.loop .done (some e) t ps a b)) f = f e := nrfl rfl
def onFk (k : Fk) (x : Option β) (_ : Tag x := .mk) : Option β := match k with | .fn _ => x | _ => none
@[go_sem] theorem onFk_fn (id : Nat) (x : Option β) : onFk (.fn id) x = x := nrfl rfl

@[go_sem] theorem E_rfunc (f : Rand) (ps : List Nat) (a b : AC) (t : List (Nat × V)) (h : List Obj) (Q : Ex → St → Option β) :
    E Γ (.rfunc f ps a b) ⟨t, h⟩ Q = obind (target (rd Γ t f) [.sc (.fn (.yield h.length) [] [] [])]) fun q => onFk q.1 (obind (K Γ q.1 q.2 (h ++ [.loop .ready none (unowned t) ps a b])) fun r =>
      onLoopEnd (r.2[h.length]?) fun e => br ((r.2.take h.length).all (Obj.under h.length)) (Q e ⟨t, r.2.take h.length⟩) none) := by
  unfold E
  rw [X_eq]
  simp only [execF]
  cases target (rd Γ t f) [.sc (.fn (.yield h.length) [] [] [])] with
  | none => rfl
  | some q =>
    obtain ⟨fk, vs⟩ := q
    cases fk with
    | yield l => rfl
    | fn id =>
      simp only [obind_some, onFk_fn]
      cases K Γ (.fn id) vs (h ++ [.loop .ready none (unowned t) ps a b]) with
      | none => rfl
      | some r =>
        obtain ⟨v, h'⟩ := r
        simp only [obind_some, onLoopEnd]
        cases h'[h.length]? with
        | none => rfl
        | some o => cases o with
          | loop st pend t' ps' a' b' =>
            simp only
            by_cases hb : st = .busy
            · simp only [if_pos hb]; rfl
            · simp only [if_neg hb]
              cases hc : (h'.take h.length).all (Obj.under h.length) with
              | true => simp [andThen]
              | false => simp [andThen]
          | _ => rfl

def onReady (o : Option Obj) (f : List (Nat × V) → List Nat → AC → AC → Option β) (_ : Tag f := .mk) : Option β := match o with | some (.loop .ready none t ps a b) => f t ps a b | _ => none
@[go_sem] theorem onReady_mk (t : List (Nat × V)) (ps : List Nat) (a b : AC) (f : List (Nat × V) → List Nat → AC → AC → Option β) : onReady (some (.loop .ready none t ps a b)) f = f t ps a b := nrfl rfl
def onBusy (o : Option Obj) (f : List (Nat × V) → List Nat → AC → AC → Option β) (_ : Tag f := .mk) : Option β := match o with | some (.loop .busy _ t ps a b) => f t ps a b | _ => none
@[go_sem] theorem onBusy_mk (t : List (Nat × V)) (ps : List Nat) (a b : AC) (f : List (Nat × V) → List Nat → AC → AC → Option β) : onBusy (some (.loop .busy none t ps a b)) f = f t ps a b := nrfl rfl
def stOf (e : Ex) : LS := if e = .norm then .ready else .done
def pendOf (e : Ex) : Option Ex := if e = .norm then none else some e
@[go_sem] theorem stOf_norm : stOf .norm = .ready := nrfl rfl
@[go_sem] theorem pendOf_norm : pendOf .norm = none := nrfl rfl
@[go_sem] theorem stOf_ret : stOf .ret = .done := nrfl rfl
@[go_sem] theorem pendOf_ret : pendOf .ret = some .ret := nrfl rfl
@[go_sem] theorem stOf_exit (n : Nat) : stOf (.exit n) = .done := nrfl rfl
@[go_sem] theorem pendOf_exit (n : Nat) : pendOf (.exit n) = some (.exit n) := nrfl rfl
@[go_sem] theorem setParams_cons (p : Nat) (ps : List Nat) (v : V) (vs : List V) (t : List (Nat × V)) : setParams (p :: ps) (v :: vs) t = setParams ps vs ((p, v) :: t) := nrfl rfl
@[go_sem] theorem setParams_nil (vs : List V) (t : List (Nat × V)) : setParams [] vs t = t := by cases vs <;> rfl
@[go_sem] theorem unowned_cons (p : Nat × V) (t : List (Nat × V)) : unowned (p :: t) = (p.1, p.2.unown) :: unowned t := nrfl rfl
@[go_sem] theorem unowned_nil : unowned [] = [] := nrfl rfl

theorem K_yield (l : Nat) (vs : List V) (h : List Obj) : K Γ (.yield l) vs h = onReady (h[l]?) fun t ps a b => br (decide (vs.length = ps.length)) (E Γ a ⟨setParams ps vs t, h⟩ fun e s => match e with
    | .norm => onReady (s.h[l]?) fun t1 ps1 a1 b1 => E Γ b ⟨s.t, s.h.set l (.loop .busy none t1 ps1 a1 b1)⟩ fun e s => onBusy (s.h[l]?) fun t' ps' a' b' =>
      br (((s.h.set l (.loop (stOf e) (pendOf e) t' ps' a' b')).take h.length).all (Obj.under h.length)) (some (.sc (.bool (decide (e = .norm))), (s.h.set l (.loop (stOf e) (pendOf e) t' ps' a' b')).take h.length)) none
    | _ => none) none := by
  rw [K_eq]
  simp only [callF, onReady]
  cases h[l]? with
  | none => rfl
  | some o => cases o with
    | loop st pend t ps a b =>
      cases st with
      | ready => cases pend with
        | some _ => rfl
        | none =>
          simp only
          by_cases hl : vs.length = ps.length
          · simp only [hl, ne_eq, not_true_eq_false, if_false, decide_true, br_true]
            unfold E andThen
            cases X Γ a { t := setParams ps vs t, h := h } with
            | none => rfl
            | some r =>
              obtain ⟨e, s⟩ := r
              cases e with
              | norm =>
                simp only
                cases s.h[l]? with
                | none => rfl
                | some o => cases o with
                  | loop st1 pend1 t1 ps1 a1 b1 =>
                    cases st1 with
                    | ready => cases pend1 with
                      | some _ => rfl
                      | none =>
                        simp only
                        cases X Γ b { t := s.t, h := s.h.set l (.loop .busy none t1 ps1 a1 b1) } with
                        | none => rfl
                        | some r =>
                          obtain ⟨e, s2⟩ := r
                          simp only [onBusy]
                          cases s2.h[l]? with
                          | none => rfl
                          | some o => cases o with
                            | loop st2 pend2 t2 ps2 a2 b2 =>
                              cases st2 with
                              | busy =>
                                simp only [stOf, pendOf]
                                cases hc : ((s2.h.set l (.loop (if e = .norm then .ready else .done) (if e = .norm then none else some e) t2 ps2 a2 b2)).take h.length).all (Obj.under h.length) with
                                | true => simp
                                | false => simp
                              | _ => rfl
                            | _ => rfl
                    | _ => rfl
                  | _ => rfl
              | _ => rfl
          · simp only [hl, ne_eq, not_false_eq_true, if_true, decide_false, br_false]
      | _ => rfl
    | _ => rfl
end
end Go.Pm

namespace Go.Pm
set_option linter.unusedSimpArgs false
theorem tbeq (b : Bool) : (true == b) = b := by cases b <;> rfl
theorem fbeq (b : Bool) : (false == b) = !b := by cases b <;> rfl
attribute [go_sem] tbeq fbeq Bool.not_true Bool.not_false
section
variable {β : Type}
def onAppM (es : Nat) (x y : V) (o : Option Obj) (p : Nat) (f : C → Option Obj → Option β) (_ : Tag f := .mk) : Option β :=
  match elems es y with
  | none => none
  | some m => match x with
    | .sc (.sl k es' l) => if es' = es then (match m with
      | [] => f (.sl k es l) none
      | _ :: _ => match o with
        | some .free => if k ≠ .shared ∧ l.length + m.length ≤ room then f (.msl p 0 (l.length + m.length) 0 es) (some (.var (l ++ m).flatten)) else none
        | _ => none) else none
    | _ => none
def putO (h : List Obj) (p : Nat) (o : Option Obj) : List Obj := match o with | none => h | some o => h.set p o
@[go_sem] theorem putO_none (h : List Obj) (p : Nat) : putO h p none = h := nrfl rfl
@[go_sem] theorem putO_some (h : List Obj) (p : Nat) (o : Obj) : putO h p (some o) = h.set p o := nrfl rfl
@[go_sem] theorem P1_appendM (Γ : Env) (base : Nat) (d : Option Nat) (t : List (Nat × V)) (h : List Obj) (k : St → Option β) (a es : Nat) (x y : Rand) :
    P1 Γ base d (.appendM a es x y) ⟨t, h⟩ k = onAppM es (rd Γ t x) (rd Γ t y) (h[base + a]?) (base + a) fun c w => k ⟨put1 d (.sc c) t, putO h (base + a) w⟩ := by
  simp only [P1, perform, eff, onAppM]
  cases elems es (rd Γ t y) with
  | none => rfl
  | some m =>
    simp only
    cases rd Γ t x with
    | sc c =>
      cases c with
      | sl kk es' l =>
        simp only
        by_cases he : es' = es
        · rw [if_pos he, if_pos he]
          cases m with
          | nil => rfl
          | cons e m =>
            simp only
            by_cases hf : h[base + a]? = some .free
            · have hi := isFree_iff.2 hf
              rw [hf]
              simp only [hi, true_and]
              by_cases hc : kk ≠ .shared ∧ l.length + (e :: m).length ≤ room
              · rw [if_pos hc, if_pos hc]; rfl
              · rw [if_neg hc, if_neg hc]; rfl
            · have hi : isFree h (base + a) = false := by cases e : isFree h (base + a) with | false => rfl | true => exact absurd (isFree_iff.1 e) hf
              simp only [hi, Bool.false_eq_true, false_and, if_false, Option.map_none]
              all_goals (split <;> first | (rename_i hh; exact absurd hh hf) | rfl)
        · simp [if_neg he]
      | _ => rfl
    | _ => rfl
theorem onAppM_new (es : Nat) (k : SK) (m : List (List C)) (p : Nat) (f : C → Option Obj → Option β) (hm : m ≠ []) (hr : m.length ≤ room) :
    onAppM es (.sc (.sl .full es [])) (.sc (.sl k es m)) (some .free) p f = f (.msl p 0 m.length 0 es) (some (.var m.flatten)) := by
  cases m with
  | nil => exact absurd rfl hm
  | cons e m => simp only [onAppM, elems, if_true, List.length_nil, Nat.zero_add, List.nil_append]; rw [if_pos ⟨by decide, hr⟩]
end

def flatC : C → Bool
  | .map _ => false
  | .msl _ _ _ _ _ => false
  | _ => true
theorem frozenCell_flat {c : C} (hc : flatC c = true) (n : Nat) (h : List Obj) : frozenCell (n + 1) c h = some (c, h) := by
  cases c <;> first | rfl | simp [flatC] at hc
theorem frozenCells_flat (h : List Obj) : ∀ (cs : List C) (n : Nat), cs.length < n → (∀ c, c ∈ cs → flatC c = true) → frozenCells n cs h = some (cs, h)
  | [], 0, hn, _ => by simp at hn
  | [], n + 1, _, _ => rfl
  | c :: cs, 0, hn, _ => by simp at hn
  | c :: cs, n + 1, hn, hc => by
    cases n with
    | zero => simp at hn
    | succ n =>
      simp only [frozenCells, frozenCell_flat (hc c (by simp)), frozenCells_flat h cs (n + 1) (by simp at hn ⊢; omega) (fun x hx => hc x (by simp [hx]))]
theorem frozenCells_cons {c c' : C} {cs cs' : List C} {n : Nat} {h h' h'' : List Obj} (h1 : frozenCell n c h = some (c', h')) (h2 : frozenCells n cs h' = some (cs', h'')) : frozenCells (n + 1) (c :: cs) h = some (c' :: cs', h'') := by
  simp only [frozenCells, h1, h2]
theorem frozenCells_app {a b b' : List C} {h h' : List Obj} : ∀ {n : Nat}, (∀ c, c ∈ a → flatC c = true) → frozenCells n b h = some (b', h') → n ≠ 0 → frozenCells (n + a.length) (a ++ b) h = some (a ++ b', h') := by
  induction a with
  | nil => intro n _ h2 _; simpa using h2
  | cons c a ih =>
    intro n hc h2 h0
    have := ih (n := n) (fun x hx => hc x (by simp [hx])) h2 h0
    obtain ⟨m, hm⟩ : ∃ m, n + a.length = m + 1 := ⟨n + a.length - 1, by omega⟩
    have e : n + (c :: a).length = (n + a.length) + 1 := by simp; omega
    rw [e]
    refine frozenCells_cons (h' := h) ?_ this
    rw [hm]
    exact frozenCell_flat (hc c (by simp)) m h
theorem frozenCell_msl {r len es n : Nat} {cs : List C} {l : List (List C)} {h : List Obj} (hr : h[r]? = some (.var cs)) (hc : cs.map unown = cs) (hf : ∀ c, c ∈ cs → flatC c = true) (hn : cs.length < n) (hp : C.pureL cs = true) (hl : chunks cs 0 es len = some l) :
    frozenCell (n + 1) (.msl r 0 len 0 es) h = some (.sl .shared es l, h.set r .dead) := by
  simp only [frozenCell, hr, hc, frozenCells_flat h cs n hn hf, hp, if_true, hl, Option.map_some]
  simp
end Go.Pm
