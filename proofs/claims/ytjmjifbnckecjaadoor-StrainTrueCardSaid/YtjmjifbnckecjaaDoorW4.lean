/- The plain machine, part 4. -/
import Derived.Test.YtjmjifbnckecjaaDoorW3
import Derived.Handed
import Derived.ChangeReads
import Derived.ChangeArms
import Derived.OpenShut
import Derived.ChangeSame
import Derived.ChangeShapes
import Derived.ChangeOld
import Derived.ChangeAt
import Derived.ChangeBook
import Derived.ChangeStays
import Derived.RowKit
import Derived.LaidMore
import Derived.LaidSub
import Derived.Stop.Joined
set_option linter.all false
set_option maxRecDepth 100000
namespace Go.Pm
section
variable {S : Seat} {G : List Nat}
theorem b5z {t : TypeId} {f : Nat -> Option (Nat × Nat)} (h : placesOf S t = some f) :
   (∃ fs, S.P.underlying t = some (.struct fs) /\ (∀ x ∈ fs, (S.P.info? x.type).isSome) /\ f = fun i => fs[i]?.map fun x => (x.offset, S.P.cellsOf x.type)) ∨
      (∃ len e, S.P.underlying t = some (.array len e) /\ (S.P.info? e).isSome /\ f = fun i => some (i * S.P.cellsOf e, S.P.cellsOf e)) := by
 unfold placesOf at h
 split at h
 . rename_i fs hu
   split at h
   . rename_i hall
     simp only [Option.some.injEq] at h
     exact .inl ⟨fs, hu, fun x hx => Array.all_eq_true_iff_forall_mem.1 hall x hx, h.symm⟩
   . cases h
 . rename_i n e hu
   split at h
   . rename_i hi
     simp only [Option.some.injEq] at h
     exact .inr ⟨n, e, hu, hi, h.symm⟩
   . cases h
 . cases h
theorem c3M {ty : KT} (h1 : ty.agg = false) (h2 : ty.tags = [0]) : ty = ⟨false, [0]⟩ := by
 cases ty
 simp_all
theorem b7U {o : Op} {o' : Go.Op} (h : mop S G o o' = true) : MOp S G o o' := by
 unfold mop at h
 split at h
 . exact .mv _ _ (b2e h)
 . exact .asg _ _ (b2e h)
 . simp only [Bool.and_eq_true] at h
   exact .pick _ _ _ _ _ _ (a0H h.1.1) (a0H h.1.2) (a0H h.2)
 . exact .alloc _ _ _ (b2w h)
 . exact .box _ _ _ _ (b2e h)
 . simp only [Bool.and_eq_true] at h
   obtain ⟨⟨h1, h2⟩, h3⟩ := h
   split at h3
   . rename_i f hf
     exact .build _ _ _ _ (b2w h1) ⟨f, of_decide_eq_true h3, b5z hf⟩ (a6r h2)
   . cases h3
 . split at h
   . rename_i e he
     simp only [Bool.and_eq_true, decide_eq_true_eq] at h
     obtain ⟨⟨⟨⟨⟨⟨h1, h2⟩, rfl⟩, h4⟩, h5⟩, h6⟩, h7⟩ := h
     exact .bslice _ _ _ _ _ _ e (a4F he) (a5w h1) (b2w h2) h4 h5 h6 (a6r h7)
   . cases h
 . rename_i es n z ps t l c
   split at h
   . rename_i e he
     split at h
     . rename_i i hi
       simp only [Bool.and_eq_true, decide_eq_true_eq, beq_iff_eq, List.isEmpty_iff] at h
       obtain ⟨⟨⟨⟨⟨⟨⟨h1, h2⟩, rfl⟩, rfl⟩, rfl⟩, h4⟩, h5⟩, h6⟩ := h
       exact .mkslice _ _ _ _ e i (a4F he) hi h1 (b2w h2) h4 h5 h6
     . cases h
   . cases h
 . split at h
   . rename_i e he
     simp only [Bool.and_eq_true, decide_eq_true_eq] at h
     obtain ⟨⟨⟨⟨⟨⟨h1, h2⟩, rfl⟩, h4⟩, h5⟩, h6⟩, h7⟩ := h
     exact .bmsl _ _ _ _ _ _ _ e (a4F he) (a5w h1) (b2w h2) h4 h5 h6 (a6r h7)
   . cases h
 . simp only [Bool.and_eq_true] at h
   exact .load _ _ _ _ (a0H h.1) (b0q h.2)
 . simp only [Bool.and_eq_true] at h
   exact .loadT _ _ _ (a0H h.1) (b0q h.2)
 . simp only [Bool.and_eq_true] at h
   exact .store _ _ _ _ _ _ (a0H h.1.1) (b2e h.1.2) (a5w h.2)
 . simp only [Bool.and_eq_true, decide_eq_true_eq] at h
   obtain ⟨⟨rfl, h1⟩, h2⟩ := h
   exact .bin _ _ _ _ _ _ _ (a0H h1) (a0H h2)
 . simp only [Bool.and_eq_true, decide_eq_true_eq, Bool.or_eq_true, Bool.not_eq_true'] at h
   obtain ⟨⟨⟨⟨⟨rfl, h1⟩, h2⟩, h3⟩, h4⟩, h5⟩ := h
   refine .eqf _ _ _ _ _ _ _ _ 20 (a0H h1) (a0H h2) (a4o h3) (by omega) ?_ h5
   rcases h4 with h4 | ⟨h4, h6⟩
   . exact .inl h4
   . exact .inr (c3M h4 h6)
 . simp only [Bool.and_eq_true, decide_eq_true_eq] at h
   obtain ⟨⟨rfl, h1⟩, h2⟩ := h
   split at h2
   . rename_i e hu; exact .isnil _ _ _ _ _ _ _ _ (a0H h1) hu (.inl ⟨rfl, rfl, _, rfl⟩)
   . rename_i e1 e2 e3 hu; exact .isnil _ _ _ _ _ _ _ _ (a0H h1) hu (.inr (.inl ⟨rfl, rfl, _, _, _, rfl⟩))
   . rename_i e hu; exact .isnil _ _ _ _ _ _ _ _ (a0H h1) hu (.inr (.inr ⟨rfl, rfl, _, rfl⟩))
   . cases h2
 . simp only [Bool.and_eq_true, decide_eq_true_eq] at h
   obtain ⟨rfl, h1⟩ := h
   exact .un _ _ _ _ (a0H h1)
 . simp only [Bool.and_eq_true] at h
   obtain ⟨h1, h2⟩ := h
   split at h2
   . rename_i k' k'' hd hs
     simp only [decide_eq_true_eq] at h2
     subst h2
     exact .conv _ _ _ _ _ _ (a0H h1) hd hs (by simp)
   . cases h2
 . simp only [Bool.and_eq_true, beq_iff_eq] at h
   obtain ⟨⟨rfl, h1⟩, h2⟩ := h
   rename_i id sh first cap first' cap'
   have := MOp.mkf (S := S) (G := G) id sh first cap first'.toList cap'.toList (a6r h1) (a6r h2)
   simpa using this
 . exact .mkmap _ _ _ _
 . simp only [Bool.and_eq_true] at h
   obtain ⟨⟨⟨⟨h1, h2⟩, h3⟩, h4⟩, h5⟩ := h
   split at h5
   . rename_i e he; exact .slice _ _ _ _ _ _ _ _ _ _ e (a0H h1) (a7n h2) (a7n h3) (a7n h4) (a4F he) (a5w h5)
   . cases h5
 . simp only [Bool.and_eq_true] at h
   obtain ⟨⟨⟨⟨h1, h2⟩, h3⟩, h4⟩, h5⟩ := h
   split at h5
   . rename_i n' e he
     simp only [Bool.and_eq_true, beq_iff_eq] at h5
     obtain ⟨rfl, h6⟩ := h5
     exact .slArr _ _ _ _ _ _ _ _ _ _ _ e (a0H h1) (a7n h2) (a7n h3) (a7n h4) (b0W he) (a5w h6)
   . cases h5
 . simp only [Bool.and_eq_true] at h
   obtain ⟨⟨⟨h1, h2⟩, h3⟩, h5⟩ := h
   exact .slStr _ _ _ _ _ _ _ (a0H h1) (a7n h2) (a7n h3) (b4z h5)
 . simp only [Bool.and_eq_true] at h
   obtain ⟨h1, h2⟩ := h
   split at h2
   . rename_i fs hfs
     split at h2
     . rename_i f hf
       simp only [Bool.and_eq_true, beq_iff_eq] at h2
       obtain ⟨h3, h4⟩ := h2
       split at h4
       . rename_i i hi; exact .faddr _ _ _ _ _ fs f (a0H h1) (b2X hfs) hf h3 ⟨i, hi, by simpa using h4⟩
       . cases h4
     . cases h2
   . cases h2
 . simp only [Bool.and_eq_true] at h
   obtain ⟨h1, h2⟩ := h
   split at h2
   . rename_i fs hfs
     split at h2
     . rename_i f hf
       simp only [Bool.and_eq_true, beq_iff_eq] at h2
       exact .field _ _ _ _ _ _ fs f (a0H h1) (b2X hfs) hf h2.1 (b0q h2.2)
     . cases h2
   . cases h2
 . simp only [Bool.and_eq_true] at h
   obtain ⟨⟨h1, h2⟩, h3⟩ := h
   split at h3
   . rename_i e he; exact .iaddr _ _ _ _ _ _ e (a0H h1) (a0H h2) (a4F he) (a5w h3)
   . cases h3
 . simp only [Bool.and_eq_true] at h
   obtain ⟨⟨h1, h2⟩, h3⟩ := h
   split at h3
   . rename_i n e he
     simp only [Bool.and_eq_true, beq_iff_eq] at h3
     obtain ⟨rfl, h4⟩ := h3
     exact .iarr _ _ _ _ _ _ _ e (a0H h1) (a0H h2) (b0W he) (a5w h4)
   . cases h3
 . simp only [Bool.and_eq_true] at h
   obtain ⟨⟨h1, h2⟩, h3⟩ := h
   split at h3
   . rename_i n e he
     simp only [Bool.and_eq_true, beq_iff_eq] at h3
     obtain ⟨⟨rfl, h4⟩, h5⟩ := h3
     exact .index _ _ _ _ _ _ _ _ e (a0H h1) (a0H h2) (b0W he) (a5w h4) (b0q h5)
   . cases h3
 . simp only [Bool.and_eq_true] at h
   exact .istr _ _ _ _ _ (a0H h.1.1) (a0H h.1.2) (b4z h.2)
 . simp only [Bool.and_eq_true, beq_iff_eq] at h
   obtain ⟨⟨⟨rfl, h1⟩, h2⟩, h3⟩ := h
   split at h3
   . rename_i k e he
     simp only [Bool.and_eq_true] at h3
     exact .lookup _ _ _ _ _ _ _ _ k e 20 (a0H h1) (a0H h2) (a5f he) (b5d h3.1) (a4o h3.2) (by omega)
   . cases h3
 . simp only [Bool.and_eq_true] at h
   obtain ⟨⟨h1, h2⟩, h3⟩ := h
   split at h3
   . rename_i k e he
     simp only [Bool.and_eq_true] at h3
     exact .ment _ _ _ _ _ _ _ k e 20 (a0H h1) (a0H h2) (a5f he) (b5d h3.1) (a4o h3.2) (by omega)
   . cases h3
 . simp only [Bool.and_eq_true] at h
   exact .estore _ _ _ _ _ _ _ (a0H h.1.1) (a0H h.1.2) (a0H h.2)
 . simp only [Bool.and_eq_true] at h
   obtain ⟨⟨⟨h1, h2⟩, h3⟩, h4⟩ := h
   split at h4
   . rename_i k e he; exact .mupd _ _ _ _ _ _ _ _ k e 20 (a0H h1) (a0H h2) (a0H h3) (a5f he) (a4o h4) (by omega)
   . cases h4
 . simp only [Bool.and_eq_true] at h
   obtain ⟨⟨⟨h1, h2⟩, h3⟩, h4⟩ := h
   split at h4
   . rename_i k e he; exact .ins _ _ _ _ _ _ _ _ k e 20 (a0H h1) (a0H h2) (a0H h3) (a5f he) (a4o h4) (by omega)
   . cases h4
 . exact .mkset _ _ _
 . exact .kset _ _ _
 . simp only [Bool.and_eq_true] at h
   obtain ⟨⟨h1, h2⟩, h3⟩ := h
   split at h3
   . rename_i k e he
     simp only [Bool.and_eq_true] at h3
     exact .slook _ _ _ _ _ _ k e 20 (a0H h1) (a0H h2) (a5f he) (b5d h3.1) (a4o h3.2) (by omega)
   . cases h3
 . simp only [Bool.and_eq_true] at h
   obtain ⟨⟨⟨h1, h2⟩, h3⟩, h4⟩ := h
   obtain rfl := b3f h3
   split at h4
   . rename_i k e he; exact .sadd _ _ _ _ _ _ k e 20 (a0H h1) (a0H h2) (a5f he) (a4o h4) (by omega)
   . cases h4
 . simp only [Bool.and_eq_true] at h
   obtain ⟨⟨⟨h1, h2⟩, h3⟩, h4⟩ := h
   obtain rfl := b3f h3
   split at h4
   . rename_i k e he; exact .sins _ _ _ _ _ _ k e 20 (a0H h1) (a0H h2) (a5f he) (a4o h4) (by omega)
   . cases h4
 . simp only [Bool.and_eq_true] at h
   obtain ⟨h1, h2⟩ := h
   split at h2
   . rename_i q he; exact .rng _ _ _ _ q.1 q.2 (a0H h1) (a5f he)
   . cases h2
 . simp only [Bool.and_eq_true, beq_iff_eq] at h
   obtain ⟨h1, rfl⟩ := h
   exact .ext _ _ _ (a0H h1)
 . exact .nilchk _ _ (a0H h)
 . rename_i b args ts
   split at h
   . rename_i k x x' t ha hts
     have ha' : args = #[x'] := Array.ext' ha
     have ht' : ts = #[t] := Array.ext' hts
     subst ha'; subst ht'
     simp only [Bool.and_eq_true] at h
     obtain ⟨h1, h2⟩ := h
     split at h2
     . rename_i hu; exact .len _ _ _ _ (a0H h1) (.inl ⟨rfl, hu⟩)
     . rename_i hu; exact .len _ _ _ _ (a0H h1) (.inr (.inl ⟨rfl, _, hu⟩))
     . rename_i hu; exact .len _ _ _ _ (a0H h1) (.inr (.inr ⟨rfl, _, _, hu⟩))
     . cases h2
   . rename_i n x' t ha hts
     have ha' : args = #[x'] := Array.ext' ha
     have ht' : ts = #[t] := Array.ext' hts
     subst ha'; subst ht'
     split at h
     . rename_i m e hu
       have : n = m := by simpa using h
       subst this
       exact .lenArr _ _ _ (.inl ⟨e, hu⟩)
     . rename_i p hu
       split at h
       . rename_i m e hp
         have : n = m := by simpa using h
         subst this
         exact .lenArr _ _ _ (.inr ⟨p, e, hu, hp⟩)
       . cases h
     . cases h
   . rename_i x xs x' xs' ha
     have ha' : args = (x' :: xs').toArray := Array.ext' (by simpa using ha)
     subst ha'
     simp only [Bool.and_eq_true] at h
     exact .min _ _ _ _ _ (a0H h.1) (a6r h.2)
   . rename_i x xs x' xs' ha
     have ha' : args = (x' :: xs').toArray := Array.ext' (by simpa using ha)
     subst ha'
     simp only [Bool.and_eq_true] at h
     exact .max _ _ _ _ _ (a0H h.1) (a6r h.2)
   . rename_i es x y x' y' t t2 ha hts
     have ha' : args = #[x', y'] := Array.ext' ha
     have ht' : ts = #[t, t2] := Array.ext' hts
     subst ha'; subst ht'
     simp only [Bool.and_eq_true] at h
     obtain ⟨⟨h1, h2⟩, h3⟩ := h
     obtain ⟨T⟩ := b3X h3
     exact .append _ _ _ _ _ _ _ (b2e h1) (a0H h2) T
   . rename_i a0 es x y x' y' t t2 ha hts
     have ha' : args = #[x', y'] := Array.ext' ha
     have ht' : ts = #[t, t2] := Array.ext' hts
     subst ha'; subst ht'
     simp only [Bool.and_eq_true] at h
     obtain ⟨⟨h1, h2⟩, h3⟩ := h
     obtain ⟨T⟩ := b3X h3
     exact .appendM _ _ _ _ _ _ _ _ (a0H h1) (a0H h2) T
   . cases h
 . rename_i p f args f' args' ts
   simp only [Bool.and_eq_true] at h
   have := MOp.call (S := S) (G := G) p f args f' args'.toList ts (a0H h.1) (a6r h.2)
   simpa using this
 . cases h
variable (S) (G) in
def mopL : Op -> Go.Op -> Bool
 | .late o, o' => o.plain && mop S G o o'
 | o, o' => mop S G o o'
theorem c1b {o : Op} {o' : Go.Op} (h : mopL S G o o' = true) : MOp S G o o' := by
 unfold mopL at h
 split at h
 . simp only [Bool.and_eq_true] at h
   exact .late _ _ h.1 (b7U h.2)
 . exact b7U h
end
end Go.Pm
namespace Go.Pm
section
variable (S : Seat) (G : List Nat) (nt : Nat)
def b6G (ops : Array Go.Oper) (o : Oper) (o' : Go.Oper) : Bool :=
 decide (o'.dst = o.dst) && (match o.dst with | some d => decide (d < nt) | none => true) && mopL S G o.op o'.op &&
 (match o.guard, o'.guard with
  | none, none => true
  | some (s, b), some (j, b') => b == b' && decide ((ops[j]?).bind (·.dst) = some s)
  | _, _ => false)
def a8O (ops : Array Go.Oper) : List Oper -> List Go.Oper -> Bool
 | [], [] => true
 | o :: os, o' :: os' => b6G S G nt ops o o' && a8O ops os os'
 | _, _ => false
def ancs : List Go.Oper -> List (List Nat) -> List (List Nat)
 | [], acc => acc
 | o :: os, acc => ancs os (acc ++ [(binds o ++ (binds o).flatMap fun k => acc.getD k []).eraseDups])
def b4g (ops : List Oper) (ops' : List Go.Oper) : Bool :=
 let an := ancs ops' []
 (List.range ops.length).all (fun i => match ops[i]? with | some o => o.ix == i | none => true) &&
 (List.range ops'.length).all (fun i => match ops'[i]? with
   | some o => (binds o).all (fun j => decide (j < i)) && (an.getD i []).all fun j => (binds o).contains j || (binds o).any fun k => (an.getD k []).contains j
   | none => true) &&
 (List.range ops.length).all (fun i => (List.range i).all fun j => (an.getD i []).contains j || (match ops[i]?, ops[j]? with
   | some a, some b => b0h a b
   | _, _ => true))
def b4x (it : Nat) (o : Go.Oper) : Bool := (match o.op with | .next (.tmp i) false => i == it | _ => false) && o.guard.isNone
def b2N (it : Nat) (o : Go.Oper) : Bool := (match o.op with | .entry (.tmp i) => i == it | _ => false) && o.guard.isNone
def b1R (i : Nat) (o : Go.Oper) : Bool := (match o.op with | .extract (.tmp j) 0 => j == i | _ => false) && o.guard.isNone
def b1o (keep : List Nat) (it dst n : Nat) (id : Nat) : Code -> Bool
 | .loop (.seq (.region _ ops3 false) (.seq (.cond (.tmp m) .skip (.exit id')) (.block _ (.seq (.region _ ops4 false) (.region _ ops5 false))))) =>
   (match ops3.toList, ops4.toList, ops5.toList with
    | [o0, o1], [a0, a1, a2, a3], [b0, b1, b2] =>
      (match o0.dst, o1.dst, a0.dst, a1.dst, a2.dst, b0.dst, b1.dst with
       | some nxt, some m', some pr, some ks, some bx, some u, some kv =>
         id' == id && m' == m && b4x it o0 && b1R nxt o1 && b2N it a0 && b1R pr a1 &&
         a8O S G nt #[a0, a1, a2, a3] [{ dst := some bx, op := .alloc 0 (List.replicate n (.int .i64 0)) }, { op := .store n (.t bx) (.t ks) }] [a2, a3] &&
         a8O S G nt #[b0, b1, b2] [{ dst := some u, op := .mv (.t dst) }, { dst := some kv, op := .load (some n) (.t bx) }, { op := .sadd n (.t u) (.t kv) }] [b0, b1, b2] &&
         C.a0v (List.replicate n (.int .i64 0)) && decide (0 < n) && decide ((it :: dst :: [nxt, m, pr, ks, bx, u, kv]).Nodup) && decide (nxt < nt /\ m < nt /\ pr < nt /\ ks < nt) &&
         keep.all (fun x => decide (x ∉ [nxt, m, pr, ks, bx, u, kv]))
       | _, _, _, _, _, _, _ => false)
    | _, _, _ => false)
 | _ => false
def a4m : AC -> AC
 | .frz _ a => a4m a
 | .frzc _ a => a4m a
 | a => a
def mc : Bool -> Code -> AC -> Bool
 | r, .scope y, a => mc r y a
 | r, .seq (.label _) y, a => mc r y a
 | r, .seq x y, a => (match a4m a with
   | .seq a b => mc r x a && mc r y b
   | _ => false)
 | _, .skip, a => (match a4m a with | .skip => true | _ => false)
 | _, .label _, a => (match a4m a with | .skip => true | _ => false)
 | r, .cond c x y, a => (match a4m a with
   | .cond c' a b => mr S G c' c && mc r x a && mc r y b
   | _ => false)
 | r, .block id x, a => (match a4m a with
   | .block id' a => id == id' && mc r x a
   | .union keep it dst n => b1o S G nt keep it dst n id x
   | _ => false)
 | r, .loop x, a => (match a4m a with
   | .loop _ a => mc r x a
   | _ => false)
 | _, .exit id, a => (match a4m a with | .exit id' => id == id' | _ => false)
 | _, .ret, a => (match a4m a with | .ret => true | _ => false)
 | _, .region _ ops' d, a => (match a4m a with
   | .region _ ops d' _ => d == d' && a8O S G nt ops' ops ops'.toList && (!d || b4g ops ops'.toList)
   | .stuck => true
   | _ => false)
 | r, .rangeFunc f' ps' x y, a => (match a4m a with
   | .rfunc f ps a b => !r && mr S G f f' && decide (ps = ps'.toList) && ps.all (fun p => decide (p < nt)) && mc true x a && mc true y b
   | _ => false)
 | _, _, _ => false
def mres (P : Program) : List (Nat × Option (Option Nat)) -> List ResultVar -> Bool
 | [], [] => true
 | (t, none) :: rs, .tmp t' :: rs' => t == t' && mres P rs rs'
 | (t, some n) :: rs, .cell t' ty :: rs' => t == t' && tsh P ty n && mres P rs rs'
 | _, _ => false
def c0f (f : Fn) (fn : Func) : Bool :=
 (match fn.body with | some c => mc S G f.nt false c f.body | none => false) && fn.ntmps == f.nt && decide (f.np <= f.nt) && fn.name != "runtime.NumGoroutine" && mres S.P f.res fn.results.toList
end
section
variable {S : Seat} {G : List Nat} {nt : Nat}
theorem b9k {ops : Array Go.Oper} {o : Oper} {o' : Go.Oper} (h : b6G S G nt ops o o' = true) : MOper S G nt ops o o' := by
 simp only [b6G, Bool.and_eq_true, decide_eq_true_eq] at h
 obtain ⟨⟨⟨h1, h2⟩, h3⟩, h4⟩ := h
 refine ⟨h1, fun d hd => by rw [hd] at h2; exact of_decide_eq_true h2, c1b h3, ?_⟩
 cases hg : o.guard with
 | none =>
   cases hg' : o'.guard with
   | none => trivial
   | some q => rw [hg, hg'] at h4; cases h4
 | some p =>
   obtain ⟨s, b⟩ := p
   cases hg' : o'.guard with
   | none => rw [hg, hg'] at h4; cases h4
   | some q =>
     obtain ⟨j, b'⟩ := q
     rw [hg, hg'] at h4
     simp only [Bool.and_eq_true, beq_iff_eq, decide_eq_true_eq] at h4
     exact h4
theorem a7m {ops : Array Go.Oper} : ∀ {os : List Oper} {os' : List Go.Oper}, a8O S G nt ops os os' = true -> a4M S G nt ops os os'
 | [], [], _ => trivial
 | o :: os, o' :: os', h => by
   simp only [a8O, Bool.and_eq_true] at h
   exact ⟨b9k h.1, a7m h.2⟩
 | [], _ :: _, h => by cases h
 | _ :: _, [], h => by cases h
theorem b7r {ops : List Oper} {ops' : List Go.Oper} (h : b4g ops ops' = true) : DrawOk ops ops' := by
 simp only [b4g, Bool.and_eq_true, List.all_eq_true, List.mem_range] at h
 obtain ⟨⟨h1, h2⟩, h3⟩ := h
 have g2 : ∀ (i : Nat) o, ops'[i]? = some o -> (∀ j ∈ binds o, j < i) /\ ∀ j ∈ (ancs ops' []).getD i [], j ∈ binds o \/ ∃ k ∈ binds o, j ∈ (ancs ops' []).getD k [] := fun i o hi => by
   have := h2 i (List.getElem?_eq_some_iff.1 hi).1
   rw [hi] at this
   simp only [Bool.and_eq_true, List.all_eq_true, decide_eq_true_eq, Bool.or_eq_true, List.contains_iff_mem, List.any_eq_true] at this
   exact this
 refine ⟨fun i o hi => ?_, fun i o hi => (g2 i o hi).1, fun i => (ancs ops' []).getD i [], fun i o hi => (g2 i o hi).2, fun i j a b hji ha hb hn => ?_⟩
 . have := h1 i (List.getElem?_eq_some_iff.1 hi).1
   rw [hi] at this
   simpa using this
 . have := h3 i (List.getElem?_eq_some_iff.1 ha).1 j hji
   rw [ha, hb] at this
   simp only [Bool.or_eq_true, List.contains_iff_mem] at this
   exact this.resolve_left hn
theorem a2N {r : Bool} {y : Code} : ∀ {a : AC}, MC S G nt r (a4m a) y -> MC S G nt r a y
 | .frz i a, h => .frz _ i a y (a2N (a := a) h)
 | .frzc i a, h => .frzc _ i a y (a2N (a := a) h)
 | .skip, h | .stuck, h | .union _ _ _ _, h | .region _ _ _ _, h | .seq _ _, h | .cond _ _ _, h | .block _ _, h | .loop _ _, h | .rfunc _ _ _ _, h | .exit _, h | .scope _, h | .ret, h => h
theorem b7E {it : Nat} {o : Go.Oper} (h : b4x it o = true) : o.op = .next (.tmp it) false /\ o.guard = none := by
 simp only [b4x, Bool.and_eq_true, Option.isNone_iff_eq_none] at h
 obtain ⟨h1, h2⟩ := h
 split at h1
 . rename_i i ho; rw [ho, beq_iff_eq.1 h1]; exact ⟨rfl, h2⟩
 . cases h1
theorem b6v {it : Nat} {o : Go.Oper} (h : b2N it o = true) : o.op = .entry (.tmp it) /\ o.guard = none := by
 simp only [b2N, Bool.and_eq_true, Option.isNone_iff_eq_none] at h
 obtain ⟨h1, h2⟩ := h
 split at h1
 . rename_i i ho; rw [ho, beq_iff_eq.1 h1]; exact ⟨rfl, h2⟩
 . cases h1
theorem b3e {it : Nat} {o : Go.Oper} (h : b1R it o = true) : o.op = .extract (.tmp it) 0 /\ o.guard = none := by
 simp only [b1R, Bool.and_eq_true, Option.isNone_iff_eq_none] at h
 obtain ⟨h1, h2⟩ := h
 split at h1
 . rename_i i ho; rw [ho, beq_iff_eq.1 h1]; exact ⟨rfl, h2⟩
 . cases h1
theorem b0o {ops : Array Go.Oper} {l : List Go.Oper} (h : ops.toList = l) : ops = l.toArray := by
 subst h; simp
theorem b5F {r : Bool} {keep : List Nat} {it dst n id : Nat} {x : Code} (h : b1o S G nt keep it dst n id x = true) : MC S G nt r (.union keep it dst n) (.block id x) := by
 unfold b1o at h
 split at h
 . split at h
   . rename_i e3 e4 e5
     split at h
     . rename_i d0 d1 d2 d3 d4 d5 d6
       simp only [Bool.and_eq_true, beq_iff_eq, decide_eq_true_eq, List.all_eq_true] at h
       obtain ⟨⟨⟨⟨⟨⟨⟨⟨⟨⟨⟨⟨rfl, rfl⟩, h0⟩, h1⟩, h2⟩, h3⟩, h4⟩, h5⟩, hp⟩, hn⟩, nd⟩, lt⟩, kp⟩ := h
       rw [b0o e3, b0o e4, b0o e5]
       obtain ⟨p0, g0⟩ := b7E h0
       obtain ⟨p1, g1⟩ := b3e h1
       obtain ⟨p2, g2⟩ := b6v h2
       obtain ⟨p3, g3⟩ := b3e h3
       exact .union r keep it dst n _ _ _ _ _ _ _ _ _ _ _ _ (List.replicate n (.int .i64 0)) _ _ _ _ _ _ _ _ _
         ⟨⟨p0, d0, g0⟩, ⟨p1, d1, g1⟩, ⟨p2, d2, g2⟩, ⟨p3, d3, g3⟩, a7m h4, a7m h5, by simp, hp, hn, nd, lt, kp⟩
     . cases h
   . cases h
 . cases h
theorem a6q : ∀ (y : Code) {r : Bool} {a : AC}, mc S G nt r y a = true -> MC S G nt r a y
 | .scope y, r, a, h => .scope _ _ _ (a6q y (by simpa only [mc] using h))
 | .seq (.label l) y, r, a, h => .seqLabel _ l _ _ (a6q y (by simpa only [mc] using h))
 | .skip, r, a, h => by
   simp only [mc] at h
   apply a2N
   split at h
   . rename_i h1; rw [h1]; exact .skip _
   . cases h
 | .label l, r, a, h => by
   simp only [mc] at h
   apply a2N
   split at h
   . rename_i h1; rw [h1]; exact .label _ _
   . cases h
 | .cond c x y, r, a, h => by
   simp only [mc] at h
   apply a2N
   split at h
   . rename_i h1
     simp only [Bool.and_eq_true] at h
     rw [h1]; exact .cond _ _ _ _ _ _ _ (a0H h.1.1) (a6q x h.1.2) (a6q y h.2)
   . cases h
 | .block id x, r, a, h => by
   simp only [mc] at h
   apply a2N
   split at h
   . rename_i h1
     simp only [Bool.and_eq_true, beq_iff_eq] at h
     obtain ⟨rfl, h2⟩ := h
     rw [h1]; exact .block _ _ _ _ (a6q x h2)
   . rename_i h1
     rw [h1]; exact b5F h
   . cases h
 | .loop x, r, a, h => by
   simp only [mc] at h
   apply a2N
   split at h
   . rename_i h1
     rw [h1]; exact .loop _ _ _ _ (a6q x h)
   . cases h
 | .exit id, r, a, h => by
   simp only [mc] at h
   apply a2N
   split at h
   . rename_i h1
     have := beq_iff_eq.1 h
     subst this
     rw [h1]; exact .exit _ _
   . cases h
 | .ret, r, a, h => by
   simp only [mc] at h
   apply a2N
   split at h
   . rename_i h1; rw [h1]; exact .ret _
   . cases h
 | .region id ops' d, r, a, h => by
   simp only [mc] at h
   apply a2N
   split at h
   . rename_i h1
     simp only [Bool.and_eq_true, beq_iff_eq, Bool.or_eq_true, Bool.not_eq_true'] at h
     obtain ⟨⟨rfl, h2⟩, h3⟩ := h
     rw [h1]
     cases d with
     | false => exact .region _ _ _ _ _ _ (a7m h2)
     | true => exact .draw _ _ _ _ _ _ (a7m h2) (b7r (h3.resolve_left (by simp)))
   . rename_i h1
     rw [h1]; exact .stuck _ _
   . cases h
 | .rangeFunc f' ps' x y, r, a, h => by
   simp only [mc] at h
   apply a2N
   split at h
   . rename_i h1
     simp only [Bool.and_eq_true, decide_eq_true_eq, Bool.not_eq_true', List.all_eq_true] at h
     obtain ⟨⟨⟨⟨⟨rfl, h2⟩, rfl⟩, h4⟩, h5⟩, h6⟩ := h
     rw [h1]
     have := MC.rfunc (S := S) (G := G) (nt := nt) _ f' ps'.toList _ _ x y (a0H h2) (a6q x h5) (a6q y h6) h4
     simpa using this
   . cases h
 | .goto l, r, a, h => by simp [mc] at h
 | .refuse w, r, a, h => by simp [mc] at h
 | .seq .skip y, r, a, h | .seq (.region _ _ _) y, r, a, h | .seq (.seq _ _) y, r, a, h | .seq (.cond _ _ _) y, r, a, h | .seq (.block _ _) y, r, a, h | .seq (.loop _) y, r, a, h | .seq (.rangeFunc _ _ _ _) y, r, a, h | .seq (.exit _) y, r, a, h
 | .seq (.scope _) y, r, a, h | .seq (.goto _) y, r, a, h | .seq .ret y, r, a, h | .seq (.refuse _) y, r, a, h => by
   unfold mc at h
   apply a2N
   split at h
   . rename_i h1
     simp only [Bool.and_eq_true] at h
     rw [h1]; exact .seq _ _ _ _ _ (a6q _ h.1) (a6q y h.2)
   . cases h
theorem b2S {P : Program} : ∀ {rs : List (Nat × Option (Option Nat))} {rs' : List ResultVar}, mres P rs rs' = true -> MRes P rs rs'
 | [], [], _ => trivial
 | (t, none) :: rs, .tmp t' :: rs', h => by
   simp only [mres, Bool.and_eq_true, beq_iff_eq] at h
   exact ⟨h.1, b2S h.2⟩
 | (t, some n) :: rs, .cell t' ty :: rs', h => by
   simp only [mres, Bool.and_eq_true, beq_iff_eq] at h
   exact ⟨h.1.1, b0q h.1.2, b2S h.2⟩
 | [], _ :: _, h => by cases h
 | (_, none) :: _, [], h => by cases h
 | (_, some _) :: _, [], h => by cases h
 | (_, none) :: _, .cell _ _ :: _, h => by cases h
 | (_, some _) :: _, .tmp _ :: _, h => by cases h
theorem a0w {id : Nat} {f : Fn} {fn : Func} (hf : S.P.funcs[S.fm id]? = some fn) (h : c0f S G f fn = true) : FnOk S G id f := by
 simp only [c0f, Bool.and_eq_true, beq_iff_eq, decide_eq_true_eq, bne_iff_ne, ne_eq] at h
 obtain ⟨⟨⟨⟨h1, h2⟩, h3⟩, h4⟩, h5⟩ := h
 split at h1
 . rename_i c hc
   exact ⟨fn, c, hf, hc, h4, h2, a6q c h1, h3, b2S h5⟩
 . cases h1
end
end Go.Pm
namespace Go.Pm
open Go.ChangeShapes Go.WideShapes Go.ChangeAt Go.RowKit
inductive T where
 | int (k : IntKind)
 | bool
 | str
 | sl (es : Nat) (e : T)
 | st (ts : List T)
mutual
def T.size : T -> Nat
 | .st ts => T.a6t ts
 | _ => 1
def T.a6t : List T -> Nat
 | [] => 0
 | t :: ts => T.size t + T.a6t ts
end
mutual
def T.flat : T -> Bool
 | .sl _ _ => false
 | .st ts => T.b0x ts
 | _ => true
def T.b0x : List T -> Bool
 | [] => true
 | t :: ts => T.flat t && T.b0x ts
end
mutual
def T.has : T -> List C -> Prop
 | .int k, cs => ∃ n, cs = [.int k n] /\ (Lit.int k n).wf = true
 | .bool, cs => ∃ b, cs = [.bool b]
 | .str, cs => ∃ s, cs = [.str s]
 | .sl es e, cs => cs = [.sl .nil es []] \/ ∃ k l, cs = [.sl k es l] /\ k ≠ .nil /\ l.length <= maxLen /\ ∀ x ∈ l, T.has e x
 | .st ts, cs => T.hasL ts cs
def T.hasL : List T -> List C -> Prop
 | [], cs => cs = []
 | t :: ts, cs => ∃ a b, cs = a ++ b /\ T.has t a /\ T.hasL ts b
end
def T.hasV (t : T) (v : V) : Prop :=
 match t with
 | .st ts => ∃ cl, v = .agg cl /\ T.hasL ts cl
 | t => ∃ c, v = .sc c /\ T.has t [c]
def a6Z : List T -> List V -> Prop
 | [], vs => vs = []
 | t :: ts, vs => ∃ v r, vs = v :: r /\ t.hasV v /\ a6Z ts r
mutual
theorem b5O : ∀ (t : T) (cs : List C), t.has cs -> cs.length = t.size
 | .int k, cs, h => by simp only [T.has] at h; obtain ⟨n, rfl, _⟩ := h; rfl
 | .bool, cs, h => by simp only [T.has] at h; obtain ⟨n, rfl⟩ := h; rfl
 | .str, cs, h => by simp only [T.has] at h; obtain ⟨n, rfl⟩ := h; rfl
 | .sl es e, cs, h => by simp only [T.has] at h; rcases h with rfl | ⟨k, l, rfl, _⟩ <;> rfl
 | .st ts, cs, h => by simp only [T.has] at h; simp only [T.size]; exact b4t ts cs h
theorem b4t : ∀ (ts : List T) (cs : List C), T.hasL ts cs -> cs.length = T.a6t ts
 | [], cs, h => by simp only [T.hasL] at h; subst h; rfl
 | t :: ts, cs, h => by
   simp only [T.hasL] at h
   obtain ⟨a, b, rfl, ha, hb⟩ := h
   rw [List.length_append, b5O t a ha, b4t ts b hb]; rfl
end
theorem b4P (a b : List C) : C.a0v (a ++ b) = (C.a0v a && C.a0v b) := by
 induction a with
 | nil => simp [C.a0v]
 | cons x xs ih => simp [C.a0v, ih, Bool.and_assoc]
mutual
theorem b4u : ∀ (t : T) (cs : List C), t.has cs -> C.a0v cs = true
 | .int k, cs, h => by simp only [T.has] at h; obtain ⟨n, rfl, _⟩ := h; rfl
 | .bool, cs, h => by simp only [T.has] at h; obtain ⟨n, rfl⟩ := h; rfl
 | .str, cs, h => by simp only [T.has] at h; obtain ⟨n, rfl⟩ := h; rfl
 | .sl es e, cs, h => by simp only [T.has] at h; rcases h with rfl | ⟨k, l, rfl, _⟩ <;> rfl
 | .st ts, cs, h => by simp only [T.has] at h; exact b3c ts cs h
theorem b3c : ∀ (ts : List T) (cs : List C), T.hasL ts cs -> C.a0v cs = true
 | [], cs, h => by simp only [T.hasL] at h; subst h; rfl
 | t :: ts, cs, h => by
   simp only [T.hasL] at h
   obtain ⟨a, b, rfl, ha, hb⟩ := h
   rw [b4P, b4u t a ha, b3c ts b hb]; rfl
end
section
variable (P : Program)
def a2V (f : TypeId -> T -> Bool) : Nat -> List Field -> List T -> Bool
 | _, [], [] => true
 | off, x :: xs, t :: ts => x.offset == off && P.cellsOf x.type == t.size && f x.type t && a2V f (off + t.size) xs ts
 | _, _, _ => false
def tyIs : Nat -> TypeId -> T -> Bool
 | 0, _, _ => false
 | d + 1, t, sh => P.cellsOf t == sh.size && (match P.underlying t, sh with
   | some (.int k), .int k' => decide (k = k')
   | some .bool, .bool => true
   | some .string, .str => true
   | some (.slice e), .sl es e' => P.cellsOf e == es && e'.size == es && decide (0 < es) && e'.flat && tyIs d e e'
   | some (.struct fs), .st ts => a2V P (tyIs d) 0 fs.toList ts
   | some (.array n e), .st ts => ts.length == n && ts.all fun x => P.cellsOf e == x.size && tyIs d e x
   | _, _ => false)
def a6V (d : Nat) : List TypeId -> List T -> Bool
 | [], [] => true
 | t :: ts, x :: xs => tyIs P d t x && a6V d ts xs
 | _, _ => false
end
def Cls (S : Seat) (g : Gh) (cl : List C) (cs : List Value) : Prop := cl.length = cs.length /\ ∀ (j : Nat) c v, cl[j]? = some c -> cs[j]? = some v -> RC S g c v
theorem Cls.append {S : Seat} {g : Gh} {a b : List C} {x y : List Value} (h : Cls S g a x) (k : Cls S g b y) : Cls S g (a ++ b) (x ++ y) := by
 refine ⟨by simp [h.1, k.1], fun j c v hc hv => ?_⟩
 by_cases hj : j < a.length
 . rw [List.getElem?_append_left hj] at hc
   rw [List.getElem?_append_left (by rw [← h.1]; exact hj)] at hv
   exact h.2 j c v hc hv
 . rw [List.getElem?_append_right (by omega)] at hc
   rw [List.getElem?_append_right (by rw [← h.1]; omega), ← h.1] at hv
   exact k.2 _ c v hc hv
theorem Cls.one {S : Seat} {g : Gh} {c : C} {v : Value} (h : RC S g c v) : Cls S g [c] [v] :=
 ⟨rfl, fun j c' v' a b => by
   rcases j with _ | j
   . simp at a b; subst a; subst b; exact h
   . simp at a⟩
section
variable {H : Type} {enc : TypeId × Value -> H} {S : Seat} {g : Gh} {w : World} {base : Nat} {sp : Nat -> Bool} {held : Bool}
def b0v (cs : List Value) : Prop := ∀ (j : Nat) (a : Addr) n c, cs[j]? = some (.slice (some a) n c) -> a.spot = none
theorem b0I {d : Nat} (ih : ∀ (t : TypeId) (sh : T) (fuel : Nat) (cs : List Value) x, tyIs S.P d t sh = true -> DataW.trod enc S.P w base sp held fuel t cs = some x -> (sh.flat = false -> b0v cs) -> ∃ cl, sh.has cl /\ Cls S g cl cs) {fuel : Nat} {cs : List Value} :
   ∀ (fs : List Field) (ts : List T) (off : Nat), a2V S.P (tyIs S.P d) off fs ts = true -> cs.length = off + T.a6t ts -> (T.b0x ts = false -> b0v cs) →
     (∀ f ∈ fs, ∃ x, DataW.trod enc S.P w base sp held fuel f.type ((cs.drop f.offset).take (S.P.cellsOf f.type)) = some x) -> ∃ cl, T.hasL ts cl /\ Cls S g cl (cs.drop off)
 | [], [], off, _, hl, _, _ => ⟨[], rfl, by simp only [T.a6t, Nat.add_zero] at hl; simp [← hl], fun j c v a => by simp at a⟩
 | f :: fs, t :: ts, off, h, hl, hs, hx => by
   simp only [a2V, Bool.and_eq_true, beq_iff_eq] at h
   obtain ⟨⟨⟨h1, h2⟩, h3⟩, h4⟩ := h
   obtain ⟨x, hx1⟩ := hx f (by simp)
   rw [h1, h2] at hx1
   simp only [T.a6t] at hl
   simp only [T.b0x, Bool.and_eq_false_iff] at hs
   obtain ⟨a, ha, hca⟩ := ih f.type t fuel _ x h3 hx1 (fun hf j ad n c hj => by
     rw [List.getElem?_take] at hj
     split at hj
     . rw [List.getElem?_drop] at hj; exact hs (.inl hf) _ ad n c hj
     . cases hj)
   obtain ⟨b, hb, hcb⟩ := b0I ih fs ts (off + t.size) h4 (by omega) (fun hf => hs (.inr hf)) (fun y hy => hx y (by simp [hy]))
   refine ⟨a ++ b, by simp only [T.hasL]; exact ⟨a, b, rfl, ha, hb⟩, ?_⟩
   have := hca.append hcb
   rwa [← List.drop_drop, List.take_append_drop] at this
 | [], _ :: _, _, h, _, _, _ => by simp [a2V] at h
 | _ :: _, [], _, h, _, _, _ => by simp [a2V] at h
theorem b1D {d : Nat} {e : TypeId} (ih : ∀ (t : TypeId) (sh : T) (fuel : Nat) (cs : List Value) x, tyIs S.P d t sh = true -> DataW.trod enc S.P w base sp held fuel t cs = some x -> (sh.flat = false -> b0v cs) -> ∃ cl, sh.has cl /\ Cls S g cl cs) {fuel : Nat} {cs : List Value} :
   ∀ (ts : List T) (n : Nat), (∀ x ∈ ts, S.P.cellsOf e = x.size /\ tyIs S.P d e x = true) -> cs.length = n * S.P.cellsOf e + T.a6t ts -> (T.b0x ts = false -> b0v cs) →
     (∀ i, n <= i -> i < n + ts.length -> ∃ x, DataW.trod enc S.P w base sp held fuel e ((cs.drop (i * S.P.cellsOf e)).take (S.P.cellsOf e)) = some x) -> ∃ cl, T.hasL ts cl /\ Cls S g cl (cs.drop (n * S.P.cellsOf e))
 | [], n, _, hl, _, _ => ⟨[], rfl, by simp only [T.a6t, Nat.add_zero] at hl; simp [← hl], fun j c v a => by simp at a⟩
 | t :: ts, n, h, hl, hs, hx => by
   obtain ⟨h2, h3⟩ := h t (by simp)
   obtain ⟨x, hx1⟩ := hx n (Nat.le_refl _) (by simp)
   simp only [T.a6t] at hl
   simp only [T.b0x, Bool.and_eq_false_iff] at hs
   obtain ⟨a, ha, hca⟩ := ih e t fuel _ x h3 hx1 (fun hf j ad m c hj => by
     rw [List.getElem?_take] at hj
     split at hj
     . rw [List.getElem?_drop] at hj; exact hs (.inl hf) _ ad m c hj
     . cases hj)
   obtain ⟨b, hb, hcb⟩ := b1D ih ts (n + 1) (fun y hy => h y (by simp [hy])) (by rw [Nat.add_mul, Nat.one_mul]; omega) (fun hf => hs (.inr hf)) (fun i h1 h2 => hx i (by omega) (by simp; omega))
   refine ⟨a ++ b, by simp only [T.hasL]; exact ⟨a, b, rfl, ha, hb⟩, ?_⟩
   have := hca.append hcb
   rw [Nat.add_mul, Nat.one_mul, ← List.drop_drop] at this
   rwa [List.take_append_drop] at this
theorem a3q (hM : ∀ b o, g.M b o = w.cell? ⟨b, o, none⟩) : ∀ (d : Nat) (t : TypeId) (sh : T) (fuel : Nat) (cs : List Value) x, tyIs S.P d t sh = true -> DataW.trod enc S.P w base sp held fuel t cs = some x -> (sh.flat = false -> b0v cs) →
   ∃ cl, sh.has cl /\ Cls S g cl cs
 | 0, _, _, _, _, _, h, _, _ => by simp [tyIs] at h
 | d + 1, t, sh, fuel, cs, x, h, hx, hs => by
   simp only [tyIs, Bool.and_eq_true, beq_iff_eq] at h
   obtain ⟨hsz, h⟩ := h
   split at h
   . rename_i k k' hu
     have := of_decide_eq_true h
     subst this
     obtain ⟨n, rfl, _, hw⟩ := DataW.trod_int hu hx
     exact ⟨[.int k n], by simp only [T.has]; exact ⟨n, rfl, hw⟩, .one (.int k n)⟩
   . rename_i hu
     obtain ⟨b, rfl, _⟩ := DataW.trod_bool hu hx
     exact ⟨[.bool b], by simp only [T.has]; exact ⟨b, rfl⟩, .one (.bool b)⟩
   . rename_i hu
     obtain ⟨s, rfl, _⟩ := DataW.trod_string hu hx
     exact ⟨[.str s], by simp only [T.has]; exact ⟨s, rfl⟩, .one (.str s)⟩
   . rename_i e es e' hu
     simp only [Bool.and_eq_true, beq_iff_eq, decide_eq_true_eq] at h
     obtain ⟨⟨⟨⟨h1, h2⟩, h3⟩, h4⟩, h5⟩ := h
     rcases DataW.trod_slice hu hx with ⟨rfl, _⟩ | ⟨a, len, cap, elems, rest, n, _, rfl, _, hb, hl, hm, hlen, hel, _, _⟩
     . exact ⟨[.sl .nil es []], by simp only [T.has]; exact .inl trivial, .one (.slNil es)⟩
     . have hspot := hs rfl 0 a len cap rfl
       obtain ⟨b, off, spot⟩ := a
       simp only at hspot
       subst hspot
       have each : ∀ i, ∃ cl, i < len -> e'.has cl /\ ∃ cs', w.cells? base (Addr.add ⟨b, off, none⟩ (i * es)) es = some cs' /\ Cls S g cl cs' := fun i => by
         by_cases hi : i < len
         . have h0 := hel i hi
           rw [h1] at h0
           rw [List.getElem?_eq_getElem (by omega)] at h0
           obtain ⟨cs', hc, ht⟩ := Option.bind_eq_some_iff.1 h0
           obtain ⟨cl, hcl, hcs⟩ := a3q hM d e e' n cs' _ h5 ht (fun hf => by rw [h4] at hf; cases hf)
           exact ⟨cl, fun _ => ⟨hcl, cs', hc, hcs⟩⟩
         . exact ⟨[], fun hh => absurd hh hi⟩
       obtain ⟨F, hF⟩ := Classical.axiomOfChoice each
       have hget : ∀ (i : Nat) (x : List C), ((List.range len).map F)[i]? = some x -> i < len /\ x = F i := fun i x hi => by
         rw [List.getElem?_map] at hi
         by_cases hil : i < len
         . rw [List.getElem?_range hil] at hi
           simp at hi
           exact ⟨hil, hi.symm⟩
         . rw [List.getElem?_eq_none (by simpa using hil)] at hi
           simp at hi
       have hlenF : ∀ i, i < len -> (F i).length = es := fun i hi => by rw [b5O _ _ (hF i hi).1, h2]
       refine ⟨[.sl (if cap = len then .full else .shared) es ((List.range len).map F)], ?_, .one ?_⟩
       . simp only [T.has]
         refine .inr ⟨_, _, rfl, by split <;> simp, by simp; omega, fun x hx => ?_⟩
         obtain ⟨i, hi, rfl⟩ := List.mem_map.1 hx
         exact (hF i (by simpa using hi)).1
       . have key := RC.sl (S := S) (g := g) (if cap = len then SK.full else SK.shared) es ((List.range len).map F) b off cap (fun i j => (w.cell? ⟨b, off + i * es + j, none⟩).getD undef) (by split <;> simp)
           (fun hk => by
             simp only [List.length_map, List.length_range]
             by_cases hcl : cap = len
             . exact hcl
             . rw [if_neg hcl] at hk; cases hk) (by simpa using hl)
           (fun i x hi => by obtain ⟨hi2, rfl⟩ := hget i x hi; exact hlenF i hi2) (fun i x hi => by obtain ⟨hi2, rfl⟩ := hget i x hi; exact b4u _ _ (hF i hi2).1)
           (fun i x j hi hj => by
             obtain ⟨hi2, rfl⟩ := hget i x hi
             obtain ⟨_, cs', hc, hcs⟩ := hF i hi2
             obtain ⟨_, hl', hc'⟩ := World.cells?_some hc
             have := hc' j hj
             rw [Addr.a2h, Addr.a2h] at this
             rw [hM, this, List.getElem?_eq_getElem (by omega)]; rfl)
           (fun i x j c hi hj => by
             obtain ⟨hi2, rfl⟩ := hget i x hi
             obtain ⟨_, cs', hc, hcs⟩ := hF i hi2
             obtain ⟨_, hl', hc'⟩ := World.cells?_some hc
             have hjl : j < es := by rw [← hlenF i hi2]; exact (List.getElem?_eq_some_iff.1 hj).1
             have := hc' j hjl
             rw [Addr.a2h, Addr.a2h] at this
             rw [this]
             have h6 : cs'[j]? = some (cs'[j]'(by omega)) := List.getElem?_eq_getElem _
             rw [h6]
             exact hcs.2 j c _ hj h6)
         simpa using key
   . rename_i fs ts hu
     obtain ⟨xs, n, _, _, hcl, hxl, hf⟩ := DataW.trod_struct hu hx
     simp only [T.flat] at hs
     simp only [T.size] at hsz
     obtain ⟨cl, h1, h2⟩ := b0I (S := S) (g := g) (fun t sh fuel cs x => a3q hM d t sh fuel cs x) (fuel := n) (cs := cs) fs.toList ts 0 h (by omega) hs (fun f hfm => by
       obtain ⟨i, hi⟩ := List.getElem?_of_mem hfm
       have hi' : i < xs.length := by rw [hxl]; have := (List.getElem?_eq_some_iff.1 hi).1; simpa using this
       have := hf i f (by simpa using hi)
       rw [List.getElem?_eq_getElem hi'] at this
       exact ⟨_, this⟩)
     exact ⟨cl, by simp only [T.has]; exact h1, by simpa using h2⟩
   . rename_i n e ts hu
     simp only [Bool.and_eq_true, beq_iff_eq, List.all_eq_true] at h
     obtain ⟨xs, m, _, _, hcl, hxl, hf⟩ := DataW.trod_array hu hx
     simp only [T.flat] at hs
     simp only [T.size] at hsz
     obtain ⟨cl, h1, h2⟩ := b1D (S := S) (g := g) (e := e) (fun t sh fuel cs x => a3q hM d t sh fuel cs x) (fuel := m) (cs := cs) ts 0 h.2 (by omega) hs (fun i _ hi => by
       have hi' : i < n := by omega
       have := hf i hi'
       rw [List.getElem?_eq_getElem (by omega)] at this
       exact ⟨_, this⟩)
     exact ⟨cl, by simp only [T.has]; exact h1, by simpa using h2⟩
   . cases h
theorem b6m {P : Program} {u : TypeId} {a : Addr} {n c : Nat} (h : Cell.okWide P w .any base u (.slice (some a) n c)) : a.spot = none := by
 unfold Cell.okWide at h
 cases hu : P.underlying u with
 | none => simp [hu, Cell.ok] at h
 | some d =>
   cases d <;> simp [hu, Cell.ok] at h
   exact h.2.2.2.1
theorem b6N (hM : ∀ b o, g.M b o = w.cell? ⟨b, o, none⟩) {d : Nat} {t : TypeId} {sh : T} {v : Value} {x : DataW H} {ps : List MemPlace} (h : tyIs S.P d t sh = true) (hx : DataW.Trod enc S.P w base sp held t v x ps)
   (hok : Value.okWide S.P w .any base t v) : ∃ y, sh.hasV y /\ RV S g y v := by
 obtain ⟨fuel, hx⟩ := hx
 have agg : (∃ fs, S.P.underlying t = some (.struct fs)) \/ (∃ n e, S.P.underlying t = some (.array n e)) -> ∃ cs, v = .agg cs /\ b0v cs.toList := fun hu => by
   have : ∃ cs, v = .agg cs /\ cs.size = S.P.cellsOf t /\ Row.okWide S.P w .any base t cs := by
     rcases hu with ⟨fs, hu⟩ | ⟨n, e, hu⟩ <;> simpa [Value.okWide, hu] using hok
   obtain ⟨cs, rfl, _, ts, _, _, hr⟩ := this
   refine ⟨cs, rfl, fun j a n c hj => ?_⟩
   obtain ⟨u, _, hu⟩ := hr j _ (by simpa using hj)
   exact b6m hu
 cases d with
 | zero => simp [tyIs] at h
 | succ d =>
   have h' := h
   simp only [tyIs, Bool.and_eq_true, beq_iff_eq] at h
   obtain ⟨hsz, h⟩ := h
   split at h
   . rename_i k k' hu
     have := of_decide_eq_true h
     subst this
     simp only [Value.okWide, hu] at hok
     cases v <;> simp [Cell.okWide, Cell.ok, hu] at hok
     obtain ⟨cl, h1, h2⟩ := a3q (S := S) (g := g) hM (d + 1) t _ fuel _ _ h' hx (by simp [T.flat])
     simp only [T.has] at h1
     obtain ⟨n, rfl, hw⟩ := h1
     exact ⟨.sc (.int k n), by simp only [T.hasV, T.has]; exact ⟨_, rfl, n, rfl, hw⟩, .sc _ _ (h2.2 0 _ _ rfl rfl)⟩
   . rename_i hu
     simp only [Value.okWide, hu] at hok
     cases v <;> simp [Cell.okWide, Cell.ok, hu] at hok
     obtain ⟨cl, h1, h2⟩ := a3q (S := S) (g := g) hM (d + 1) t _ fuel _ _ h' hx (by simp [T.flat])
     simp only [T.has] at h1
     obtain ⟨n, rfl⟩ := h1
     exact ⟨.sc (.bool n), by simp only [T.hasV, T.has]; exact ⟨_, rfl, n, rfl⟩, .sc _ _ (h2.2 0 _ _ rfl rfl)⟩
   . rename_i hu
     simp only [Value.okWide, hu] at hok
     cases v <;> simp [Cell.okWide, Cell.ok, hu] at hok
     obtain ⟨cl, h1, h2⟩ := a3q (S := S) (g := g) hM (d + 1) t _ fuel _ _ h' hx (by simp [T.flat])
     simp only [T.has] at h1
     obtain ⟨n, rfl⟩ := h1
     exact ⟨.sc (.str n), by simp only [T.hasV, T.has]; exact ⟨_, rfl, n, rfl⟩, .sc _ _ (h2.2 0 _ _ rfl rfl)⟩
   . rename_i e es e' hu
     simp only [Value.okWide, hu] at hok
     obtain ⟨p, n, c, rfl⟩ : ∃ p n c, v = .slice p n c := by
       cases v <;> first | exact ⟨_, _, _, rfl⟩ | simp [Cell.okWide, Cell.ok, hu] at hok
     obtain ⟨cl, h1, h2⟩ := a3q (S := S) (g := g) hM (d + 1) t _ fuel _ _ h' hx (fun _ j a n' c' hj => by
       rcases j with _ | j
       . simp [Value.cells] at hj
         obtain ⟨rfl, rfl, rfl⟩ := hj
         exact b6m hok
       . simp [Value.cells] at hj)
     have hl := h2.1
     have hone : ∃ c, cl = [c] := by
       simp only [T.has] at h1
       rcases h1 with rfl | ⟨k, l, rfl, _⟩ <;> exact ⟨_, rfl⟩
     obtain ⟨c0, rfl⟩ := hone
     exact ⟨.sc c0, by simp only [T.hasV]; exact ⟨c0, rfl, h1⟩, .sc _ _ (h2.2 0 _ _ rfl rfl)⟩
   . rename_i fs ts hu
     obtain ⟨cs, rfl, hsp⟩ := agg (.inl ⟨fs, hu⟩)
     obtain ⟨cl, h1, h2⟩ := a3q (S := S) (g := g) hM (d + 1) t _ fuel _ _ h' hx (fun _ => hsp)
     simp only [T.has] at h1
     exact ⟨.agg cl, by simp only [T.hasV]; exact ⟨cl, rfl, h1⟩, .agg cl cs (by simpa [Value.cells] using h2.1) fun j c v a b => h2.2 j c v a (by simpa [Value.cells] using b)⟩
   . rename_i n e ts hu
     obtain ⟨cs, rfl, hsp⟩ := agg (.inr ⟨n, e, hu⟩)
     obtain ⟨cl, h1, h2⟩ := a3q (S := S) (g := g) hM (d + 1) t _ fuel _ _ h' hx (fun _ => hsp)
     simp only [T.has] at h1
     exact ⟨.agg cl, by simp only [T.hasV]; exact ⟨cl, rfl, h1⟩, .agg cl cs (by simpa [Value.cells] using h2.1) fun j c v a b => h2.2 j c v a (by simpa [Value.cells] using b)⟩
   . cases h
theorem b3o (hM : ∀ b o, g.M b o = w.cell? ⟨b, o, none⟩) {d : Nat} : ∀ {ts : List TypeId} {shs : List T} {vs : List Value} {ds : List (DataW H)} {ps : List MemPlace}, a6V S.P d ts shs = true -> DataW.TrodAll enc S.P w base sp held ts vs ds ps →
   (∀ (j : Nat) t v, ts[j]? = some t -> vs[j]? = some v -> Value.okWide S.P w .any base t v) -> ∃ ys, a6Z shs ys /\ RVs S g ys vs
 | [], [], vs, ds, ps, _, h, _ => by
   obtain ⟨rfl, rfl, rfl⟩ := trodAll_nil h
   exact ⟨[], rfl, rfl, fun j v x a => by simp at a⟩
 | t :: ts, sh :: shs, vs, ds, ps, hp, h, hok => by
   simp only [a6V, Bool.and_eq_true] at hp
   obtain ⟨v, vs', x, ds', p, q, rfl, rfl, rfl, hv, hr⟩ := trodAll_cons h
   obtain ⟨y, hy, hyv⟩ := b6N (S := S) (g := g) hM hp.1 hv (hok 0 t v rfl rfl)
   obtain ⟨ys, hys, hl, hyvs⟩ := b3o hM hp.2 hr (fun j t v a b => hok (j + 1) t v (by simpa using a) (by simpa using b))
   refine ⟨y :: ys, ⟨y, ys, rfl, hy, hys⟩, by simp [hl], fun j a b h1 h2 => ?_⟩
   rcases j with _ | j
   . simp at h1 h2; subst h1; subst h2; exact hyv
   . exact hyvs j a b (by simpa using h1) (by simpa using h2)
 | [], _ :: _, _, _, _, hp, _, _ => by simp [a6V] at hp
 | _ :: _, [], _, _, _, hp, _, _ => by simp [a6V] at hp
def Gh.start (w : World) : Gh := { σ := fun _ => 0, A := fun _ => False, M := fun b o => w.cell? ⟨b, o, none⟩, N := fun b => match w.heap[b]? with | some (.map es n) => if n = es.size then some es else none | _ => none }
theorem b6X {G : List Nat} (hgl : ∀ id ∈ G, RC S (.start w) (.eptr (S.Γ.glob id) 0) (.pointer (some ⟨S.gm id, 0, none⟩))) : RelH S G (.start w) [] w where
 ob := fun r o h => by simp at h
 as := fun r h => h.elim
 lv := fun r o h => by simp at h
 inj := fun r r' o o' h => by simp at h
 im := fun b o v h => h
 mm := fun b es h => by
   simp only [Gh.start] at h
   split at h
   . rename_i es' n he
     split at h
     . rename_i hn
       simp only [Option.some.injEq] at h
       subst h
       exact ⟨n, he, hn⟩
     . cases h
   . cases h
 djM := fun r o h => by simp at h
 djN := fun r o h => by simp at h
 gl := hgl
 ex := fun r j r' j' b h => by obtain ⟨cs, es, l, vals, elem, fr, a, n, cap, h1, _⟩ := h; simp at h1
 cl := fun r j b r' o h => by obtain ⟨cs, es, l, vals, elem, fr, a, n, cap, h1, _⟩ := h; simp at h1
theorem a6Z.len : ∀ {ts : List T} {vs : List V}, a6Z ts vs -> vs.length = ts.length
 | [], vs, h => by simp only [a6Z] at h; subst h; rfl
 | t :: ts, vs, h => by
   simp only [a6Z] at h
   obtain ⟨v, r, rfl, _, hr⟩ := h
   simp [a6Z.len hr]
theorem b0Q : ∀ {ts : List TypeId} {vs : List Value} {ds : List (DataW H)} {ps : List MemPlace}, DataW.TrodAll enc S.P w base sp held ts vs ds ps -> ds.length = vs.length
 | [], vs, ds, ps, h => by obtain ⟨rfl, rfl, rfl⟩ := trodAll_nil h; rfl
 | t :: ts, vs, ds, ps, h => by
   obtain ⟨v, vs', x, ds', p, q, rfl, rfl, rfl, hv, hr⟩ := trodAll_cons h
   simp [b0Q hr]
theorem b0p {w' : World} (hs : ∀ b, b < w.heap.size -> w'.heap[b]? = w.heap[b]?) {sp' : Nat -> Bool} (hl : laidOutB S.P = true) : ∀ {ts : List TypeId} {vs : List Value} {ds : List (DataW H)} {ps : List MemPlace}, (∀ t ∈ ts, S.P.readableRec t = true /\ t < S.P.types.size) →
   DataW.TrodAll enc S.P w 0 (fun _ => true) true ts vs ds ps -> (∀ p ∈ ps, p.block < w.heap.size) -> (∀ p ∈ ps, sp' p.block = true) -> DataW.TrodAll enc S.P w' 0 sp' true ts vs ds ps
 | [], vs, ds, ps, _, h, _, _ => by obtain ⟨rfl, rfl, rfl⟩ := trodAll_nil h; rfl
 | t :: ts, vs, ds, ps, ht, h, hlt, hsp => by
   obtain ⟨v, vs', x, ds', p, q, rfl, rfl, rfl, ⟨n, hv⟩, hr⟩ := trodAll_cons h
   have ht1 := ht t (by simp)
   have same : ∀ z : MemPlace, z.block < w.heap.size -> w.sameAt w' z := fun z hz => by
     cases z with
     | cell b off => simp only [World.sameAt, World.cell?]; rw [hs b hz]
     | map b => exact hs b hz
   exact ⟨p, q, ⟨n, DataW.trod_stays (kids_book hl ht1.1) (book_sized ht1.1) (fun e => by cases e) ⟨ht1.2, book_self t⟩ hv (fun z hz => same z (hlt z (by simp [show z ∈ p from hz]))) fun z hz => hsp z (by simp [show z ∈ p from hz])⟩,
     b0p hs hl (fun t' h' => ht t' (by simp [h'])) hr (fun z hz => hlt z (by simp [hz])) (fun z hz => hsp z (by simp [hz])), rfl⟩
theorem b4C {G : List Nat} (hS : SeatOk S G) {id : Nat} {fn : Func} {s : ChangeSpec} {fresh : Bool} {tb : TypeId} (d : Nat) (shs : List T) (hps : a6V S.P d fn.params.toList shs = true) (hrd : (fn.params.toList.all fun t => S.P.readableRec t && decide (t < S.P.types.size)) = true)
   (hlo : laidOutB S.P = true) (hres : fn.resultTypes = #[tb]) (htb : S.P.underlying tb = some .bool) (hvars : s.vars = []) (hspec : ∀ ds : List (DataW H), ds.length = shs.length -> s.fn H ds = { results := [.lit (.bool true)], args := ds })
   (hK : ∀ vs, a6Z shs vs -> K S.Γ (.fn id) vs [] = some (.sc (.bool true), [])) {W : World} {args : Array Value} {ds gs : List (DataW H)} {before : List MemPlace}
   (hval : ∀ (j : Nat) t v, fn.params[j]? = some t -> args[j]? = some v -> Value.okWide S.P W .any base t v) (hW : DataW.Whole enc S.P fn.params.toList s.vars false W args.toList ds gs before)
   (hgl : ∀ id ∈ G, RC S (.start W) (.eptr (S.Γ.glob id) 0) (.pointer (some ⟨S.gm id, 0, none⟩))) :
   Calls S.P (S.fm id) args W fun e W' => ∃ v, e = .returned v /\ s.post enc S.P fn false fresh false false W args v W' := by
 have hW' := hW
 obtain ⟨p, q, hA, hV, rfl, hfz, hnd⟩ := hW
 rw [hvars] at hV
 obtain ⟨rfl, rfl⟩ := trodVars_none hV
 obtain ⟨ys, hys, hr⟩ := b3o (S := S) (g := .start W) (fun _ _ => rfl) (held := true) hps hA (fun j t v a b => hval j t v (by simpa using a) (by simpa using b))
 have hc := c3k hS (hK ys hys) (b6X hgl) hr
 refine hc.mono fun e w' ⟨x, g', he, hG, hx⟩ => ⟨x, he, ?_⟩
 obtain rfl : x = .bool true := by
   cases hx with
   | sc _ _ h => cases h; rfl
 have hsame : ∀ b, b < W.heap.size -> w'.heap[b]? = W.heap[b]? := fun b hb => hG.keeps.same b hb (by
   rintro ((⟨r, o, h, _⟩ | ⟨r, j, cs, es, l, vals, elem, fr, a, n, cap, h1, _⟩) | ⟨i, es, l, a, n, cap, h1, _⟩)
   . simp at h
   . simp at h1
   . simp [get] at h1)
 have hdl : ds.length = shs.length := by
   rw [b0Q hA, ← hys.len]
   exact hr.1.symm
 have hsp := hspec ds hdl
 simp only [List.all_eq_true, Bool.and_eq_true, decide_eq_true_eq] at hrd
 have hkeep := b0p (S := S) (enc := enc) (w' := w') hsame (sp' := fun b => decide (b < W.heap.size)) hlo hrd hA (fun z hz => hW'.lt z (by simpa using hz)) (fun z hz => by simpa using hW'.lt z (by simpa using hz))
 refine ⟨ds, [], p ++ [], [], p, [], hW', ?_, ?_, ?_, ?_, fun h => by cases h⟩
 . simp only [List.append_nil, hsp, hres]
   exact trodAll_mk1 ⟨1, by simp [DataW.trod, Value.cells, htb]⟩
 . simp only [List.append_nil, hsp]
   exact hkeep
 . rw [hvars]
   simp only [List.append_nil, hsp]
   rfl
 . refine ⟨hG.keeps.os, hG.keeps.out, fun i hi => ?_⟩
   rw [hsame i hi]
   exact (World.keptBut_refl W (fun z => z ∈ p ++ [] /\ (z ∈ [] \/ z ∈ p \/ z ∈ []))).2.2 i hi
end
end Go.Pm
namespace Go.Pm
section
variable {H : Type} {enc : TypeId × Value -> H} {S : Seat} {g : Gh} {w : World} {base : Nat} {sp : Nat -> Bool} {held : Bool}
theorem b0H {P : Program} {d : Nat} : ∀ (fs : List Field) (n off : Nat), a2V P (tyIs P d) off fs (List.replicate n (.int .i64)) = true -> ∀ (i : Nat) f, fs[i]? = some f -> f.offset = off + i /\ P.cellsOf f.type = 1 /\ P.underlying f.type = some (.int .i64)
 | [], n, off, _, i, f, hf => by simp at hf
 | x :: xs, 0, off, h, _, _, _ => by simp [a2V] at h
 | x :: xs, n + 1, off, h, i, f, hf => by
   simp only [List.replicate_succ, a2V, Bool.and_eq_true, beq_iff_eq] at h
   obtain ⟨⟨⟨h1, h2⟩, h3⟩, h4⟩ := h
   rcases i with _ | i
   . simp at hf
     subst hf
     refine ⟨h1, h2, ?_⟩
     cases d with
     | zero => simp [tyIs] at h3
     | succ d =>
       simp only [tyIs, Bool.and_eq_true] at h3
       have h5 := h3.2
       split at h5 <;> simp_all
   . have := b0H xs n _ h4 i f (by simpa using hf)
     simp only [T.size] at this
     exact ⟨by omega, this.2⟩
theorem b7C {d : Nat} {t : TypeId} {n fuel : Nat} {cs : List Value} {zs : List Int} {p : List MemPlace} (h : tyIs S.P d t (.st (List.replicate n (.int .i64))) = true)
   (hx : DataW.trod enc S.P w base sp held fuel t cs = some (.agg (zs.map fun z => .lit (.int .i64 z)), p)) : cs = zs.map (Value.int .i64 ·) := by
 have sz : ∀ n, T.a6t (List.replicate n (.int .i64)) = n := fun n => by
   induction n with
   | zero => rfl
   | succ n ih => simp only [List.replicate_succ, T.a6t, T.size, ih]; omega
 have main : ∀ (xs : List (DataW H × List MemPlace)) (m : Nat), DataW.agg (H := H) (zs.map fun z => .lit (.int .i64 z)) = .agg (xs.map (·.1)) -> cs.length = n -> xs.length = n →
     (∀ i, i < n -> ∃ ti, S.P.underlying ti = some (.int .i64) /\ DataW.trod enc S.P w base sp held m ti ((cs.drop i).take 1) = xs[i]?) -> cs = zs.map (Value.int .i64 ·) := fun xs m he hcl hxl hf => by
   simp only [DataW.agg.injEq] at he
   apply List.ext_getElem?
   intro i
   by_cases hi : i < n
   . obtain ⟨ti, hu, ht⟩ := hf i hi
     rw [List.getElem?_eq_getElem (by omega)] at ht
     obtain ⟨z, h1, h2, _⟩ := DataW.trod_int hu ht
     have h3 : (zs.map fun z => DataW.lit (H := H) (.int .i64 z))[i]? = some (xs[i]).1 := by rw [he]; simp [hxl, hi]
     rw [h2, List.getElem?_map] at h3
     cases hz : zs[i]? with
     | none => rw [hz] at h3; simp at h3
     | some z' =>
       rw [hz] at h3
       simp at h3
       subst h3
       rw [List.getElem?_map, hz]
       have : ((cs.drop i).take 1)[0]? = some (Value.int .i64 z') := by rw [h1]; rfl
       simpa [List.getElem?_take, List.getElem?_drop] using this
   . have : zs.length = n := by have := congrArg List.length he; simp at this; omega
     rw [List.getElem?_eq_none (by omega), List.getElem?_eq_none (by simp; omega)]
 cases d with
 | zero => simp [tyIs] at h
 | succ d =>
   simp only [tyIs, Bool.and_eq_true, beq_iff_eq, T.size, sz] at h
   obtain ⟨hsz, h⟩ := h
   split at h
   . rename_i e; cases e
   . rename_i e; cases e
   . rename_i e; cases e
   . rename_i e; cases e
   . rename_i fs ts hu e
     cases e
     obtain ⟨xs, m, _, he, hcl, hxl, hf⟩ := DataW.trod_struct hu hx
     have hfl : ∀ (fs : List Field) (k off : Nat), a2V S.P (tyIs S.P d) off fs (List.replicate k (.int .i64)) = true -> fs.length = k := fun fs => by
       induction fs with
       | nil => intro k off h; cases k with | zero => rfl | succ k => simp [List.replicate_succ, a2V] at h
       | cons x xs ih => intro k off h; cases k with | zero => simp [a2V] at h | succ k => simp only [List.replicate_succ, a2V, Bool.and_eq_true] at h; simp [ih k _ h.2]
     have hfs := hfl _ _ _ h
     have hfs' : fs.size = n := by simpa using hfs
     refine main xs m (Prod.mk.inj he).1 (by omega) (by omega) (fun i hi => ?_)
     have hfi : fs[i]? = some (fs[i]'(by omega)) := Array.getElem?_eq_getElem _
     obtain ⟨h1, h2, h3⟩ := b0H _ _ _ h i _ (by rw [Array.getElem?_toList]; exact hfi)
     have := hf i _ hfi
     rw [h1, h2, Nat.zero_add] at this
     exact ⟨_, h3, this⟩
   . rename_i n' e ts hu e'
     cases e'
     simp only [Bool.and_eq_true, beq_iff_eq, List.length_replicate, List.all_eq_true] at h
     obtain ⟨rfl, h⟩ := h
     obtain ⟨xs, m, _, he, hcl, hxl, hf⟩ := DataW.trod_array hu hx
     refine main xs m (Prod.mk.inj he).1 (by omega) (by omega) (fun i hi => ?_)
     have h0 := h (.int .i64) (List.mem_replicate.2 ⟨by omega, rfl⟩)
     have := hf i hi
     rw [h0.1] at this
     simp only [T.size, Nat.mul_one] at this
     refine ⟨e, ?_, this⟩
     have h3 := h0.2
     cases d with
     | zero => simp [tyIs] at h3
     | succ d =>
       simp only [tyIs, Bool.and_eq_true] at h3
       have h5 := h3.2
       split at h5 <;> simp_all
   . cases h
theorem b6s {t e : TypeId} {n fuel : Nat} {cs : List Value} {l : List (List UInt8 × FuncId)} {p : List MemPlace} {ps rs : Array TypeId} {va : Bool} (hu : S.P.underlying t = some (.array n e)) (he : S.P.underlying e = some (.func ps rs va)) (hc : S.P.cellsOf e = 1)
   (hsz : S.P.cellsOf t = n) (hl : (l.all fun x => !x.1.isEmpty && decide (((List.range S.P.funcs.size).filter fun f => (S.P.funcs[f]?).any (·.name.toUTF8.data.toList == x.1)) = [x.2])) = true)
   (hx : DataW.trod (funcToken S.P) S.P w base sp true fuel t cs = some (.agg (l.map fun x => .held x.1), p)) : cs = l.map fun x => Value.func (.func x.2) #[] #[] := by
 obtain ⟨xs, m, _, hagg, hcl, hxl, hf⟩ := DataW.trod_array hu hx
 have hagg := (Prod.mk.inj hagg).1
 simp only [DataW.agg.injEq] at hagg
 have hll : l.length = n := by have := congrArg List.length hagg; simp at this; omega
 apply List.ext_getElem?
 intro i
 by_cases hi : i < n
 . have ht := hf i hi
   rw [hc, Nat.mul_one, List.getElem?_eq_getElem (by omega)] at ht
   have hseg : (cs.drop i).take 1 = [cs[i]'(by omega)] := by rw [List.drop_eq_getElem_cons (by omega)]; rfl
   rw [hseg] at ht
   have h3 : (l.map fun x => DataW.held (H := List UInt8) x.1)[i]? = some (xs[i]).1 := by rw [hagg]; simp [hxl, hi]
   have hli : l[i]? = some (l[i]'(by omega)) := List.getElem?_eq_getElem _
   rw [List.getElem?_map, hli] at h3
   simp only [Option.map_some, Option.some.injEq] at h3
   have hm := List.all_eq_true.1 hl (l[i]'(by omega)) (List.getElem_mem _)
   simp only [Bool.and_eq_true, Bool.not_eq_true', decide_eq_true_eq] at hm
   cases hn : (l[i]'(by omega)).1 with
   | nil => rw [hn] at hm; simp at hm
   | cons b r =>
     have ht' : DataW.trod (funcToken S.P) S.P w base sp true m e [cs[i]'(by omega)] = some (.held (b :: r), (xs[i]'(by omega)).2) := by rw [ht, ← hn, h3]
     rw [hn] at hm
     have := func_of_trod he hm.2 ht'
     rw [List.getElem?_eq_getElem (by omega), List.getElem?_map, hli, this]
     rfl
 . rw [List.getElem?_eq_none (by omega), List.getElem?_eq_none (by simp; omega)]
theorem b5L {n : String} {b : Nat} {cs : Array Value} {cl : List C} (hg : S.P.globalNamed n = some b) (hv : w.var? S.P n = some cs) (hp : C.a0v cl = true) (hc : Cls S (.start w) cl cs.toList) : RC S (.start w) (.eptr cl 0) (.pointer (some ⟨b, 0, none⟩)) := by
 have hsz : cl.length = cs.size := by simpa using hc.1
 have := RC.eptr (S := S) (g := .start w) cl 0 b 0 (fun j => cs.getD j undef) hp (fun j hj => by
   simp only [Gh.start, Nat.zero_add]
   rw [World.var?_cell hg hv j]
   have : j < cs.size := by omega
   simp [Array.getD_eq_getD_getElem?, this]) (fun j c hj => by
   have hlt : j < cs.size := by have := (List.getElem?_eq_some_iff.1 hj).1; omega
   refine hc.2 j c _ hj ?_
   simp [Array.getD_eq_getD_getElem?, hlt])
 simpa using this
theorem b7H {P : Program} {n : String} {d : DataW Unit} {r : List (String × DataW Unit)} {ps : List MemPlace} (h : DataW.LaidVars P w ((n, d) :: r) ps) :
   (∃ g t cs fuel p, P.globalNamed n = some g /\ (P.globals[g]?).map (·.type) = some t /\ w.var? P n = some cs /\ DataW.trod (fun _ => ()) P w 0 (fun _ => true) false fuel t cs.toList = some (d, p)) /\ ∃ q, DataW.LaidVars P w r q := by
 obtain ⟨g, t, cs, fuel, p, q, h1, h2, h3, h4, h5, _⟩ := h
 exact ⟨⟨g, t, cs, fuel, p, h1, h2, h3, h4⟩, q, h5⟩
theorem b4B {P : Program} {n : String} {d : DataW Unit} : ∀ {l : List (String × DataW Unit)} {ps : List MemPlace}, DataW.LaidVars P w l ps -> (n, d) ∈ l →
   ∃ g t cs fuel p, P.globalNamed n = some g /\ (P.globals[g]?).map (·.type) = some t /\ w.var? P n = some cs /\ DataW.trod (fun _ => ()) P w 0 (fun _ => true) false fuel t cs.toList = some (d, p)
 | [], _, _, h => by simp at h
 | (n', d') :: l, ps, h, hm => by
   obtain ⟨h1, q, h2⟩ := b7H h
   rcases List.mem_cons.1 hm with e | hm
   . cases e; exact h1
   . exact b4B h2 hm
theorem b7x {n : String} {b t k d : Nat} {zs : List Int} {l : List (String × DataW Unit)} (h : laidMetH S.P l w) (hm : (n, .agg (zs.map fun z => .lit (.int .i64 z))) ∈ l) (hg : S.P.globalNamed n = some b) (ht : (S.P.globals[b]?).map (·.type) = some t)
   (hty : tyIs S.P d t (.st (List.replicate k (.int .i64))) = true) : RC S (.start w) (.eptr (zs.map (C.int .i64 ·)) 0) (.pointer (some ⟨b, 0, none⟩)) := by
 have h1 := (laidMetH_iff.1 h).1
 obtain ⟨ps, hl, _⟩ := h1
 obtain ⟨g, t', cs, fuel, p, k1, k2, k3, k4⟩ := b4B (n := n) (d := .agg (zs.map fun z => .lit (.int .i64 z))) hl (List.mem_filter.2 ⟨hm, rfl⟩)
 obtain rfl := Option.some.inj (hg.symm.trans k1)
 obtain rfl := Option.some.inj (ht.symm.trans k2)
 have := b7C hty k4
 refine b5L hg k3 (b0j.2 fun c hc => by obtain ⟨z, _, rfl⟩ := List.mem_map.1 hc; rfl) ?_
 rw [this]
 refine ⟨by simp, fun j c v a b => ?_⟩
 rw [List.getElem?_map] at a b
 cases hz : zs[j]? with
 | none => rw [hz] at a; cases a
 | some z => rw [hz] at a b; cases a; cases b; exact .int .i64 z
theorem b6t {n : String} {b t e k : Nat} {dd : DataW Unit} {ids : List Nat} {names : List (List UInt8)} {l : List (String × DataW Unit)} {ps rs : Array TypeId} {va : Bool} (h : laidMetH S.P l w) (hm : (n, .iface "func table" dd) ∈ l) (hg : S.P.globalNamed n = some b)
   (ht : (S.P.globals[b]?).map (·.type) = some t) (hu : S.P.underlying t = some (.array k e)) (he : S.P.underlying e = some (.func ps rs va)) (hc : S.P.cellsOf e = 1) (hsz : S.P.cellsOf t = k)
   (hd : dd.funcsOut = .agg (names.map .held)) (hlen : names.length = ids.length)
   (hl : ((names.zip (ids.map S.fm)).all fun x => !x.1.isEmpty && decide (((List.range S.P.funcs.size).filter fun f => (S.P.funcs[f]?).any (·.name.toUTF8.data.toList == x.1)) = [x.2])) = true) :
   RC S (.start w) (.eptr (ids.map fun i => C.fn (.fn i) [] [] []) 0) (.pointer (some ⟨b, 0, none⟩)) := by
 obtain ⟨g, t', cs, fuel, p, k1, k2, k3, k4⟩ := h.funcs hm
 obtain rfl := Option.some.inj (hg.symm.trans k1)
 obtain rfl := Option.some.inj (ht.symm.trans k2)
 rw [hd] at k4
 have e0 : (names.zip (ids.map S.fm)).map Prod.fst = names := List.map_fst_zip (by simp [hlen])
 have e1 : names.map DataW.held = ((names.zip (ids.map S.fm)).map fun x => DataW.held (H := List UInt8) x.1) :=
   (congrArg (List.map DataW.held) e0).symm.trans (List.map_map ..)
 rw [e1] at k4
 have := b6s hu he hc hsz hl k4
 refine b5L hg k3 (b0j.2 fun c hc => by obtain ⟨z, _, rfl⟩ := List.mem_map.1 hc; rfl) ?_
 rw [this]
 refine ⟨by simp [hlen], fun j c v a b => ?_⟩
 rw [List.getElem?_map] at a b
 cases hz : ids[j]? with
 | none => rw [hz] at a; cases a
 | some i =>
   have hj : j < ids.length := (List.getElem?_eq_some_iff.1 hz).1
   have hzip : (names.zip (ids.map S.fm))[j]? = some (names[j]'(by omega), S.fm i) := by
     rw [List.getElem?_zip_eq_some]
     exact ⟨List.getElem?_eq_getElem _, by rw [List.getElem?_map, hz]; rfl⟩
   rw [hz] at a
   rw [hzip] at b
   cases a
   cases b
   exact .fn i [] [] [] [] [] [] rfl rfl (fun j c v a => by simp at a) rfl (fun j c v a => by simp at a)
end
end Go.Pm
