/- The statement StrainLefts, part 6. -/
import Derived.Test.YtjmjifbnckecjaaDoorStrainLeftsL5
import Derived.Attr
set_option linter.all false
set_option maxRecDepth 100000
namespace Go.Pm
inductive Tag {α : Type} (a : α) : Type where
 | mk
inductive Tag2 {α β : Type} (a : α) (b : β) : Type where
 | mk
inductive Tag3 {α β γ : Type} (a : α) (b : β) (c : γ) : Type where
 | mk
def andThen {β : Type} (r : Option (Ex × St)) (Q : Ex -> St -> Option β) : Option β :=
 match r with
 | some (e, s) => Q e s
 | none => none
noncomputable def E {β : Type} (Γ : Env) (c : AC) (s : St) (Q : Ex -> St -> Option β) (_ : Tag2 c Q := .mk) : Option β := andThen (X Γ c s) Q
theorem nrfl {α : Sort _} {a b : α} (h : a = b) : a = b := h
noncomputable def P1 {β : Type} (Γ : Env) (base : Nat) (dst : Option Nat) (o : Op) (s : St) (k : St -> Option β) (_ : Tag3 dst o k := .mk) : Option β :=
 match perform (K Γ) base s.h (rd Γ s.t) o with
 | none => none
 | some (v, h) => k { t := put1 dst v (drop o.takes s.t), h := h }
noncomputable def R0 {β : Type} (Γ : Env) (base : Nat) : List Oper -> St -> (St -> Option β) -> Option β
 | [], s, k => k s
 | o :: os, s, k => match o.guard with
   | none => P1 Γ base o.dst o.op s fun s => R0 Γ base os s k
   | some (g, w) => match get s.t g with
     | .sc (.bool b) => if b = w then P1 Γ base o.dst o.op { t := (g, .sc (.bool w)) :: s.t, h := s.h } fun s => R0 Γ base os s k else R0 Γ base os { t := put1 o.dst (.tup []) ((g, .sc (.bool !w)) :: s.t), h := s.h } k
     | .tup [] => R0 Γ base os { t := put1 o.dst (.tup []) s.t, h := s.h } k
     | _ => none
noncomputable def R {β : Type} (Γ : Env) (base : Nat) (os : List Oper) (s : St) (k : St -> Option β) (_ : Tag2 os k := .mk) : Option β := R0 Γ base os s k
def Same (s s' : St) : Prop := (∀ i, get s.t i = get s'.t i) /\ s.h = s'.h
theorem Same.refl (s : St) : Same s s := ⟨fun _ => rfl, rfl⟩
theorem Same.rd {Γ : Env} {s s' : St} (h : Same s s') (x : Rand) : rd Γ s.t x = rd Γ s'.t x := by
 cases x <;> simp only [Pm.rd] <;> rw [h.1]
theorem Same.put {s s' : St} (h : Same s s') (d : Option Nat) (v : V) (k : List Obj) : Same { t := put1 d v s.t, h := k } { t := put1 d v s'.t, h := k } := by
 refine ⟨fun i => ?_, rfl⟩
 cases d with
 | none => exact h.1 i
 | some d => simp only [put1, get]; rw [h.1]
theorem Same.drop {s s' : St} (h : Same s s') : ∀ (l : List Nat) (k : List Obj), Same { t := drop l s.t, h := k } { t := drop l s'.t, h := k }
 | [], k => ⟨h.1, rfl⟩
 | j :: l, k => by
   have : Same { t := (j, (get s.t j).a0r) :: s.t, h := k } { t := (j, (get s'.t j).a0r) :: s'.t, h := k } := ⟨fun i => by simp only [get]; rw [h.1, h.1], rfl⟩
   exact Same.drop this l k
theorem Same.learn {s : St} {g : Nat} {v : V} (h : get s.t g = v) : Same s { t := (g, v) :: s.t, h := s.h } := ⟨fun i => by
 simp only [get]
 split
 . rename_i e; subst e; exact h
 . rfl, rfl⟩
theorem Same.put' {s s' : St} (h : Same s s') (d : Option Nat) (v : V) (l : List Nat) (k : List Obj) : Same { t := put1 d v (Pm.drop l s.t), h := k } { t := put1 d v (Pm.drop l s'.t), h := k } :=
 (h.drop l k).put d v k
theorem a7D {β : Type} {Γ : Env} {base : Nat} {d : Option Nat} {o : Op} {s s' : St} {k : St -> Option β} (hk : ∀ s s', Same s s' -> k s = k s') (h : Same s s') : P1 Γ base d o s k = P1 Γ base d o s' k := by
 have hp : perform (K Γ) base s.h (rd Γ s.t) o = perform (K Γ) base s'.h (rd Γ s'.t) o := by
   rw [h.2]; exact congrArg (fun r => perform (K Γ) base s'.h r o) (funext fun x => h.rd x)
 unfold P1
 rw [hp]
 cases perform (K Γ) base s'.h (rd Γ s'.t) o with
 | none => rfl
 | some q => exact hk _ _ (h.put' _ _ _ _)
theorem a8E {β : Type} {Γ : Env} {base : Nat} : ∀ {os : List Oper} {s s' : St} {k : St -> Option β}, (∀ s s', Same s s' -> k s = k s') -> Same s s' -> R0 Γ base os s k = R0 Γ base os s' k
 | [], s, s', k, hk, h => hk _ _ h
 | o :: os, s, s', k, hk, h => by
   unfold R0
   cases o.guard with
   | none => exact a7D (fun _ _ h => a8E hk h) h
   | some p =>
     obtain ⟨g, w⟩ := p
     have lrn : ∀ v, Same { t := (g, v) :: s.t, h := s.h } { t := (g, v) :: s'.t, h := s'.h } := fun v => ⟨fun i => by simp only [get]; rw [h.1], h.2⟩
     simp only
     rw [h.1 g]
     cases get s'.t g with
     | sc c => cases c with
       | bool b =>
         simp only
         by_cases hb : b = w
         . rw [if_pos hb, if_pos hb]; exact a7D (fun _ _ h => a8E hk h) (lrn _)
         . rw [if_neg hb, if_neg hb]; refine a8E hk ?_; rw [h.2]; exact (lrn _).put _ _ _
       | _ => rfl
     | agg => rfl
     | tup vs => cases vs with
       | nil => simp only; refine a8E hk ?_; rw [h.2]; exact h.put _ _ _
       | cons => rfl
theorem b6o {β : Type} (Γ : Env) (base : Nat) {k : St -> Option β} (hk : ∀ s s', Same s s' -> k s = k s') : ∀ (os : List Oper) (s : St), (match steps Γ (K Γ) base os s with | some s => k s | none => none) = R0 Γ base os s k
 | [], s => rfl
 | o :: os, s => by
   have ih := b6o Γ base hk os
   have one : ∀ s0 : St, Same s s0 -> (match (match (match perform (K Γ) base s.h (rd Γ s.t) o.op with
       | none => none
       | some (v, h) => some ({ t := put1 o.dst v (drop o.op.takes s.t), h := h } : St)) with
       | none => none
       | some s => steps Γ (K Γ) base os s) with | some s => k s | none => none) = P1 Γ base o.dst o.op s0 fun s => R0 Γ base os s k := fun s0 h0 => by
     rw [← a7D (fun _ _ h => a8E hk h) h0]
     unfold P1
     cases perform (K Γ) base s.h (rd Γ s.t) o.op with
     | none => rfl
     | some q => exact ih _
   unfold steps R0
   cases hg : o.guard with
   | none =>
     simp only [step, wanted, hg]
     exact one s (.refl s)
   | some p =>
     obtain ⟨g, w⟩ := p
     simp only [step, wanted, hg]
     cases hv : get s.t g with
     | sc c =>
       cases c with
       | bool b =>
         by_cases hb : b = w
         . subst hb
           simp only [beq_self_eq_true, if_true]
           exact one _ (.learn hv)
         . have : (b == w) = false := by simpa using hb
           simp only [this, if_neg hb]
           refine (ih _).trans (a8E hk ?_)
           have : b = !w := by cases b <;> cases w <;> simp at hb ⊢
           exact (Same.learn (s := s) (g := g) (by rw [hv, this])).put _ _ _
       | _ => rfl
     | agg cs => rfl
     | tup vs =>
       cases vs with
       | nil => exact ih _
       | cons => rfl
noncomputable def RT0 {β : Type} (Γ : Env) (base : Nat) : List Oper -> St -> List (Nat × Acc) -> (St -> Option β) -> Option β
 | [], s, _, k => k s
 | o :: os, s, l, k => match o.guard with
   | none => if (o.conf.all fun j => l.all fun p => decide (p.1 ≠ j) || Acc.free p.2 (acc base (rd Γ s.t) o.op)) = true then P1 Γ base o.dst o.op s fun s' => RT0 Γ base os s' ((o.ix, acc base (rd Γ s.t) o.op) :: l) k else none
   | some (g, w) => match get s.t g with
     | .sc (.bool b) => if b = w then (if (o.conf.all fun j => l.all fun p => decide (p.1 ≠ j) || Acc.free p.2 (acc base (rd Γ s.t) o.op)) = true then P1 Γ base o.dst o.op { t := (g, .sc (.bool w)) :: s.t, h := s.h } fun s' => RT0 Γ base os s' ((o.ix, acc base (rd Γ s.t) o.op) :: l) k else none)
         else RT0 Γ base os { t := put1 o.dst (.tup []) ((g, .sc (.bool !w)) :: s.t), h := s.h } l k
     | .tup [] => RT0 Γ base os { t := put1 o.dst (.tup []) s.t, h := s.h } l k
     | _ => none
noncomputable def RTs {β : Type} (Γ : Env) (base : Nat) (os : List Oper) (s : St) (l : List (Nat × Acc)) (k : St -> Option β) (_ : Tag3 os l k := .mk) : Option β := RT0 Γ base os s l k
theorem a7E {β : Type} {Γ : Env} {base : Nat} : ∀ {os : List Oper} {s s' : St} {l : List (Nat × Acc)} {k : St -> Option β}, (∀ s s', Same s s' -> k s = k s') -> Same s s' -> RT0 Γ base os s l k = RT0 Γ base os s' l k
 | [], s, s', l, k, hk, h => hk _ _ h
 | o :: os, s, s', l, k, hk, h => by
   have hacc : acc base (rd Γ s.t) o.op = acc base (rd Γ s'.t) o.op := congrArg (fun r => acc base r o.op) (funext fun x => h.rd x)
   unfold RT0
   rw [hacc]
   cases o.guard with
   | none => simp only; split
             . exact a7D (fun _ _ h => a7E hk h) h
             . rfl
   | some p =>
     obtain ⟨g, w⟩ := p
     have lrn : ∀ v, Same { t := (g, v) :: s.t, h := s.h } { t := (g, v) :: s'.t, h := s'.h } := fun v => ⟨fun i => by simp only [get]; rw [h.1], h.2⟩
     simp only
     rw [h.1 g]
     cases get s'.t g with
     | sc c => cases c with
       | bool b =>
         simp only
         by_cases hb : b = w
         . rw [if_pos hb, if_pos hb]
           split
           . exact a7D (fun _ _ h => a7E hk h) (lrn _)
           . rfl
         . rw [if_neg hb, if_neg hb]; refine a7E hk ?_; rw [h.2]; exact (lrn _).put _ _ _
       | _ => rfl
     | agg => rfl
     | tup vs => cases vs with
       | nil => simp only; refine a7E hk ?_; rw [h.2]; exact h.put _ _ _
       | cons => rfl
theorem b3z {β : Type} (Γ : Env) (base : Nat) {k : St -> Option β} (hk : ∀ s s', Same s s' -> k s = k s') : ∀ (os : List Oper) (s : St) (l : List (Nat × Acc)), (match a3c Γ (K Γ) base os (s, l) with | some s => k s.1 | none => none) = RT0 Γ base os s l k
 | [], s, l => rfl
 | o :: os, s, l => by
   have ih := b3z Γ base hk os
   unfold a3c RT0
   have done : ∀ s0 : St, Same s s0 -> (match (match (if (o.conf.all fun j => l.all fun p => decide (p.1 ≠ j) || Acc.free p.2 (acc base (rd Γ s.t) o.op)) = true then
       Option.map (fun s' => (s', (o.ix, acc base (rd Γ s.t) o.op) :: l)) (match perform (K Γ) base s.h (rd Γ s.t) o.op with
         | none => none
         | some (v, h) => some ({ t := put1 o.dst v (drop o.op.takes s.t), h := h } : St)) else none) with
       | none => (none : Option (St × List (Nat × Acc)))
       | some s => a3c Γ (K Γ) base os s) with | some s => k s.1 | none => none) =
       (if (o.conf.all fun j => l.all fun p => decide (p.1 ≠ j) || Acc.free p.2 (acc base (rd Γ s.t) o.op)) = true then P1 Γ base o.dst o.op s0 fun s' => RT0 Γ base os s' ((o.ix, acc base (rd Γ s.t) o.op) :: l) k else none) := fun s0 h0 => by
     by_cases hc : (o.conf.all fun j => l.all fun p => decide (p.1 ≠ j) || Acc.free p.2 (acc base (rd Γ s.t) o.op)) = true
     . rw [if_pos hc, if_pos hc, ← a7D (fun _ _ h => a7E hk h) h0]
       unfold P1
       cases hp : perform (K Γ) base s.h (rd Γ s.t) o.op with
       | none => rfl
       | some q => obtain ⟨v, h⟩ := q; exact ih _ _
     . rw [if_neg hc, if_neg hc]
   have skip : (match (match Option.map (fun s' => (s', l)) (some ({ t := put1 o.dst (.tup []) s.t, h := s.h } : St)) with
       | none => (none : Option (St × List (Nat × Acc)))
       | some s => a3c Γ (K Γ) base os s) with | some s => k s.1 | none => none) = RT0 Γ base os { t := put1 o.dst (.tup []) s.t, h := s.h } l k := ih _ _
   cases hg : o.guard with
   | none =>
     simp only [stepT, step, wanted, hg]
     exact done s (.refl s)
   | some p =>
     obtain ⟨g, w⟩ := p
     simp only [stepT, step, wanted, hg]
     cases hv : get s.t g with
     | sc c =>
       cases c with
       | bool b =>
         by_cases hb : b = w
         . subst hb
           simp only [beq_self_eq_true, if_true]
           exact done _ (.learn hv)
         . have h1 : (b == w) = false := by simpa using hb
           simp only [h1, if_neg hb]
           refine skip.trans (a7E hk ?_)
           have : b = !w := by cases b <;> cases w <;> simp at hb ⊢
           exact (Same.learn (s := s) (g := g) (by rw [hv, this])).put _ _ _
       | _ => rfl
     | agg cs => rfl
     | tup vs =>
       cases vs with
       | nil => exact skip
       | cons => rfl
theorem a9D {β : Type} {keep : List Nat} {f : St -> Option β} : ∀ s s', Same s s' -> f { t := restrict keep s.t, h := s.h } = f { t := restrict keep s'.t, h := s'.h } := fun s s' h => by
 have : restrict keep s.t = restrict keep s'.t := List.map_congr_left fun i _ => by rw [h.1]
 rw [this, h.2]
/-! ### Words that are gone into from the front alone -/
def a0L {α β : Type} (a : Option α) (f : α -> Option β) (_ : Tag f := .mk) : Option β :=
 match a with
 | some x => f x
 | none => none
@[simp, go_sem] theorem a1K {α β : Type} (x : α) (f : α -> Option β) : a0L (some x) f = f x := nrfl rfl
@[simp, go_sem] theorem c3T {α β : Type} (f : α -> Option β) : a0L none f = none := nrfl rfl
def br {α : Type} (b : Bool) (x y : α) (_ : Tag2 x y := .mk) : α := match b with | true => x | false => y
@[simp, go_sem] theorem a4R {α : Type} (x y : α) : br true x y = x := nrfl rfl
@[simp, go_sem] theorem a4r {α : Type} (x y : α) : br false x y = y := nrfl rfl
theorem a0o {α : Type} {p : Prop} [Decidable p] {x y r : α} (h : p) (h1 : x = r) : br (decide p) x y = r := by rw [decide_eq_true h]; exact h1
theorem a0t {α : Type} {p : Prop} [Decidable p] {x y r : α} (h : ¬ p) (h1 : y = r) : br (decide p) x y = r := by rw [decide_eq_false h]; exact h1
theorem a0n {α : Type} {b : Bool} {x y r : α} (h : b = true) (h1 : x = r) : br b x y = r := by rw [h]; exact h1
theorem a0m {α : Type} {c d : Bool} {x y r : α} (h : (c && d) = true) (h1 : x = r) : br (c && d) x y = r := by rw [h]; exact h1
theorem a0l {α : Type} {p : Prop} [Decidable p] {a b : Acc} {x y r : α} (h : (decide p || Acc.free a b) = true) (h1 : x = r) : br (decide p || Acc.free a b) x y = r := by rw [h]; exact h1
theorem a0a {α : Type} {b : Bool} {x y r : α} (h1 : b = true -> x = r) (h2 : b = false -> y = r) : br b x y = r := by cases b <;> simp_all
theorem brY {α : Type} {p : Prop} [Decidable p] {x y r : α} (h1 : x = r) (h : p := by omega) : br (decide p) x y = r := a0o h h1
theorem brN {α : Type} {p : Prop} [Decidable p] {x y r : α} (h1 : y = r) (h : ¬ p := by omega) : br (decide p) x y = r := a0t h h1
theorem brA {α : Type} {b : Bool} {x y r : α} (h1 : x = r) (h : b = true := by first | (simp only [Bool.and_eq_true, decide_eq_true_eq]; omega) | fail) : br b x y = r := a0n h h1
theorem brD {α : Type} {p : Prop} [Decidable p] {a b : Acc} {x y r : α} (h1 : x = r) (h : (decide p || Acc.free a b) = true := by first | (simp [go_sem, Pm.acc, Acc.free, refsOf, a0h, a0c, a0g, a0b, a0d]; done) | fail) : br (decide p || Acc.free a b) x y = r := a0l h h1
theorem brF {α : Type} {c d : Bool} {x y r : α} (h1 : x = r) (h : (c && d) = true := by first | (simp [go_sem, Pm.acc, Acc.free, refsOf, a0h, a0c, a0g, a0b, a0d]; done) | fail) : br (c && d) x y = r := a0m h h1
def sel (b : Bool) (v : V) : V := if b then v else .tup []
@[go_sem] theorem c7d (b : Bool) (v : V) : (sel b v).a0r = sel b v.a0r := by cases b <;> rfl
@[go_sem] theorem c8M (v : V) : sel true v = v := nrfl rfl
@[go_sem] theorem c7c (v : V) : sel false v = .tup [] := nrfl rfl
theorem a0p {b : Bool} (h : b = true) (v : V) : sel b v = v := by rw [h]; rfl
def a9n {β : Type} (c x y : V) (f : V -> Option β) (_ : Tag f := .mk) : Option β := match c with | .sc (.bool b) => f (if b then x else y) | _ => none
@[go_sem] theorem c5s {β : Type} (x y : V) (f : V -> Option β) : a9n (.sc (.bool true)) x y f = f x := nrfl rfl
@[go_sem] theorem c2R {β : Type} (x y : V) (f : V -> Option β) : a9n (.sc (.bool false)) x y f = f y := nrfl rfl
@[go_sem] theorem c6Q {β : Type} (b c : Bool) (f : V -> Option β) : a9n (.sc (.bool b)) (sel b (.sc (.bool c))) (.sc (.bool false)) f = f (.sc (.bool (b && c))) := by cases b <;> rfl
@[go_sem] theorem c8E {β : Type} (b c : Bool) (f : V -> Option β) : a9n (.sc (.bool b)) (.sc (.bool true)) (sel (!b) (.sc (.bool c))) f = f (.sc (.bool (b || c))) := by cases b <;> rfl
theorem a0f {β : Type} {b : Bool} {x y : V} {f : V -> Option β} {r : Option β} (h : br b (f x) (f y) = r) : a9n (.sc (.bool b)) x y f = r := by cases b <;> exact h
theorem d7E {β : Type} {b : Bool} {x y : V} {f : V -> Option β} {r : Option β} (h1 : b = true -> f x = r) (h2 : b = false -> f y = r) : a9n (.sc (.bool b)) x y f = r := a0f (a0a h1 h2)
def b8a {β : Type} (v : V) (f : Bool -> Option β) (_ : Tag f := .mk) : Option β := match v with | .sc (.bool b) => f b | _ => none
@[simp, go_sem] theorem c6I {β : Type} (b : Bool) (f : Bool -> Option β) : b8a (.sc (.bool b)) f = f b := nrfl rfl
def a5s {β : Type} (v : V) (f : Bool -> Option β) (g : Option β) (_ : Tag2 f g := .mk) : Option β := match v with | .sc (.bool b) => f b | .tup [] => g | _ => none
@[simp, go_sem] theorem b4J {β : Type} (b : Bool) (f : Bool -> Option β) (g : Option β) : a5s (.sc (.bool b)) f g = f b := nrfl rfl
@[simp, go_sem] theorem c2N {β : Type} (f : Bool -> Option β) (g : Option β) : a5s (.tup []) f g = g := nrfl rfl
theorem a0e {β : Type} {b : Bool} {v : V} {f : Bool -> Option β} {g r : Option β} (h1 : b = true -> a5s v f g = r) (h2 : b = false -> g = r) : a5s (sel b v) f g = r := by
 cases b with
 | true => exact h1 rfl
 | false => exact h2 rfl
def a7v {β : Type} (v : V) (f : IntKind -> Int -> Option β) (_ : Tag f := .mk) : Option β := match v with | .sc (.int k n) => f k n | _ => none
@[simp, go_sem] theorem a7Y {β : Type} (k : IntKind) (n : Int) (f : IntKind -> Int -> Option β) : a7v (.sc (.int k n)) f = f k n := nrfl rfl
def a7w {β : Type} (v : V) (f : Nat -> Nat -> Option β) (g : List C -> Nat -> Option β) (_ : Tag2 f g := .mk) : Option β := match v with | .sc (.ptr p o) => f p o | .sc (.eptr cs o) => g cs o | _ => none
@[simp, go_sem] theorem a6b {β : Type} (p o : Nat) (f : Nat -> Nat -> Option β) (g : List C -> Nat -> Option β) : a7w (.sc (.ptr p o)) f g = f p o := nrfl rfl
@[simp, go_sem] theorem b2k {β : Type} (cs : List C) (o : Nat) (f : Nat -> Nat -> Option β) (g : List C -> Nat -> Option β) : a7w (.sc (.eptr cs o)) f g = g cs o := nrfl rfl
def a8j {β : Type} (o : Option Obj) (f : List C -> Option β) (_ : Tag f := .mk) : Option β := match o with | some (.var cs) => f cs | _ => none
@[simp, go_sem] theorem a5U {β : Type} (cs : List C) (f : List C -> Option β) : a8j (some (.var cs)) f = f cs := nrfl rfl
def a5D {β : Type} (o : Option Obj) (x : Option β) (_ : Tag x := .mk) : Option β := match o with | some .free => x | _ => none
@[simp, go_sem] theorem c6L {β : Type} (x : Option β) : a5D (some .free) x = x := nrfl rfl
def b6I {β : Type} (v : V) (f : List C -> Option β) (_ : Tag f := .mk) : Option β := match v with | .agg cs => f cs | _ => none
@[simp, go_sem] theorem b4I {β : Type} (cs : List C) (f : List C -> Option β) : b6I (.agg cs) f = f cs := nrfl rfl
def c0o {β : Type} (v : V) (f : List V -> Option β) (_ : Tag f := .mk) : Option β := match v with | .tup vs => f vs | _ => none
@[simp, go_sem] theorem b9n {β : Type} (vs : List V) (f : List V -> Option β) : c0o (.tup vs) f = f vs := nrfl rfl
def b0B {β : Type} (es : Nat) (v : V) (f : List (List C) -> Option β) (_ : Tag f := .mk) : Option β := match elems es v with | some l => f l | none => none
@[simp, go_sem] theorem c5n {β : Type} (es : Nat) (k : SK) (l : List (List C)) (f : List (List C) -> Option β) : b0B es (.sc (.sl k es l)) f = f l := by simp [b0B, elems]
@[simp, go_sem] theorem c2M {β : Type} (es : Nat) (l : List (List C)) (f : List (List C) -> Option β) : b0B es (.sc (.own es l)) f = f l := by simp [b0B, elems]
def a8R {β : Type} (es : Nat) (v i : V) (f : Nat -> Nat -> Option β) (g : List C -> Option β) (_ : Tag2 f g := .mk) : Option β :=
 match v with
 | .sc (.msl p off len _ es') => if es' ≠ es then none else match place len i with | some j => f p (off + j * es) | none => none
 | v => match elems es v with
   | some l => match nth l i with | some e => g e | none => none
   | none => none
@[simp, go_sem] theorem c5m {β : Type} (es p off len cap : Nat) (i : Int) (k : IntKind) (f : Nat -> Nat -> Option β) (g : List C -> Option β) :
   a8R es (.sc (.msl p off len cap es)) (.sc (.int k i)) f g = br (decide (0 <= i /\ i < len)) (f p (off + i.toNat * es)) none := by
 simp only [a8R, place, ne_eq, not_true_eq_false, if_false]
 by_cases h : 0 <= i /\ i < len <;> simp [h]
@[simp, go_sem] theorem c6K {β : Type} (es : Nat) (s : SK) (l : List (List C)) (i : Int) (k : IntKind) (f : Nat -> Nat -> Option β) (g : List C -> Option β) :
   a8R es (.sc (.sl s es l)) (.sc (.int k i)) f g = br (decide (0 <= i)) (a0L (l[i.toNat]?) g) none := by
 simp only [a8R, elems, if_true, nth]
 by_cases h : 0 <= i
 . simp only [h, if_true, decide_true, a4R]; cases l[i.toNat]? <;> rfl
 . simp [h]
section
variable {β : Type} (Γ : Env) (s : St) (Q : Ex -> St -> Option β)
@[go_sem] theorem d0k : E Γ .skip s Q = Q .norm s := by unfold E; rw [X_eq]; rfl
@[go_sem] theorem d0T : E Γ .ret s Q = Q .ret s := by unfold E; rw [X_eq]; rfl
@[go_sem] theorem d0i (id : Nat) : E Γ (.exit id) s Q = Q (.exit id) s := by unfold E; rw [X_eq]; rfl
@[go_sem] theorem d0U (a b : AC) : E Γ (.seq a b) s Q = E Γ a s fun e s => match e with | .norm => E Γ b s Q | e => Q e s := by
 unfold E
 rw [X_eq]
 simp only [a0U]
 cases X Γ a s with
 | none => rfl
 | some p => obtain ⟨e, s'⟩ := p; cases e <;> rfl
@[go_sem] theorem d0h (c : Rand) (a b : AC) : E Γ (.cond c a b) s Q = b8a (rd Γ s.t c) fun x => br x (E Γ a s Q) (E Γ b s Q) := by
 unfold E
 rw [X_eq]
 simp only [a0U]
 cases rd Γ s.t c with
 | sc c => cases c with
   | bool x => cases x <;> rfl
   | _ => rfl
 | _ => rfl
@[go_sem] theorem c8W (id : Nat) (a : AC) : E Γ (.block id a) s Q = E Γ a s fun e s => match e with | .exit id' => if id' = id then Q .norm s else Q (.exit id') s | e => Q e s := by
 unfold E
 rw [X_eq]
 simp only [a0U]
 cases X Γ a s with
 | none => rfl
 | some p =>
   obtain ⟨e, s'⟩ := p
   cases e with
   | exit id' => simp only [andThen]; by_cases h : id' = id <;> simp [h]
   | _ => rfl
@[go_sem] theorem d0S (i : Nat) (a : AC) : E Γ (.frz i a) s Q = a0L (frozen i s) fun s => E Γ a s Q := by
 unfold E
 rw [X_eq]
 simp only [a0U]
 cases frozen i s <;> rfl
@[go_sem] theorem d0j (i : Nat) (a : AC) : E Γ (.frzc i a) s Q = a0L (a3G i s) fun s => E Γ a s Q := by
 unfold E
 rw [X_eq]
 simp only [a0U]
 cases a3G i s <;> rfl
@[go_sem] theorem c7H (nal : Nat) (ops : List Oper) (keep : List Nat) : E Γ (.region nal ops false keep) s Q = R Γ s.h.length ops { t := s.t, h := s.h ++ List.replicate nal .free } fun s => Q .norm { t := restrict keep s.t, h := s.h } := by
 unfold E R
 rw [X_eq, ← b6o Γ _ (a9D (f := fun s => Q .norm s))]
 simp only [a0U, region]
 cases steps Γ (K Γ) s.h.length ops { t := s.t, h := s.h ++ List.replicate nal .free } <;> rfl
@[go_sem] theorem c1K (nal : Nat) (ops : List Oper) (keep : List Nat) : E Γ (.region nal ops true keep) s Q = RTs Γ s.h.length ops { t := s.t, h := s.h ++ List.replicate nal .free } [] fun s => Q .norm { t := restrict keep s.t, h := s.h } := by
 unfold E RTs
 rw [X_eq, ← b3z Γ _ (a9D (f := fun s => Q .norm s))]
 simp only [a0U, region]
 cases a3c Γ (K Γ) s.h.length ops ({ t := s.t, h := s.h ++ List.replicate nal .free }, []) <;> rfl
theorem E_of {c : AC} {r : Ex × St} (h : X Γ c s = some r) : E Γ c s Q = Q r.1 r.2 := by unfold E; rw [h]; rfl
end
/-! ### Operations in their order -/
section
variable {β : Type} (Γ : Env) (base : Nat) (os : List Oper) (s : St) (k : St -> Option β) (ix : Nat) (dst : Option Nat) (op : Op) (cf : List Nat) (l : List (Nat × Acc))
@[go_sem] theorem d0X : R Γ base [] s k = k s := nrfl rfl
@[go_sem] theorem d0w : R Γ base (⟨ix, dst, op, none, cf⟩ :: os) s k = P1 Γ base dst op s fun s => R Γ base os s k := nrfl rfl
theorem b5H (g : Nat) (w : Bool) : R Γ base (⟨ix, dst, op, some (g, w), cf⟩ :: os) s k = a5s (get s.t g) (fun b => br b
     (br w (P1 Γ base dst op { t := (g, .sc (.bool true)) :: s.t, h := s.h } fun s => R Γ base os s k) (R Γ base os { t := put1 dst (.tup []) ((g, .sc (.bool true)) :: s.t), h := s.h } k))
     (br w (R Γ base os { t := put1 dst (.tup []) ((g, .sc (.bool false)) :: s.t), h := s.h } k) (P1 Γ base dst op { t := (g, .sc (.bool false)) :: s.t, h := s.h } fun s => R Γ base os s k)))
   (R Γ base os { t := put1 dst (.tup []) s.t, h := s.h } k) := by
 unfold R
 rw [R0]
 simp only
 cases get s.t g with
 | sc c => cases c with
   | bool b => cases b <;> cases w <;> simp
   | _ => rfl
 | agg => rfl
 | tup vs => cases vs <;> rfl
@[go_sem] theorem c7Y (g : Nat) (t : List (Nat × V)) (h : List Obj) : R Γ base (⟨ix, dst, op, some (g, true), cf⟩ :: os) ⟨t, h⟩ k = a5s (get t g) (fun b => br b
     (P1 Γ base dst op { t := (g, .sc (.bool true)) :: t, h := h } fun s => R Γ base os s k) (R Γ base os { t := put1 dst (.tup []) ((g, .sc (.bool false)) :: t), h := h } k))
   (R Γ base os { t := put1 dst (.tup []) t, h := h } k) := b5H ..
@[go_sem] theorem c7X (g : Nat) (t : List (Nat × V)) (h : List Obj) : R Γ base (⟨ix, dst, op, some (g, false), cf⟩ :: os) ⟨t, h⟩ k = a5s (get t g) (fun b => br b
     (R Γ base os { t := put1 dst (.tup []) ((g, .sc (.bool true)) :: t), h := h } k) (P1 Γ base dst op { t := (g, .sc (.bool false)) :: t, h := h } fun s => R Γ base os s k))
   (R Γ base os { t := put1 dst (.tup []) t, h := h } k) := b5H ..
@[go_sem] theorem d0v : RTs Γ base [] s l k = k s := nrfl rfl
@[go_sem] theorem c7V : RTs Γ base (⟨ix, dst, op, none, []⟩ :: os) s l k = P1 Γ base dst op s fun s' => RTs Γ base os s' ((ix, acc base (rd Γ s.t) op) :: l) k := by
 unfold RTs
 rw [RT0]; simp
theorem c0D : RTs Γ base (⟨ix, dst, op, none, cf⟩ :: os) s l k = br (cf.all fun j => l.all fun p => decide (p.1 ≠ j) || Acc.free p.2 (acc base (rd Γ s.t) op)) (P1 Γ base dst op s fun s' => RTs Γ base os s' ((ix, acc base (rd Γ s.t) op) :: l) k) none := by
 unfold RTs
 rw [RT0]
 simp only
 cases cf.all fun j => l.all fun p => decide (p.1 ≠ j) || Acc.free p.2 (acc base (rd Γ s.t) op) <;> rfl
@[go_sem] theorem c7W (c : Nat) (cs : List Nat) : RTs Γ base (⟨ix, dst, op, none, c :: cs⟩ :: os) s l k = br ((c :: cs).all fun j => l.all fun p => decide (p.1 ≠ j) || Acc.free p.2 (acc base (rd Γ s.t) op)) (P1 Γ base dst op s fun s' => RTs Γ base os s' ((ix, acc base (rd Γ s.t) op) :: l) k) none :=
 c0D ..
@[go_sem] theorem c6h (g : Nat) (w : Bool) : RTs Γ base (⟨ix, dst, op, some (g, w), []⟩ :: os) s l k = a5s (get s.t g) (fun b => br b
     (br w (P1 Γ base dst op { t := (g, .sc (.bool true)) :: s.t, h := s.h } fun s' => RTs Γ base os s' ((ix, acc base (rd Γ s.t) op) :: l) k) (RTs Γ base os { t := put1 dst (.tup []) ((g, .sc (.bool true)) :: s.t), h := s.h } l k))
     (br w (RTs Γ base os { t := put1 dst (.tup []) ((g, .sc (.bool false)) :: s.t), h := s.h } l k) (P1 Γ base dst op { t := (g, .sc (.bool false)) :: s.t, h := s.h } fun s' => RTs Γ base os s' ((ix, acc base (rd Γ s.t) op) :: l) k)))
   (RTs Γ base os { t := put1 dst (.tup []) s.t, h := s.h } l k) := by
 unfold RTs
 rw [RT0]
 simp only [List.all_nil, if_true]
 cases get s.t g with
 | sc c => cases c with
   | bool b => cases b <;> cases w <;> simp
   | _ => rfl
 | agg => rfl
 | tup vs => cases vs <;> rfl
@[go_sem] theorem c6i (g : Nat) (w : Bool) (c : Nat) (cs : List Nat) : RTs Γ base (⟨ix, dst, op, some (g, w), c :: cs⟩ :: os) s l k = a5s (get s.t g) (fun b => br (b == w)
     (br ((c :: cs).all fun j => l.all fun p => decide (p.1 ≠ j) || Acc.free p.2 (acc base (rd Γ s.t) op)) (P1 Γ base dst op { t := (g, .sc (.bool w)) :: s.t, h := s.h } fun s' => RTs Γ base os s' ((ix, acc base (rd Γ s.t) op) :: l) k) none)
     (RTs Γ base os { t := put1 dst (.tup []) ((g, .sc (.bool !w)) :: s.t), h := s.h } l k))
   (RTs Γ base os { t := put1 dst (.tup []) s.t, h := s.h } l k) := by
 unfold RTs
 rw [RT0]
 simp only
 cases get s.t g with
 | sc c => cases c with
   | bool b =>
     simp only [b4J]
     generalize (List.all (_ :: _) fun j => l.all fun p => decide (p.1 ≠ j) || Acc.free p.2 (acc base (rd Γ s.t) op)) = z
     cases b <;> cases w <;> cases z <;> simp
   | _ => rfl
 | agg => rfl
 | tup vs => cases vs <;> rfl
end
/-! ### Each operation -/
theorem a1S {h : List Obj} {r : Nat} : a1z h r = true <-> h[r]? = some .free := by
 unfold a1z
 constructor
 . intro e
   split at e
   . assumption
   . cases e
 . intro e; rw [e]
theorem a4C {β : Type} {o : Option Obj} (x : Option β) (h : o ≠ some .free) : a5D o x = none := by
 unfold a5D
 split
 . exact absurd rfl h
 . rfl
section
variable {β : Type} (Γ : Env) (base : Nat) (d : Option Nat) (t : List (Nat × V)) (h : List Obj) (k : St -> Option β)
@[go_sem] theorem d0V (x : Rand) : P1 Γ base d (.mv x) ⟨t, h⟩ k = k ⟨put1 d (rd Γ t x) (drop x.takes t), h⟩ := nrfl rfl
@[go_sem] theorem c9m (c a b : Rand) : P1 Γ base d (.pick c a b) ⟨t, h⟩ k = a9n (rd Γ t c) (rd Γ t a) (rd Γ t b) (fun v => k ⟨put1 d v t, h⟩) := by
 simp only [P1, perform, eff, a9n]
 cases rd Γ t c with
 | sc c => cases c with
   | bool b => cases b <;> rfl
   | _ => rfl
 | _ => rfl
theorem b3U {op : Op} {s : St} : P1 Γ base d op s k = a0L (P1 Γ base d op s some) k := by
 unfold P1
 cases perform (K Γ) base s.h (rd Γ s.t) op <;> rfl
theorem a0k {op : Op} {i g : Nat} {v : V} {b : Bool} {r : Option β} (hv : b = true -> P1 Γ base (some i) op ⟨(g, .sc (.bool true)) :: t, h⟩ some = some ⟨(i, v) :: (g, .sc (.bool true)) :: t, h⟩)
   (hr : k ⟨(i, sel b v) :: (g, .sc (.bool b)) :: t, h⟩ = r) :
   br b (P1 Γ base (some i) op ⟨(g, .sc (.bool true)) :: t, h⟩ k) (k ⟨(i, .tup []) :: (g, .sc (.bool false)) :: t, h⟩) = r := by
 cases b with
 | true => rw [a4R, b3U, hv rfl]; exact hr
 | false => exact hr
theorem a0j {op : Op} {i g : Nat} {v : V} {b : Bool} {r : Option β} (hv : (!b) = true -> P1 Γ base (some i) op ⟨(g, .sc (.bool false)) :: t, h⟩ some = some ⟨(i, v) :: (g, .sc (.bool false)) :: t, h⟩)
   (hr : k ⟨(i, sel (!b) v) :: (g, .sc (.bool b)) :: t, h⟩ = r) :
   br b (k ⟨(i, .tup []) :: (g, .sc (.bool true)) :: t, h⟩) (P1 Γ base (some i) op ⟨(g, .sc (.bool false)) :: t, h⟩ k) = r := by
 cases b with
 | false => rw [a4r, b3U, hv rfl]; exact hr
 | true => exact hr
@[go_sem] theorem c7I (a : Nat) (z : List C) : P1 Γ base d (.alloc a z) ⟨t, h⟩ k = a5D (h[base + a]?) (br (C.a0v z) (k ⟨put1 d (.sc (.ptr (base + a) 0)) t, h.set (base + a) (.var z)⟩) none) := by
 simp only [P1, perform, eff]
 by_cases hf : h[base + a]? = some .free
 . have hi := a1S.2 hf
   rw [hf]
   cases hz : C.a0v z <;> simp [hi] <;> rfl
 . have hi : a1z h (base + a) = false := by cases e : a1z h (base + a) with | false => rfl | true => exact absurd (a1S.1 e) hf
   rw [a4C _ hf]; simp [hi]
@[go_sem] theorem d0o (a : Nat) (x : Rand) : P1 Γ base d (.box a x) ⟨t, h⟩ k = a5D (h[base + a]?) (k ⟨put1 d (.sc (.ptr (base + a) 0)) (drop x.takes t), h.set (base + a) (.var (rd Γ t x).cells)⟩) := by
 simp only [P1, perform, eff]
 by_cases hf : h[base + a]? = some .free
 . have hi := a1S.2 hf
   rw [hf]; simp [hi]; rfl
 . have hi : a1z h (base + a) = false := by cases e : a1z h (base + a) with | false => rfl | true => exact absurd (a1S.1 e) hf
   rw [a4C _ hf]; simp [hi]
@[go_sem] theorem c7J (z : List C) (ps : List (Nat × Nat × Rand)) : P1 Γ base d (.build z ps) ⟨t, h⟩ k = a0L (a3a z (ps.map fun p => (p.1, p.2.1, rd Γ t p.2.2))) fun cs => k ⟨put1 d (.agg cs) t, h⟩ := by
 simp only [P1, perform, eff]
 cases a3a z (ps.map fun p => (p.1, p.2.1, rd Γ t p.2.2)) <;> rfl
@[go_sem] theorem c6b (es n : Nat) (z : List C) (ps : List (Nat × Rand)) : P1 Γ base d (.bslice es n z ps) ⟨t, h⟩ k = a0L (a2c es (List.replicate n z) (ps.map fun p => (p.1, rd Γ t p.2))) fun l =>
   br (decide (z.length = es) && l.all C.a0v) (k ⟨put1 d (.sc (.sl .full es l)) t, h⟩) none := by
 simp only [P1, perform, eff]
 cases a2c es (List.replicate n z) (ps.map fun p => (p.1, rd Γ t p.2)) with
 | none => rfl
 | some l =>
   simp only [a1K]
   by_cases h1 : z.length = es
   . cases h2 : l.all C.a0v <;> simp [h1, h2] <;> rfl
   . simp [h1]
@[go_sem] theorem c9d (a es n : Nat) (z : List C) (ps : List (Nat × Rand)) : P1 Γ base d (.bmsl a es n z ps) ⟨t, h⟩ k = a0L (a2c es (List.replicate n z) (ps.map fun p => (p.1, rd Γ t p.2))) fun l =>
   a5D (h[base + a]?) (br (decide (z.length = es)) (k ⟨put1 d (.sc (.msl (base + a) 0 n n es)) t, h.set (base + a) (.var l.flatten)⟩) none) := by
 simp only [P1, perform, eff]
 cases a2c es (List.replicate n z) (ps.map fun p => (p.1, rd Γ t p.2)) with
 | none => rfl
 | some l =>
   simp only [a1K]
   by_cases hf : h[base + a]? = some .free
   . have hi := a1S.2 hf
     rw [hf]
     by_cases h1 : z.length = es <;> simp [h1, hi] <;> rfl
   . have hi : a1z h (base + a) = false := by cases e : a1z h (base + a) with | false => rfl | true => exact absurd (a1S.1 e) hf
     rw [a4C _ hf]; simp [hi]
@[go_sem] theorem c9k (n : Option Nat) (x : Rand) : P1 Γ base d (.load n x) ⟨t, h⟩ k = a7w (rd Γ t x) (fun p off => a8j (h[p]?) fun cs => a0L (a1t cs off n) fun v => k ⟨put1 d v t, h⟩) (fun cs off => a0L (a1t cs off n) fun v => k ⟨put1 d v t, h⟩) := by
 simp only [P1, perform, eff]
 cases rd Γ t x with
 | sc c => cases c with
   | ptr p off =>
     simp only [a6b]
     cases h[p]? with
     | none => rfl
     | some o => cases o with
       | var cs => simp only [a5U]; cases a1t cs off n <;> rfl
       | _ => rfl
   | eptr cs off => simp only [b2k]; cases a1t cs off n <;> rfl
   | _ => rfl
 | _ => rfl
@[go_sem] theorem c7O (x : Rand) : P1 Γ base d (.loadT x) ⟨t, h⟩ k = a7w (rd Γ t x) (fun p off => a8j (h[p]?) fun cs => a0L (cs[off]?) fun c => k ⟨put1 d (.sc c) t, h.set p (.var (cs.set off (Pm.a0r c)))⟩) (fun _ _ => none) := by
 simp only [P1, perform, eff]
 cases rd Γ t x with
 | sc c => cases c with
   | ptr p off =>
     simp only [a6b]
     cases h[p]? with
     | none => rfl
     | some o => cases o with
       | var cs => simp only [a5U]; cases cs[off]? <;> rfl
       | _ => rfl
   | _ => rfl
 | _ => rfl
@[go_sem] theorem c7U (n : Nat) (x v : Rand) : P1 Γ base d (.store n x v) ⟨t, h⟩ k = a7w (rd Γ t x) (fun p off => a8j (h[p]?) fun cs =>
   br (decide ((rd Γ t v).cells.length = n /\ 0 < n /\ off + n <= cs.length)) (k ⟨put1 d (.tup []) (drop (x.takes ++ v.takes) t), h.set p (.var (a1H cs off (rd Γ t v).cells))⟩) none) (fun _ _ => none) := by
 simp only [P1, perform, eff]
 cases rd Γ t x with
 | sc c => cases c with
   | ptr p off =>
     simp only [a6b]
     cases h[p]? with
     | none => rfl
     | some o => cases o with
       | var cs => simp only [a5U]; by_cases hc : (rd Γ t v).cells.length = n /\ 0 < n /\ off + n <= cs.length <;> simp only [hc, decide_true, decide_false, a4R, a4r, if_true, if_false] <;> rfl
       | _ => rfl
   | _ => rfl
 | _ => rfl
@[go_sem] theorem d0n (op : BinOp) (x y : Rand) : P1 Γ base d (.bin op x y) ⟨t, h⟩ k = a0L (bin op (rd Γ t x) (rd Γ t y)) fun c => k ⟨put1 d (.sc c) t, h⟩ := by
 simp only [P1, perform, eff, one]
 cases bin op (rd Γ t x) (rd Γ t y) <;> rfl
@[go_sem] theorem d0p (neg : Bool) (ty : KT) (x y : Rand) : P1 Γ base d (.eqf neg ty x y) ⟨t, h⟩ k = br (decide ((rd Γ t x).isAgg = ty.agg /\ (rd Γ t y).isAgg = ty.agg)) (a0L (a0c ty.tags (rd Γ t x).cells (rd Γ t y).cells) fun b => k ⟨put1 d (.sc (.bool (neg ^^ b))) t, h⟩) none := by
 simp only [P1, perform, eff]
 by_cases hc : (rd Γ t x).isAgg = ty.agg /\ (rd Γ t y).isAgg = ty.agg
 . simp only [hc, and_self, if_true, decide_true, a4R]; cases a0c ty.tags (rd Γ t x).cells (rd Γ t y).cells <;> rfl
 . simp [hc]
@[go_sem] theorem d0W (op : UnOp) (x : Rand) : P1 Γ base d (.un op x) ⟨t, h⟩ k = a0L (un op (rd Γ t x)) fun c => k ⟨put1 d (.sc c) t, h⟩ := by
 simp only [P1, perform, eff, one]
 cases un op (rd Γ t x) <;> rfl
@[go_sem] theorem c9f (ki : IntKind) (x : Rand) : P1 Γ base d (.conv ki x) ⟨t, h⟩ k = a7v (rd Γ t x) fun _ n => k ⟨put1 d (.sc (.int ki (ki.wrap n))) t, h⟩ := by
 simp only [P1, perform, eff]
 cases rd Γ t x with
 | sc c => cases c <;> rfl
 | _ => rfl
@[go_sem] theorem d0t (id : Nat) (sh : List (Option Nat)) (first cap : List Rand) : P1 Γ base d (.mkf id sh first cap) ⟨t, h⟩ k = br (decide (shapes (first.map (rd Γ t)) = some sh) && decide (shapes (cap.map (rd Γ t)) = some (cap.map fun _ => none)))
   (k ⟨put1 d (.sc (.fn (.fn id) sh ((first.map (rd Γ t)).flatMap V.cells) ((cap.map (rd Γ t)).flatMap V.cells))) t, h⟩) none := by
 simp only [P1, perform, eff]
 by_cases h1 : shapes (first.map (rd Γ t)) = some sh
 . by_cases h2 : shapes (cap.map (rd Γ t)) = some (cap.map fun _ => none) <;> simp [h1, h2] <;> rfl
 . simp [h1]
@[go_sem] theorem c7P (a : Nat) (ka va : Bool) : P1 Γ base d (.mkmap a ka va) ⟨t, h⟩ k = a5D (h[base + a]?) (k ⟨put1 d (.sc (.map (base + a))) t, h.set (base + a) (.map ka va [] none)⟩) := by
 simp only [P1, perform, eff]
 by_cases hf : h[base + a]? = some .free
 . have hi := a1S.2 hf
   rw [hf]; simp [hi]; rfl
 . have hi : a1z h (base + a) = false := by cases e : a1z h (base + a) with | false => rfl | true => exact absurd (a1S.1 e) hf
   rw [a4C _ hf]; simp [hi]
@[go_sem] theorem c7S (es : Nat) (x : Rand) (lo hi mx : Option Rand) : P1 Γ base d (.slice es x lo hi mx) ⟨t, h⟩ k = a0L (sliced es (rd Γ t x) (lo.map (rd Γ t)) (hi.map (rd Γ t)) (mx.map (rd Γ t))) fun c => k ⟨put1 d (.sc c) t, h⟩ := by
 simp only [P1, perform, eff, one]
 cases sliced es (rd Γ t x) (lo.map (rd Γ t)) (hi.map (rd Γ t)) (mx.map (rd Γ t)) <;> rfl
@[go_sem] theorem c7R (n es : Nat) (x : Rand) (lo hi mx : Option Rand) : P1 Γ base d (.slArr n es x lo hi mx) ⟨t, h⟩ k = a0L (a8k n es (rd Γ t x) (lo.map (rd Γ t)) (hi.map (rd Γ t)) (mx.map (rd Γ t))) fun c => k ⟨put1 d (.sc c) t, h⟩ := by
 simp only [P1, perform, eff, one]
 cases a8k n es (rd Γ t x) (lo.map (rd Γ t)) (hi.map (rd Γ t)) (mx.map (rd Γ t)) <;> rfl
@[go_sem] theorem c7K (off : Nat) (x : Rand) : P1 Γ base d (.faddr off x) ⟨t, h⟩ k = a7w (rd Γ t x) (fun p o => k ⟨put1 d (.sc (.ptr p (o + off))) t, h⟩) (fun cs o => k ⟨put1 d (.sc (.eptr cs (o + off))) t, h⟩) := by
 simp only [P1, perform, eff]
 cases rd Γ t x with
 | sc c => cases c <;> rfl
 | _ => rfl
@[go_sem] theorem c7L (off : Nat) (n : Option Nat) (x : Rand) : P1 Γ base d (.field off n x) ⟨t, h⟩ k = b6I (rd Γ t x) fun cs => a0L (a1t cs off n) fun v => k ⟨put1 d v t, h⟩ := by
 simp only [P1, perform, eff]
 cases rd Γ t x with
 | agg cs => simp only [b4I]; cases a1t cs off n <;> rfl
 | _ => rfl
@[go_sem] theorem c7M (es : Nat) (x i : Rand) : P1 Γ base d (.iaddr es x i) ⟨t, h⟩ k = a8R es (rd Γ t x) (rd Γ t i) (fun p o => k ⟨put1 d (.sc (.ptr p o)) t, h⟩) (fun e => k ⟨put1 d (.sc (.eptr e 0)) t, h⟩) := by
 simp only [P1, perform, eff, a8R]
 cases rd Γ t x with
 | sc c => cases c with
   | msl p off len cap es' =>
     simp only
     by_cases hes : es' = es
     . simp only [hes, ne_eq, not_true_eq_false, if_false]; cases place len (rd Γ t i) <;> rfl
     . simp [hes]
   | sl kk es' l => simp only [elems]; by_cases hes : es' = es
                    . simp only [hes, if_true]; cases nth l (rd Γ t i) <;> rfl
                    . simp [hes]
   | own es' l => simp only [elems]; by_cases hes : es' = es
                  . simp only [hes, if_true]; cases nth l (rd Γ t i) <;> rfl
                  . simp [hes]
   | _ => rfl
 | _ => rfl
@[go_sem] theorem c9g (len es : Nat) (x i : Rand) : P1 Γ base d (.iarr len es x i) ⟨t, h⟩ k = a7w (rd Γ t x) (fun p o => a7v (rd Γ t i) fun _ n => br (decide (0 <= n /\ n < len)) (k ⟨put1 d (.sc (.ptr p (o + n.toNat * es))) t, h⟩) none)
   (fun cs o => a7v (rd Γ t i) fun _ n => br (decide (0 <= n /\ n < len)) (k ⟨put1 d (.sc (.eptr cs (o + n.toNat * es))) t, h⟩) none) := by
 simp only [P1, perform, eff]
 cases rd Γ t x with
 | sc c => cases c with
   | ptr p o =>
     simp only [a6b]
     cases rd Γ t i with
     | sc c => cases c with
       | int ki n => simp only [place, a7Y]; by_cases hc : 0 <= n /\ n < len <;> simp [hc] <;> rfl
       | _ => rfl
     | _ => rfl
   | eptr p o =>
     simp only [b2k]
     cases rd Γ t i with
     | sc c => cases c with
       | int ki n => simp only [place, a7Y]; by_cases hc : 0 <= n /\ n < len <;> simp [hc] <;> rfl
       | _ => rfl
     | _ => rfl
   | _ => rfl
 | _ => rfl
@[go_sem] theorem c7N (len es : Nat) (n : Option Nat) (x i : Rand) : P1 Γ base d (.index len es n x i) ⟨t, h⟩ k = b6I (rd Γ t x) fun cs => a7v (rd Γ t i) fun _ j => br (decide (0 <= j /\ j < len)) (a0L (a1t cs (j.toNat * es) n) fun v => k ⟨put1 d v t, h⟩) none := by
 simp only [P1, perform, eff]
 cases rd Γ t x with
 | agg cs =>
   simp only [b4I]
   cases rd Γ t i with
   | sc c => cases c with
     | int ki j =>
       simp only [place, a7Y]
       by_cases hc : 0 <= j /\ j < len
       . simp only [hc, and_self, if_true, decide_true, a4R]; cases a1t cs (j.toNat * es) n <;> rfl
       . simp [hc]
     | _ => rfl
   | _ => rfl
 | _ => rfl
@[go_sem] theorem d0q (x : Rand) (i : Nat) : P1 Γ base d (.ext x i) ⟨t, h⟩ k = c0o (rd Γ t x) fun vs => a0L (vs[i]?) fun v => k ⟨put1 d v t, h⟩ := by
 simp only [P1, perform, eff]
 cases rd Γ t x with
 | tup vs => simp only [b9n]; cases vs[i]? <;> rfl
 | _ => rfl
@[go_sem] theorem c9j (x : Rand) : P1 Γ base d (.len 1 x) ⟨t, h⟩ k = a0L (match rd Γ t x with | .sc (.sl _ _ l) => some (l.length : Int) | .sc (.msl _ _ n _ _) => some (n : Int) | _ => none) fun n => k ⟨put1 d (.sc (.int .i64 n)) t, h⟩ := by
 simp only [P1, perform, eff]
 cases rd Γ t x with
 | sc c => cases c <;> rfl
 | _ => rfl
@[go_sem] theorem c6e (n : Nat) : P1 Γ base d (.lenArr n) ⟨t, h⟩ k = k ⟨put1 d (.sc (.int .i64 n)) t, h⟩ := nrfl rfl
@[go_sem] theorem d0s (x : Rand) (xs : List Rand) : P1 Γ base d (.min x xs) ⟨t, h⟩ k = a7v (rd Γ t x) fun ki n => a0L (minOf ki n (xs.map (rd Γ t))) fun c => k ⟨put1 d (.sc c) t, h⟩ := by
 simp only [P1, perform, eff, one]
 cases rd Γ t x with
 | sc c => cases c with
   | int ki n => simp only [a7Y]; cases minOf ki n (xs.map (rd Γ t)) <;> rfl
   | _ => rfl
 | _ => rfl
@[go_sem] theorem d0r (x : Rand) (xs : List Rand) : P1 Γ base d (.max x xs) ⟨t, h⟩ k = a7v (rd Γ t x) fun ki n => a0L (maxOf ki n (xs.map (rd Γ t))) fun c => k ⟨put1 d (.sc c) t, h⟩ := by
 simp only [P1, perform, eff, one]
 cases rd Γ t x with
 | sc c => cases c with
   | int ki n => simp only [a7Y]; cases maxOf ki n (xs.map (rd Γ t)) <;> rfl
   | _ => rfl
 | _ => rfl
@[go_sem] theorem c6a (es : Nat) (x y : Rand) : P1 Γ base d (.append es x y) ⟨t, h⟩ k = a0L (appended es (rd Γ t x) (rd Γ t y)) fun c => k ⟨put1 d (.sc c) (drop (x.takes ++ y.takes) t), h⟩ := by
 simp only [P1, perform, eff, one]
 cases appended es (rd Γ t x) (rd Γ t y) <;> rfl
@[go_sem] theorem c6g (x : Rand) : P1 Γ base d (.nilchk x) ⟨t, h⟩ k = a0L (match rd Γ t x with | .sc (.ptr p o) => some (V.sc (.ptr p o)) | .sc (.eptr cs o) => some (.sc (.eptr cs o)) | .sc (.fn f sh a b) => some (.sc (.fn f sh a b)) | _ => none) fun v => k ⟨put1 d v t, h⟩ := by
 simp only [P1, perform, eff]
 cases rd Γ t x with
 | sc c => cases c <;> rfl
 | _ => rfl
@[go_sem] theorem c9e (p : Bool) (f : Rand) (args : List Rand) : P1 Γ base d (.call p f args) ⟨t, h⟩ k = a0L (target (rd Γ t f) (args.map (rd Γ t))) fun q =>
   br p (br (q.2.all V.pure) (a0L (K Γ q.1 q.2 []) fun r => a0L (alone h r) fun r => k ⟨put1 d r.1 t, r.2⟩) none) (a0L (K Γ q.1 q.2 h) fun r => k ⟨put1 d r.1 t, r.2⟩) := by
 simp only [P1, perform, calls]
 cases target (rd Γ t f) (args.map (rd Γ t)) with
 | none => rfl
 | some q =>
   obtain ⟨fk, vs⟩ := q
   simp only [a1K]
   cases p with
   | false =>
     simp only [a4r, Bool.false_eq_true, if_false]
     cases K Γ fk vs h <;> rfl
   | true =>
     simp only [a4R, if_true]
     by_cases hv : vs.all V.pure = true
     . rw [if_pos hv, hv]
       simp only [a4R]
       cases K Γ fk vs [] with
       | none => rfl
       | some r => simp only [Option.bind_some, a1K]; cases alone h r <;> rfl
     . rw [if_neg hv]
       have : vs.all V.pure = false := by simpa using hv
       rw [this]; rfl
end
theorem a8x {Γ : Env} {keep : List Nat} {body : AC} {s s' : St} (h : E Γ body s (fun e s1 => match e with | .norm => trim keep s.h.length s1 | _ => none) = some s') : X Γ (.loop keep body) s = X Γ (.loop keep body) s' := by
 unfold E andThen at h
 rw [X_eq]
 simp only [a0U]
 cases hx : X Γ body s with
 | none => rw [hx] at h; cases h
 | some p =>
   obtain ⟨e, s1⟩ := p
   rw [hx] at h
   cases e with
   | norm => simp only at h ⊢; rw [h]
   | _ => simp at h
theorem a5y {Γ : Env} {keep : List Nat} {body : AC} {s : St} {r : Ex × St} (h : E Γ body s (fun e s1 => match e with | .norm => none | e => some (e, s1)) = some r) : X Γ (.loop keep body) s = some r := by
 unfold E andThen at h
 rw [X_eq]
 simp only [a0U]
 cases hx : X Γ body s with
 | none => rw [hx] at h; cases h
 | some p =>
   obtain ⟨e, s1⟩ := p
   rw [hx] at h
   cases e with
   | norm => simp at h
   | exit id => exact h
   | ret => exact h
theorem a1J {β : Type} (Γ : Env) (keep : List Nat) (body : AC) (s : St) (Q : Ex -> St -> Option β) :
   E Γ (.loop keep body) s Q = E Γ body s fun e s1 => match e with | .norm => a0L (trim keep s.h.length s1) fun s' => E Γ (.loop keep body) s' Q | e => Q e s1 := by
 unfold E
 rw [X_eq]
 simp only [a0U]
 cases hx : X Γ body s with
 | none => rfl
 | some p =>
   obtain ⟨e, s1⟩ := p
   cases e with
   | norm => simp only [andThen]; cases trim keep s.h.length s1 <;> rfl
   | _ => rfl
def a4N {σ α ρ : Type} (f : Nat -> σ -> α -> Sum σ ρ) (e : σ -> ρ) : Nat -> σ -> List α -> ρ
 | _, a, [] => e a
 | n, a, x :: l => match f n a x with
   | .inl a => a4N f e (n + 1) a l
   | .inr r => r
theorem b5I {Γ : Env} {σ α : Type} {keep : List Nat} {B : AC} (S : Nat -> σ -> St) (l : List α) (f : Nat -> σ -> α -> Sum σ (Ex × St)) (T : σ -> Ex × St)
   (hstep : ∀ (i : Nat) a x a', l[i]? = some x -> f i a x = .inl a' -> E Γ B (S i a) (fun e s1 => match e with | .norm => trim keep (S i a).h.length s1 | _ => none) = some (S (i + 1) a'))
   (hexit : ∀ (i : Nat) a x r, l[i]? = some x -> f i a x = .inr r -> E Γ B (S i a) (fun e s1 => match e with | .norm => none | e => some (e, s1)) = some r)
   (hend : ∀ a, E Γ B (S l.length a) (fun e s1 => match e with | .norm => none | e => some (e, s1)) = some (T a)) (a : σ) :
   X Γ (.loop keep B) (S 0 a) = some (a4N f T 0 a l) := by
 have main : ∀ (m : List α) (i : Nat) (a : σ), l.drop i = m -> i <= l.length -> X Γ (.loop keep B) (S i a) = some (a4N f T i a m) := by
   intro m
   induction m with
   | nil =>
     intro i a hm hi
     have : l.length <= i := by simpa using hm
     obtain rfl : i = l.length := by omega
     exact a5y (hend a)
   | cons x m ih =>
     intro i a hm hi
     have hx : l[i]? = some x := by
       have := congrArg (fun z => z[0]?) hm
       simpa using this
     have hlt : i < l.length := (List.getElem?_eq_some_iff.1 hx).1
     unfold a4N
     cases hf : f i a x with
     | inl a' =>
       simp only
       rw [a8x (hstep i a x a' hx hf)]
       exact ih (i + 1) a' (by rw [← List.drop_drop, hm]; rfl) hlt
     | inr r => exact a5y (hexit i a x r hx hf)
 exact main l 0 a rfl (Nat.zero_le _)
theorem c1P {Γ : Env} {σ α : Type} {keep : List Nat} {B : AC} (S : Nat -> σ -> St) (l : List α) (f : σ -> α -> σ) (T : σ -> Ex × St)
   (hstep : ∀ (i : Nat) a x, l[i]? = some x -> E Γ B (S i a) (fun e s1 => match e with | .norm => trim keep (S i a).h.length s1 | _ => none) = some (S (i + 1) (f a x)))
   (hend : ∀ a, E Γ B (S l.length a) (fun e s1 => match e with | .norm => none | e => some (e, s1)) = some (T a)) (a : σ) :
   X Γ (.loop keep B) (S 0 a) = some (T (l.foldl f a)) := by
 rw [b5I S l (fun _ a x => .inl (f a x)) T (fun i a x a' hx hf => by cases hf; exact hstep i a x hx) (fun i a x r hx hf => by cases hf) hend a]
 have : ∀ (m : List α) (n : Nat) (a : σ), a4N (fun _ a x => Sum.inl (f a x)) T n a m = T (m.foldl f a) := by
   intro m
   induction m with
   | nil => intro n a; rfl
   | cons x m ih => intro n a; exact ih (n + 1) (f a x)
 rw [this]
theorem b3H {β : Type} {Γ : Env} {c : AC} {s : St} {Q : Ex -> St -> Option β} {r : Ex × St} (h : X Γ c s = some r) : E Γ c s Q = Q r.1 r.2 := E_of Γ s Q h
theorem a6g {β : Type} {Γ : Env} {σ α : Type} {keep : List Nat} {B : AC} (S : Nat -> σ -> St) (l : List α) (f : σ -> α -> σ) (T : σ -> Ex × St) (Q : Ex -> St -> Option β)
   (hstep : ∀ (i : Nat) a x, l[i]? = some x -> E Γ B (S i a) (fun e s1 => match e with | .norm => trim keep (S i a).h.length s1 | _ => none) = some (S (i + 1) (f a x)))
   (hend : ∀ a, E Γ B (S l.length a) (fun e s1 => match e with | .norm => none | e => some (e, s1)) = some (T a)) (a : σ) :
   E Γ (.loop keep B) (S 0 a) Q = Q (T (l.foldl f a)).1 (T (l.foldl f a)).2 := b3H (c1P S l f T hstep hend a)
theorem b5G {β : Type} {Γ : Env} {σ α : Type} {keep : List Nat} {B : AC} (S : Nat -> σ -> St) (l : List α) (f : Nat -> σ -> α -> Sum σ (Ex × St)) (T : σ -> Ex × St) (Q : Ex -> St -> Option β)
   (hstep : ∀ (i : Nat) a x a', l[i]? = some x -> f i a x = .inl a' -> E Γ B (S i a) (fun e s1 => match e with | .norm => trim keep (S i a).h.length s1 | _ => none) = some (S (i + 1) a'))
   (hexit : ∀ (i : Nat) a x r, l[i]? = some x -> f i a x = .inr r -> E Γ B (S i a) (fun e s1 => match e with | .norm => none | e => some (e, s1)) = some r)
   (hend : ∀ a, E Γ B (S l.length a) (fun e s1 => match e with | .norm => none | e => some (e, s1)) = some (T a)) (a : σ) :
   E Γ (.loop keep B) (S 0 a) Q = Q (a4N f T 0 a l).1 (a4N f T 0 a l).2 := b3H (b5I S l f T hstep hexit hend a)
def fin (f : Fn) (n : Nat) (s : St) : Option (V × List Obj) :=
 a0L (results s f.res) fun rs => br f.opn (some (tuple rs, s.h)) (a0L (a4X n s.h rs) fun rs => br ((s.h.take n).all (Obj.under n)) (some (tuple rs, s.h.take n)) none)
theorem K_fn {Γ : Env} {id : Nat} {f : Fn} (hf : Γ.fn id = some f) (vs : List V) (h : List Obj) (hl : vs.length = f.np) :
   K Γ (.fn id) vs h = E Γ f.body { t := number 0 vs, h := h } fun e s => match e with | .exit _ => none | _ => fin f h.length s := by
 rw [K_eq]
 unfold E
 simp only [a3D, hf, hl, ne_eq, not_true_eq_false, if_false]
 have key : ∀ s : St, (match results s f.res with
     | some rs => if f.opn then some (tuple rs, s.h) else match a4X h.length s.h rs with
       | some rs => if (s.h.take h.length).all (Obj.under h.length) then some (tuple rs, s.h.take h.length) else none
       | none => none
     | none => none) = fin f h.length s := fun s => by
   unfold fin
   cases results s f.res with
   | none => rfl
   | some rs =>
     simp only [a1K]
     cases f.opn with
     | true => rfl
     | false =>
       simp only [Bool.false_eq_true, if_false, a4r]
       cases a4X h.length s.h rs with
       | none => rfl
       | some rs => simp only [a1K]; cases (s.h.take h.length).all (Obj.under h.length) <;> rfl
 cases X Γ f.body { t := number 0 vs, h := h } with
 | none => rfl
 | some p =>
   obtain ⟨e, s⟩ := p
   cases e with
   | exit id => rfl
   | norm => exact key s
   | ret => exact key s
@[go_sem] theorem c7w (k : IntKind) (n : Int) : a0r (.int k n) = (.int k n) := nrfl rfl
@[go_sem] theorem c6o (k : IntKind) (n : Int) : V.cells (.sc (.int k n)) = [(.int k n)] := nrfl rfl
@[go_sem] theorem c5y (k : IntKind) (n : Int) (vs : List V) : shapes (.sc (.int k n) :: vs) = (shapes vs).map (none :: ·) := nrfl rfl
@[go_sem] theorem c5S (b : Bool) : a0r (.bool b) = (.bool b) := nrfl rfl
@[go_sem] theorem c3w (b : Bool) : V.cells (.sc (.bool b)) = [(.bool b)] := nrfl rfl
@[go_sem] theorem c2V (b : Bool) (vs : List V) : shapes (.sc (.bool b) :: vs) = (shapes vs).map (none :: ·) := nrfl rfl
@[go_sem] theorem c7B (s : ByteArray) : a0r (.str s) = (.str s) := nrfl rfl
@[go_sem] theorem c6t (s : ByteArray) : V.cells (.sc (.str s)) = [(.str s)] := nrfl rfl
@[go_sem] theorem c5E (s : ByteArray) (vs : List V) : shapes (.sc (.str s) :: vs) = (shapes vs).map (none :: ·) := nrfl rfl
@[go_sem] theorem c8S (k : SK) (es : Nat) (l : List (List C)) : a0r (.sl k es l) = (.sl k es l) := nrfl rfl
@[go_sem] theorem c8b (k : SK) (es : Nat) (l : List (List C)) : V.cells (.sc (.sl k es l)) = [(.sl k es l)] := nrfl rfl
@[go_sem] theorem c7f (k : SK) (es : Nat) (l : List (List C)) (vs : List V) : shapes (.sc (.sl k es l) :: vs) = (shapes vs).map (none :: ·) := nrfl rfl
@[go_sem] theorem c5V (ka va : Bool) (l : List (List C × List C)) : a0r (.imap ka va l) = (.imap ka va l) := nrfl rfl
@[go_sem] theorem c3y (ka va : Bool) (l : List (List C × List C)) : V.cells (.sc (.imap ka va l)) = [(.imap ka va l)] := nrfl rfl
@[go_sem] theorem c2X (ka va : Bool) (l : List (List C × List C)) (vs : List V) : shapes (.sc (.imap ka va l) :: vs) = (shapes vs).map (none :: ·) := nrfl rfl
@[go_sem] theorem c5T (cs : List C) (off : Nat) : a0r (.eptr cs off) = (.eptr cs off) := nrfl rfl
@[go_sem] theorem c3x (cs : List C) (off : Nat) : V.cells (.sc (.eptr cs off)) = [(.eptr cs off)] := nrfl rfl
@[go_sem] theorem c2W (cs : List C) (off : Nat) (vs : List V) : shapes (.sc (.eptr cs off) :: vs) = (shapes vs).map (none :: ·) := nrfl rfl
@[go_sem] theorem c8R (f : Fk) (sh : List (Option Nat)) (first cap : List C) : a0r (.fn f sh first cap) = (.fn f sh first cap) := nrfl rfl
@[go_sem] theorem c8a (f : Fk) (sh : List (Option Nat)) (first cap : List C) : V.cells (.sc (.fn f sh first cap)) = [(.fn f sh first cap)] := nrfl rfl
@[go_sem] theorem c7e (f : Fk) (sh : List (Option Nat)) (first cap : List C) (vs : List V) : shapes (.sc (.fn f sh first cap) :: vs) = (shapes vs).map (none :: ·) := nrfl rfl
@[go_sem] theorem c5W  : a0r .nilf = .nilf := nrfl rfl
@[go_sem] theorem c3A  : V.cells (.sc .nilf) = [.nilf] := nrfl rfl
@[go_sem] theorem c2Z  (vs : List V) : shapes (.sc .nilf :: vs) = (shapes vs).map (none :: ·) := nrfl rfl
@[go_sem] theorem c5Y  : a0r .nilp = .nilp := nrfl rfl
@[go_sem] theorem c3C  : V.cells (.sc .nilp) = [.nilp] := nrfl rfl
@[go_sem] theorem c3b  (vs : List V) : shapes (.sc .nilp :: vs) = (shapes vs).map (none :: ·) := nrfl rfl
@[go_sem] theorem c5X  : a0r .nili = .nili := nrfl rfl
@[go_sem] theorem c3B  : V.cells (.sc .nili) = [.nili] := nrfl rfl
@[go_sem] theorem c3a  (vs : List V) : shapes (.sc .nili :: vs) = (shapes vs).map (none :: ·) := nrfl rfl
@[go_sem] theorem c7A (r off : Nat) : a0r (.ptr r off) = (.ptr r off) := nrfl rfl
@[go_sem] theorem c6s (r off : Nat) : V.cells (.sc (.ptr r off)) = [(.ptr r off)] := nrfl rfl
@[go_sem] theorem c5C (r off : Nat) (vs : List V) : shapes (.sc (.ptr r off) :: vs) = (shapes vs).map (none :: ·) := nrfl rfl
@[go_sem] theorem c7x (r : Nat) : a0r (.map r) = (.map r) := nrfl rfl
@[go_sem] theorem c6p (r : Nat) : V.cells (.sc (.map r)) = [(.map r)] := nrfl rfl
@[go_sem] theorem c5z (r : Nat) (vs : List V) : shapes (.sc (.map r) :: vs) = (shapes vs).map (none :: ·) := nrfl rfl
@[go_sem] theorem c7y (r off len cap es : Nat) : a0r (.msl r off len cap es) = (.msl r off len cap es) := nrfl rfl
@[go_sem] theorem c6q (r off len cap es : Nat) : V.cells (.sc (.msl r off len cap es)) = [(.msl r off len cap es)] := nrfl rfl
@[go_sem] theorem c5A (r off len cap es : Nat) (vs : List V) : shapes (.sc (.msl r off len cap es) :: vs) = (shapes vs).map (none :: ·) := nrfl rfl
@[go_sem] theorem c3h (r i : Nat) : a0r (.stamp r i) = (.stamp r i) := nrfl rfl
@[go_sem] theorem c2G (r i : Nat) : V.cells (.sc (.stamp r i)) = [(.stamp r i)] := nrfl rfl
@[go_sem] theorem c2t (r i : Nat) (vs : List V) : shapes (.sc (.stamp r i) :: vs) = (shapes vs).map (none :: ·) := nrfl rfl
@[go_sem] theorem c7z (es : Nat) (l : List (List C)) : a0r (.own es l) = .sl .shared es l := nrfl rfl
@[go_sem] theorem c6r (es : Nat) (l : List (List C)) : V.cells (.sc (.own es l)) = [.own es l] := nrfl rfl
@[go_sem] theorem c9E (k : IntKind) (m : Int) (b' : Nat) (h : List Obj) (n : Nat) : frz b' h (n + 1) (.int k m) = some (.int k m) := nrfl rfl
@[go_sem] theorem c8F (k : IntKind) (n : Int) : C.pure (.int k n) = true := nrfl rfl
@[go_sem] theorem c7o (k : IntKind) (n : Int) (m : Nat) : C.under m (.int k n) = true := nrfl rfl
@[go_sem] theorem c8k (b : Bool) (b' : Nat) (h : List Obj) (n : Nat) : frz b' h (n + 1) (.bool b) = some (.bool b) := nrfl rfl
@[go_sem] theorem c6S (b : Bool) : C.pure (.bool b) = true := nrfl rfl
@[go_sem] theorem c5I (b : Bool) (m : Nat) : C.under m (.bool b) = true := nrfl rfl
@[go_sem] theorem c9J (s : ByteArray) (b' : Nat) (h : List Obj) (n : Nat) : frz b' h (n + 1) (.str s) = some (.str s) := nrfl rfl
@[go_sem] theorem c8K (s : ByteArray) : C.pure (.str s) = true := nrfl rfl
@[go_sem] theorem c7u (s : ByteArray) (m : Nat) : C.under m (.str s) = true := nrfl rfl
@[go_sem] theorem d0A (k : SK) (es : Nat) (l : List (List C)) (b' : Nat) (h : List Obj) (n : Nat) : frz b' h (n + 1) (.sl k es l) = some (.sl k es l) := nrfl rfl
@[go_sem] theorem c9T (k : SK) (es : Nat) (l : List (List C)) : C.pure (.sl k es l) = true := nrfl rfl
@[go_sem] theorem c8Q (k : SK) (es : Nat) (l : List (List C)) (m : Nat) : C.under m (.sl k es l) = true := nrfl rfl
@[go_sem] theorem c8m (ka va : Bool) (l : List (List C × List C)) (b' : Nat) (h : List Obj) (n : Nat) : frz b' h (n + 1) (.imap ka va l) = some (.imap ka va l) := nrfl rfl
@[go_sem] theorem c6U (ka va : Bool) (l : List (List C × List C)) : C.pure (.imap ka va l) = true := nrfl rfl
@[go_sem] theorem c5K (ka va : Bool) (l : List (List C × List C)) (m : Nat) : C.under m (.imap ka va l) = true := nrfl rfl
@[go_sem] theorem c8l (cs : List C) (off : Nat) (b' : Nat) (h : List Obj) (n : Nat) : frz b' h (n + 1) (.eptr cs off) = some (.eptr cs off) := nrfl rfl
@[go_sem] theorem c6T (cs : List C) (off : Nat) : C.pure (.eptr cs off) = true := nrfl rfl
@[go_sem] theorem c5J (cs : List C) (off : Nat) (m : Nat) : C.under m (.eptr cs off) = true := nrfl rfl
@[go_sem] theorem c8o  (b' : Nat) (h : List Obj) (n : Nat) : frz b' h (n + 1) .nilf = some .nilf := nrfl rfl
@[go_sem] theorem c6V  : C.pure .nilf = true := nrfl rfl
@[go_sem] theorem c5N  (m : Nat) : C.under m .nilf = true := nrfl rfl
@[go_sem] theorem c8q  (b' : Nat) (h : List Obj) (n : Nat) : frz b' h (n + 1) .nilp = some .nilp := nrfl rfl
@[go_sem] theorem c6X  : C.pure .nilp = true := nrfl rfl
@[go_sem] theorem c5P  (m : Nat) : C.under m .nilp = true := nrfl rfl
@[go_sem] theorem c8p  (b' : Nat) (h : List Obj) (n : Nat) : frz b' h (n + 1) .nili = some .nili := nrfl rfl
@[go_sem] theorem c6W  : C.pure .nili = true := nrfl rfl
@[go_sem] theorem c5O  (m : Nat) : C.under m .nili = true := nrfl rfl
@[go_sem] theorem c9H (b : Nat) (h : List Obj) (n es : Nat) (l : List (List C)) : frz b h (n + 1) (.own es l) = some (.sl .shared es l) := nrfl rfl
@[go_sem] theorem c9I (b : Nat) (h : List Obj) (n r off : Nat) : frz b h (n + 1) (.ptr r off) = br (decide (r < b)) (some (.ptr r off)) (a8j (h[r]?) fun cs => a0L (frzL b h n cs) fun cs => br (C.a0v cs) (some (.eptr cs off)) none) := by
 simp only [frz]
 by_cases hc : r < b
 . simp [hc]
 . simp only [hc, if_false, decide_false, a4r]
   cases h[r]? with
   | none => rfl
   | some o => cases o with
     | var cs => simp only [a5U]; cases frzL b h n cs with
                 | none => rfl
                 | some cs => simp only [a1K]; cases C.a0v cs <;> rfl
     | _ => rfl
@[go_sem] theorem c9F (b : Nat) (h : List Obj) (n r : Nat) : frz b h (n + 1) (.map r) = br (decide (r < b)) (some (.map r)) (match h[r]? with | some (.map ka va l none) => some (.imap ka va l) | some (.set n f) => some (.iset n f) | _ => none) := by
 simp only [frz]
 by_cases hc : r < b
 . simp [hc]
 . simp only [hc, if_false, decide_false, a4r]; rfl
@[go_sem] theorem c9G (b : Nat) (h : List Obj) (n r off len cap es : Nat) : frz b h (n + 1) (.msl r off len cap es) = br (decide (r < b)) (some (.msl r off len cap es)) (a8j (h[r]?) fun cs => a0L (frzL b h n cs) fun cs => br (C.a0v cs) ((chunks cs off es len).map fun l => .sl (if cap = len /\ cap ≠ 0 then .full else .shared) es l) none) := by
 simp only [frz]
 by_cases hc : r < b
 . simp [hc]
 . simp only [hc, if_false, decide_false, a4r]
   cases h[r]? with
   | none => rfl
   | some o => cases o with
     | var cs => simp only [a5U]; cases frzL b h n cs with
                 | none => rfl
                 | some cs => simp only [a1K]; cases C.a0v cs <;> rfl
     | _ => rfl
@[go_sem] theorem d0z (b : Nat) (h : List Obj) (n id : Nat) (sh : List (Option Nat)) (first cap : List C) : frz b h (n + 1) (.fn (.fn id) sh first cap) = a0L (frzL b h n first) fun a => a0L (frzL b h n cap) fun d => some (.fn (.fn id) sh a d) := by
 simp only [frz]
 cases frzL b h n first with
 | none => rfl
 | some a => simp only [a1K]; cases frzL b h n cap <;> rfl
@[go_sem] theorem c8i (b : Nat) (h : List Obj) (n : Nat) : frzL b h (n + 1) [] = some [] := by simp [frzL]
@[go_sem] theorem c6x (b : Nat) (h : List Obj) (n : Nat) (c : C) (cs : List C) : frzL b h (n + 1) (c :: cs) = a0L (frz b h n c) fun c => a0L (frzL b h n cs) fun cs => some (c :: cs) := by
 simp only [frzL]
 cases frz b h n c with
 | none => rfl
 | some c => simp only [a1K]; cases frzL b h n cs <;> rfl
@[go_sem] theorem c9D (b : Nat) (h : List Obj) (c : C) : frzV b h (.sc c) = (frz b h 64 c).map .sc := nrfl rfl
@[go_sem] theorem c8j (b : Nat) (h : List Obj) (cs : List C) : frzV b h (.agg cs) = (frzL b h 128 cs).map .agg := nrfl rfl
@[go_sem] theorem c6y (b : Nat) (h : List Obj) : a4X b h [] = some [] := nrfl rfl
@[go_sem] theorem c3I (b : Nat) (h : List Obj) (v : V) (vs : List V) : a4X b h (v :: vs) = a0L (frzV b h v) fun v => a0L (a4X b h vs) fun vs => some (v :: vs) := by
 simp only [a4X]
 cases frzV b h v with
 | none => rfl
 | some v => simp only [a1K]; cases a4X b h vs <;> rfl
@[go_sem] theorem c8J (r off : Nat) : C.pure (.ptr r off) = false := nrfl rfl
@[go_sem] theorem c8G (r : Nat) : C.pure (.map r) = false := nrfl rfl
@[go_sem] theorem c8H (r off len cap es : Nat) : C.pure (.msl r off len cap es) = false := nrfl rfl
@[go_sem] theorem c8I (es : Nat) (l : List (List C)) : C.pure (.own es l) = false := nrfl rfl
@[go_sem] theorem c9S (id : Nat) (sh : List (Option Nat)) (first cap : List C) : C.pure (.fn (.fn id) sh first cap) = (C.a0v first && C.a0v cap) := by simp [C.pure]
@[go_sem] theorem c7s (m r off : Nat) : C.under m (.ptr r off) = decide (r < m) := nrfl rfl
@[go_sem] theorem c7p (m r : Nat) : C.under m (.map r) = decide (r < m) := nrfl rfl
@[go_sem] theorem c7q (m r off len cap es : Nat) : C.under m (.msl r off len cap es) = decide (r < m) := nrfl rfl
@[go_sem] theorem c7r (m es : Nat) (l : List (List C)) : C.under m (.own es l) = true := nrfl rfl
@[go_sem] theorem c7v (m : Nat) : C.under m .top = true := nrfl rfl
@[go_sem] theorem c8P (m id : Nat) (sh : List (Option Nat)) (first cap : List C) : C.under m (.fn (.fn id) sh first cap) = (C.a0G m first && C.a0G m cap) := by simp [C.under]
@[go_sem] theorem c3e (m l : Nat) (sh : List (Option Nat)) (first cap : List C) : C.under m (.fn (.yield l) sh first cap) = (decide (l < m) && C.a0G m first && C.a0G m cap) := by simp [C.under]
@[go_sem] theorem c5H (m : Nat) : C.a0G m [] = true := nrfl rfl
@[go_sem] theorem c3c (m : Nat) (c : C) (cs : List C) : C.a0G m (c :: cs) = (C.under m c && C.a0G m cs) := nrfl rfl
@[go_sem] theorem c6R : C.a0v [] = true := nrfl rfl
@[go_sem] theorem c5u (c : C) (cs : List C) : C.a0v (c :: cs) = (C.pure c && C.a0v cs) := nrfl rfl
@[go_sem] theorem c7Z (c : C) : V.pure (.sc c) = c.pure := nrfl rfl
@[go_sem] theorem c6j (cs : List C) : V.pure (.agg cs) = C.a0v cs := nrfl rfl
@[go_sem] theorem c6k (m : Nat) (c : C) : V.under m (.sc c) = c.under m := by simp [V.under]
@[go_sem] theorem c3r (m : Nat) (cs : List C) : V.under m (.agg cs) = C.a0G m cs := by simp [V.under]
@[go_sem] theorem c3s (m : Nat) (vs : List V) : V.under m (.tup vs) = V.a2I m vs := by simp [V.under]
@[go_sem] theorem c2F (m : Nat) : V.a2I m [] = true := by simp [V.a2I]
@[go_sem] theorem c1O (m : Nat) (v : V) (vs : List V) : V.a2I m (v :: vs) = (v.under m && V.a2I m vs) := by simp [V.a2I]
@[go_sem] theorem c3p (m : Nat) (cs : List C) : Obj.under m (.var cs) = C.a0G m cs := nrfl rfl
@[go_sem] theorem c2B (m : Nat) : Obj.under m .dead = true := nrfl rfl
@[go_sem] theorem c2C (m : Nat) : Obj.under m .free = true := nrfl rfl
@[go_sem] theorem c3o (m : Nat) (ka va : Bool) (l : List (List C × List C)) (ph : Option (List C × List C)) : Obj.under m (.map ka va l ph) = true := nrfl rfl
@[go_sem] theorem c2E (m : Nat) (st : LS) (pend : Option Ex) (t : List (Nat × V)) (ps : List Nat) (a b : AC) : Obj.under m (.loop st pend t ps a b) = t.all fun p => p.2.under m := nrfl rfl
@[go_sem] theorem c6l (c : C) : V.a0r (.sc c) = .sc (a0r c) := nrfl rfl
@[go_sem] theorem c3t (cs : List C) : V.a0r (.agg cs) = .agg cs := nrfl rfl
@[go_sem] theorem c3u (vs : List V) : V.a0r (.tup vs) = .tup vs := nrfl rfl
@[go_sem] theorem c6n (cs : List C) : V.cells (.agg cs) = cs := nrfl rfl
@[go_sem] theorem c8s (c : C) : V.isAgg (.sc c) = false := nrfl rfl
@[go_sem] theorem c6z (cs : List C) : V.isAgg (.agg cs) = true := nrfl rfl
@[go_sem] theorem c5B : shapes [] = some [] := nrfl rfl
@[go_sem] theorem c5x (cs : List C) (vs : List V) : shapes (.agg cs :: vs) = (shapes vs).map (some cs.length :: ·) := nrfl rfl
section
variable (Γ : Env) (t : List (Nat × V)) (i j : Nat) (v : V) (h : List Obj)
@[go_sem] theorem rd_t : rd Γ t (.t i) = (get t i).a0r := nrfl rfl
@[go_sem] theorem d1f : rd Γ t (.tk i) = get t i := nrfl rfl
@[go_sem] theorem rd_k : rd Γ t (.k v) = v := nrfl rfl
@[go_sem] theorem rd_f : rd Γ t (.f i) = .sc (.fn (.fn i) [] [] []) := nrfl rfl
@[go_sem] theorem rd_g : rd Γ t (.g i) = .sc (.eptr (Γ.glob i) 0) := nrfl rfl
@[go_sem] theorem c8r : get ((j, v) :: t) i = if j = i then v else get t i := nrfl rfl
@[go_sem] theorem c6Z : put1 (some i) v t = (i, v) :: t := nrfl rfl
@[go_sem] theorem c6Y : put1 none v t = t := nrfl rfl
@[go_sem] theorem c6v : Pm.drop [] t = t := nrfl rfl
@[go_sem] theorem drop_cons (l : List Nat) : Pm.drop (i :: l) t = Pm.drop l ((i, (get t i).a0r) :: t) := nrfl rfl
@[go_sem] theorem c9Y : Rand.takes (.t i) = [] := nrfl rfl
@[go_sem] theorem c8O : Rand.takes (.tk i) = [i] := nrfl rfl
@[go_sem] theorem c9X : Rand.takes (.k v) = [] := nrfl rfl
@[go_sem] theorem c9V : Rand.takes (.f i) = [] := nrfl rfl
@[go_sem] theorem c9W : Rand.takes (.g i) = [] := nrfl rfl
@[go_sem] theorem c2p : restrict [] t = [] := nrfl rfl
@[go_sem] theorem c1G (l : List Nat) : restrict (i :: l) t = (i, get t i) :: restrict l t := nrfl rfl
@[go_sem] theorem c3S : number i [] = [] := nrfl rfl
@[go_sem] theorem c2K (vs : List V) : number i (v :: vs) = (i, v) :: number (i + 1) vs := nrfl rfl
@[go_sem] theorem c2S : results ⟨t, h⟩ [] = some [] := nrfl rfl
@[go_sem] theorem c1H (ps : List (Nat × Option (Option Nat))) : results ⟨t, h⟩ ((i, none) :: ps) = a0L (results ⟨t, h⟩ ps) fun vs => some ((get t i).a0r :: vs) := by
 simp only [results, a7K]
 cases results ⟨t, h⟩ ps <;> rfl
@[go_sem] theorem c1I (n : Option Nat) (ps : List (Nat × Option (Option Nat))) : results ⟨t, h⟩ ((i, some n) :: ps) = a7w (get t i) (fun r off => a8j (h[r]?) fun cs => a0L (a1t cs off n) fun v => a0L (results ⟨t, h⟩ ps) fun vs => some (v :: vs)) (fun _ _ => none) := by
 simp only [results, a7K]
 cases get t i with
 | sc c => cases c with
   | ptr r off =>
     simp only [a6b]
     cases h[r]? with
     | none => rfl
     | some o => cases o with
       | var cs => simp only [a5U]; cases a1t cs off n with
                   | none => rfl
                   | some v => simp only [a1K]; cases results ⟨t, h⟩ ps <;> rfl
       | _ => rfl
   | _ => rfl
 | _ => rfl
@[go_sem] theorem c7m : tuple [v] = v := nrfl rfl
@[go_sem] theorem c7l : tuple [] = .tup [] := nrfl rfl
@[go_sem] theorem c7n (a b : V) (l : List V) : tuple (a :: b :: l) = .tup (a :: b :: l) := nrfl rfl
@[go_sem] theorem c6w : frozen i ⟨t, h⟩ = a7w (get t i) (fun r off => a8j (h[r]?) fun cs => br (C.a0v (cs.map a0r)) (some ⟨(i, .sc (.eptr (cs.map a0r) off)) :: t, h.set r .dead⟩) none) (fun _ _ => none) := by
 simp only [frozen]
 cases get t i with
 | sc c => cases c with
   | ptr r off =>
     simp only [a6b]
     cases h[r]? with
     | none => rfl
     | some o => cases o with
       | var cs => simp only [a5U]; cases C.a0v (cs.map a0r) <;> rfl
       | _ => rfl
   | _ => rfl
 | _ => rfl
@[go_sem] theorem d0a (keep : List Nat) (n : Nat) : trim keep n ⟨t, h⟩ = br ((restrict keep t).all (fun p => p.2.under n) && (h.take n).all (Obj.under n)) (some ⟨restrict keep t, h.take n⟩) none := by
 simp only [trim]
 cases (restrict keep t).all (fun p => p.2.under n) <;> cases (h.take n).all (Obj.under n) <;> simp [br]
end
section
variable (k : IntKind) (x y : Int)
@[go_sem] theorem c9o : bin .add (.sc (.int k x)) (.sc (.int k y)) = some (.int k (k.wrap (x + y))) := by simp [bin, arith]
@[go_sem] theorem c9B : bin .sub (.sc (.int k x)) (.sc (.int k y)) = some (.int k (k.wrap (x - y))) := by simp [bin, arith]
@[go_sem] theorem c9v : bin .mul (.sc (.int k x)) (.sc (.int k y)) = some (.int k (k.wrap (x * y))) := by simp [bin, arith]
@[go_sem] theorem c9x : bin .quo (.sc (.int k x)) (.sc (.int k y)) = br (decide (y = 0)) none (some (.int k (k.wrap (x.tdiv y)))) := by
 by_cases h : y = 0 <;> simp [bin, arith, h]
@[go_sem] theorem c9y : bin .rem (.sc (.int k x)) (.sc (.int k y)) = br (decide (y = 0)) none (some (.int k (x.tmod y))) := by
 by_cases h : y = 0 <;> simp [bin, arith, h]
@[go_sem] theorem c9q : bin .eql (.sc (.int k x)) (.sc (.int k y)) = some (.bool (decide (x = y))) := by simp [bin, arith, BEq.beq]
@[go_sem] theorem c9w : bin .neq (.sc (.int k x)) (.sc (.int k y)) = some (.bool (!decide (x = y))) := by simp [bin, arith, bne, BEq.beq]
@[go_sem] theorem c9u : bin .lss (.sc (.int k x)) (.sc (.int k y)) = some (.bool (decide (x < y))) := by simp [bin, arith]
@[go_sem] theorem c9t : bin .leq (.sc (.int k x)) (.sc (.int k y)) = some (.bool (decide (x <= y))) := by simp [bin, arith]
@[go_sem] theorem c9s : bin .gtr (.sc (.int k x)) (.sc (.int k y)) = some (.bool (decide (y < x))) := by simp [bin, arith]
@[go_sem] theorem c9r : bin .geq (.sc (.int k x)) (.sc (.int k y)) = some (.bool (decide (y <= x))) := by simp [bin, arith]
@[go_sem] theorem d0F : un .neg (.sc (.int k x)) = some (.int k (k.wrap (0 - x))) := nrfl rfl
@[go_sem] theorem d0G (b : Bool) : un .not (.sc (.bool b)) = some (.bool !b) := nrfl rfl
end
@[go_sem] theorem c1E (cs : List C) (off : Nat) : a1t cs off none = a0L (cs[off]?) fun c => some (.sc (a0r c)) := by
 simp only [a1t]; cases cs[off]? <;> rfl
@[go_sem] theorem c1F (cs : List C) (off n : Nat) : a1t cs off (some n) = a0L (a0R cs off n) fun l => some (.agg (l.map a0r)) := by
 simp only [a1t]; cases a0R cs off n <;> rfl
@[go_sem] theorem c1V (cs : List C) (off : Nat) : a0R cs off 0 = some [] := nrfl rfl
theorem a7O (cs : List C) (off n : Nat) : a0R cs off (n + 1) = a0L (cs[off]?) fun c => a0L (a0R cs (off + 1) n) fun l => some (c :: l) := by
 simp only [a0R]
 cases cs[off]? with
 | none => rfl
 | some c => simp only [a1K]; cases a0R cs (off + 1) n <;> rfl
@[go_sem] theorem a9P (c : C) (cs : List C) : ∀ (n k : Nat), a0R (c :: cs) (k + 1) n = a0R cs k n
 | 0, _ => rfl
 | n + 1, k => by rw [a7O, a7O, a9P c cs n (k + 1), List.getElem?_cons_succ]
@[go_sem] theorem c1T (c : C) (cs : List C) (n : Nat) : a0R (c :: cs) 0 (n + 1) = a0L (a0R cs 0 n) fun l => some (c :: l) := by
 rw [a7O, List.getElem?_cons_zero, a1K, a9P]
@[go_sem] theorem c5w (cs : List C) (off : Nat) : a1H cs off [] = cs := nrfl rfl
@[go_sem] theorem c2T (cs : List C) (off : Nat) (v : C) (vs : List C) : a1H cs off (v :: vs) = a1H (cs.set off v) (off + 1) vs := nrfl rfl
@[go_sem] theorem c1B (z : List C) : a3a z [] = some z := nrfl rfl
@[go_sem] theorem c0N (z : List C) (off n : Nat) (v : V) (r : List (Nat × Nat × V)) : a3a z ((off, n, v) :: r) = br (decide (v.cells.length = n /\ 0 < n /\ off + n <= z.length)) (a3a (a1H z off v.cells) r) none := by
 simp only [a3a]
 by_cases h : v.cells.length = n /\ 0 < n /\ off + n <= z.length <;> simp [h]
@[go_sem] theorem c1C (es : Nat) (l : List (List C)) : a2c es l [] = some l := nrfl rfl
@[go_sem] theorem c0O (es : Nat) (l : List (List C)) (i : Nat) (v : V) (r : List (Nat × V)) : a2c es l ((i, v) :: r) = br (decide (v.cells.length = es /\ i < l.length)) (a2c es (l.set i v.cells) r) none := by
 simp only [a2c]
 by_cases h : v.cells.length = es /\ i < l.length <;> simp [h]
@[go_sem] theorem c7k (id : Nat) (sh : List (Option Nat)) (first cap : List C) (args : List V) : target (.sc (.fn (.fn id) sh first cap)) args = a0L (a2F sh first) fun fs => some (.fn id, fs ++ args ++ cap.map .sc) := by
 simp only [target]; cases a2F sh first <;> rfl
@[go_sem] theorem c2x (l : Nat) (sh : List (Option Nat)) (first cap : List C) (args : List V) : target (.sc (.fn (.yield l) sh first cap)) args = some (.yield l, args) := nrfl rfl
@[go_sem] theorem c5R : a2F [] [] = some [] := nrfl rfl
@[go_sem] theorem c3f (sh : List (Option Nat)) (c : C) (cs : List C) : a2F (none :: sh) (c :: cs) = a0L (a2F sh cs) fun l => some (.sc c :: l) := by
 simp only [a2F]; cases a2F sh cs <;> rfl
@[go_sem] theorem c3g (n : Nat) (sh : List (Option Nat)) (cs : List C) : a2F (some n :: sh) cs = br (decide (n <= cs.length)) (a0L (a2F sh (cs.drop n)) fun l => some (.agg (cs.take n) :: l)) none := by
 simp only [a2F]
 by_cases h : n <= cs.length
 . simp only [h, if_true, decide_true, a4R]; cases a2F sh (cs.drop n) <;> rfl
 . simp [h]
@[go_sem] theorem c6m (h : List Obj) (v : V) : alone h (v, []) = some (v, h) := nrfl rfl
@[go_sem] theorem c6D : a0c [] [] [] = some true := nrfl rfl
@[go_sem] theorem c2J (t : Nat) (ts : List Nat) (c d : C) (cs ds : List C) : a0c (t :: ts) (c :: cs) (d :: ds) = a0L (a0g t c d) fun a => a0L (a0c ts cs ds) fun b => some (a && b) := by
 simp only [a0c]
 cases a0g t c d with
 | none => rfl
 | some a => simp only [a1K]; cases a0c ts cs ds <;> rfl
@[go_sem] theorem c5F (a b : Bool) : a0g 0 (.bool a) (.bool b) = some (a == b) := nrfl rfl
@[go_sem] theorem c7i (k : IntKind) (a b : Int) : a0g 1 (.int k a) (.int k b) = some (decide (a = b)) := by simp [a0g, BEq.beq]
@[go_sem] theorem c7j (a b : ByteArray) : a0g 2 (.str a) (.str b) = some (a == b) := nrfl rfl
@[go_sem] theorem c6G (k : IntKind) (x : Int) : minOf k x [] = some (.int k x) := nrfl rfl
@[go_sem] theorem c3R (k k' : IntKind) (x y : Int) (r : List V) : minOf k x (.sc (.int k' y) :: r) = minOf k (min x y) r := by
 simp only [minOf]; congr 1; omega
@[go_sem] theorem c6E (k : IntKind) (x : Int) : maxOf k x [] = some (.int k x) := nrfl rfl
@[go_sem] theorem c3P (k k' : IntKind) (x y : Int) (r : List V) : maxOf k x (.sc (.int k' y) :: r) = maxOf k (max x y) r := by
 simp only [maxOf]; congr 1; omega
mutual
theorem b5B (n : Nat) : ∀ c : C, c.pure = true -> c.under n = true
 | .int _ _, _ | .bool _, _ | .str _, _ | .sl _ _ _, _ | .imap _ _ _, _ | .iset _ _, _ | .eptr _ _, _ | .nilf, _ | .nilp, _ | .nili, _ | .top, _ => by simp [C.under]
 | .own _ _, h | .ptr _ _, h | .map _, h | .msl _ _ _ _ _, h | .stamp _ _, h => by simp [C.pure] at h
 | .fn f sh first cap, h => by
   simp only [C.pure, Bool.and_eq_true] at h
   simp only [C.under, Bool.and_eq_true]
   refine ⟨⟨?_, a0C n first h.1.2⟩, a0C n cap h.2⟩
   cases f with
   | fn => rfl
   | yield => simp at h
theorem a0C (n : Nat) : ∀ cs : List C, C.a0v cs = true -> C.a0G n cs = true
 | [], _ => rfl
 | c :: cs, h => by
   simp only [C.a0v, Bool.and_eq_true] at h
   simp only [C.a0G, Bool.and_eq_true]
   exact ⟨b5B n c h.1, a0C n cs h.2⟩
end
theorem wrap_i64 {x : Int} (h1 : -9223372036854775808 <= x) (h2 : x <= 9223372036854775807) : IntKind.i64.wrap x = x := by
 have e1 : IntKind.i64.bits = 64 := rfl
 have e2 : IntKind.i64.signed = true := rfl
 simp only [IntKind.wrap, e1, e2, Bool.true_and, decide_eq_true_eq]
 split <;> omega
attribute [go_sem] fin Int.lt_irrefl Nat.lt_irrefl List.length_nil List.length_cons List.nil_append List.cons_append List.append_nil Nat.zero_add Nat.add_zero Option.map_some List.take_nil List.take_zero List.take_succ_cons List.all_nil List.all_cons List.getElem?_cons_zero List.getElem?_cons_succ List.set_cons_zero List.set_cons_succ List.map_nil List.map_cons List.replicate_zero List.replicate_succ List.flatMap_nil List.flatMap_cons Bool.and_true Bool.true_and Bool.and_false Bool.false_and Bool.and_self Bool.not_true Bool.not_false Bool.xor_false Bool.false_xor Bool.true_xor decide_true decide_false and_self and_true true_and Option.map_none Nat.zero_mul Nat.mul_one
abbrev vi (n : Int) : V := .sc (.int .i64 n)
abbrev vb (b : Bool) : V := .sc (.bool b)
abbrev ci (n : Int) : C := .int .i64 n
attribute [go_sem] Int.toNat_natCast wrap_i64 List.length_map List.getElem?_map Option.map_some Option.map_none List.all_cons List.all_nil List.isEmpty_nil Bool.and_self Bool.true_and Bool.and_true
end Go.Pm
namespace Go.Pm
open Go
section
variable {β : Type} (Γ : Env)
@[go_sem high] theorem c8X (nal : Nat) (ops : List Oper) (keep : List Nat) (s : St) (Q : Ex -> St -> Option β) (hc : (ops.all fun o => o.conf.isEmpty) = true) :
   E Γ (.region nal ops true keep) s Q = R Γ s.h.length ops { t := s.t, h := s.h ++ List.replicate nal .free } fun s => Q .norm { t := restrict keep s.t, h := s.h } := by
 rw [c1K]
 have key : ∀ (os : List Oper) (s : St) (l : List (Nat × Acc)) (k : St -> Option β) (base : Nat), (os.all fun o => o.conf.isEmpty) = true -> RT0 Γ base os s l k = R0 Γ base os s k := by
   intro os
   induction os with
   | nil => intros; rfl
   | cons o os ih =>
     intro s l k base hc
     obtain ⟨ix, d, op, g, cf⟩ := o
     simp only [List.all_cons, Bool.and_eq_true, List.isEmpty_iff] at hc
     obtain ⟨rfl, hc⟩ := hc
     unfold RT0 R0 P1
     simp only [List.all_nil, if_true, ih _ _ _ _ hc]
 exact key _ _ _ _ _ hc
@[go_sem] theorem c8x {α : Type} (b : Bool) (x y : Option α) (f : α -> Option β) : a0L (br b x y) f = br b (a0L x f) (a0L y f) := by cases b <;> rfl
/-! ### Loops that seek -/
def a0z {α : Type} (p : Nat -> α -> Bool) : Nat -> List α -> Option (Nat × α)
 | _, [] => none
 | n, x :: l => if p n x then some (n, x) else a0z p (n + 1) l
theorem a2L {α : Type} {p : Nat -> α -> Bool} : ∀ {l : List α} {n : Nat}, a0z p n l = none <-> ∀ i x, l[i]? = some x -> p (n + i) x = false
 | [], _ => by simp [a0z]
 | x :: l, n => by
   cases h : p n x with
   | true =>
     simp only [a0z, h, if_true]
     constructor
     . intro h; cases h
     . intro hh; have := hh 0 x rfl; rw [Nat.add_zero, h] at this; cases this
   | false =>
     have := a2L (p := p) (l := l) (n := n + 1)
     simp only [a0z, h, Bool.false_eq_true, if_false]
     rw [this]
     constructor
     . intro hh i y hy
       cases i with
       | zero => simp at hy; subst hy; exact h
       | succ i => have := hh i y (by simpa using hy); rwa [show n + (i + 1) = n + 1 + i by omega]
     . intro hh i y hy
       have := hh (i + 1) y (by simpa using hy); rwa [show n + 1 + i = n + (i + 1) by omega]
theorem a3F {α : Type} {p : Nat -> α -> Bool} : ∀ {l : List α} {n : Nat} {i : Nat} {x : α}, a0z p n l = some (i, x) -> n <= i /\ l[i - n]? = some x /\ p i x = true /\ ∀ j y, j < i - n -> l[j]? = some y -> p (n + j) y = false
 | [], _, _, _, h => by cases h
 | y :: l, n, i, x, h => by
   cases hp : p n y with
   | true =>
     simp only [a0z, hp, if_true, Option.some.injEq, Prod.mk.injEq] at h
     obtain ⟨rfl, rfl⟩ := h
     simp only [Nat.sub_self]
     exact ⟨Nat.le_refl _, rfl, hp, fun j y hj => by omega⟩
   | false =>
     simp only [a0z, hp, Bool.false_eq_true, if_false] at h
     obtain ⟨h1, h2, h3, h4⟩ := a3F h
     refine ⟨by omega, ?_, h3, ?_⟩
     . rw [show i - n = (i - (n + 1)) + 1 by omega]; simpa using h2
     . intro j z hj hz
       cases j with
       | zero => simp at hz; subst hz; exact hp
       | succ j =>
         have := h4 j z (by omega) (by simpa using hz)
         rwa [show n + (j + 1) = n + 1 + j by omega]
theorem a4L {Γ : Env} {α : Type} {keep : List Nat} {B : AC} (S : Nat -> St) (l : List α) (p : Nat -> α -> Bool) (R : Nat -> α -> Ex × St) (T : Ex × St) (Q : Ex -> St -> Option β)
   (hstep : ∀ (i : Nat) x, l[i]? = some x -> p i x = false -> E Γ B (S i) (fun e s1 => match e with | .norm => trim keep (S i).h.length s1 | _ => none) = some (S (i + 1)))
   (hexit : ∀ (i : Nat) x, l[i]? = some x -> p i x = true -> E Γ B (S i) (fun e s1 => match e with | .norm => none | e => some (e, s1)) = some (R i x))
   (hend : E Γ B (S l.length) (fun e s1 => match e with | .norm => none | e => some (e, s1)) = some T) :
   E Γ (.loop keep B) (S 0) Q = match a0z p 0 l with | some (i, x) => Q (R i x).1 (R i x).2 | none => Q T.1 T.2 := by
 rw [b5G (fun i (_ : Unit) => S i) l (fun i _ x => if p i x then .inr (R i x) else .inl ()) (fun _ => T) Q (fun i a x a' hx hf => by
     cases h : p i x with
     | true => simp [h] at hf
     | false => exact hstep i x hx h) (fun i a x r hx hf => by
     cases h : p i x with
     | true => simp only [h, if_true, Sum.inr.injEq] at hf; subst hf; exact hexit i x hx h
     | false => simp [h] at hf) (fun _ => hend) ()]
 have key : ∀ (m : List α) (n : Nat), a4N (fun i (_ : Unit) x => if p i x then .inr (R i x) else .inl ()) (fun _ => T) n () m = match a0z p n m with | some (i, x) => R i x | none => T := by
   intro m
   induction m with
   | nil => intro n; rfl
   | cons x m ih =>
     intro n
     cases h : p n x with
     | true => simp [a4N, a0z, h]
     | false => simp only [a4N, a0z, h, Bool.false_eq_true, if_false]; exact ih (n + 1)
 rw [key]
 cases a0z p 0 l <;> rfl
theorem b0t {Γ : Env} {σ : Type} {keep : List Nat} {B : AC} (m : Nat) (S : Nat -> σ -> St) (I : Nat -> σ -> Prop) (T : σ -> Ex × St) {Q : Ex -> St -> Option β} {r : Option β} (a : σ)
   (h0 : I 0 a)
   (hstep : ∀ i a, i < m -> I i a -> ∃ a', I (i + 1) a' /\ E Γ B (S i a) (fun e s1 => match e with | .norm => trim keep (S i a).h.length s1 | _ => none) = some (S (i + 1) a'))
   (hend : ∀ a, I m a -> E Γ B (S m a) (fun e s1 => match e with | .norm => none | e => some (e, s1)) = some (T a))
   (hQ : ∀ a, I m a -> Q (T a).1 (T a).2 = r) : E Γ (.loop keep B) (S 0 a) Q = r := by
 have main : ∀ (j i : Nat) (a : σ), i + j = m -> I i a -> ∃ b, I m b /\ X Γ (.loop keep B) (S i a) = some (T b) := by
   intro j
   induction j with
   | zero =>
     intro i a hi hI
     obtain rfl : i = m := by omega
     exact ⟨a, hI, a5y (hend a hI)⟩
   | succ j ih =>
     intro i a hi hI
     obtain ⟨a', hI', hE⟩ := hstep i a (by omega) hI
     obtain ⟨b, hb, hX⟩ := ih (i + 1) a' (by omega) hI'
     exact ⟨b, hb, by rw [a8x hE]; exact hX⟩
 obtain ⟨b, hb, hX⟩ := main m 0 a (by omega) h0
 rw [b3H hX]
 exact hQ b hb
theorem a4q {Γ : Env} {σ : Type} {keep : List Nat} {B : AC} (m : Nat) (S : Nat -> σ -> St) (I : Nat -> σ -> Prop) (T : σ -> Ex × St) {Q : Ex -> St -> Option β} {r : Option β} {s0 : St} (a : σ)
   (hs : s0 = S 0 a) (h0 : I 0 a)
   (hstep : ∀ i a, i < m -> I i a -> ∃ a', I (i + 1) a' /\ E Γ B (S i a) (fun e s1 => match e with | .norm => trim keep (S i a).h.length s1 | _ => none) = some (S (i + 1) a'))
   (hend : ∀ a, I m a -> E Γ B (S m a) (fun e s1 => match e with | .norm => none | e => some (e, s1)) = some (T a))
   (hQ : ∀ a, I m a -> Q (T a).1 (T a).2 = r) : E Γ (.loop keep B) s0 Q = r := by
 subst hs; exact b0t m S I T a h0 hstep hend hQ
/-! ### Heaps of which the first part is not looked at -/
section
variable (h : List Obj) (l m : List Obj) (n p q k : Nat) (v : Obj)
theorem b2M (hp : p < h.length) : (h ++ l)[p]? = h[p]? := List.getElem?_append_left hp
theorem b2L (hn : h.length = n) : (h ++ l)[n + k]? = l[k]? := by rw [List.getElem?_append_right (by omega)]; congr 1; omega
theorem b5P (hn : h.length = n) : (h ++ l)[n]? = l[0]? := b2L h l n 0 hn
theorem c0U (hp : p < h.length) : (h ++ l).set p v = h.set p v ++ l := List.set_append_left _ _ hp
theorem b5Q (hn : h.length = n) : (h ++ l).set (n + k) v = h ++ l.set k v := by rw [List.set_append_right _ _ (by omega)]; congr 2; omega
theorem c0T (hn : h.length = n) : (h ++ l).set n v = h ++ l.set 0 v := b5Q h l n 0 v hn
theorem b8X (hn : h.length = n) : (h ++ l).take (n + k) = h ++ l.take k := by rw [List.take_append]; simp [hn, List.take_of_length_le]
theorem b8W (hn : h.length = n) : (h ++ l).take n = h := by rw [List.take_append]; simp [hn, List.take_of_length_le]
theorem b1c (hp : p < h.length) : (h.set p v)[p]? = some v := by simp [hp]
theorem a0E : (∀ {α : Type} (a b c : List α), a ++ b ++ c = a ++ (b ++ c)) /\ (∀ {α : Type} (a : α) (b c : List α), (a :: b) ++ c = a :: (b ++ c)) /\ (∀ {α : Type} (a : List α), [] ++ a = a) /\ (∀ {α : Type} (a b : List α), (a ++ b).length = a.length + b.length) ∧
   (∀ {α : Type} (a : α) (b : List α), (a :: b).length = b.length + 1) /\ (∀ {α : Type}, ([] : List α).length = 0) /\ (∀ {α : Type} (a : List α) (i : Nat) (x : α), (a.set i x).length = a.length) ∧
   (∀ (h l : List Obj) (p : Nat), p < h.length -> (h ++ l)[p]? = h[p]?) /\ (∀ (h l : List Obj) (n k : Nat), h.length = n -> (h ++ l)[n + k]? = l[k]?) /\ (∀ (h l : List Obj) (n : Nat), h.length = n -> (h ++ l)[n]? = l[0]?) ∧
   (∀ (h l : List Obj) (p : Nat) (v : Obj), p < h.length -> (h ++ l).set p v = h.set p v ++ l) /\ (∀ (h l : List Obj) (n k : Nat) (v : Obj), h.length = n -> (h ++ l).set (n + k) v = h ++ l.set k v) /\ (∀ (h l : List Obj) (n : Nat) (v : Obj), h.length = n -> (h ++ l).set n v = h ++ l.set 0 v) ∧
   (∀ (h l : List Obj) (n k : Nat), h.length = n -> (h ++ l).take (n + k) = h ++ l.take k) /\ (∀ (h l : List Obj) (n : Nat), h.length = n -> (h ++ l).take n = h) /\ (∀ (h : List Obj) (p : Nat) (v : Obj), p < h.length -> (h.set p v)[p]? = some v) ∧
   (∀ {α : Type} (l : List α) (n : Nat) (a b : α), (l.set n a).set n b = l.set n b) /\ (∀ {α : Type} (l m : List α) (f : α -> Bool), (l ++ m).all f = (l.all f && m.all f)) /\ (∀ a b c : Nat, a + b + c = a + (b + c)) ∧
   (∀ {α : Type} (a : α) (l : List α) (n : Nat), (a :: l).take (n + 1) = a :: l.take n) /\ (∀ {α : Type} (l : List α), l.take 0 = []) /\ (∀ {α : Type} (n : Nat), ([] : List α).take n = []) :=
 ⟨List.append_assoc, fun _ _ _ => rfl, fun _ => rfl, fun _ _ => List.length_append, fun _ _ => rfl, rfl, fun _ _ _ => List.length_set, b2M, b2L, b5P, fun h l p v => c0U h l p v, fun h l n k v => b5Q h l n k v, fun h l n v => c0T h l n v, b8X, b8W, b1c,
   fun _ _ _ _ => List.set_set .., fun _ _ _ => List.all_append, Nat.add_assoc, fun _ _ _ => rfl, fun _ => rfl, fun n => by simp⟩
theorem a5B (hp : p ≠ q) : (h.set p v)[q]? = h[q]? := by simp [hp]
theorem a6R (f : Obj -> Bool) (hh : h.all f = true) (hv : f v = true) : (h.set p v).all f = true := by
 simp only [List.all_eq_true] at *
 intro x hx
 rcases List.mem_or_eq_of_mem_set hx with hx | rfl
 . exact hh x hx
 . exact hv
end
mutual
theorem C.a4K {n m : Nat} (hnm : n <= m) : ∀ c : C, C.under n c = true -> C.under m c = true
 | .ptr r _, h => by simp only [C.under, decide_eq_true_eq] at *; omega
 | .map r, h => by simp only [C.under, decide_eq_true_eq] at *; omega
 | .msl r _ _ _ _, h => by simp only [C.under, decide_eq_true_eq] at *; omega
 | .stamp r _, h => by simp only [C.under, decide_eq_true_eq] at *; omega
 | .fn f _ first cap, h => by
   simp only [C.under, Bool.and_eq_true] at h ⊢
   refine ⟨⟨?_, C.a5F hnm first h.1.2⟩, C.a5F hnm cap h.2⟩
   cases f with
   | fn => rfl
   | yield l => have := h.1.1; simp only [decide_eq_true_eq] at this ⊢; omega
 | .int .., h => by simp [C.under] at *
 | .bool .., h => by simp [C.under] at *
 | .str .., h => by simp [C.under] at *
 | .sl .., h => by simpa [C.under] using h
 | .own .., h => by simpa [C.under] using h
 | .imap .., h => by simpa [C.under] using h
 | .iset .., h => by simpa [C.under] using h
 | .eptr .., h => by simpa [C.under] using h
 | .nilf, h => by simp [C.under] at *
 | .nilp, h => by simp [C.under] at *
 | .nili, h => by simp [C.under] at *
 | .top, h => by simp [C.under] at *
theorem C.a5F {n m : Nat} (hnm : n <= m) : ∀ cs : List C, C.a0G n cs = true -> C.a0G m cs = true
 | [], _ => rfl
 | c :: cs, h => by
   simp only [C.a0G, Bool.and_eq_true] at h ⊢
   exact ⟨C.a4K hnm c h.1, C.a5F hnm cs h.2⟩
end
mutual
theorem V.a4K {n m : Nat} (hnm : n <= m) : ∀ v : V, v.under n = true -> v.under m = true
 | .sc c, h => by simp only [V.under] at h ⊢; exact C.a4K hnm c h
 | .agg cs, h => by simp only [V.under] at h ⊢; exact C.a5F hnm cs h
 | .tup vs, h => by simp only [V.under] at h ⊢; exact V.b0r hnm vs h
theorem V.b0r {n m : Nat} (hnm : n <= m) : ∀ vs : List V, V.a2I n vs = true -> V.a2I m vs = true
 | [], _ => by simp [V.a2I]
 | v :: vs, h => by
   simp only [V.a2I, Bool.and_eq_true] at h ⊢
   exact ⟨V.a4K hnm v h.1, V.b0r hnm vs h.2⟩
end
theorem Obj.a4K {n m : Nat} (hnm : n <= m) (o : Obj) (h : o.under n = true) : o.under m = true := by
 cases o with
 | var cs => exact C.a5F hnm cs h
 | loop st pend t ps a b =>
   simp only [Obj.under, List.all_eq_true] at *
   intro x hx; exact V.a4K hnm _ (h x hx)
 | _ => rfl
theorem a0Q (h : List Obj) (n k : Nat) (hh : h.all (Obj.under n) = true) : h.all (Obj.under (n + k)) = true := by
 simp only [List.all_eq_true] at *
 intro x hx; exact Obj.a4K (by omega) x (hh x hx)
/-! ### Lists that grow in a variable -/
def ownC (es : Nat) (L : List (List C)) : C := match L with | [] => .sl .nil es [] | _ :: _ => .own es L
theorem a2K (es : Nat) (L : List (List C)) (k : SK) (x : List C) (hr : L.length + 1 <= room) : appended es (.sc (ownC es L)) (.sc (.sl k es [x])) = some (ownC es (L ++ [x])) := by
 cases L with
 | nil => simp [ownC, appended, elems, room]
 | cons y L =>
   have : (y :: L).length + 1 <= room := hr
   simp only [List.length_cons] at this
   simp [ownC, appended, elems, this]
@[go_sem] theorem c3E (es : Nat) (L : List (List C)) : (V.sc (ownC es L)).cells = [ownC es L] := by cases L <;> rfl
@[go_sem] theorem c5Z (es : Nat) (L : List (List C)) : (V.sc (ownC es L)).a0r = .sc (a0r (ownC es L)) := nrfl rfl
@[go_sem] theorem a7C (n es : Nat) (L : List (List C)) : C.under n (ownC es L) = true := by cases L <;> simp [ownC, C.under]
@[go_sem] theorem c3d (n : Nat) (c : C) : C.under n (a0r c) = C.under n c := by cases c <;> simp [a0r, C.under]
@[go_sem] theorem c0p (es : Nat) (L : List (List C)) : C.pure (a0r (ownC es L)) = true := by cases L <;> simp [ownC, a0r, C.pure]
@[go_sem] theorem c0Q (b : Nat) (h : List Obj) (n es : Nat) (L : List (List C)) : frz b h (n + 1) (a0r (ownC es L)) = some (a0r (ownC es L)) := by cases L <;> rfl
@[go_sem] theorem b0T (c : C) : a0r (a0r c) = a0r c := by cases c <;> rfl
theorem b1j {α : Type} (l : List α) (p : Nat) (v : α) (h : l[p]? = some v) : l.set p v = l := by
 apply List.ext_getElem?
 intro i
 rw [List.getElem?_set]
 split
 . rename_i e; subst e
   split
   . exact h.symm
   . rename_i e; rw [List.getElem?_eq_none (by omega)]
 . rfl
theorem b9A {α : Type} (l : List α) (p q : Nat) (x v r : α) (hpq : p ≠ q) (h : l[p]? = some r) : ((l.set p x).set q v).set p r = l.set q v := by
 apply List.ext_getElem?
 intro i
 simp only [List.getElem?_set, List.length_set]
 by_cases h1 : p = i
 . subst h1
   have : p < l.length := by
     rw [List.getElem?_eq_some_iff] at h; exact h.1
   have h2 : ¬ q = p := fun e => hpq e.symm
   have h3 : l[p] = r := by rw [List.getElem?_eq_getElem this] at h; exact Option.some.inj h
   simp [h2, this, h3]
 . simp [h1]
theorem a2H {α β : Type} (g : α -> List β) (m : Nat) : ∀ (l : List α), (∀ x, x ∈ l -> (g x).length <= m) -> (l.flatMap g).length <= l.length * m
 | [], _ => by simp
 | x :: l, h => by
   have h1 := h x (by simp)
   have h2 := a2H g m l (fun y hy => h y (by simp [hy]))
   simp only [List.flatMap_cons, List.length_append, List.length_cons, Nat.add_mul, Nat.one_mul]
   omega
theorem a9r (c : C) (h : c.pure = true) : a0r c = c := by cases c <;> simp_all [a0r, C.pure]
/-! Numbers in places. -/
def iv (t : List Int) : List C := t.map fun n => .int .i64 n
section
variable (t : List Int)
@[go_sem] theorem d0B : (iv t).length = t.length := by simp [iv]
theorem b5U : C.a0v (iv t) = true := by
 induction t with
 | nil => rfl
 | cons n t ih => exact ih
@[go_sem] theorem c8u : C.a0v (iv t) = true := b5U t
@[go_sem] theorem c8v (n : Nat) : C.a0G n (iv t) = true := a0C n _ (b5U t)
@[go_sem] theorem d1c : (iv t).map a0r = iv t := by simp [iv, a0r, Function.comp_def]
@[go_sem] theorem d0C (i : Nat) (v : Int) : (iv t).set i (.int .i64 v) = iv (t.set i v) := by simp [iv, List.map_set]
end
/-! ### Maps -/
def looked (h : List Obj) (ok : Bool) (ty : KT) (z key m : V) : Option V :=
 match entries h ok ty z key m with
 | none => none
 | some (ka, va, l) => if fits ty key = false \/ ka ≠ ty.agg \/ z.isAgg ≠ va then none else match find ty.tags key.cells 0 l with
   | some (some (_, cs)) => (a7I va cs).map fun v => if ok then .tup [v, .sc (.bool true)] else v
   | some none => some (if ok then .tup [z, .sc (.bool false)] else z)
   | none => none
@[go_sem] theorem c6f (base : Nat) (d : Option Nat) (t : List (Nat × V)) (h : List Obj) (k : St -> Option β) (ok : Bool) (ty : KT) (z : V) (m key : Rand) :
   P1 Γ base d (.lookup ok ty z m key) ⟨t, h⟩ k = a0L (looked h ok ty z (rd Γ t key) (rd Γ t m)) fun v => k ⟨put1 d v t, h⟩ := by
 simp only [P1, perform, eff, looked]
 cases entries h ok ty z (rd Γ t key) (rd Γ t m) with
 | none => rfl
 | some q =>
   obtain ⟨ka, va, l⟩ := q
   simp only
   by_cases hc : fits ty (rd Γ t key) = false \/ ka ≠ ty.agg \/ z.isAgg ≠ va
   . simp only [if_pos hc]; rfl
   . simp only [if_neg hc]
     cases find ty.tags (rd Γ t key).cells 0 l with
     | none => rfl
     | some q => cases q with
       | none => rfl
       | some q =>
         obtain ⟨i, cs⟩ := q
         simp only
         cases a7I va cs <;> rfl
/-! Maps from two numbers to a number. -/
def enc2 (l : List (Int × Int × Int)) : List (List C × List C) := l.map fun e => ([.int .i64 e.1, .int .i64 e.2.1], [.int .i64 e.2.2])
theorem b4h (l : List (Int × Int × Int)) : (enc2 l).length = l.length := by simp [enc2]
def has2 : List (Int × Int × Int) -> Int -> Int -> Bool
 | [], _, _ => false
 | e :: l, a, b => (decide (a = e.1) && decide (b = e.2.1)) || has2 l a b
def got2 : List (Int × Int × Int) -> Int -> Int -> Int
 | [], _, _ => 0
 | e :: l, a, b => if a = e.1 /\ b = e.2.1 then e.2.2 else got2 l a b
def idx2 : List (Int × Int × Int) -> Int -> Int -> Nat
 | [], _, _ => 0
 | e :: l, a, b => if a = e.1 /\ b = e.2.1 then 0 else idx2 l a b + 1
def put2 : List (Int × Int × Int) -> Int -> Int -> Int -> List (Int × Int × Int)
 | [], a, b, v => [(a, b, v)]
 | e :: l, a, b, v => if a = e.1 /\ b = e.2.1 then (e.1, e.2.1, v) :: l else e :: put2 l a b v
theorem b4A (a b c d : Int) : a0c [1, 1] [.int .i64 a, .int .i64 b] [.int .i64 c, .int .i64 d] = some (decide (a = c) && decide (b = d)) := by
 simp [a0c, a0g]
 rfl
theorem b3P (a b : Int) : ∀ (l : List (Int × Int × Int)) (n : Nat), find [1, 1] [.int .i64 a, .int .i64 b] n (enc2 l) = some (if has2 l a b then some (n + idx2 l a b, [.int .i64 (got2 l a b)]) else none)
 | [], n => rfl
 | e :: l, n => by
   show (match a0c [1, 1] [.int .i64 a, .int .i64 b] [.int .i64 e.1, .int .i64 e.2.1] with | some true => some (some (n, [C.int .i64 e.2.2])) | some false => find [1, 1] [.int .i64 a, .int .i64 b] (n + 1) (enc2 l) | none => none) = _
   rw [b4A]
   by_cases h : a = e.1 /\ b = e.2.1
   . simp [has2, got2, idx2, h]
   . have h' : (decide (a = e.1) && decide (b = e.2.1)) = false := by
       rw [Bool.eq_false_iff]; simpa using h
     simp only [h', has2, got2, idx2, if_neg h, Bool.false_or]
     rw [b3P a b l (n + 1)]
     cases has2 l a b <;> simp <;> omega
theorem b5M : ∀ (l : List (Int × Int × Int)) (a b : Int), has2 l a b = false -> got2 l a b = 0
 | [], _, _, _ => rfl
 | e :: l, a, b, h => by
   simp only [has2, Bool.or_eq_false_iff] at h
   have : ¬ (a = e.1 /\ b = e.2.1) := by simpa using h.1
   simp only [got2, if_neg this]
   exact b5M l a b h.2
theorem b5R : ∀ (l : List (Int × Int × Int)) (a b : Int), has2 l a b = true -> idx2 l a b < l.length
 | [], _, _, h => by cases h
 | e :: l, a, b, h => by
   by_cases h2 : a = e.1 /\ b = e.2.1
   . simp [idx2, h2]
   . have h' : (decide (a = e.1) && decide (b = e.2.1)) = false := by rw [Bool.eq_false_iff]; simpa using h2
     simp only [has2, h', Bool.false_or] at h
     simp only [idx2, if_neg h2, List.length_cons]
     have := b5R l a b h
     omega
theorem b4Q : ∀ (l : List (Int × Int × Int)) (a b v : Int), has2 l a b = true -> setAt (idx2 l a b) [.int .i64 v] (enc2 l) = enc2 (put2 l a b v)
 | [], _, _, _, h => by cases h
 | e :: l, a, b, v, h => by
   by_cases h2 : a = e.1 /\ b = e.2.1
   . simp [idx2, put2, h2, enc2, setAt]
   . have h' : (decide (a = e.1) && decide (b = e.2.1)) = false := by rw [Bool.eq_false_iff]; simpa using h2
     simp only [has2, h', Bool.false_or] at h
     have := b4Q l a b v h
     simp only [idx2, put2, if_neg h2]
     simp only [setAt, enc2, List.map_cons, List.getElem?_cons_succ, List.set_cons_succ] at this ⊢
     split at this <;> simp_all
theorem b6j : ∀ (l : List (Int × Int × Int)) (a b v : Int), has2 l a b = false -> enc2 l ++ [([.int .i64 a, .int .i64 b], [.int .i64 v])] = enc2 (put2 l a b v)
 | [], _, _, _, _ => rfl
 | e :: l, a, b, v, h => by
   simp only [has2, Bool.or_eq_false_iff] at h
   have h2 : ¬ (a = e.1 /\ b = e.2.1) := by simpa using h.1
   have := b6j l a b v h.2
   simp only [put2, if_neg h2]
   simp only [enc2, List.map_cons, List.cons_append] at this ⊢
   rw [this]
@[go_sem] theorem c2h (h : List Obj) (l : List (Int × Int × Int)) (a b : Int) :
   looked h false ⟨true, [1, 1]⟩ (.sc (.int .i64 0)) (.agg [.int .i64 a, .int .i64 b]) (.sc (.imap true false (enc2 l))) = some (.sc (.int .i64 (got2 l a b))) := by
 have := b3P a b l 0
 simp only [looked, entries, fits, V.isAgg, V.cells, this, List.length_cons, List.length_nil]
 cases hh : has2 l a b with
 | true => simp [a7I]
 | false => simp [b5M l a b hh]
def b2R (o : Option Obj) (ok : Bool) (ty : KT) (z key : V) : Option V := looked [o.getD .dead] ok ty z key (.sc (.map 0))
@[go_sem] theorem c3O (h : List Obj) (p : Nat) (ok : Bool) (ty : KT) (z key : V) : looked h ok ty z key (.sc (.map p)) = b2R (h[p]?) ok ty z key := by
 simp only [looked, b2R, entries]
 cases h[p]? with
 | none => rfl
 | some o => cases o <;> rfl
@[go_sem] theorem c3N (ka va : Bool) (l : List (List C × List C)) (ok : Bool) (ty : KT) (z key : V) : b2R (some (.map ka va l none)) ok ty z key = looked [] ok ty z key (.sc (.imap ka va l)) := nrfl rfl
def b0z (o : Option Obj) (ty : KT) (z key : V) (p : Nat) (h : List Obj) (f : V -> List Obj -> Option β) (_ : Tag f := .mk) : Option β :=
 match o with
 | some (.map ka va l none) => if fits ty key = false \/ ka ≠ ty.agg \/ proper va z = false then none else match find ty.tags key.cells 0 l with
   | some (some (i, _)) => f (.tup [.sc .top, .sc (.stamp p i)]) h
   | some none => if C.a0v key.cells /\ C.a0v z.cells then f (.tup [.sc .top, .sc (.stamp p l.length)]) (h.set p (.map ka va l (some (key.cells, z.cells)))) else none
   | none => none
 | _ => none
def b6K (m : V) (f : Nat -> Option β) (_ : Tag f := .mk) : Option β := match m with | .sc (.map p) => f p | _ => none
@[go_sem] theorem b4L (p : Nat) (f : Nat -> Option β) : b6K (.sc (.map p)) f = f p := nrfl rfl
@[go_sem] theorem c9l (base : Nat) (d : Option Nat) (t : List (Nat × V)) (h : List Obj) (k : St -> Option β) (ty : KT) (z : V) (m key : Rand) :
   P1 Γ base d (.ment ty z m key) ⟨t, h⟩ k = b6K (rd Γ t m) fun p => b0z (h[p]?) ty z (rd Γ t key) p h fun v h' => k ⟨put1 d v t, h'⟩ := by
 simp only [P1, perform, eff]
 cases rd Γ t m with
 | sc c => cases c with
   | map p =>
     simp only [b4L, b0z]
     cases h[p]? with
     | none => rfl
     | some o => cases o with
       | map ka va l ph => cases ph with
         | none =>
           simp only
           by_cases hc : fits ty (rd Γ t key) = false \/ ka ≠ ty.agg \/ proper va z = false
           . simp only [if_pos hc]; rfl
           . simp only [if_neg hc]
             cases find ty.tags (rd Γ t key).cells 0 l with
             | none => rfl
             | some q => cases q with
               | some q => rfl
               | none =>
                 by_cases hd : C.a0v (rd Γ t key).cells /\ C.a0v z.cells
                 . simp only [if_pos hd]; rfl
                 . simp only [if_neg hd]; rfl
         | some _ => rfl
       | _ => rfl
   | _ => rfl
 | _ => rfl
@[go_sem] theorem c6F (l : List (Int × Int × Int)) (a b : Int) (p : Nat) (h : List Obj) (f : V -> List Obj -> Option β) (hh : has2 l a b = true) :
   b0z (some (.map true false (enc2 l) none)) ⟨true, [1, 1]⟩ (.sc (.int .i64 0)) (.agg [.int .i64 a, .int .i64 b]) p h f = f (.tup [.sc .top, .sc (.stamp p (idx2 l a b))]) h := by
 have := b3P a b l 0
 simp [b0z, fits, V.isAgg, V.cells, proper, this, hh]
@[go_sem] theorem c8w (l : List (Int × Int × Int)) (a b : Int) (p : Nat) (h : List Obj) (f : V -> List Obj -> Option β) (hh : has2 l a b = false) :
   b0z (some (.map true false (enc2 l) none)) ⟨true, [1, 1]⟩ (.sc (.int .i64 0)) (.agg [.int .i64 a, .int .i64 b]) p h f =
     f (.tup [.sc .top, .sc (.stamp p l.length)]) (h.set p (.map true false (enc2 l) (some ([.int .i64 a, .int .i64 b], [.int .i64 0])))) := by
 have := b3P a b l 0
 simp [b0z, fits, V.isAgg, V.cells, proper, this, hh, C.a0v, C.pure, b4h]
def a7F (o : Option Obj) (p : Nat) (s v : V) (f : Obj -> Option β) (_ : Tag f := .mk) : Option β :=
 match o, s with
 | some (.map ka va l ph), .sc (.stamp q i) => if p ≠ q then none else if C.a0v v.cells /\ proper va v then
     match ph with
     | none => if i < l.length then f (.map ka va (setAt i v.cells l) none) else none
     | some (k, _) => if i = l.length then f (.map ka va (l ++ [(k, v.cells)]) none) else none
   else none
 | _, _ => none
@[go_sem] theorem c6c (base : Nat) (d : Option Nat) (t : List (Nat × V)) (h : List Obj) (k : St -> Option β) (m s v : Rand) :
   P1 Γ base d (.estore m s v) ⟨t, h⟩ k = b6K (rd Γ t m) fun p => a7F (h[p]?) p (rd Γ t s) (rd Γ t v) fun o => k ⟨put1 d (.tup []) t, h.set p o⟩ := by
 simp only [P1, perform, eff]
 cases rd Γ t m with
 | sc c => cases c with
   | map p =>
     simp only [b4L, a7F]
     cases rd Γ t s with
     | sc c => cases c with
       | stamp q i =>
         by_cases hq : p = q
         . subst hq
           simp only [ne_eq, not_true_eq_false, if_false]
           cases h[p]? with
           | none => rfl
           | some o => cases o with
             | map ka va l ph =>
               simp only
               by_cases hc : C.a0v (rd Γ t v).cells /\ proper va (rd Γ t v)
               . simp only [if_pos hc]
                 cases ph with
                 | none => by_cases h1 : i < l.length <;> simp [h1, a0I] <;> rfl
                 | some kz => by_cases h1 : i = l.length <;> simp [h1, a0I] <;> rfl
               . simp only [if_neg hc]; simp
             | _ => rfl
         . simp only [ne_eq, hq, not_false_eq_true, if_true]
           cases h[p]? with
           | none => rfl
           | some o => cases o <;> simp [hq]
       | _ => cases h[p]? with
           | none => rfl
           | some o => cases o <;> rfl
     | _ => cases h[p]? with
           | none => rfl
           | some o => cases o <;> rfl
   | _ => rfl
 | _ => rfl
@[go_sem] theorem c2I (l : List (Int × Int × Int)) (a b n : Int) (p : Nat) (f : Obj -> Option β) (hh : has2 l a b = true) :
   a7F (some (.map true false (enc2 l) none)) p (.sc (.stamp p (idx2 l a b))) (.sc (.int .i64 n)) f = f (.map true false (enc2 (put2 l a b n)) none) := by
 have h1 := b5R l a b hh
 have h2 := b4Q l a b n hh
 simp [a7F, C.a0v, C.pure, V.cells, proper, V.isAgg, h1, h2, b4h]
@[go_sem] theorem c3H (l : List (Int × Int × Int)) (a b n : Int) (z : List C) (p : Nat) (f : Obj -> Option β) (hh : has2 l a b = false) :
   a7F (some (.map true false (enc2 l) (some ([.int .i64 a, .int .i64 b], z)))) p (.sc (.stamp p l.length)) (.sc (.int .i64 n)) f = f (.map true false (enc2 (put2 l a b n)) none) := by
 have h2 := b6j l a b n hh
 have h3 : l.length = (enc2 l).length := by simp [enc2]
 simp only [a7F, C.a0v, C.pure, V.cells, proper, V.isAgg, ne_eq, not_true_eq_false, if_false, ← h2]
 simp [h3]
/-! ### Loops over functions -/
def a8i (o : Option Obj) (f : Ex -> Option β) (_ : Tag f := .mk) : Option β :=
 match o with
 | some (.loop st pend _ _ _ _) => if st = .busy then none else f (pend.getD .norm)
 | _ => none
@[go_sem] theorem c0l (t : List (Nat × V)) (ps : List Nat) (a b : AC) (f : Ex -> Option β) : a8i (some (.loop .ready none t ps a b)) f = f .norm := nrfl rfl
@[go_sem] theorem c1f (e : Ex) (t : List (Nat × V)) (ps : List Nat) (a b : AC) (f : Ex -> Option β) : a8i (some (.loop .done (some e) t ps a b)) f = f e := nrfl rfl
def onFk (k : Fk) (x : Option β) (_ : Tag x := .mk) : Option β := match k with | .fn _ => x | _ => none
@[go_sem] theorem c1e (id : Nat) (x : Option β) : onFk (.fn id) x = x := nrfl rfl
@[go_sem] theorem c8Y (f : Rand) (ps : List Nat) (a b : AC) (t : List (Nat × V)) (h : List Obj) (Q : Ex -> St -> Option β) :
   E Γ (.rfunc f ps a b) ⟨t, h⟩ Q = a0L (target (rd Γ t f) [.sc (.fn (.yield h.length) [] [] [])]) fun q => onFk q.1 (a0L (K Γ q.1 q.2 (h ++ [.loop .ready none (a3i t) ps a b])) fun r =>
     a8i (r.2[h.length]?) fun e => br ((r.2.take h.length).all (Obj.under h.length)) (Q e ⟨t, r.2.take h.length⟩) none) := by
 unfold E
 rw [X_eq]
 simp only [a0U]
 cases target (rd Γ t f) [.sc (.fn (.yield h.length) [] [] [])] with
 | none => rfl
 | some q =>
   obtain ⟨fk, vs⟩ := q
   cases fk with
   | yield l => rfl
   | fn id =>
     simp only [a1K, c1e]
     cases K Γ (.fn id) vs (h ++ [.loop .ready none (a3i t) ps a b]) with
     | none => rfl
     | some r =>
       obtain ⟨v, h'⟩ := r
       simp only [a1K, a8i]
       cases h'[h.length]? with
       | none => rfl
       | some o => cases o with
         | loop st pend t' ps' a' b' =>
           simp only
           by_cases hb : st = .busy
           . simp only [if_pos hb]; rfl
           . simp only [if_neg hb]
             cases hc : (h'.take h.length).all (Obj.under h.length) with
             | true => simp [andThen]
             | false => simp [andThen]
         | _ => rfl
def b0D (o : Option Obj) (f : List (Nat × V) -> List Nat -> AC -> AC -> Option β) (_ : Tag f := .mk) : Option β := match o with | some (.loop .ready none t ps a b) => f t ps a b | _ => none
@[go_sem] theorem c5o (t : List (Nat × V)) (ps : List Nat) (a b : AC) (f : List (Nat × V) -> List Nat -> AC -> AC -> Option β) : b0D (some (.loop .ready none t ps a b)) f = f t ps a b := nrfl rfl
def b2i (o : Option Obj) (f : List (Nat × V) -> List Nat -> AC -> AC -> Option β) (_ : Tag f := .mk) : Option β := match o with | some (.loop .busy _ t ps a b) => f t ps a b | _ => none
@[go_sem] theorem c6J (t : List (Nat × V)) (ps : List Nat) (a b : AC) (f : List (Nat × V) -> List Nat -> AC -> AC -> Option β) : b2i (some (.loop .busy none t ps a b)) f = f t ps a b := nrfl rfl
def stOf (e : Ex) : LS := if e = .norm then .ready else .done
def a8T (e : Ex) : Option Ex := if e = .norm then none else some e
@[go_sem] theorem c7h : stOf .norm = .ready := nrfl rfl
@[go_sem] theorem c2Q : a8T .norm = none := nrfl rfl
@[go_sem] theorem c8N : stOf .ret = .done := nrfl rfl
@[go_sem] theorem c5r : a8T .ret = some .ret := nrfl rfl
@[go_sem] theorem c7g (n : Nat) : stOf (.exit n) = .done := nrfl rfl
@[go_sem] theorem c2P (n : Nat) : a8T (.exit n) = some (.exit n) := nrfl rfl
@[go_sem] theorem c1o (p : Nat) (ps : List Nat) (v : V) (vs : List V) (t : List (Nat × V)) : a2D (p :: ps) (v :: vs) t = a2D ps vs ((p, v) :: t) := nrfl rfl
@[go_sem] theorem c1J (vs : List V) (t : List (Nat × V)) : a2D [] vs t = t := by cases vs <;> rfl
@[go_sem] theorem c2A (p : Nat × V) (t : List (Nat × V)) : a3i (p :: t) = (p.1, p.2.a0r) :: a3i t := nrfl rfl
@[go_sem] theorem c3i : a3i [] = [] := nrfl rfl
theorem c0y (l : Nat) (vs : List V) (h : List Obj) : K Γ (.yield l) vs h = b0D (h[l]?) fun t ps a b => br (decide (vs.length = ps.length)) (E Γ a ⟨a2D ps vs t, h⟩ fun e s => match e with
   | .norm => b0D (s.h[l]?) fun t1 ps1 a1 b1 => E Γ b ⟨s.t, s.h.set l (.loop .busy none t1 ps1 a1 b1)⟩ fun e s => b2i (s.h[l]?) fun t' ps' a' b' =>
     br (((s.h.set l (.loop (stOf e) (a8T e) t' ps' a' b')).take h.length).all (Obj.under h.length)) (some (.sc (.bool (decide (e = .norm))), (s.h.set l (.loop (stOf e) (a8T e) t' ps' a' b')).take h.length)) none
   | _ => none) none := by
 rw [K_eq]
 simp only [a3D, b0D]
 cases h[l]? with
 | none => rfl
 | some o => cases o with
   | loop st pend t ps a b =>
     cases st with
     | ready => cases pend with
       | some _ => rfl
       | none =>
         simp only
         by_cases hl : vs.length = ps.length
         . simp only [hl, ne_eq, not_true_eq_false, if_false, decide_true, a4R]
           unfold E andThen
           cases X Γ a { t := a2D ps vs t, h := h } with
           | none => rfl
           | some r =>
             obtain ⟨e, s⟩ := r
             cases e with
             | norm =>
               simp only
               cases s.h[l]? with
               | none => rfl
               | some o => cases o with
                 | loop st1 pend1 t1 ps1 a1 b1 =>
                   cases st1 with
                   | ready => cases pend1 with
                     | some _ => rfl
                     | none =>
                       simp only
                       cases X Γ b { t := s.t, h := s.h.set l (.loop .busy none t1 ps1 a1 b1) } with
                       | none => rfl
                       | some r =>
                         obtain ⟨e, s2⟩ := r
                         simp only [b2i]
                         cases s2.h[l]? with
                         | none => rfl
                         | some o => cases o with
                           | loop st2 pend2 t2 ps2 a2 b2 =>
                             cases st2 with
                             | busy =>
                               simp only [stOf, a8T]
                               cases hc : ((s2.h.set l (.loop (if e = .norm then .ready else .done) (if e = .norm then none else some e) t2 ps2 a2 b2)).take h.length).all (Obj.under h.length) with
                               | true => simp
                               | false => simp
                             | _ => rfl
                           | _ => rfl
                   | _ => rfl
                 | _ => rfl
             | _ => rfl
         . simp only [hl, ne_eq, not_false_eq_true, if_true, decide_false, a4r]
     | _ => rfl
   | _ => rfl
end
end Go.Pm
namespace Go.Pm
theorem tbeq (b : Bool) : (true == b) = b := by cases b <;> rfl
theorem fbeq (b : Bool) : (false == b) = !b := by cases b <;> rfl
attribute [go_sem] tbeq fbeq Bool.not_true Bool.not_false
section
variable {β : Type}
def b2h (es : Nat) (x y : V) (o : Option Obj) (p : Nat) (f : C -> Option Obj -> Option β) (_ : Tag f := .mk) : Option β :=
 match elems es y with
 | none => none
 | some m => match x with
   | .sc (.sl k es' l) => if es' = es then (match m with
     | [] => f (.sl k es l) none
     | _ :: _ => match o with
       | some .free => if k ≠ .shared /\ l.length + m.length <= room then f (.msl p 0 (l.length + m.length) 0 es) (some (.var (l ++ m).flatten)) else none
       | _ => none) else none
   | _ => none
def putO (h : List Obj) (p : Nat) (o : Option Obj) : List Obj := match o with | none => h | some o => h.set p o
@[go_sem] theorem c7a (h : List Obj) (p : Nat) : putO h p none = h := nrfl rfl
@[go_sem] theorem c7b (h : List Obj) (p : Nat) (o : Obj) : putO h p (some o) = h.set p o := nrfl rfl
@[go_sem] theorem c3q (Γ : Env) (base : Nat) (d : Option Nat) (t : List (Nat × V)) (h : List Obj) (k : St -> Option β) (a es : Nat) (x y : Rand) :
   P1 Γ base d (.appendM a es x y) ⟨t, h⟩ k = b2h es (rd Γ t x) (rd Γ t y) (h[base + a]?) (base + a) fun c w => k ⟨put1 d (.sc c) t, putO h (base + a) w⟩ := by
 simp only [P1, perform, eff, b2h]
 cases elems es (rd Γ t y) with
 | none => rfl
 | some m =>
   simp only
   cases rd Γ t x with
   | sc c =>
     cases c with
     | sl kk es' l =>
       simp only
       by_cases he : es' = es
       . rw [if_pos he, if_pos he]
         cases m with
         | nil => rfl
         | cons e m =>
           simp only
           by_cases hf : h[base + a]? = some .free
           . have hi := a1S.2 hf
             rw [hf]
             simp only [hi, true_and]
             by_cases hc : kk ≠ .shared /\ l.length + (e :: m).length <= room
             . rw [if_pos hc, if_pos hc]; rfl
             . rw [if_neg hc, if_neg hc]; rfl
           . have hi : a1z h (base + a) = false := by cases e : a1z h (base + a) with | false => rfl | true => exact absurd (a1S.1 e) hf
             simp only [hi, Bool.false_eq_true, false_and, if_false, Option.map_none]
             all_goals (split <;> first | (rename_i hh; exact absurd hh hf) | rfl)
       . simp [if_neg he]
     | _ => rfl
   | _ => rfl
theorem b6J (es : Nat) (k : SK) (m : List (List C)) (p : Nat) (f : C -> Option Obj -> Option β) (hm : m ≠ []) (hr : m.length <= room) :
   b2h es (.sc (.sl .full es [])) (.sc (.sl k es m)) (some .free) p f = f (.msl p 0 m.length 0 es) (some (.var m.flatten)) := by
 cases m with
 | nil => exact absurd rfl hm
 | cons e m => simp only [b2h, elems, if_true, List.length_nil, Nat.zero_add, List.nil_append]; rw [if_pos ⟨by decide, hr⟩]
end
def b1I : C -> Bool
 | .map _ => false
 | .msl _ _ _ _ _ => false
 | _ => true
theorem b1O {c : C} (hc : b1I c = true) (n : Nat) (h : List Obj) : a3p (n + 1) c h = some (c, h) := by
 cases c <;> first | rfl | simp [b1I] at hc
theorem a7S (h : List Obj) : ∀ (cs : List C) (n : Nat), cs.length < n -> (∀ c, c ∈ cs -> b1I c = true) -> a2Z n cs h = some (cs, h)
 | [], 0, hn, _ => by simp at hn
 | [], n + 1, _, _ => rfl
 | c :: cs, 0, hn, _ => by simp at hn
 | c :: cs, n + 1, hn, hc => by
   cases n with
   | zero => simp at hn
   | succ n =>
     simp only [a2Z, b1O (hc c (by simp)), a7S h cs (n + 1) (by simp at hn ⊢; omega) (fun x hx => hc x (by simp [hx]))]
theorem b2J {r len es n : Nat} {cs : List C} {l : List (List C)} {h : List Obj} (hr : h[r]? = some (.var cs)) (hc : cs.map a0r = cs) (hf : ∀ c, c ∈ cs -> b1I c = true) (hn : cs.length < n) (hp : C.a0v cs = true) (hl : chunks cs 0 es len = some l) :
   a3p (n + 1) (.msl r 0 len 0 es) h = some (.sl .shared es l, h.set r .dead) := by
 simp only [a3p, hr, hc, a7S h cs n hn hf, hp, if_true, hl, Option.map_some]
 simp
end Go.Pm
namespace Go.Pm
variable {Γ : Env} {β : Type}
def onSet : Option Obj -> Nat -> ((List Int -> Bool) -> Option β) -> Option β
 | some (.set n' f), n, k => if n' = n then k f else none
 | _, _, _ => none
@[go_sem] theorem c8y (n : Nat) (f : List Int -> Bool) (k : (List Int -> Bool) -> Option β) : onSet (some (.set n f)) n k = k f := by simp [onSet]
@[go_sem] theorem c7t (m n : Nat) (f : List Int -> Bool) : Obj.under m (.set n f) = true := nrfl rfl
@[go_sem] theorem c5M (m n : Nat) (f : List Int -> Bool) : Obj.under m (.iter n f) = true := nrfl rfl
@[go_sem] theorem c2H (m n : Nat) (f : List Int -> Bool) : C.under m (.iset n f) = true := nrfl rfl
@[go_sem] theorem c3G (n : Nat) (f : List Int -> Bool) : C.pure (.iset n f) = true := nrfl rfl
@[go_sem] theorem a3X (n : Nat) (f : List Int -> Bool) : a0r (.iset n f) = .iset n f := nrfl rfl
@[go_sem] theorem c3z (n : Nat) (f : List Int -> Bool) : V.cells (.sc (.iset n f)) = [.iset n f] := nrfl rfl
@[go_sem] theorem c2Y (n : Nat) (f : List Int -> Bool) (vs : List V) : shapes (.sc (.iset n f) :: vs) = (shapes vs).map (none :: ·) := nrfl rfl
@[go_sem] theorem c8n (b : Nat) (h : List Obj) (m n : Nat) (f : List Int -> Bool) : frz b h (m + 1) (.iset n f) = some (.iset n f) := nrfl rfl
def a8S (h : List Obj) (n : Nat) : V -> ((List Int -> Bool) -> Option β) -> Option β
 | .sc (.iset n' f), k => if n' = n then k f else none
 | .sc (.map p), k => onSet (h[p]?) n k
 | _, _ => none
@[go_sem] theorem c2O (h : List Obj) (n : Nat) (f : List Int -> Bool) (k : (List Int -> Bool) -> Option β) : a8S h n (.sc (.iset n f)) k = k f := by simp [a8S]
@[go_sem] theorem c5p (h : List Obj) (n p : Nat) (k : (List Int -> Bool) -> Option β) : a8S h n (.sc (.map p)) k = onSet (h[p]?) n k := rfl
def b0C (n : Nat) (v : V) (k : List Int -> Option β) : Option β := match a6a n v with
 | some ks => k ks
 | none => none
@[go_sem] theorem c9Q (a b : Int) (k : List Int -> Option β) : b0C 2 (.agg [.int .i64 a, .int .i64 b]) k = k [a, b] := rfl
@[go_sem] theorem c9P (a : Int) (k : List Int -> Option β) : b0C 1 (.agg [.int .i64 a]) k = k [a] := rfl
def b0f : V -> (Nat -> Option β) -> Option β
 | .sc (.map p), k => k p
 | _, _ => none
@[go_sem] theorem c6O (p : Nat) (k : Nat -> Option β) : b0f (.sc (.map p)) k = k p := rfl
def b4K : V -> (Nat -> (List Int -> Bool) -> Option β) -> Option β
 | .sc (.iset n f), k => k n f
 | _, _ => none
@[go_sem] theorem c6M (n : Nat) (f : List Int -> Bool) (k : Nat -> (List Int -> Bool) -> Option β) : b4K (.sc (.iset n f)) k = k n f := rfl
variable (base : Nat) (d : Option Nat) (t : List (Nat × V)) (h : List Obj) (k : St -> Option β)
@[go_sem] theorem c7Q (a n : Nat) : P1 Γ base d (.mkset a n) ⟨t, h⟩ k = a5D (h[base + a]?) (k ⟨put1 d (.sc (.map (base + a))) t, h.set (base + a) (.set n fun _ => false)⟩) := by
 simp only [P1, perform, eff]
 by_cases hf : h[base + a]? = some .free
 . have hi := a1S.2 hf
   rw [hf]; simp [hi]; rfl
 . have hi : a1z h (base + a) = false := by cases e : a1z h (base + a) with | false => rfl | true => exact absurd (a1S.1 e) hf
   rw [a4C _ hf]; simp [hi]
@[go_sem] theorem c9i (a n : Nat) : P1 Γ base d (.kset a n) ⟨t, h⟩ k = a5D (h[base + a]?) (k ⟨put1 d (.sc (.iset n fun _ => false)) t, h.set (base + a) .dead⟩) := by
 simp only [P1, perform, eff]
 by_cases hf : h[base + a]? = some .free
 . have hi := a1S.2 hf
   rw [hf]; simp [hi]; rfl
 . have hi : a1z h (base + a) = false := by cases e : a1z h (base + a) with | false => rfl | true => exact absurd (a1S.1 e) hf
   rw [a4C _ hf]; simp [hi]
@[go_sem] theorem c7T (n : Nat) (m key : Rand) : P1 Γ base d (.slook n m key) ⟨t, h⟩ k = a8S h n (rd Γ t m) fun f => b0C n (rd Γ t key) fun ks => k ⟨put1 d (.sc (.bool (f ks))) t, h⟩ := by
 simp only [P1, perform, eff, b0C]
 generalize a6a n (rd Γ t key) = ok
 cases rd Γ t m with
 | sc c =>
   cases c with
   | iset n' f => by_cases hn : n' = n <;> cases ok <;> simp [setOf, a8S, hn] <;> rfl
   | map p =>
     simp only [a8S, setOf]
     cases h[p]? with
     | none => cases ok <;> rfl
     | some o =>
       cases o with
       | set n' f => by_cases hn : n' = n <;> cases ok <;> simp [onSet, hn] <;> rfl
       | _ => cases ok <;> rfl
   | _ => cases ok <;> rfl
 | _ => cases ok <;> rfl
@[go_sem] theorem c9n (n : Nat) (m key : Rand) : P1 Γ base d (.sadd n m key) ⟨t, h⟩ k = b0f (rd Γ t m) fun p => b0C n (rd Γ t key) fun ks => onSet (h[p]?) n fun f => k ⟨put1 d (.tup []) t, h.set p (.set n fun x => f x || decide (x = ks))⟩ := by
 simp only [P1, perform, eff, b0C]
 cases rd Γ t m with
 | sc c =>
   cases c with
   | map p =>
     simp only [b0f]
     cases a6a n (rd Γ t key) with
     | none => rfl
     | some ks =>
       simp only
       cases h[p]? with
       | none => rfl
       | some o =>
         cases o with
         | set n' f => by_cases hn : n' = n <;> simp [hn, onSet] <;> rfl
         | _ => rfl
   | _ => rfl
 | _ => rfl
@[go_sem] theorem d0u (a : Nat) (x : Rand) : P1 Γ base d (.rng a x) ⟨t, h⟩ k = b4K (rd Γ t x) fun n f => a5D (h[base + a]?) (k ⟨put1 d (.sc (.ptr (base + a) 0)) t, h.set (base + a) (.iter n f)⟩) := by
 simp only [P1, perform, eff]
 cases rd Γ t x with
 | sc c =>
   cases c with
   | iset n f =>
     simp only [b4K]
     by_cases hf : h[base + a]? = some .free
     . have hi := a1S.2 hf
       rw [hf]; simp [hi]; rfl
     . have hi : a1z h (base + a) = false := by cases e : a1z h (base + a) with | false => rfl | true => exact absurd (a1S.1 e) hf
       rw [a4C _ hf]; simp [hi]
   | _ => rfl
 | _ => rfl
def b4M : V -> (Nat -> Option β) -> Option β
 | .sc (.ptr p 0), k => k p
 | _, _ => none
@[go_sem] theorem c6P (p : Nat) (k : Nat -> Option β) : b4M (.sc (.ptr p 0)) k = k p := rfl
def b2j : Option Obj -> Nat -> ((List Int -> Bool) -> Option β) -> Option β
 | some (.iter n' f), n, k => if n' = n then k f else none
 | _, _, _ => none
@[go_sem] theorem c6N (n : Nat) (f : List Int -> Bool) (k : (List Int -> Bool) -> Option β) : b2j (some (.iter n f)) n k = k f := by simp [b2j]
@[go_sem] theorem c8Z (keep : List Nat) (it dst n : Nat) (Q : Ex -> St -> Option β) : E Γ (.union keep it dst n) ⟨t, h⟩ Q =
   b4M (get t it) fun p => b0f (get t dst) fun q => b2j (h[p]?) n fun f => onSet (h[q]?) n fun f0 => Q .norm ⟨restrict keep t, (h.set p .dead).set q (.set n fun x => f0 x || f x)⟩ := by
 unfold E
 rw [X_eq]
 simp only [a0U]
 generalize get t it = vi
 generalize get t dst = vd
 cases vi with
 | sc ci =>
   cases ci with
   | ptr p off =>
     cases off with
     | zero =>
       cases vd with
       | sc cd =>
         cases cd with
         | map q =>
           simp only [b4M, b0f]
           generalize h[p]? = op
           generalize h[q]? = oq
           cases op with
           | none => rfl
           | some op =>
             cases op with
             | iter n1 f =>
               simp only [b2j]
               cases oq with
               | none => by_cases h1 : n1 = n <;> simp [h1, onSet] <;> rfl
               | some oq =>
                 cases oq with
                 | set n2 f0 => by_cases h1 : n1 = n <;> by_cases h2 : n2 = n <;> simp [h1, h2, onSet] <;> rfl
                 | _ => by_cases h1 : n1 = n <;> simp [h1, onSet] <;> rfl
             | _ => rfl
         | _ => rfl
       | _ => rfl
     | succ off => rfl
   | _ => rfl
 | _ => rfl
/-! Texts. -/
def b6L (v : V) (f : ByteArray -> Option β) (_ : Tag f := .mk) : Option β := match v with | .sc (.str s) => f s | _ => none
@[go_sem] theorem c8B (s : ByteArray) (f : ByteArray -> Option β) : b6L (.sc (.str s)) f = f s := nrfl rfl
@[go_sem] theorem c9h (x i : Rand) : P1 Γ base d (.istr x i) ⟨t, h⟩ k = b6L (rd Γ t x) fun s => a7v (rd Γ t i) fun _ n => br (decide (0 <= n /\ n < s.size)) (a0L (s[n.toNat]?) fun b => k ⟨put1 d (.sc (.int .u8 b.toNat)) t, h⟩) none := by
 simp only [P1, perform, eff]
 cases rd Γ t x with
 | sc c =>
   cases c with
   | str s =>
     simp only [b6L]
     cases rd Γ t i with
     | sc c =>
       cases c with
       | int ki n =>
         simp only [a7v, place]
         by_cases hn : 0 <= n /\ n < s.size
         . simp only [if_pos hn, decide_eq_true hn, a4R]
           cases s[n.toNat]? <;> rfl
         . simp only [if_neg hn, decide_eq_false hn, a4r]; rfl
       | _ => rfl
     | _ => rfl
   | _ => rfl
 | _ => rfl
def c0n (v : V) (f : SK -> Option β) (_ : Tag f := .mk) : Option β := match v with | .sc (.sl k _ _) => f k | _ => none
@[go_sem] theorem c8A (k : SK) (es : Nat) (l : List (List C)) (f : SK -> Option β) : c0n (.sc (.sl k es l)) f = f k := nrfl rfl
@[go_sem] theorem c6d (neg : Bool) (x : Rand) : P1 Γ base d (.isnil 0 neg x) ⟨t, h⟩ k = c0n (rd Γ t x) fun kk => k ⟨put1 d (.sc (.bool (neg ^^ decide (kk = .nil)))) t, h⟩ := by
 simp only [P1, perform, eff]
 cases rd Γ t x with
 | sc c => cases c <;> rfl
 | _ => rfl
theorem a2o {α : Type} {a : Option α} {x : α} {f : α -> Option β} {r : Option β} (h : a = some x) (h2 : f x = r) : a0L a f = r := by subst h; exact h2
end Go.Pm
namespace Go.Pm
theorem a4Q {β : Type} {Γ : Env} {α : Type} {keep : List Nat} {B : AC} (S : Nat -> St) (l : List α) (T : Ex × St) (Q : Ex -> St -> Option β) {s0 : St} (hs : s0 = S 0)
   (hstep : ∀ (i : Nat) x, l[i]? = some x -> E Γ B (S i) (fun e s1 => match e with | .norm => trim keep (S i).h.length s1 | _ => none) = some (S (i + 1)))
   (hend : E Γ B (S l.length) (fun e s1 => match e with | .norm => none | e => some (e, s1)) = some T) :
   E Γ (.loop keep B) s0 Q = Q T.1 T.2 := by
 subst hs
 have := a6g (Γ := Γ) (keep := keep) (B := B) (fun i (_ : Unit) => S i) l (fun a _ => a) (fun _ => T) Q (fun i a x hx => hstep i x hx) (fun a => hend) ()
 exact this
theorem take_snoc {α : Type} {l : List α} {i : Nat} {x : α} (h : l[i]? = some x) : l.take (i + 1) = l.take i ++ [x] := by
 rw [List.take_add_one, h]; rfl
def a1I (p : Nat -> Bool) (n : Nat) : Option Nat := (List.range n).find? p
theorem a4j {p : Nat -> Bool} {n i : Nat} : a1I p n = some i <-> i < n /\ p i = true /\ ∀ j, j < i -> p j = false := by
 unfold a1I
 rw [List.find?_eq_some_iff_getElem]
 constructor
 . rintro ⟨h1, k, hk, h2, h3⟩
   simp only [List.length_range] at hk
   simp only [List.getElem_range] at h2
   subst h2
   refine ⟨hk, h1, fun j hj => ?_⟩
   have := h3 j hj
   simpa using this
 . rintro ⟨h1, h2, h3⟩
   refine ⟨h2, i, by simpa using h1, by simp, fun j hj => ?_⟩
   simpa using h3 j hj
theorem a3y {p : Nat -> Bool} {n : Nat} : a1I p n = none <-> ∀ i, i < n -> p i = false := by
 unfold a1I
 simp [List.find?_eq_none]
theorem b4n {α : Type} (p : Nat -> Bool) (l : List α) : a1I p l.length = (a0z (fun i _ => p i) 0 l).map Prod.fst := by
 cases h : a0z (fun i _ => p i) 0 l with
 | none =>
   rw [a2L] at h
   rw [Option.map_none, a3y]
   intro i hi
   have := h i _ (List.getElem?_eq_getElem hi)
   rwa [Nat.zero_add] at this
 | some q =>
   obtain ⟨i, x⟩ := q
   obtain ⟨_, h1, h2, h3⟩ := a3F h
   rw [Nat.sub_zero] at h1 h3
   rw [Option.map_some, a4j]
   refine ⟨(List.getElem?_eq_some_iff.1 h1).1, h2, fun j hj => ?_⟩
   have hlt := (List.getElem?_eq_some_iff.1 h1).1
   have := h3 j _ hj (List.getElem?_eq_getElem (by omega))
   rwa [Nat.zero_add] at this
theorem b2E {p : Nat -> Bool} {n : Nat} : a0z (fun k (_ : Nat) => p k) 0 (List.range n) = (a1I p n).map fun k => (k, k) := by
 cases h : a0z (fun k (_ : Nat) => p k) 0 (List.range n) with
 | none =>
   have h2 : a1I p n = none := by
     rw [a2L] at h
     rw [a3y]
     intro i hi
     have := h i i (by rw [List.getElem?_range hi])
     rwa [Nat.zero_add] at this
   rw [h2]; rfl
 | some q =>
   obtain ⟨i, x⟩ := q
   obtain ⟨_, h1, h2, h3⟩ := a3F h
   rw [Nat.sub_zero] at h1 h3
   have hi : i < n := by have := (List.getElem?_eq_some_iff.1 h1).1; simpa using this
   have h4 : a1I p n = some i := by
     rw [a4j]
     refine ⟨hi, h2, fun j hj => ?_⟩
     have := h3 j j hj (by rw [List.getElem?_range (by omega)])
     rwa [Nat.zero_add] at this
   rw [h4]
   rw [List.getElem?_range hi] at h1
   simp only [Option.some.injEq] at h1
   subst h1; rfl
theorem a6N {β : Type} {Γ : Env} {keep : List Nat} {B : AC} (m : Nat) (S : Nat -> St) (p : Nat -> Bool) (R : Nat -> Ex × St) (T : Ex × St) (Q : Ex -> St -> Option β) {s0 : St} (hs : s0 = S 0)
   (hstep : ∀ (i : Nat), i < m -> p i = false -> E Γ B (S i) (fun e s1 => match e with | .norm => trim keep (S i).h.length s1 | _ => none) = some (S (i + 1)))
   (hexit : ∀ (i : Nat), i < m -> p i = true -> E Γ B (S i) (fun e s1 => match e with | .norm => none | e => some (e, s1)) = some (R i))
   (hend : E Γ B (S m) (fun e s1 => match e with | .norm => none | e => some (e, s1)) = some T) :
   E Γ (.loop keep B) s0 Q = match a1I p m with | some i => Q (R i).1 (R i).2 | none => Q T.1 T.2 := by
 subst hs
 have h := a4L (Γ := Γ) (keep := keep) (B := B) S (List.range m) (fun k _ => p k) (fun k _ => R k) T Q (fun i x hx hf => hstep i (by have := (List.getElem?_eq_some_iff.1 hx).1; simpa using this) hf)
   (fun i x hx hf => hexit i (by have := (List.getElem?_eq_some_iff.1 hx).1; simpa using this) hf) (by rw [List.length_range]; exact hend)
 rw [h, b2E]
 cases a1I p m <;> rfl
def topK (k : SK) : SK := match k with | .nil => .nil | _ => .full
theorem a6u (es : Nat) (k : SK) (l : List (List C)) (n : Nat) (hn : l.length = n) : sliced es (.sc (.sl k es l)) none (some (.sc (.int .i64 n))) (some (.sc (.int .i64 n))) = some (.sl (topK k) es l) := by
 subst hn
 cases k <;> simp [sliced, bounds, a9O, b4b, b4c, bound, capOf, a7p, topK]
theorem a7M (es : Nat) (k k' : SK) (l : List (List C)) (x : List C) (hr : l.length + 1 <= room) : appended es (.sc (.sl (topK k) es l)) (.sc (.sl k' es [x])) = some (.own es (l ++ [x])) := by
 cases k <;> simp [appended, elems, topK, hr]
section
variable {Γ : Env}
theorem c0u {β : Type} {α : Type} {keep : List Nat} {B : AC} (S : Nat -> Bool -> St) (l : List α) (p : α -> Bool) (T : Nat -> Bool -> Ex × St) {Q : Ex -> St -> Option β} {r : Option β}
   (hstep : ∀ (i : Nat) x, l[i]? = some x -> E Γ B (S i true) (fun e s1 => match e with | .norm => trim keep (S i true).h.length s1 | _ => none) = some (S (i + 1) (p x)))
   (hstop : ∀ (i : Nat), i <= l.length -> E Γ B (S i false) (fun e s1 => match e with | .norm => none | e => some (e, s1)) = some (T i false))
   (hend : E Γ B (S l.length true) (fun e s1 => match e with | .norm => none | e => some (e, s1)) = some (T l.length true))
   (hQ : ∀ i, Q (T i (l.all p)).1 (T i (l.all p)).2 = r) : E Γ (.loop keep B) (S 0 true) Q = r := by
 have main : ∀ (m : List α) (i : Nat), l.drop i = m -> i <= l.length -> ∃ j, X Γ (.loop keep B) (S i true) = some (T j (m.all p)) := by
   intro m
   induction m with
   | nil =>
     intro i hm hi
     have : i = l.length := by have := List.drop_eq_nil_iff.1 hm; omega
     subst this
     exact ⟨l.length, a5y hend⟩
   | cons x m ih =>
     intro i hm hi
     have hlt : i < l.length := by
       by_cases h : i < l.length
       . exact h
       . rw [List.drop_eq_nil_of_le (by omega)] at hm; cases hm
     have hx : l[i]? = some x := by
       have := congrArg (fun l => l[0]?) hm
       simpa [List.getElem?_drop] using this
     have hd : l.drop (i + 1) = m := by rw [← List.drop_drop, hm]; rfl
     have h1 := a8x (hstep i x hx)
     cases hp : p x with
     | true =>
       rw [hp] at h1
       obtain ⟨j, hj⟩ := ih (i + 1) hd (by omega)
       exact ⟨j, by rw [h1, hj, List.all_cons, hp, Bool.true_and]⟩
     | false =>
       rw [hp] at h1
       exact ⟨i + 1, by rw [h1, a5y (hstop (i + 1) (by omega)), List.all_cons, hp, Bool.false_and]⟩
 obtain ⟨j, hj⟩ := main l 0 rfl (Nat.zero_le _)
 rw [b3H hj]
 exact hQ j
theorem b8u {β : Type} {α : Type} {keep : List Nat} {B : AC} (S : Nat -> Bool -> St) (l : List α) (p : α -> Bool) (T : Nat -> Bool -> Ex × St) {Q : Ex -> St -> Option β} {r : Option β} {s0 : St} (hs : s0 = S 0 true)
   (hstep : ∀ (i : Nat) x, l[i]? = some x -> E Γ B (S i true) (fun e s1 => match e with | .norm => trim keep (S i true).h.length s1 | _ => none) = some (S (i + 1) (p x)))
   (hstop : ∀ (i : Nat), i <= l.length -> E Γ B (S i false) (fun e s1 => match e with | .norm => none | e => some (e, s1)) = some (T i false))
   (hend : E Γ B (S l.length true) (fun e s1 => match e with | .norm => none | e => some (e, s1)) = some (T l.length true))
   (hQ : ∀ i, Q (T i (l.all p)).1 (T i (l.all p)).2 = r) : E Γ (.loop keep B) s0 Q = r := by
 subst hs; exact c0u S l p T hstep hstop hend hQ
end
def ownF (es : Nat) (L : List (List C)) : C := match L with | [] => .sl .full es [] | _ :: _ => .own es L
theorem d1w (es : Nat) (k : SK) (L : List (List C)) (x : List C) (hr : L.length + 1 <= room) : appended es (.sc (ownF es L)) (.sc (.sl k es [x])) = some (.own es (L ++ [x])) := by
 cases L with
 | nil => simp [appended, elems, ownF, room]
 | cons y l => simp only [appended, elems, ownF, if_true]; simp at hr; simp [hr]
@[go_sem] theorem c3F (es : Nat) (L : List (List C)) : (V.sc (ownF es L)).cells = [ownF es L] := by cases L <;> rfl
@[go_sem] theorem c5Q (n es : Nat) (L : List (List C)) : C.under n (ownF es L) = true := by cases L <;> simp [ownF, C.under]
def turn (n below : Int) : Int := if below < 1 then 0 else if n.tmod below < 0 then n.tmod below + below else n.tmod below
@[go_sem] theorem c9z (k : IntKind) (x y : Int) : bin .shl (.sc (.int k x)) (.sc (.int .i64 y)) = br (decide (y < 0)) none (some (.int k (k.wrap (x * 2 ^ (Nat.min y.toNat k.bits))))) := by
 simp only [bin, shifted]; by_cases h : y < 0 <;> simp [h]
@[go_sem] theorem c9A (k : IntKind) (x y : Int) : bin .shr (.sc (.int k x)) (.sc (.int .i64 y)) = br (decide (y < 0)) none (some (.int k (x.fdiv (2 ^ (Nat.min y.toNat k.bits))))) := by
 simp only [bin, shifted]; by_cases h : y < 0 <;> simp [h]
@[go_sem] theorem c9p (k : IntKind) (x y : Int) : bin .and (.sc (.int k x)) (.sc (.int k y)) = some (.int k (a5l k (BitVec.ofInt k.bits x &&& BitVec.ofInt k.bits y))) := by simp [bin, arith]
def d2J (set n : Int) : Bool := decide (0 <= n) && decide (n < 62) && decide (a5l .i64 (BitVec.ofInt 64 (set.fdiv (2 ^ n.toNat)) &&& BitVec.ofInt 64 1) = 1)
def kF {α : Type} (L : List α) : SK := match L with | [] => .full | _ :: _ => .shared
theorem d3j (es : Nat) (L : List (List C)) : a0r (ownF es L) = .sl (kF L) es L := by cases L <;> rfl
theorem d3p (es : Nat) (L : List (List C)) (x : List C) : ownF es (L ++ [x]) = .own es (L ++ [x]) := by cases L <;> rfl
def earlier (l m : List Int) : Bool := match a0z (fun _ (p : Int × Int) => decide (p.1 ≠ p.2)) 0 (l.zip m) with | some (_, p) => decide (p.1 < p.2) | none => decide ((l.length : Int) < m.length)
def kS {α : Type} (L : List α) : SK := match L with | [] => .nil | _ :: _ => .shared
theorem a9I (es : Nat) (L : List (List C)) : a0r (ownC es L) = .sl (kS L) es L := by cases L <;> rfl
theorem d6p {α β : Type} (f : α -> β) (L : List α) : kS (L.map f) = kS L := by cases L <;> rfl
end Go.Pm
namespace Go.Pm.St
structure Span where
 lo : Int
 hi : Int
structure Day where
 plain : Int
 full : Int
 needs : Int
structure Rest where
 day : Int
 singer : Int
 deriving DecidableEq
structure Sign where
 singer : Int
 day : Int
 left : Int
 err : Int
structure Book where
 ks : SK
 singers : List Span
 c0 : Span
 c1 : Span
 c2 : Span
 kd : SK
 days : List Day
 kr : SK
 rests : List Rest
 kg : SK
 signs : List Sign
def within (n low high : Int) : Bool := decide (low <= n) && decide (n <= high)
theorem within_iff {n a c : Int} : within n a c = true <-> a <= n /\ n <= c := by simp [within]
def Span.is (s : Span) (low high wide : Int) : Bool := decide (low <= s.lo) && decide (s.lo <= s.hi) && decide (s.hi <= high) && decide (s.hi - s.lo <= wide)
theorem Span.b0d {s : Span} {a c e : Int} : s.is a c e = true <-> a <= s.lo /\ s.lo <= s.hi /\ s.hi <= c /\ s.hi - s.lo <= e := by
 simp only [Span.is, Bool.and_eq_true, decide_eq_true_eq, and_assoc]
def Span.has (s : Span) (n : Int) : Prop := s.lo <= n /\ n <= s.hi
def Day.ok (x : Day) : Bool := within x.plain 0 2 && within x.full 0 2 && within x.needs 0 3
def Book.a1f (b : Book) (n : Int) : Bool := within n 0 (b.singers.length - 1)
def Book.a2O (b : Book) (n : Int) : Bool := within n 0 (b.days.length - 1)
def Book.a6o (b : Book) (x : Rest) : Bool := b.a2O x.day && b.a1f x.singer
def Book.a3z (b : Book) (x : Sign) : Bool := b.a1f x.singer && b.a2O x.day && within x.left (-150) 30 && within x.err 0 3
def Book.valid (b : Book) : Bool :=
 (within b.singers.length 1 3 && within b.days.length 1 5 && decide ((b.rests.length : Int) <= 6) && decide ((b.signs.length : Int) <= 4)) && b.singers.all (·.is 0 30 2) && (b.c0.is 0 6 1 && b.c1.is 0 6 1 && b.c2.is 0 6 1) &&
 b.days.all Day.ok && b.rests.all b.a6o && b.signs.all b.a3z
structure Sane (b : Book) : Prop where
 s1 : 1 <= b.singers.length
 s3 : b.singers.length <= 3
 d1 : 1 <= b.days.length
 d5 : b.days.length <= 5
 r6 : b.rests.length <= 6
 g4 : b.signs.length <= 5
 sp : ∀ s ∈ b.singers, 0 <= s.lo /\ s.lo <= s.hi /\ s.hi <= 30 /\ s.hi - s.lo <= 2
 k0 : 0 <= b.c0.lo /\ b.c0.lo <= b.c0.hi /\ b.c0.hi <= 6 /\ b.c0.hi - b.c0.lo <= 1
 k1 : 0 <= b.c1.lo /\ b.c1.lo <= b.c1.hi /\ b.c1.hi <= 6 /\ b.c1.hi - b.c1.lo <= 1
 k2 : 0 <= b.c2.lo /\ b.c2.lo <= b.c2.hi /\ b.c2.hi <= 6 /\ b.c2.hi - b.c2.lo <= 1
 dy : ∀ x ∈ b.days, (0 <= x.plain /\ x.plain <= 2) /\ (0 <= x.full /\ x.full <= 2) /\ (0 <= x.needs /\ x.needs <= 3)
 rs : ∀ x ∈ b.rests, (0 <= x.day /\ x.day < b.days.length) /\ (0 <= x.singer /\ x.singer < b.singers.length)
 sg : ∀ x ∈ b.signs, (0 <= x.singer /\ x.singer < b.singers.length) /\ (0 <= x.day /\ x.day < b.days.length) /\ (-150 <= x.left /\ x.left <= 30) /\ (0 <= x.err /\ x.err <= 3)
theorem a8w {b : Book} : b.valid = true <-> Sane b /\ b.signs.length <= 4 := by
 simp only [Book.valid, Bool.and_eq_true, within_iff, decide_eq_true_eq, List.all_eq_true, Span.b0d, Day.ok, Book.a6o, Book.a3z, Book.a1f, Book.a2O]
 constructor
 . rintro ⟨⟨⟨⟨⟨⟨⟨⟨h1, h2⟩, h3⟩, h4⟩, h5⟩, ⟨h6, h7⟩, h8⟩, h9⟩, h10⟩, h11⟩
   refine ⟨⟨by omega, by omega, by omega, by omega, by omega, by omega, h5, h6, h7, h8, fun x hx => ?_, fun x hx => ?_, fun x hx => ?_⟩, by omega⟩
   . have := h9 x hx; omega
   . have := h10 x hx; omega
   . have := h11 x hx; omega
 . rintro ⟨h, hg⟩
   refine ⟨⟨⟨⟨⟨⟨⟨⟨?_, ?_⟩, ?_⟩, ?_⟩, h.sp⟩, ⟨h.k0, h.k1⟩, h.k2⟩, fun x hx => ?_⟩, fun x hx => ?_⟩, fun x hx => ?_⟩
   . have := h.s1; have := h.s3; omega
   . have := h.d1; have := h.d5; omega
   . have := h.r6; omega
   . omega
   . have := h.dy x hx; omega
   . have := h.rs x hx; omega
   . have := h.sg x hx; omega
theorem a2n {b : Book} : (b.valid = true -> Sane b) /\ (b.valid = true -> b.signs.length <= 4) := ⟨fun h => (a8w.1 h).1, fun h => (a8w.1 h).2⟩
/-! ### What is left -/
structure Cost where
 p : Int
 f : Int
 n : Int
 deriving DecidableEq
def Day.after (x : Day) (c : Cost) (rest : Bool) (now : Int) : Int := if rest then now else now - x.plain * c.p - x.full * c.f
def nowAt (l : List Day) (c : Cost) (s : Int) (r : Nat -> Bool) : Nat -> Int
 | 0 => s
 | d + 1 => match l[d]? with
   | some x => min s (x.after c (r d) (nowAt l c s r d) + c.n)
   | none => nowAt l c s r d
def a2B (l : List Day) (c : Cost) (s : Int) (r : Nat -> Bool) (d : Nat) : Int := match l[d]? with
 | some x => x.after c (r d) (nowAt l c s r d)
 | none => nowAt l c s r d
theorem b6H {l : List Day} {c : Cost} {s : Int} {r : Nat -> Bool} {d : Nat} (h : d < l.length) : nowAt l c s r (d + 1) = min s (a2B l c s r d + c.n) := by
 simp only [nowAt, a2B, List.getElem?_eq_getElem h]
structure Mild (l : List Day) (c : Cost) : Prop where
 p : 0 <= c.p
 f : 0 <= c.f
 d : ∀ x ∈ l, 0 <= x.plain /\ 0 <= x.full
theorem b1f {l : List Day} {c : Cost} {s : Int} {r : Nat -> Bool} : ∀ d, nowAt l c s r d <= s
 | 0 => Int.le_refl _
 | d + 1 => by
   have ih := b1f (l := l) (c := c) (s := s) (r := r) d
   simp only [nowAt]
   cases l[d]? with
   | none => exact ih
   | some x => exact Int.min_le_left _ _
theorem b3i {l : List Day} {c : Cost} (hm : Mild l c) {s : Int} {r : Nat -> Bool} (d : Nat) : a2B l c s r d <= s := by
 have := b1f (l := l) (c := c) (s := s) (r := r) d
 simp only [a2B]
 cases hd : l[d]? with
 | none => exact this
 | some x =>
   have h1 := Int.mul_nonneg (hm.d x (List.mem_of_getElem? hd)).1 hm.p
   have h2 := Int.mul_nonneg (hm.d x (List.mem_of_getElem? hd)).2 hm.f
   simp only [Day.after]
   cases r d <;> simp <;> omega
theorem b1e {b : Book} (hs : Sane b) {c : Cost} (h0 : b.c0.has c.p) (h1 : b.c1.has c.f) (h2 : b.c2.has c.n) {s : Int} (hp : 0 <= s) {r : Nat -> Bool} : ∀ d : Nat, -(24 * (d : Int)) <= nowAt b.days c s r d
 | 0 => by simpa [nowAt] using hp
 | d + 1 => by
   have ih := b1e hs h0 h1 h2 hp (r := r) d
   simp only [nowAt]
   cases hd : b.days[d]? with
   | none => simp only; omega
   | some x =>
     have := hs.dy x (List.mem_of_getElem? hd)
     have k0 := hs.k0; have k1 := hs.k1; have k2 := hs.k2
     simp only [Span.has] at h0 h1 h2
     have m1 : x.plain * c.p <= 2 * 6 := Int.mul_le_mul (by omega) (by omega) (by omega) (by omega)
     have m2 : x.full * c.f <= 2 * 6 := Int.mul_le_mul (by omega) (by omega) (by omega) (by omega)
     simp only [Day.after]
     cases r d <;> simp only [Bool.false_eq_true, if_false, if_true] <;> omega
theorem b3h {b : Book} (hs : Sane b) {c : Cost} (h0 : b.c0.has c.p) (h1 : b.c1.has c.f) (h2 : b.c2.has c.n) {s : Int} (hp : 0 <= s) {r : Nat -> Bool} (d : Nat) : -(24 * ((d : Int) + 1)) <= a2B b.days c s r d := by
 have ih := b1e hs h0 h1 h2 hp (r := r) d
 simp only [a2B]
 cases hd : b.days[d]? with
 | none => simp only; omega
 | some x =>
   have := hs.dy x (List.mem_of_getElem? hd)
   have k0 := hs.k0; have k1 := hs.k1; have k2 := hs.k2
   simp only [Span.has] at h0 h1 h2
   have m1 : x.plain * c.p <= 2 * 6 := Int.mul_le_mul (by omega) (by omega) (by omega) (by omega)
   have m2 : x.full * c.f <= 2 * 6 := Int.mul_le_mul (by omega) (by omega) (by omega) (by omega)
   simp only [Day.after]
   cases r d <;> simp only [Bool.false_eq_true, if_false, if_true] <;> omega
/-! ### Rests, signs, ways -/
def a2Y (l : List Rest) (singer : Int) (d : Nat) : Bool := l.any fun x => decide (x.day = d) && decide (x.singer = singer)
def upto (lo hi : Int) : List Int := (List.range (hi - lo + 1).toNat).map fun (k : Nat) => lo + k
theorem b4F {lo hi n : Int} : n ∈ upto lo hi <-> lo <= n /\ n <= hi := by
 simp only [upto, List.mem_map, List.mem_range]
 constructor
 . rintro ⟨k, hk, rfl⟩; omega
 . intro h; exact ⟨(n - lo).toNat, by omega, by omega⟩
def Book.fair (b : Book) (c : Cost) (i : Int) (s : Int) (x : Sign) : Bool := within (x.left - a2B b.days c s (a2Y b.rests i) x.day.toNat) (-x.err) x.err
def Book.rightFrom (b : Book) (c : Cost) (i : Int) (s : Int) (but : Int -> Bool) : Nat -> List Sign -> Bool
 | _, [] => true
 | k, x :: l => !(decide (x.singer = i) && !but k && !b.fair c i s x) && b.rightFrom c i s but (k + 1) l
def Book.right (b : Book) (c : Cost) (i : Int) (s : Int) (but : Int -> Bool) : Bool := b.rightFrom c i s but 0 b.signs
theorem a9E {b : Book} {c : Cost} {i s : Int} {but : Int -> Bool} : ∀ {l : List Sign} {k : Nat}, b.rightFrom c i s but k l = true <-> ∀ (j : Nat) x, l[j]? = some x -> x.singer = i -> but ((k + j : Nat) : Int) = false -> b.fair c i s x = true
 | [], k => by simp [Book.rightFrom]
 | y :: l, k => by
   simp only [Book.rightFrom, Bool.and_eq_true, a9E (l := l) (k := k + 1)]
   constructor
   . rintro ⟨h1, h2⟩ j x hx hi hb
     cases j with
     | zero =>
       simp only [List.getElem?_cons_zero, Option.some.injEq] at hx
       subst hx
       simp only [Nat.add_zero] at hb
       simpa [hi, hb] using h1
     | succ j => exact h2 j x (by simpa using hx) hi (by rw [show k + 1 + j = k + (j + 1) by omega]; exact hb)
   . intro h
     refine ⟨?_, fun j x hx hi hb => h (j + 1) x (by simpa using hx) hi (by rw [show k + (j + 1) = k + 1 + j by omega]; exact hb)⟩
     by_cases hi : y.singer = i
     . cases hb : but k with
       | true => simp
       | false => simp [h 0 y rfl hi (by simpa using hb)]
     . simp [hi]
theorem b8e {b : Book} {c : Cost} {i s : Int} {but : Int -> Bool} : b.right c i s but = true <-> ∀ (j : Nat) x, b.signs[j]? = some x -> x.singer = i -> but j = false -> b.fair c i s x = true := by
 rw [Book.right, a9E]; simp only [Nat.zero_add]
def Book.a1B (b : Book) (c : Cost) (i : Nat) (but : Int -> Bool) : List Int := match b.singers[i]? with
 | some s => (upto s.lo s.hi).filter fun n => b.right c i n but
 | none => []
theorem a9C {b : Book} {c : Cost} {i : Nat} {but : Int -> Bool} {s : Span} (hs : b.singers[i]? = some s) {n : Int} : n ∈ b.a1B c i but <-> s.has n /\ b.right c i n but = true := by
 simp only [Book.a1B, hs, List.mem_filter, b4F, Span.has]
def Book.a8a (b : Book) : List Cost := (upto b.c0.lo b.c0.hi).flatMap fun p => (upto b.c1.lo b.c1.hi).flatMap fun f => (upto b.c2.lo b.c2.hi).map fun n => ⟨p, f, n⟩
theorem b2c {b : Book} {c : Cost} : c ∈ b.a8a <-> b.c0.has c.p /\ b.c1.has c.f /\ b.c2.has c.n := by
 simp only [Book.a8a, List.mem_flatMap, List.mem_map, b4F, Span.has]
 constructor
 . rintro ⟨p, hp, f, hf, n, hn, rfl⟩; exact ⟨hp, hf, hn⟩
 . rintro ⟨h0, h1, h2⟩; exact ⟨c.p, h0, c.f, h1, c.n, h2, rfl⟩
abbrev Truth := Cost × List (List Int)
def Book.strong (b : Book) (c : Cost) (but : Int -> Bool) : List (List Int) := (List.range b.singers.length).map fun i => b.a1B c i but
def Book.can (b : Book) (c : Cost) (but : Int -> Bool) : Bool := (b.strong c but).all fun l => !l.isEmpty
def Book.a3d (b : Book) (but : Int -> Bool) : List Truth := (b.a8a.filter fun c => b.can c but).map fun c => (c, b.strong c but)
structure Way (b : Book) (but : Int -> Bool) (c : Cost) (st : Nat -> Int) : Prop where
 c0 : b.c0.has c.p
 c1 : b.c1.has c.f
 c2 : b.c2.has c.n
 str : ∀ (i : Nat) s, b.singers[i]? = some s -> s.has (st i)
 sg : ∀ (j : Nat) x, b.signs[j]? = some x -> but j = false -> b.fair c x.singer (st x.singer.toNat) x = true
theorem Way.mem {b : Book} (hs : Sane b) {but : Int -> Bool} {c : Cost} {st : Nat -> Int} (w : Way b but c st) {i : Nat} (hi : i < b.singers.length) : st i ∈ b.a1B c i but := by
 rw [a9C (List.getElem?_eq_getElem hi)]
 refine ⟨w.str i _ (List.getElem?_eq_getElem hi), b8e.2 fun j x hx hi' hb => ?_⟩
 have := w.sg j x hx hb
 rw [hi'] at this
 simpa using this
theorem Way.truth {b : Book} (hs : Sane b) {but : Int -> Bool} {c : Cost} {st : Nat -> Int} (w : Way b but c st) : (c, b.strong c but) ∈ b.a3d but := by
 simp only [Book.a3d, List.mem_map, List.mem_filter]
 refine ⟨c, ⟨b2c.2 ⟨w.c0, w.c1, w.c2⟩, ?_⟩, rfl⟩
 simp only [Book.can, Book.strong, List.all_eq_true, List.mem_map, List.mem_range]
 rintro l ⟨i, hi, rfl⟩
 have := w.mem hs hi
 cases he : b.a1B c i but with
 | nil => rw [he] at this; cases this
 | cons x l => rfl
end Go.Pm.St
namespace Go.Pm
open Ac
class P04 (Γ : Env) : Prop where
 f23 : Γ.fn 23 = some a3l
 f29 : Γ.fn 29 = some a2w
 f30 : Γ.fn 30 = some a4A
 f33 : Γ.fn 33 = some a3N
 f49 : Γ.fn 49 = some a2v
 f65 : Γ.fn 65 = some d2y
 f75 : Γ.fn 75 = some d5j
 f76 : Γ.fn 76 = some a2Q
 f83 : Γ.fn 83 = some a3r
 f101 : Γ.fn 101 = some a5i
 f103 : Γ.fn 103 = some a6B
 f105 : Γ.fn 105 = some a1F
 f107 : Γ.fn 107 = some a4U
 f109 : Γ.fn 109 = some a3x
 f110 : Γ.fn 110 = some a3M
 f111 : Γ.fn 111 = some a3C
 f112 : Γ.fn 112 = some a7d
 f113 : Γ.fn 113 = some a3V
 f114 : Γ.fn 114 = some d4I
 f117 : Γ.fn 117 = some a6w
 f118 : Γ.fn 118 = some a5M
 f119 : Γ.fn 119 = some d4H
 f121 : Γ.fn 121 = some a4h
 f122 : Γ.fn 122 = some a4I
 f123 : Γ.fn 123 = some a2j
 f127 : Γ.fn 127 = some a4f
 f128 : Γ.fn 128 = some a5L
 f130 : Γ.fn 130 = some a0X
 f131 : Γ.fn 131 = some a5u
 f134 : Γ.fn 134 = some a4W
 f135 : Γ.fn 135 = some a2u
 f136 : Γ.fn 136 = some a4e
 f137 : Γ.fn 137 = some a2i
 f138 : Γ.fn 138 = some a1Z
 f139 : Γ.fn 139 = some a4c
 f140 : Γ.fn 140 = some a4b
 f141 : Γ.fn 141 = some a2t
 f142 : Γ.fn 142 = some a4z
 f143 : Γ.fn 143 = some a4l
 f144 : Γ.fn 144 = some a5P
 f145 : Γ.fn 145 = some a0N
 f146 : Γ.fn 146 = some a3U
 f147 : Γ.fn 147 = some d5d
 f149 : Γ.fn 149 = some d5g
 f150 : Γ.fn 150 = some a5Q
 f151 : Γ.fn 151 = some a5O
 f152 : Γ.fn 152 = some a6G
 f153 : Γ.fn 153 = some a5b
 f154 : Γ.fn 154 = some a5N
 f155 : Γ.fn 155 = some a1m
 f156 : Γ.fn 156 = some d5e
 f157 : Γ.fn 157 = some d5c
 f158 : Γ.fn 158 = some d4G
 f159 : Γ.fn 159 = some d5h
 f160 : Γ.fn 160 = some a5a
 f161 : Γ.fn 161 = some a5J
 f162 : Γ.fn 162 = some a1v
 f163 : Γ.fn 163 = some cmp_Compare_int
 f164 : Γ.fn 164 = some a5n
 f167 : Γ.fn 167 = some a4H
 f168 : Γ.fn 168 = some a4s
 f169 : Γ.fn 169 = some a4J
 f170 : Γ.fn 170 = some a1d
 f171 : Γ.fn 171 = some a3m
 f172 : Γ.fn 172 = some a3W
 f173 : Γ.fn 173 = some d5b
 f174 : Γ.fn 174 = some d5f
 f175 : Γ.fn 175 = some a1x
 f176 : Γ.fn 176 = some a0D
 f177 : Γ.fn 177 = some cmp_isNaN_int
 f178 : Γ.fn 178 = some a1c
 f187 : Γ.fn 187 = some a0P
 f188 : Γ.fn 188 = some a4G
 f189 : Γ.fn 189 = some a3S
 f190 : Γ.fn 190 = some a3u
 f196 : Γ.fn 196 = some a1O
 f197 : Γ.fn 197 = some a5v
 f199 : Γ.fn 199 = some a4g
 f200 : Γ.fn 200 = some a3n
 f209 : Γ.fn 209 = some d2G
 f210 : Γ.fn 210 = some d4S
 f211 : Γ.fn 211 = some d4X
 f212 : Γ.fn 212 = some d4R
 f213 : Γ.fn 213 = some d4Q
 f224 : Γ.fn 224 = some d5a
 f231 : Γ.fn 231 = some a1a
end Go.Pm
namespace Go.Pm.St
open Ac
def Span.c (x : Span) : List C := [ci x.lo, ci x.hi]
section
variable (x : Span)
@[go_sem] theorem Span.c_0 : x.c[0]? = some (ci x.lo) := nrfl rfl
@[go_sem] theorem Span.c_1 : x.c[1]? = some (ci x.hi) := nrfl rfl
@[go_sem] theorem Span.c_un : x.c.map a0r = x.c := nrfl rfl
@[go_sem] theorem Span.b1w : C.a0v x.c = true := nrfl rfl
@[go_sem] theorem Span.b3L : a0R x.c 0 2 = some x.c := nrfl rfl
@[go_sem] theorem Span.b3N : x.c.length = 2 := nrfl rfl
@[go_sem] theorem Span.b0w (n : Nat) : C.a0G n x.c = true := a0C n _ rfl
@[go_sem] theorem Span.b3O (z0 z1 : C) : a1H [z0, z1] 0 x.c = x.c := nrfl rfl
@[go_sem] theorem Span.b3M (b : Nat) (h : List Obj) : frzL b h 128 x.c = some x.c := by simp only [Span.c, go_sem]
end
def Day.c (x : Day) : List C := [ci x.plain, ci x.full, ci x.needs]
section
variable (x : Day)
@[go_sem] theorem Day.c_0 : x.c[0]? = some (ci x.plain) := nrfl rfl
@[go_sem] theorem Day.c_1 : x.c[1]? = some (ci x.full) := nrfl rfl
@[go_sem] theorem Day.c_2 : x.c[2]? = some (ci x.needs) := nrfl rfl
@[go_sem] theorem Day.c_un : x.c.map a0r = x.c := nrfl rfl
@[go_sem] theorem Day.b1w : C.a0v x.c = true := nrfl rfl
@[go_sem] theorem Day.b3L : a0R x.c 0 3 = some x.c := nrfl rfl
@[go_sem] theorem Day.b3N : x.c.length = 3 := nrfl rfl
@[go_sem] theorem Day.b0w (n : Nat) : C.a0G n x.c = true := a0C n _ rfl
@[go_sem] theorem Day.b3O (z0 z1 z2 : C) : a1H [z0, z1, z2] 0 x.c = x.c := nrfl rfl
@[go_sem] theorem Day.b3M (b : Nat) (h : List Obj) : frzL b h 128 x.c = some x.c := by simp only [Day.c, go_sem]
end
def Rest.c (x : Rest) : List C := [ci x.day, ci x.singer]
section
variable (x : Rest)
@[go_sem] theorem Rest.c_0 : x.c[0]? = some (ci x.day) := nrfl rfl
@[go_sem] theorem Rest.c_1 : x.c[1]? = some (ci x.singer) := nrfl rfl
@[go_sem] theorem Rest.c_un : x.c.map a0r = x.c := nrfl rfl
@[go_sem] theorem Rest.b1w : C.a0v x.c = true := nrfl rfl
@[go_sem] theorem Rest.b3L : a0R x.c 0 2 = some x.c := nrfl rfl
@[go_sem] theorem Rest.b3N : x.c.length = 2 := nrfl rfl
@[go_sem] theorem Rest.b0w (n : Nat) : C.a0G n x.c = true := a0C n _ rfl
@[go_sem] theorem Rest.b3O (z0 z1 : C) : a1H [z0, z1] 0 x.c = x.c := nrfl rfl
@[go_sem] theorem Rest.b3M (b : Nat) (h : List Obj) : frzL b h 128 x.c = some x.c := by simp only [Rest.c, go_sem]
end
def Sign.c (x : Sign) : List C := [ci x.singer, ci x.day, ci x.left, ci x.err]
section
variable (x : Sign)
@[go_sem] theorem Sign.c_0 : x.c[0]? = some (ci x.singer) := nrfl rfl
@[go_sem] theorem Sign.c_1 : x.c[1]? = some (ci x.day) := nrfl rfl
@[go_sem] theorem Sign.c_2 : x.c[2]? = some (ci x.left) := nrfl rfl
@[go_sem] theorem Sign.c_3 : x.c[3]? = some (ci x.err) := nrfl rfl
@[go_sem] theorem Sign.c_un : x.c.map a0r = x.c := nrfl rfl
@[go_sem] theorem Sign.b1w : C.a0v x.c = true := nrfl rfl
@[go_sem] theorem Sign.b3L : a0R x.c 0 4 = some x.c := nrfl rfl
@[go_sem] theorem Sign.b3N : x.c.length = 4 := nrfl rfl
@[go_sem] theorem Sign.b0w (n : Nat) : C.a0G n x.c = true := a0C n _ rfl
@[go_sem] theorem Sign.b3O (z0 z1 z2 z3 : C) : a1H [z0, z1, z2, z3] 0 x.c = x.c := nrfl rfl
@[go_sem] theorem Sign.b3M (b : Nat) (h : List Obj) : frzL b h 128 x.c = some x.c := by simp only [Sign.c, go_sem]
end
def Book.c (x : Book) : List C := [.sl x.ks 2 (x.singers.map Span.c), ci x.c0.lo, ci x.c0.hi, ci x.c1.lo, ci x.c1.hi, ci x.c2.lo, ci x.c2.hi, .sl x.kd 3 (x.days.map Day.c), .sl x.kr 2 (x.rests.map Rest.c), .sl x.kg 4 (x.signs.map Sign.c)]
section
variable (x : Book)
@[go_sem] theorem Book.c_0 : x.c[0]? = some (.sl x.ks 2 (x.singers.map Span.c)) := nrfl rfl
@[go_sem] theorem Book.c_1 : x.c[1]? = some (ci x.c0.lo) := nrfl rfl
@[go_sem] theorem Book.c_2 : x.c[2]? = some (ci x.c0.hi) := nrfl rfl
@[go_sem] theorem Book.c_3 : x.c[3]? = some (ci x.c1.lo) := nrfl rfl
@[go_sem] theorem Book.c_4 : x.c[4]? = some (ci x.c1.hi) := nrfl rfl
@[go_sem] theorem Book.c_5 : x.c[5]? = some (ci x.c2.lo) := nrfl rfl
@[go_sem] theorem Book.c_6 : x.c[6]? = some (ci x.c2.hi) := nrfl rfl
@[go_sem] theorem Book.c_7 : x.c[7]? = some (.sl x.kd 3 (x.days.map Day.c)) := nrfl rfl
@[go_sem] theorem Book.c_8 : x.c[8]? = some (.sl x.kr 2 (x.rests.map Rest.c)) := nrfl rfl
@[go_sem] theorem Book.c_9 : x.c[9]? = some (.sl x.kg 4 (x.signs.map Sign.c)) := nrfl rfl
@[go_sem] theorem Book.d0Y : a0R x.c 1 2 = some [ci x.c0.lo, ci x.c0.hi] := nrfl rfl
@[go_sem] theorem Book.d1a : a0R x.c 3 2 = some [ci x.c1.lo, ci x.c1.hi] := nrfl rfl
@[go_sem] theorem Book.d1b : a0R x.c 5 2 = some [ci x.c2.lo, ci x.c2.hi] := nrfl rfl
@[go_sem] theorem Book.d0Z : a0R x.c 1 6 = some [ci x.c0.lo, ci x.c0.hi, ci x.c1.lo, ci x.c1.hi, ci x.c2.lo, ci x.c2.hi] := nrfl rfl
@[go_sem] theorem Book.c_un : x.c.map a0r = x.c := nrfl rfl
@[go_sem] theorem Book.b1w : C.a0v x.c = true := nrfl rfl
@[go_sem] theorem Book.b3L : a0R x.c 0 10 = some x.c := nrfl rfl
@[go_sem] theorem Book.b3N : x.c.length = 10 := nrfl rfl
@[go_sem] theorem Book.b0w (n : Nat) : C.a0G n x.c = true := a0C n _ rfl
@[go_sem] theorem Book.b3O (z0 z1 z2 z3 z4 z5 z6 z7 z8 z9 : C) : a1H [z0, z1, z2, z3, z4, z5, z6, z7, z8, z9] 0 x.c = x.c := nrfl rfl
@[go_sem] theorem Book.b3M (b : Nat) (h : List Obj) : frzL b h 128 x.c = some x.c := by simp only [Book.c, go_sem]
end
class Book.Fits (b : Book) : Prop where
 s : b.singers.length <= 9223372036854775807
 d : b.days.length <= 9223372036854775807
 r : b.rests.length <= 9223372036854775807
 g : b.signs.length <= 9223372036854775807
section
variable {Γ : Env} [P04 Γ]
@[go_sem] theorem c8T (a b c : Int) : K Γ (.fn 150) [vi a, vi b, vi c] [] = some (vb (within a b c), []) := by
 rw [K_fn P04.f150 _ _ rfl]
 simp only [go_sem, simprocAttr, a5Q]
 repeat' (first | ((first | refine brY ?_ | refine brN ?_ | refine brA ?_ | refine brD ?_ | refine brF ?_ | ((first | apply a0k | apply a0j); (. intro h; simp only [go_sem, simprocAttr, a0p h]; exact rfl))); (try simp only [go_sem, simprocAttr])) | ((first | apply a0e | apply d7E | apply a0a) <;> intro h <;> (try simp only [go_sem, simprocAttr, h])))
 all_goals (simp_all [within]; try (intros; omega))
theorem b1d (s : Span) (high wide : Int) (hh : high <= 1000) : K Γ (.fn 151) [.agg [ci s.lo, ci s.hi], vi high, vi wide] [] = some (vb (s.is 0 high wide), []) := by
 rw [K_fn P04.f151 _ _ rfl]
 simp only [go_sem, simprocAttr, a5O]
 repeat' (first | ((first | refine brY ?_ | refine brN ?_ | refine brA ?_ | refine brD ?_ | refine brF ?_ | ((first | apply a0k | apply a0j); (. intro h; simp only [go_sem, simprocAttr, a0p h]; exact rfl))); (try simp only [go_sem, simprocAttr])) | ((first | apply a0e | apply d7E | apply a0a) <;> intro h <;> (try simp only [go_sem, simprocAttr, h])))
 by_cases h : 0 <= s.lo /\ s.lo <= s.hi /\ s.hi <= high
 . rw [wrap_i64 (by omega) (by omega)]; rfl
 . simp only [Span.is]
   have e : (decide (0 <= s.lo) && decide (s.lo <= s.hi) && decide (s.hi <= high)) = false := by
     rw [Bool.eq_false_iff]; intro e; simp only [Bool.and_eq_true, decide_eq_true_eq] at e; omega
   simp only [e, Bool.false_and]
@[go_sem] theorem c6A (s : Span) : K Γ (.fn 151) [.agg s.c, vi 30, vi 2] [] = some (vb (s.is 0 30 2), []) := b1d s _ _ (by decide)
@[go_sem] theorem c6B (s : Span) : K Γ (.fn 151) [.agg s.c, vi 6, vi 1] [] = some (vb (s.is 0 6 1), []) := b1d s _ _ (by decide)
@[go_sem] theorem c6C (s : Span) : K Γ (.fn 151) [.agg [ci s.lo, ci s.hi], vi 6, vi 1] [] = some (vb (s.is 0 6 1), []) := b1d s _ _ (by decide)
@[go_sem] theorem c3K (b : Book) [hd : b.Fits] (n : Int) : K Γ (.fn 153) [.agg b.c, vi n] [] = some (vb (b.a1f n), []) := by
 have hi : IntKind.i64.wrap ((b.singers.length : Int) - 1) = b.singers.length - 1 := wrap_i64 (by have := hd.s; omega) (by have := hd.s; omega)
 rw [K_fn P04.f153 _ _ rfl]
 simp only [go_sem, simprocAttr, a5b, hi]
 rfl
@[go_sem] theorem c9M (b : Book) [hd : b.Fits] (n : Int) : K Γ (.fn 152) [.agg b.c, vi n] [] = some (vb (b.a2O n), []) := by
 have hi : IntKind.i64.wrap ((b.days.length : Int) - 1) = b.days.length - 1 := wrap_i64 (by have := hd.d; omega) (by have := hd.d; omega)
 rw [K_fn P04.f152 _ _ rfl]
 simp only [go_sem, simprocAttr, a6G, hi]
 rfl
@[go_sem] theorem c8t (b : Book) [hd : b.Fits] (x : Sign) : K Γ (.fn 154) [.agg b.c, .agg x.c] [] = some (vb (b.a3z x), []) := by
 rw [K_fn P04.f154 _ _ rfl]
 simp only [go_sem, simprocAttr, a5N]
 repeat' (first | ((first | refine brY ?_ | refine brN ?_ | refine brA ?_ | refine brD ?_ | refine brF ?_ | ((first | apply a0k | apply a0j); (. intro h; simp only [go_sem, simprocAttr, a0p h]; exact rfl))); (try simp only [go_sem, simprocAttr])) | ((first | apply a0e | apply d7E | apply a0a) <;> intro h <;> (try simp only [go_sem, simprocAttr, h])))
 all_goals simp_all [Book.a3z]
end
end Go.Pm.St
namespace Go.Pm.St
open Ac
theorem a7i {α : Type} (p : α -> Bool) : ∀ (l : List α) (b : Bool), l.foldl (fun a x => a && p x) b = (b && l.all p)
 | [], b => by simp
 | x :: l, b => by simp [a7i p l, Bool.and_assoc]
def Span.ok30 (s : Span) : Bool := s.is 0 30 2
section
variable {Γ : Env} [P04 Γ]
@[go_sem] theorem c8c (b : Book) [hb : b.Fits] (ok : Bool) {β : Type} (Q : Ex -> St -> Option β) : E Γ a8n ⟨[(1, .sc (.ptr 0 0)), (3, vb ok), (37, .sc (.sl b.ks 2 (b.singers.map Span.c))), (38, vi b.singers.length), (39, vi 0)], [.var b.c]⟩ Q =
   Q (.exit 0) ⟨[(1, .sc (.ptr 0 0)), (3, vb (ok && b.singers.all Span.ok30)), (37, .sc (.sl b.ks 2 (b.singers.map Span.c))), (38, vi b.singers.length), (39, vi b.singers.length), (40, vb false)], [.var b.c]⟩ := by
 refine (a6g (fun i ok => ⟨[(1, .sc (.ptr 0 0)), (3, vb ok), (37, .sc (.sl b.ks 2 (b.singers.map Span.c))), (38, vi b.singers.length), (39, vi i)], [.var b.c]⟩) b.singers (fun a x => a && Span.ok30 x)
   (fun ok => (.exit 0, ⟨[(1, .sc (.ptr 0 0)), (3, vb ok), (37, .sc (.sl b.ks 2 (b.singers.map Span.c))), (38, vi b.singers.length), (39, vi b.singers.length), (40, vb false)], [.var b.c]⟩)) Q (fun i ok x hx => ?_) (fun ok => ?_) ok).trans ?_
 . have hlt : i < b.singers.length := (List.getElem?_eq_some_iff.1 hx).1
   have hd := hb.s
   have hi : IntKind.i64.wrap ((i : Int) + 1) = i + 1 := wrap_i64 (by omega) (by omega)
   simp only [go_sem, simprocAttr, a6x]
   repeat' (first | ((first | refine brY ?_ | refine brN ?_ | refine brA ?_ | refine brD ?_ | refine brF ?_ | ((first | apply a0k | apply a0j); (. intro h; simp only [go_sem, simprocAttr, a0p h, hx, hi]; exact rfl))); (try simp only [go_sem, simprocAttr, hx, hi])) | ((first | apply a0e | apply d7E | apply a0a) <;> intro h <;> (try simp only [go_sem, simprocAttr, h, hx, hi])))
   all_goals (simp_all [Span.ok30, Book.a6o, Bool.and_assoc]; done)
 . simp only [go_sem, simprocAttr, a6x]
 . rw [a7i]
@[go_sem] theorem c8d (b : Book) [hb : b.Fits] (ok : Bool) {β : Type} (Q : Ex -> St -> Option β) : E Γ a3f ⟨[(1, .sc (.ptr 0 0)), (3, vb ok), (50, .agg [ci b.c0.lo, ci b.c0.hi, ci b.c1.lo, ci b.c1.hi, ci b.c2.lo, ci b.c2.hi]), (51, vi 0)], [.var b.c]⟩ Q =
   Q (.exit 2) ⟨[(1, .sc (.ptr 0 0)), (3, vb (ok && b.c0.is 0 6 1 && b.c1.is 0 6 1 && b.c2.is 0 6 1)), (50, .agg [ci b.c0.lo, ci b.c0.hi, ci b.c1.lo, ci b.c1.hi, ci b.c2.lo, ci b.c2.hi]), (51, vi 3), (52, vb false)], [.var b.c]⟩ := by
 simp only [go_sem, simprocAttr, a3f, a3T, a1J]
 repeat' (first | ((first | refine brY ?_ | refine brN ?_ | refine brA ?_ | refine brD ?_ | refine brF ?_ | ((first | apply a0k | apply a0j); (. intro h; simp only [go_sem, simprocAttr, a0p h, a3f, a3T, a1J]; exact rfl))); (try simp only [go_sem, simprocAttr, a3f, a3T, a1J])) | ((first | apply a0e | apply d7E | apply a0a) <;> intro h <;> (try simp only [go_sem, simprocAttr, h, a3f, a3T, a1J])))
@[go_sem] theorem c8e (b : Book) [hb : b.Fits] (ok : Bool) {β : Type} (Q : Ex -> St -> Option β) : E Γ a8o ⟨[(1, .sc (.ptr 0 0)), (3, vb ok), (61, .sc (.sl b.kd 3 (b.days.map Day.c))), (62, vi b.days.length), (63, vi 0)], [.var b.c]⟩ Q =
   Q (.exit 4) ⟨[(1, .sc (.ptr 0 0)), (3, vb (ok && b.days.all Day.ok)), (61, .sc (.sl b.kd 3 (b.days.map Day.c))), (62, vi b.days.length), (63, vi b.days.length), (64, vb false)], [.var b.c]⟩ := by
 refine (a6g (fun i ok => ⟨[(1, .sc (.ptr 0 0)), (3, vb ok), (61, .sc (.sl b.kd 3 (b.days.map Day.c))), (62, vi b.days.length), (63, vi i)], [.var b.c]⟩) b.days (fun a x => a && Day.ok x)
   (fun ok => (.exit 4, ⟨[(1, .sc (.ptr 0 0)), (3, vb ok), (61, .sc (.sl b.kd 3 (b.days.map Day.c))), (62, vi b.days.length), (63, vi b.days.length), (64, vb false)], [.var b.c]⟩)) Q (fun i ok x hx => ?_) (fun ok => ?_) ok).trans ?_
 . have hlt : i < b.days.length := (List.getElem?_eq_some_iff.1 hx).1
   have hd := hb.d
   have hi : IntKind.i64.wrap ((i : Int) + 1) = i + 1 := wrap_i64 (by omega) (by omega)
   simp only [go_sem, simprocAttr, a6y]
   repeat' (first | ((first | refine brY ?_ | refine brN ?_ | refine brA ?_ | refine brD ?_ | refine brF ?_ | ((first | apply a0k | apply a0j); (. intro h; simp only [go_sem, simprocAttr, a0p h, hx, hi]; exact rfl))); (try simp only [go_sem, simprocAttr, hx, hi])) | ((first | apply a0e | apply d7E | apply a0a) <;> intro h <;> (try simp only [go_sem, simprocAttr, h, hx, hi])))
   all_goals (simp_all [Day.ok, Book.a6o, Bool.and_assoc]; done)
 . simp only [go_sem, simprocAttr, a6y]
 . rw [a7i]
@[go_sem] theorem c8f (b : Book) [hb : b.Fits] (ok : Bool) {β : Type} (Q : Ex -> St -> Option β) : E Γ a8p ⟨[(1, .sc (.ptr 0 0)), (3, vb ok), (85, .sc (.sl b.kr 2 (b.rests.map Rest.c))), (86, vi b.rests.length), (87, vi 0)], [.var b.c]⟩ Q =
   Q (.exit 6) ⟨[(1, .sc (.ptr 0 0)), (3, vb (ok && b.rests.all b.a6o)), (85, .sc (.sl b.kr 2 (b.rests.map Rest.c))), (86, vi b.rests.length), (87, vi b.rests.length), (88, vb false)], [.var b.c]⟩ := by
 refine (a6g (fun i ok => ⟨[(1, .sc (.ptr 0 0)), (3, vb ok), (85, .sc (.sl b.kr 2 (b.rests.map Rest.c))), (86, vi b.rests.length), (87, vi i)], [.var b.c]⟩) b.rests (fun a x => a && b.a6o x)
   (fun ok => (.exit 6, ⟨[(1, .sc (.ptr 0 0)), (3, vb ok), (85, .sc (.sl b.kr 2 (b.rests.map Rest.c))), (86, vi b.rests.length), (87, vi b.rests.length), (88, vb false)], [.var b.c]⟩)) Q (fun i ok x hx => ?_) (fun ok => ?_) ok).trans ?_
 . have hlt : i < b.rests.length := (List.getElem?_eq_some_iff.1 hx).1
   have hd := hb.r
   have hi : IntKind.i64.wrap ((i : Int) + 1) = i + 1 := wrap_i64 (by omega) (by omega)
   simp only [go_sem, simprocAttr, a6z]
   repeat' (first | ((first | refine brY ?_ | refine brN ?_ | refine brA ?_ | refine brD ?_ | refine brF ?_ | ((first | apply a0k | apply a0j); (. intro h; simp only [go_sem, simprocAttr, a0p h, hx, hi]; exact rfl))); (try simp only [go_sem, simprocAttr, hx, hi])) | ((first | apply a0e | apply d7E | apply a0a) <;> intro h <;> (try simp only [go_sem, simprocAttr, h, hx, hi])))
   all_goals (simp_all [Day.ok, Book.a6o, Bool.and_assoc]; done)
 . simp only [go_sem, simprocAttr, a6z]
 . rw [a7i]
@[go_sem] theorem c8g (b : Book) [hb : b.Fits] (ok : Bool) {β : Type} (Q : Ex -> St -> Option β) : E Γ a8q ⟨[(1, .sc (.ptr 0 0)), (3, vb ok), (106, .sc (.sl b.kg 4 (b.signs.map Sign.c))), (107, vi b.signs.length), (108, vi 0)], [.var b.c]⟩ Q =
   Q (.exit 8) ⟨[(1, .sc (.ptr 0 0)), (3, vb (ok && b.signs.all b.a3z)), (106, .sc (.sl b.kg 4 (b.signs.map Sign.c))), (107, vi b.signs.length), (108, vi b.signs.length), (109, vb false)], [.var b.c]⟩ := by
 refine (a6g (fun i ok => ⟨[(1, .sc (.ptr 0 0)), (3, vb ok), (106, .sc (.sl b.kg 4 (b.signs.map Sign.c))), (107, vi b.signs.length), (108, vi i)], [.var b.c]⟩) b.signs (fun a x => a && b.a3z x)
   (fun ok => (.exit 8, ⟨[(1, .sc (.ptr 0 0)), (3, vb ok), (106, .sc (.sl b.kg 4 (b.signs.map Sign.c))), (107, vi b.signs.length), (108, vi b.signs.length), (109, vb false)], [.var b.c]⟩)) Q (fun i ok x hx => ?_) (fun ok => ?_) ok).trans ?_
 . have hlt : i < b.signs.length := (List.getElem?_eq_some_iff.1 hx).1
   have hd := hb.g
   have hi : IntKind.i64.wrap ((i : Int) + 1) = i + 1 := wrap_i64 (by omega) (by omega)
   simp only [go_sem, simprocAttr, a6A]
   repeat' (first | ((first | refine brY ?_ | refine brN ?_ | refine brA ?_ | refine brD ?_ | refine brF ?_ | ((first | apply a0k | apply a0j); (. intro h; simp only [go_sem, simprocAttr, a0p h, hx, hi]; exact rfl))); (try simp only [go_sem, simprocAttr, hx, hi])) | ((first | apply a0e | apply d7E | apply a0a) <;> intro h <;> (try simp only [go_sem, simprocAttr, h, hx, hi])))
   all_goals (simp_all [Day.ok, Book.a6o, Bool.and_assoc]; done)
 . simp only [go_sem, simprocAttr, a6A]
 . rw [a7i]
@[go_sem] theorem c9C (b : Book) [hb : b.Fits] : K Γ (.fn 117) [.agg b.c] [] = some (vi (if b.valid then 0 else 40), []) := by
 have hv : b.valid = ((within b.singers.length 1 3 && within b.days.length 1 5 && decide ((b.rests.length : Int) <= 6) && decide ((b.signs.length : Int) <= 4)) && b.singers.all Span.ok30 && b.c0.is 0 6 1 && b.c1.is 0 6 1 && b.c2.is 0 6 1 && b.days.all Day.ok && b.rests.all b.a6o && b.signs.all b.a3z) := by
   simp only [Book.valid, Bool.and_assoc]; rfl
 rw [K_fn P04.f117 _ _ rfl]
 simp only [go_sem, simprocAttr, a6w]
 repeat' (first | ((first | refine brY ?_ | refine brN ?_ | refine brA ?_ | refine brD ?_ | refine brF ?_ | ((first | apply a0k | apply a0j); (. intro h; simp only [go_sem, simprocAttr, a0p h]; exact rfl))); (try simp only [go_sem, simprocAttr])) | ((first | apply a0e | apply d7E | apply a0a) <;> intro h <;> (try simp only [go_sem, simprocAttr, h])))
 all_goals first
   | (replace h : (!b.valid) = true := (by rw [hv]; exact h); rw [Bool.not_eq_true'] at h; rw [h]; rfl)
   | (replace h : (!b.valid) = false := (by rw [hv]; exact h); rw [Bool.not_eq_false'] at h; rw [h]; rfl)
end
end Go.Pm.St
namespace Go.Pm.St
open Ac
class G04 (Γ : Env) : Prop where
 g3 : Γ.glob 3 = [ci (-1), ci (-1)]
 g4 : Γ.glob 4 = [.fn (.fn 199) [] [] [], .fn (.fn 200) [] [] []]
attribute [go_sem] G04.g3 G04.g4
def addR (g : List Int -> Bool) (x : Rest) : List Int -> Bool := if x.day = -1 /\ x.singer = -1 then g else fun ks => g ks || decide (ks = [x.day, x.singer])
def a1M (f : List Int -> Bool) (l : List Rest) : List Int -> Bool := l.foldl addR f
section
variable {Γ : Env} [P04 Γ] [G04 Γ]
theorem c1y (k : SK) (l : List Rest) (hl : l.length <= 1000000000000) (f : List Int -> Bool) {β : Type} (Q : Ex -> St -> Option β) :
   E Γ a6H ⟨[(5, .sc (.map 0)), (19, .sc (.sl k 2 (l.map Rest.c))), (20, vi l.length), (21, vi 0)], [.set 2 f, .dead]⟩ Q =
   Q (.exit 2) ⟨[(5, .sc (.map 0)), (19, .sc (.sl k 2 (l.map Rest.c))), (20, vi l.length), (21, vi l.length), (22, vb false)], [.set 2 (a1M f l), .dead]⟩ := by
 refine (a6g (fun i g => ⟨[(5, .sc (.map 0)), (19, .sc (.sl k 2 (l.map Rest.c))), (20, vi l.length), (21, vi i)], [.set 2 g, .dead]⟩) l addR
   (fun g => (.exit 2, ⟨[(5, .sc (.map 0)), (19, .sc (.sl k 2 (l.map Rest.c))), (20, vi l.length), (21, vi l.length), (22, vb false)], [.set 2 g, .dead]⟩)) Q (fun i g x hx => ?_) (fun g => ?_) f).trans rfl
 . have hlt : i < l.length := (List.getElem?_eq_some_iff.1 hx).1
   have hi : IntKind.i64.wrap ((i : Int) + 1) = i + 1 := wrap_i64 (by omega) (by omega)
   by_cases h : x.day = -1 /\ x.singer = -1
   . have h1 := decide_eq_true h.1
     have h2 := decide_eq_true h.2
     simp only [addR, if_pos h]
     (simp only [go_sem, simprocAttr, a1s, hx, hi, h1, h2]; repeat' (first | ((first | refine brY ?_ | refine brN ?_ | refine brA ?_ | refine brD ?_ | refine brF ?_ | ((first | apply a0k | apply a0j); (. intro h; simp only [go_sem, simprocAttr, a0p h, a1s, hx, hi, h1, h2]; exact rfl))); (try simp only [go_sem, simprocAttr, a1s, hx, hi, h1, h2])) | ((first | apply a0e | apply d7E | apply a0a) <;> intro h <;> (try simp only [go_sem, simprocAttr, h, a1s, hx, hi, h1, h2]))))
     rfl
   . have h12 : (decide (x.day = -1) && decide (x.singer = -1)) = false := by
       rw [Bool.eq_false_iff]; intro e; simp only [Bool.and_eq_true, decide_eq_true_eq] at e; exact h e
     simp only [addR, if_neg h]
     (simp only [go_sem, simprocAttr, a1s, hx, hi, h12]; repeat' (first | ((first | refine brY ?_ | refine brN ?_ | refine brA ?_ | refine brD ?_ | refine brF ?_ | ((first | apply a0k | apply a0j); (. intro h; simp only [go_sem, simprocAttr, a0p h, a1s, hx, hi, h12]; exact rfl))); (try simp only [go_sem, simprocAttr, a1s, hx, hi, h12])) | ((first | apply a0e | apply d7E | apply a0a) <;> intro h <;> (try simp only [go_sem, simprocAttr, h, a1s, hx, hi, h12]))))
     rfl
 . simp only [go_sem, simprocAttr, a1s]
@[go_sem] theorem b2z (k : SK) (l : List Rest) (hl : l.length <= 1000000000000) (f : List Int -> Bool) : K Γ (.fn 121) [.sc (.iset 2 f), .sc (.sl k 2 (l.map Rest.c))] [] = some (.sc (.iset 2 (a1M f l)), []) := by
 rw [K_fn P04.f121 _ _ rfl]
 simp only [go_sem, simprocAttr, a4h, c1y (Γ := Γ) k l hl, Bool.false_or]
end
end Go.Pm.St
namespace Go.Pm.St
open Ac
def Cost.c (c : Cost) : List C := [ci c.p, ci c.f, ci c.n]
section
variable {Γ : Env} [P04 Γ] [G04 Γ]
@[go_sem] theorem c6H : K Γ (.fn 197) [] [] = some (.agg [ci 0, ci 0, ci 0], []) := by
 rw [K_fn P04.f197 _ _ rfl]
 simp only [go_sem, simprocAttr, a5v]
@[go_sem] theorem d0D (c : Cost) (now : Int) (x : Day) : K Γ (.fn 199) [.agg [ci c.p, ci c.f, ci c.n], vi now, .agg x.c] [] = some (vi (x.after c true now), []) := by
 rw [K_fn P04.f199 _ _ rfl]
 simp only [go_sem, simprocAttr, a4g, Day.after, if_true]
theorem c2u (c : Cost) (now : Int) (x : Day) (hp : 0 <= c.p /\ c.p <= 6) (hf : 0 <= c.f /\ c.f <= 6) (h1 : 0 <= x.plain /\ x.plain <= 2) (h2 : 0 <= x.full /\ x.full <= 2) (hn : -1000 <= now /\ now <= 1000) :
   K Γ (.fn 200) [.agg [ci c.p, ci c.f, ci c.n], vi now, .agg x.c] [] = some (vi (x.after c false now), []) := by
 have m1 : 0 <= x.plain * c.p /\ x.plain * c.p <= 2 * 6 := ⟨Int.mul_nonneg h1.1 hp.1, Int.mul_le_mul h1.2 hp.2 hp.1 (by omega)⟩
 have m2 : 0 <= x.full * c.f /\ x.full * c.f <= 2 * 6 := ⟨Int.mul_nonneg h2.1 hf.1, Int.mul_le_mul h2.2 hf.2 hf.1 (by omega)⟩
 have w1 : IntKind.i64.wrap (x.plain * c.p) = x.plain * c.p := wrap_i64 (by omega) (by omega)
 have w2 : IntKind.i64.wrap (x.full * c.f) = x.full * c.f := wrap_i64 (by omega) (by omega)
 have w3 : IntKind.i64.wrap (now - x.plain * c.p) = now - x.plain * c.p := wrap_i64 (by omega) (by omega)
 have w4 : IntKind.i64.wrap (now - x.plain * c.p - x.full * c.f) = now - x.plain * c.p - x.full * c.f := wrap_i64 (by omega) (by omega)
 rw [K_fn P04.f200 _ _ rfl]
 by_cases h : c.p = 0 /\ c.f = 0 /\ c.n = 0
 . have e : (decide (c.p = 0) && (decide (c.f = 0) && decide (c.n = 0))) = true := by simp [h.1, h.2.1, h.2.2]
   have e2 : x.after c false now = now := by simp [Day.after, h.1, h.2.1]
   simp only [go_sem, simprocAttr, a3n, e, e2]
 . have e : (decide (c.p = 0) && (decide (c.f = 0) && decide (c.n = 0))) = false := by
     rw [Bool.eq_false_iff]; intro e; simp only [Bool.and_eq_true, decide_eq_true_eq] at e; exact h e
   simp only [go_sem, simprocAttr, a3n, e, w1, w2, w3, w4, Day.after, Bool.false_eq_true, if_false]
theorem b9f (n : Int) (k : SK) (l : List Int) (hl : l.length <= 1000000000) {β : Type} (Q : Ex -> St -> Option β) :
   E Γ a6M ⟨[(0, vi n), (7, .sc (.sl k 1 (l.map fun x => [ci x]))), (8, vi l.length), (9, vi 0)], []⟩ Q =
   Q (.exit 0) ⟨[(0, vi (l.foldl min n)), (7, .sc (.sl k 1 (l.map fun x => [ci x]))), (8, vi l.length), (9, vi l.length), (10, vb false)], []⟩ := by
 refine (a6g (fun i a => ⟨[(0, vi a), (7, .sc (.sl k 1 (l.map fun x => [ci x]))), (8, vi l.length), (9, vi i)], []⟩) l (fun a x => min a x)
   (fun a => (.exit 0, ⟨[(0, vi a), (7, .sc (.sl k 1 (l.map fun x => [ci x]))), (8, vi l.length), (9, vi l.length), (10, vb false)], []⟩)) Q (fun i a x hx => ?_) (fun a => ?_) n).trans rfl
 . have hlt : i < l.length := (List.getElem?_eq_some_iff.1 hx).1
   have hi : IntKind.i64.wrap ((i : Int) + 1) = i + 1 := wrap_i64 (by omega) (by omega)
   (simp only [go_sem, simprocAttr, a2q, hx, hi]; repeat' (first | ((first | refine brY ?_ | refine brN ?_ | refine brA ?_ | refine brD ?_ | refine brF ?_ | ((first | apply a0k | apply a0j); (. intro h; simp only [go_sem, simprocAttr, a0p h, a2q, hx, hi]; exact rfl))); (try simp only [go_sem, simprocAttr, a2q, hx, hi])) | ((first | apply a0e | apply d7E | apply a0a) <;> intro h <;> (try simp only [go_sem, simprocAttr, h, a2q, hx, hi]))))
   rfl
 . simp only [go_sem, simprocAttr, a2q]
@[go_sem] theorem b5X (n : Int) (k : SK) (l : List Int) (hl : l.length <= 1000000000) : K Γ (.fn 169) [vi n, .sc (.sl k 1 (l.map fun x => [ci x]))] [] = some (vi (l.foldl min n), []) := by
 rw [K_fn P04.f169 _ _ rfl]
 simp only [go_sem, simprocAttr, a4J, b9f (Γ := Γ) n k l hl]
@[go_sem] theorem c9O (n : Int) (k : SK) (v : Int) : K Γ (.fn 169) [vi n, .sc (.sl k 1 [[ci v]])] [] = some (vi (min n v), []) := b5X n k [v] (by simp)
end
end Go.Pm.St
namespace Go.Pm.St
open Ac
def B12 (b : Book) (m t : C) : List C := [.sl b.ks 2 (b.singers.map Span.c), ci b.c0.lo, ci b.c0.hi, ci b.c1.lo, ci b.c1.hi, ci b.c2.lo, ci b.c2.hi, .sl b.kd 3 (b.days.map Day.c), .sl b.kr 2 (b.rests.map Rest.c), .sl b.kg 4 (b.signs.map Sign.c), m, t]
section
variable (b : Book) (m t : C)
@[go_sem] theorem d0H : (B12 b m t)[0]? = some (.sl b.ks 2 (b.singers.map Span.c)) := nrfl rfl
@[go_sem] theorem d0I : (B12 b m t)[1]? = some (ci b.c0.lo) := nrfl rfl
@[go_sem] theorem d0J : (B12 b m t)[2]? = some (ci b.c0.hi) := nrfl rfl
@[go_sem] theorem d0K : (B12 b m t)[3]? = some (ci b.c1.lo) := nrfl rfl
@[go_sem] theorem d0L : (B12 b m t)[4]? = some (ci b.c1.hi) := nrfl rfl
@[go_sem] theorem d0M : (B12 b m t)[5]? = some (ci b.c2.lo) := nrfl rfl
@[go_sem] theorem d0N : (B12 b m t)[6]? = some (ci b.c2.hi) := nrfl rfl
@[go_sem] theorem d0O : (B12 b m t)[7]? = some (.sl b.kd 3 (b.days.map Day.c)) := nrfl rfl
@[go_sem] theorem d0P : (B12 b m t)[8]? = some (.sl b.kr 2 (b.rests.map Rest.c)) := nrfl rfl
@[go_sem] theorem d0Q : (B12 b m t)[9]? = some (.sl b.kg 4 (b.signs.map Sign.c)) := nrfl rfl
@[go_sem] theorem d0b : (B12 b m t)[10]? = some (m) := nrfl rfl
@[go_sem] theorem d0c : (B12 b m t)[11]? = some (t) := nrfl rfl
@[go_sem] theorem c8V : (B12 b m t).length = 12 := nrfl rfl
@[go_sem] theorem d0d : a0R (B12 b m t) 0 12 = some (B12 b m t) := nrfl rfl
theorem b1q (hm : a0r m = m) (ht : a0r t = t) : (B12 b m t).map a0r = B12 b m t := by
 unfold B12
 simp only [List.map_cons, List.map_nil, hm, ht]
 rfl
@[go_sem] theorem c8U : a0R (B12 b m t) 0 10 = some b.c := nrfl rfl
theorem a2S (h : C.a0v [m, t] = true) : C.a0v (B12 b m t) = true := by
 simp only [C.a0v, Bool.and_true, Bool.and_eq_true] at h
 simp only [B12, C.a0v, C.pure, h.1, h.2, Bool.and_self]
end
def b1E (l : List Day) (c : Cost) (s : Int) (r : Nat -> Bool) : Nat -> Int
 | 0 => s
 | d + 1 => a2B l c s r d
section
variable {Γ : Env} [P04 Γ] [G04 Γ]
theorem b7J (b : Book) (hs : Sane b) (m t : C) (hmt : C.a0v [m, t] = true) (c : Cost) (h0 : b.c0.has c.p) (h1 : b.c1.has c.f) (h2 : b.c2.has c.n) (i0 s : Int) (hs0 : 0 <= s /\ s <= 30) (d : Nat) (hd : d < b.days.length) (F : List Int -> Bool) :
   K Γ (.fn 188) [.agg (B12 b m t), .agg [ci c.p, ci c.f, ci c.n], vi i0, vi s, vi d, .sc (.iset 2 F)] [] = some (vi (a2B b.days c s (fun e : Nat => F [(e : Int), i0]) d), []) := by
 have hu (n : Nat) : C.a0G n (B12 b m t) = true := a0C n _ (a2S b m t hmt)
 have hd5 := hs.d5
 have k0 := hs.k0; have k1 := hs.k1; have k2 := hs.k2
 have hmild : Mild b.days c := ⟨by have := h0.1; omega, by have := h1.1; omega, fun x hx => ⟨(hs.dy x hx).1.1, (hs.dy x hx).2.1.1⟩⟩
 obtain ⟨r, hr⟩ : ∃ r : Nat -> Bool, (fun e : Nat => F [(e : Int), i0]) = r := ⟨_, rfl⟩
 have hre : ∀ e : Nat, F [(e : Int), i0] = r e := fun e => by rw [← hr]
 have hdw : IntKind.i64.wrap ((d : Int) + 1) = ((d + 1 : Nat) : Int) := by rw [wrap_i64 (by omega) (by omega)]; rfl
 have hL {β : Type} {Q : Ex -> St -> Option β} : E Γ a6J ⟨[(2, vi i0), (3, vi s), (5, .sc (.iset 2 F)), (6, .sc (.ptr 0 0)), (7, .sc (.ptr 1 0)), (13, vi s), (14, vi s), (20, vi ((d + 1 : Nat) : Int)), (21, vi 0)], [.var (B12 b m t), .var [ci c.p, ci c.f, ci c.n]]⟩ Q =
     Q (.exit 0) ⟨[(2, vi i0), (3, vi s), (5, .sc (.iset 2 F)), (6, .sc (.ptr 0 0)), (7, .sc (.ptr 1 0)), (13, vi (nowAt b.days c s r (d + 1))), (14, vi (b1E b.days c s r (d + 1))), (20, vi ((d + 1 : Nat) : Int)), (21, vi ((d + 1 : Nat) : Int)), (22, vb false)], [.var (B12 b m t), .var [ci c.p, ci c.f, ci c.n]]⟩ := by
   refine a4q (d + 1) (fun i (_ : Unit) => ⟨[(2, vi i0), (3, vi s), (5, .sc (.iset 2 F)), (6, .sc (.ptr 0 0)), (7, .sc (.ptr 1 0)), (13, vi (nowAt b.days c s r i)), (14, vi (b1E b.days c s r i)), (20, vi ((d + 1 : Nat) : Int)), (21, vi i)], [.var (B12 b m t), .var [ci c.p, ci c.f, ci c.n]]⟩) (fun _ _ => True)
     (fun _ => (.exit 0, ⟨[(2, vi i0), (3, vi s), (5, .sc (.iset 2 F)), (6, .sc (.ptr 0 0)), (7, .sc (.ptr 1 0)), (13, vi (nowAt b.days c s r (d + 1))), (14, vi (b1E b.days c s r (d + 1))), (20, vi ((d + 1 : Nat) : Int)), (21, vi ((d + 1 : Nat) : Int)), (22, vb false)], [.var (B12 b m t), .var [ci c.p, ci c.f, ci c.n]]⟩)) () rfl trivial ?_ ?_ (fun _ _ => rfl)
   . intro i _ hi _
     refine ⟨(), trivial, ?_⟩
     have hlt : i < b.days.length := by omega
     obtain ⟨x, hx⟩ : ∃ x, b.days[i]? = some x := ⟨_, List.getElem?_eq_getElem hlt⟩
     have hday := hs.dy x (List.mem_of_getElem? hx)
     have hil : decide ((i : Int) < ((d + 1 : Nat) : Int)) = true := decide_eq_true (by omega)
     have hiw : IntKind.i64.wrap ((i : Int) + 1) = i + 1 := wrap_i64 (by omega) (by omega)
     have hn1 := b1e hs h0 h1 h2 hs0.1 (r := r) i
     have hn2 := b1f (l := b.days) (c := c) (s := s) (r := r) i
     have he1 := b3h hs h0 h1 h2 hs0.1 (r := r) i
     have he2 := b3i hmild (s := s) (r := r) i
     have hw : IntKind.i64.wrap (a2B b.days c s r i + c.n) = a2B b.days c s r i + c.n := wrap_i64 (by have := h2.1; omega) (by have := h2.2; omega)
     have hnow := b6H (l := b.days) (c := c) (s := s) (r := r) hlt
     have hleft : a2B b.days c s r i = x.after c (r i) (nowAt b.days c s r i) := by simp only [a2B, hx]
     have hsing := c2u (Γ := Γ) c (nowAt b.days c s r i) x ⟨by have := h0.1; omega, by have := h0.2; omega⟩ ⟨by have := h1.1; omega, by have := h1.2; omega⟩ hday.1 hday.2.1 (by omega)
     simp only [hnow, b1E]
     cases hri : r i with
     | true =>
       rw [hri] at hleft
       rw [hleft] at hw ⊢
       (simp only [go_sem, simprocAttr, a0Z, hil, hx, hre, hri, hw, hiw, hu, G04.g4]; repeat' (first | ((first | refine brY ?_ | refine brN ?_ | refine brA ?_ | refine brD ?_ | refine brF ?_ | ((first | apply a0k | apply a0j); (. intro h; simp only [go_sem, simprocAttr, a0p h, a0Z, hil, hx, hre, hri, hw, hiw, hu, G04.g4]; exact rfl))); (try simp only [go_sem, simprocAttr, a0Z, hil, hx, hre, hri, hw, hiw, hu, G04.g4])) | ((first | apply a0e | apply d7E | apply a0a) <;> intro h <;> (try simp only [go_sem, simprocAttr, h, a0Z, hil, hx, hre, hri, hw, hiw, hu, G04.g4]))))
       rfl
     | false =>
       rw [hri] at hleft
       rw [hleft] at hw ⊢
       (simp only [go_sem, simprocAttr, a0Z, hil, hx, hre, hri, hw, hiw, hu, G04.g4, hsing]; repeat' (first | ((first | refine brY ?_ | refine brN ?_ | refine brA ?_ | refine brD ?_ | refine brF ?_ | ((first | apply a0k | apply a0j); (. intro h; simp only [go_sem, simprocAttr, a0p h, a0Z, hil, hx, hre, hri, hw, hiw, hu, G04.g4, hsing]; exact rfl))); (try simp only [go_sem, simprocAttr, a0Z, hil, hx, hre, hri, hw, hiw, hu, G04.g4, hsing])) | ((first | apply a0e | apply d7E | apply a0a) <;> intro h <;> (try simp only [go_sem, simprocAttr, h, a0Z, hil, hx, hre, hri, hw, hiw, hu, G04.g4, hsing]))))
       rfl
   . intro _ _
     have hil : decide (((d + 1 : Nat) : Int) < ((d + 1 : Nat) : Int)) = false := decide_eq_false (by omega)
     (simp only [go_sem, simprocAttr, a0Z, hil]; repeat' (first | ((first | refine brY ?_ | refine brN ?_ | refine brA ?_ | refine brD ?_ | refine brF ?_ | ((first | apply a0k | apply a0j); (. intro h; simp only [go_sem, simprocAttr, a0p h, a0Z, hil]; exact rfl))); (try simp only [go_sem, simprocAttr, a0Z, hil])) | ((first | apply a0e | apply d7E | apply a0a) <;> intro h <;> (try simp only [go_sem, simprocAttr, h, a0Z, hil]))))
 rw [hr]
 rw [K_fn P04.f188 _ _ rfl]
 simp only [go_sem, simprocAttr, a4G, hdw, hL, hu, b1E]
end
end Go.Pm.St
namespace Go.Pm.St
open Ac
def idxOf (n : Int) (l : List Int) : Int := match a0z (fun _ x => decide (n = x)) 0 l with | some (i, _) => i | none => -1
theorem b4v (n : Int) (l : List Int) : decide (0 <= idxOf n l) = l.contains n := by
 unfold idxOf
 cases h : a0z (fun _ x => decide (n = x)) 0 l with
 | none =>
   rw [a2L] at h
   rw [eq_comm, decide_eq_false (by decide), Bool.eq_false_iff]
   intro hc; rw [List.contains_iff_mem, List.mem_iff_getElem?] at hc
   obtain ⟨i, hi⟩ := hc
   have := h i n hi
   simp at this
 | some q =>
   obtain ⟨-, h2, h3, -⟩ := a3F h
   simp only [decide_eq_true_eq] at h3
   rw [h3, List.contains_iff_mem.2 (List.mem_iff_getElem?.2 ⟨_, h2⟩)]
   simp
section
variable {Γ : Env} [P04 Γ] [G04 Γ]
@[go_sem] theorem c9L (k : SK) (l : List Int) (n : Int) (hl : l.length <= 1000000) : K Γ (.fn 83) [.sc (.sl k 1 (l.map fun x => [ci x])), vi n] [] = some (vi (idxOf n l), []) := by
 rw [K_fn P04.f83 _ _ rfl]
 simp only [go_sem, simprocAttr, a3r]
 refine (a4L (fun i => ⟨[(0, .sc (.sl k 1 (l.map fun x => [ci x]))), (1, vi n), (7, vi l.length), (8, vi i)], []⟩) l (fun _ x => decide (n = x))
   (fun i x => (.ret, ⟨[(4, vi i)], []⟩)) (.exit 0, ⟨[(0, .sc (.sl k 1 (l.map fun x => [ci x]))), (1, vi n), (7, vi l.length), (8, vi l.length), (9, vb false)], []⟩) _ ?_ ?_ ?_).trans ?_
 . intro i x hx hf
   have hlt : i < l.length := (List.getElem?_eq_some_iff.1 hx).1
   have hi : IntKind.i64.wrap ((i : Int) + 1) = i + 1 := wrap_i64 (by omega) (by omega)
   simp only [go_sem, simprocAttr, a2R, hx, hi]
   repeat' (first | ((first | refine brY ?_ | refine brN ?_ | refine brA ?_ | refine brD ?_ | refine brF ?_ | ((first | apply a0k | apply a0j); (. intro h; simp only [go_sem, simprocAttr, a0p h, hx, hi, hf]; exact rfl))); (try simp only [go_sem, simprocAttr, hx, hi, hf])) | ((first | apply a0e | apply d7E | apply a0a) <;> intro h <;> (try simp only [go_sem, simprocAttr, h, hx, hi, hf])))
   rfl
 . intro i x hx hf
   have hlt : i < l.length := (List.getElem?_eq_some_iff.1 hx).1
   simp only [go_sem, simprocAttr, a2R, hx]
   repeat' (first | ((first | refine brY ?_ | refine brN ?_ | refine brA ?_ | refine brD ?_ | refine brF ?_ | ((first | apply a0k | apply a0j); (. intro h; simp only [go_sem, simprocAttr, a0p h, hx, hf]; exact rfl))); (try simp only [go_sem, simprocAttr, hx, hf])) | ((first | apply a0e | apply d7E | apply a0a) <;> intro h <;> (try simp only [go_sem, simprocAttr, h, hx, hf])))
 . simp only [go_sem, simprocAttr, a2R]
 . cases h : a0z (fun _ x => decide (n = x)) 0 l with
   | none => simp only [go_sem, simprocAttr, idxOf, h]
   | some q => simp only [go_sem, simprocAttr, idxOf, h]
@[go_sem] theorem contains_k (k : SK) (l : List Int) (n : Int) (hl : l.length <= 1000000) : K Γ (.fn 76) [.sc (.sl k 1 (l.map fun x => [ci x])), vi n] [] = some (vb (l.contains n), []) := by
 rw [K_fn P04.f76 _ _ rfl]
 simp only [go_sem, simprocAttr, a2Q, hl, b4v]
def Book.off (b : Book) (c : Cost) (i0 s : Int) (but : List Int) (i : Nat) (x : Sign) : Bool := decide (x.singer = i0) && !but.contains (i : Int) && !b.fair c i0 s x
theorem b9v (b : Book) (hs : Sane b) (F : List Int -> Bool) (hF : ∀ (e : Nat) (i : Int), F [(e : Int), i] = a2Y b.rests i e) (t : C) (ht : t.pure = true) (c : Cost) (h0 : b.c0.has c.p) (h1 : b.c1.has c.f) (h2 : b.c2.has c.n) (i0 s : Int) (hs0 : 0 <= s /\ s <= 30)
   (kb : SK) (but : List Int) (hbut : but.length <= 1000000) {β : Type} (Q : Ex -> St -> Option β) :
   E Γ a6F ⟨[(2, vi i0), (3, vi s), (4, .sc (.sl kb 1 (but.map fun x => [ci x]))), (5, .sc (.ptr 0 0)), (6, .sc (.ptr 1 0)), (15, .sc (.sl b.kg 4 (b.signs.map Sign.c))), (16, vi b.signs.length), (17, vi 0)], [.var (B12 b (.iset 2 F) t), .var [ci c.p, ci c.f, ci c.n]]⟩ Q =
   match a0z (b.off c i0 s but) 0 b.signs with
   | some (i, x) => Q .ret ⟨[(10, vb false)], [.var (B12 b (.iset 2 F) t), .var [ci c.p, ci c.f, ci c.n], .var x.c]⟩
   | none => Q (.exit 0) ⟨[(2, vi i0), (3, vi s), (4, .sc (.sl kb 1 (but.map fun x => [ci x]))), (5, .sc (.ptr 0 0)), (6, .sc (.ptr 1 0)), (15, .sc (.sl b.kg 4 (b.signs.map Sign.c))), (16, vi b.signs.length), (17, vi b.signs.length), (18, vb false)], [.var (B12 b (.iset 2 F) t), .var [ci c.p, ci c.f, ci c.n]]⟩ := by
 have hmt : C.a0v [.iset 2 F, t] = true := by simp [C.a0v, C.pure, ht]
 have hu (n : Nat) : C.a0G n (B12 b (.iset 2 F) t) = true := a0C n _ (a2S b _ t hmt)
 have hg4 := hs.g4
 have hd5 := hs.d5
 have hun : a0r t = t := a9r t ht
 have hBu := b1q b (.iset 2 F) t rfl hun
 have hBp := a2S b (.iset 2 F) t hmt
 have hmild : Mild b.days c := ⟨by have := h0.1; have := hs.k0; omega, by have := h1.1; have := hs.k1; omega, fun x hx => ⟨(hs.dy x hx).1.1, (hs.dy x hx).2.1.1⟩⟩
 have step : ∀ (i : Nat) x, b.signs[i]? = some x -> ∃ y, K Γ (.fn 188) [.agg (B12 b (.iset 2 F) t), .agg [ci c.p, ci c.f, ci c.n], vi i0, vi s, vi x.day, .sc (.iset 2 F)] [] = some (vi y, []) /\ IntKind.i64.wrap (x.left - y) = x.left - y /\ IntKind.i64.wrap (0 - x.err) = -x.err ∧
     within (x.left - y) (-x.err) x.err = b.fair c i0 s x := by
   intro i x hx
   have hx' := hs.sg x (List.mem_of_getElem? hx)
   have hk := b7J (Γ := Γ) b hs (.iset 2 F) t hmt c h0 h1 h2 i0 s hs0 x.day.toNat (by omega) F
   rw [show ((x.day.toNat : Nat) : Int) = x.day by omega] at hk
   have hr : (fun e : Nat => F [(e : Int), i0]) = a2Y b.rests i0 := funext fun e => hF e i0
   rw [hr] at hk
   have l1 := b3h hs h0 h1 h2 hs0.1 (r := a2Y b.rests i0) x.day.toNat
   have l2 := b3i hmild (s := s) (r := a2Y b.rests i0) x.day.toNat
   exact ⟨_, hk, wrap_i64 (by omega) (by omega), by rw [show 0 - x.err = -x.err by omega]; exact wrap_i64 (by omega) (by omega), rfl⟩
 refine (a4L (fun i => ⟨[(2, vi i0), (3, vi s), (4, .sc (.sl kb 1 (but.map fun x => [ci x]))), (5, .sc (.ptr 0 0)), (6, .sc (.ptr 1 0)), (15, .sc (.sl b.kg 4 (b.signs.map Sign.c))), (16, vi b.signs.length), (17, vi i)], [.var (B12 b (.iset 2 F) t), .var [ci c.p, ci c.f, ci c.n]]⟩) b.signs (b.off c i0 s but)
   (fun i x => (.ret, ⟨[(10, vb false)], [.var (B12 b (.iset 2 F) t), .var [ci c.p, ci c.f, ci c.n], .var x.c]⟩)) (.exit 0, ⟨[(2, vi i0), (3, vi s), (4, .sc (.sl kb 1 (but.map fun x => [ci x]))), (5, .sc (.ptr 0 0)), (6, .sc (.ptr 1 0)), (15, .sc (.sl b.kg 4 (b.signs.map Sign.c))), (16, vi b.signs.length), (17, vi b.signs.length), (18, vb false)], [.var (B12 b (.iset 2 F) t), .var [ci c.p, ci c.f, ci c.n]]⟩) _ ?_ ?_ ?_).trans ?_
 . intro i x hx hf
   have hlt : i < b.signs.length := (List.getElem?_eq_some_iff.1 hx).1
   have hi : IntKind.i64.wrap ((i : Int) + 1) = i + 1 := wrap_i64 (by omega) (by omega)
   obtain ⟨y, hy, hw1, hw2, hfair⟩ := step i x hx
   cases hb : but.contains (i : Int) <;> cases hsi : decide (x.singer = i0) <;> cases hfa : b.fair c i0 s x <;> simp only [Book.off, hb, hsi, hfa, Bool.not_true, Bool.not_false, Bool.and_true, Bool.and_false, Bool.true_and, Bool.false_and, Bool.and_self, reduceCtorEq] at hf <;>
     (rw [hfa] at hfair; (simp only [go_sem, simprocAttr, a1r, hx, hi, hu, hun, hBu, hBp, hbut, hb, hsi, hy, hw1, hw2, hfair, a3X]; repeat' (first | ((first | refine brY ?_ | refine brN ?_ | refine brA ?_ | refine brD ?_ | refine brF ?_ | ((first | apply a0k | apply a0j); (. intro h; simp only [go_sem, simprocAttr, a0p h, a1r, hx, hi, hu, hun, hBu, hBp, hbut, hb, hsi, hy, hw1, hw2, hfair, a3X]; exact rfl))); (try simp only [go_sem, simprocAttr, a1r, hx, hi, hu, hun, hBu, hBp, hbut, hb, hsi, hy, hw1, hw2, hfair, a3X])) | ((first | apply a0e | apply d7E | apply a0a) <;> intro h <;> (try simp only [go_sem, simprocAttr, h, a1r, hx, hi, hu, hun, hBu, hBp, hbut, hb, hsi, hy, hw1, hw2, hfair, a3X])))); first | done | rfl)
 . intro i x hx hf
   have hlt : i < b.signs.length := (List.getElem?_eq_some_iff.1 hx).1
   obtain ⟨y, hy, hw1, hw2, hfair⟩ := step i x hx
   simp only [Book.off, Bool.and_eq_true, Bool.not_eq_true'] at hf
   obtain ⟨⟨hsi, hb⟩, hfa⟩ := hf
   rw [hfa] at hfair
   (simp only [go_sem, simprocAttr, a1r, hx, hu, hun, hBu, hBp, hbut, hb, hsi, hy, hw1, hw2, hfair, a3X]; repeat' (first | ((first | refine brY ?_ | refine brN ?_ | refine brA ?_ | refine brD ?_ | refine brF ?_ | ((first | apply a0k | apply a0j); (. intro h; simp only [go_sem, simprocAttr, a0p h, a1r, hx, hu, hun, hBu, hBp, hbut, hb, hsi, hy, hw1, hw2, hfair, a3X]; exact rfl))); (try simp only [go_sem, simprocAttr, a1r, hx, hu, hun, hBu, hBp, hbut, hb, hsi, hy, hw1, hw2, hfair, a3X])) | ((first | apply a0e | apply d7E | apply a0a) <;> intro h <;> (try simp only [go_sem, simprocAttr, h, a1r, hx, hu, hun, hBu, hBp, hbut, hb, hsi, hy, hw1, hw2, hfair, a3X]))))
 . simp only [go_sem, simprocAttr, a1r]
 . cases a0z (b.off c i0 s but) 0 b.signs with
   | none => rfl
   | some q => obtain ⟨i, x⟩ := q; rfl
theorem a8V (b : Book) (c : Cost) (i0 s : Int) (but : List Int) : ∀ (l : List Sign) (k : Nat), b.rightFrom c i0 s (fun n => but.contains n) k l = (a0z (b.off c i0 s but) k l).isNone
 | [], k => rfl
 | x :: l, k => by
   have ih := a8V b c i0 s but l (k + 1)
   have ho : (decide (x.singer = i0) && !but.contains (k : Int) && !b.fair c i0 s x) = b.off c i0 s but k x := rfl
   simp only [Book.rightFrom, a0z, ih]
   rw [ho]
   by_cases h : b.off c i0 s but k x = true
   . rw [if_pos h, h]; rfl
   . rw [if_neg h]
     rw [Bool.not_eq_true] at h
     rw [h]; simp
theorem c1k (b : Book) (hs : Sane b) (F : List Int -> Bool) (hF : ∀ (e : Nat) (i : Int), F [(e : Int), i] = a2Y b.rests i e) (t : C) (ht : t.pure = true) (c : Cost) (h0 : b.c0.has c.p) (h1 : b.c1.has c.f) (h2 : b.c2.has c.n) (i0 s : Int) (hs0 : 0 <= s /\ s <= 30)
   (kb : SK) (but : List Int) (hbut : but.length <= 1000000) :
   K Γ (.fn 171) [.agg (B12 b (.iset 2 F) t), .agg [ci c.p, ci c.f, ci c.n], vi i0, vi s, .sc (.sl kb 1 (but.map fun x => [ci x]))] [] = some (vb (b.right c i0 s fun n => but.contains n), []) := by
 have hmt : C.a0v [.iset 2 F, t] = true := by simp [C.a0v, C.pure, ht]
 have hu (n : Nat) : C.a0G n (B12 b (.iset 2 F) t) = true := a0C n _ (a2S b _ t hmt)
 rw [Book.right, a8V]
 have hL {β : Type} (Q : Ex -> St -> Option β) := b9v (Γ := Γ) b hs F hF t ht c h0 h1 h2 i0 s hs0 kb but hbut Q
 cases hf : a0z (b.off c i0 s but) 0 b.signs with
 | none =>
   simp only [hf] at hL
   rw [K_fn P04.f171 _ _ rfl]
   simp only [go_sem, simprocAttr, a3m, hL, hu, Option.isNone_none]
 | some q =>
   obtain ⟨i, x⟩ := q
   simp only [hf] at hL
   rw [K_fn P04.f171 _ _ rfl]
   simp only [go_sem, simprocAttr, a3m, hL, hu, Option.isNone_some]
end
end Go.Pm.St
namespace Go.Pm.St
open Ac
def cmp3 (a b : Int) : Int := if a < b then -1 else if b < a then 1 else 0
def Rest.cmp (x y : Rest) : Int := if cmp3 x.day y.day = 0 then cmp3 x.singer y.singer else cmp3 x.day y.day
def a2b (l : List Sign) : Int := l.foldl (fun n x => max n (x.day + 1)) 0
section
variable {Γ : Env} [P04 Γ] [G04 Γ]
@[go_sem] theorem c9N (a : Int) : K Γ (.fn 177) [vi a] [] = some (vb false, []) := by
 rw [K_fn P04.f177 _ _ rfl]
 simp only [go_sem, simprocAttr, cmp_isNaN_int, bne_self_eq_false]
@[go_sem] theorem d0y (a b : Int) : K Γ (.fn 163) [vi a, vi b] [] = some (vi (cmp3 a b), []) := by
 rw [K_fn P04.f163 _ _ rfl]
 by_cases h1 : a < b
 . have e := decide_eq_true h1
   simp only [go_sem, simprocAttr, cmp_Compare_int, cmp3, e, h1, if_true]
 . have e := decide_eq_false h1
   by_cases h2 : b < a
   . have e2 := decide_eq_true h2
     simp only [go_sem, simprocAttr, cmp_Compare_int, cmp3, e, e2, h1, h2, if_true, if_false]
   . have e2 := decide_eq_false h2
     simp only [go_sem, simprocAttr, cmp_Compare_int, cmp3, e, e2, h1, h2, if_true, if_false]
@[go_sem] theorem d1d (k : SK) (a b : Int) : K Γ (.fn 164) [.sc (.sl k 1 [[ci a], [ci b]])] [] = some (vi (if a = 0 then b else a), []) := by
 rw [K_fn P04.f164 _ _ rfl]
 by_cases h1 : a = 0
 . subst h1
   by_cases h2 : b = 0
   . subst h2
     simp only [go_sem, simprocAttr, a5n, a5I, a5H, a1J]
   . have e2 : decide (b = 0) = false := decide_eq_false h2
     simp only [go_sem, simprocAttr, a5n, a5I, a5H, a1J, e2]
 . have e1 : decide (a = 0) = false := decide_eq_false h1
   simp only [go_sem, simprocAttr, a5n, a5I, a5H, a1J, e1, h1, if_false]
@[go_sem] theorem c6u (x y : Rest) : K Γ (.fn 131) [.agg x.c, .agg y.c] [] = some (vi (x.cmp y), []) := by
 rw [K_fn P04.f131 _ _ rfl]
 simp only [go_sem, simprocAttr, a5u]
 rfl
theorem c1g (b : Book) (hs : Sane b) {β : Type} (Q : Ex -> St -> Option β) : E Γ a9d ⟨[(3, vi 0), (7, .sc (.sl b.kg 4 (b.signs.map Sign.c))), (8, vi b.signs.length), (9, vi 0)], [.var b.c]⟩ Q =
   Q (.exit 0) ⟨[(3, vi (a2b b.signs)), (7, .sc (.sl b.kg 4 (b.signs.map Sign.c))), (8, vi b.signs.length), (9, vi b.signs.length), (10, vb false)], [.var b.c]⟩ := by
 refine (a6g (fun i a => ⟨[(3, vi a), (7, .sc (.sl b.kg 4 (b.signs.map Sign.c))), (8, vi b.signs.length), (9, vi i)], [.var b.c]⟩) b.signs (fun n x => max n (x.day + 1))
   (fun a => (.exit 0, ⟨[(3, vi a), (7, .sc (.sl b.kg 4 (b.signs.map Sign.c))), (8, vi b.signs.length), (9, vi b.signs.length), (10, vb false)], [.var b.c]⟩)) Q (fun i a x hx => ?_) (fun a => ?_) 0).trans rfl
 . have hlt : i < b.signs.length := (List.getElem?_eq_some_iff.1 hx).1
   have hg := hs.g4
   have hd5 := hs.d5
   have hx' := hs.sg x (List.mem_of_getElem? hx)
   have hi : IntKind.i64.wrap ((i : Int) + 1) = i + 1 := wrap_i64 (by omega) (by omega)
   have hw : IntKind.i64.wrap (x.day + 1) = x.day + 1 := wrap_i64 (by omega) (by omega)
   (simp only [go_sem, simprocAttr, a2m, hx, hi, hw]; repeat' (first | ((first | refine brY ?_ | refine brN ?_ | refine brA ?_ | refine brD ?_ | refine brF ?_ | ((first | apply a0k | apply a0j); (. intro h; simp only [go_sem, simprocAttr, a0p h, a2m, hx, hi, hw]; exact rfl))); (try simp only [go_sem, simprocAttr, a2m, hx, hi, hw])) | ((first | apply a0e | apply d7E | apply a0a) <;> intro h <;> (try simp only [go_sem, simprocAttr, h, a2m, hx, hi, hw]))))
   rfl
 . (simp only [go_sem, simprocAttr, a2m]; repeat' (first | ((first | refine brY ?_ | refine brN ?_ | refine brA ?_ | refine brD ?_ | refine brF ?_ | ((first | apply a0k | apply a0j); (. intro h; simp only [go_sem, simprocAttr, a0p h, a2m]; exact rfl))); (try simp only [go_sem, simprocAttr, a2m])) | ((first | apply a0e | apply d7E | apply a0a) <;> intro h <;> (try simp only [go_sem, simprocAttr, h, a2m]))))
theorem b0g (b : Book) (hs : Sane b) : K Γ (.fn 112) [.agg b.c] [] = some (vi (a2b b.signs), []) := by
 rw [K_fn P04.f112 _ _ rfl]
 simp only [go_sem, simprocAttr, a7d, c1g (Γ := Γ) b hs]
end
end Go.Pm.St
namespace Go.Pm.St
open Ac
section
variable {Γ : Env} [P04 Γ] [G04 Γ]
theorem c3Q (k : SK) (x : Int) (l : List Int) (hl : l.length <= 1000000000) : K Γ (.fn 189) [.sc (.sl k 1 ([ci x] :: l.map fun y => [ci y]))] [] = some (vi (l.foldl max x), []) := by
 have hlen : ((x :: l).length : Int) = ((l.length + 1 : Nat) : Int) := by simp
 have hL {β : Type} {Q : Ex -> St -> Option β} : E Γ a6d ⟨[(0, .sc (.sl k 1 ([ci x] :: l.map fun y => [ci y]))), (3, vi x), (4, vi 1)], []⟩ Q =
     Q (.exit 0) ⟨[(0, .sc (.sl k 1 ([ci x] :: l.map fun y => [ci y]))), (3, vi (l.foldl max x)), (4, vi ((l.length + 1 : Nat) : Int)), (15, vb false)], []⟩ := by
   refine a4q l.length (fun i (a : Int) => ⟨[(0, .sc (.sl k 1 ([ci x] :: l.map fun y => [ci y]))), (3, vi a), (4, vi ((i + 1 : Nat) : Int))], []⟩) (fun i a => a = (l.take i).foldl max x)
     (fun a => (.exit 0, ⟨[(0, .sc (.sl k 1 ([ci x] :: l.map fun y => [ci y]))), (3, vi a), (4, vi ((l.length + 1 : Nat) : Int)), (15, vb false)], []⟩)) x rfl (by simp) ?_ ?_ (fun a ha => by rw [ha, List.take_length])
   . intro i a hi ha
     obtain ⟨y, hy⟩ : ∃ y, l[i]? = some y := ⟨_, List.getElem?_eq_getElem hi⟩
     have hy' : (x :: l)[i + 1]? = some y := by simpa using hy
     refine ⟨max a y, by rw [List.take_add_one, hy]; simp [ha], ?_⟩
     have hlt : decide (((i + 1 : Nat) : Int) < ((l.length + 1 : Nat) : Int)) = true := decide_eq_true (by omega)
     have hw : IntKind.i64.wrap (((i + 1 : Nat) : Int) + 1) = ((i + 1 + 1 : Nat) : Int) := by rw [wrap_i64 (by omega) (by omega)]; rfl
     (simp only [go_sem, simprocAttr, a2f, List.length_cons, hlt, hy, hw]; repeat' (first | ((first | refine brY ?_ | refine brN ?_ | refine brA ?_ | refine brD ?_ | refine brF ?_ | ((first | apply a0k | apply a0j); (. intro h; simp only [go_sem, simprocAttr, a0p h, a2f, List.length_cons, hlt, hy, hw]; exact rfl))); (try simp only [go_sem, simprocAttr, a2f, List.length_cons, hlt, hy, hw])) | ((first | apply a0e | apply d7E | apply a0a) <;> intro h <;> (try simp only [go_sem, simprocAttr, h, a2f, List.length_cons, hlt, hy, hw]))))
   . intro a _
     have hlt : decide (((l.length + 1 : Nat) : Int) < ((l.length + 1 : Nat) : Int)) = false := decide_eq_false (by omega)
     simp only [go_sem, simprocAttr, a2f, List.length_cons, hlt]
 have h1 : decide (((l.length + 1 : Nat) : Int) < 1) = false := decide_eq_false (by omega)
 rw [K_fn P04.f189 _ _ rfl]
 simp only [go_sem, simprocAttr, a3S, List.length_cons, h1, hL]
end
end Go.Pm.St
namespace Go.Pm.St
open Ac
def a5d (l : List Day) (d : Nat) : Bool := match l[d]? with
 | some x => !decide (x.full = 0)
 | none => false
def third (l : List Day) (r : Nat -> Bool) (d : Nat) : Bool := decide (2 <= d) && ((a5d l (d - 2) && !r (d - 2)) && ((a5d l (d - 1) && !r (d - 1)) && (a5d l d && !r d)))
section
variable {Γ : Env} [P04 Γ] [G04 Γ]
theorem c1w (b : Book) (hs : Sane b) (m t : C) (hmt : C.a0v [m, t] = true) (i0 : Int) (d : Nat) (hd : d < b.days.length) (F : List Int -> Bool) :
   K Γ (.fn 145) [.agg (B12 b m t), vi i0, vi d, .sc (.iset 2 F)] [] = some (vb (third b.days (fun e : Nat => F [(e : Int), i0]) d), []) := by
 have hu (n : Nat) : C.a0G n (B12 b m t) = true := a0C n _ (a2S b m t hmt)
 have hd5 := hs.d5
 have hx : ∀ e, e <= d -> ∃ x, b.days[e]? = some x := fun e he => ⟨_, List.getElem?_eq_getElem (by omega)⟩
 have hcase : d = 0 \/ d = 1 \/ d = 2 \/ d = 3 \/ d = 4 := by omega
 rcases hcase with rfl | rfl | rfl | rfl | rfl
 . rw [K_fn P04.f145 _ _ rfl]
   simp only [go_sem, simprocAttr, a0N, a0K, a0J, a1J, hu]
   rfl
 . rw [K_fn P04.f145 _ _ rfl]
   simp only [go_sem, simprocAttr, a0N, a0K, a0J, a1J, hu]
   rfl
 all_goals
   obtain ⟨x0, h0⟩ := hx 0 (by omega)
   obtain ⟨x1, h1⟩ := hx 1 (by omega)
   obtain ⟨x2, h2⟩ := hx 2 (by omega)
 . rw [K_fn P04.f145 _ _ rfl]
   (simp only [go_sem, simprocAttr, a0N, a0K, a0J, a1J, hu, h0, h1, h2]; repeat' (first | ((first | refine brY ?_ | refine brN ?_ | refine brA ?_ | refine brD ?_ | refine brF ?_ | ((first | apply a0k | apply a0j); (. intro h; simp only [go_sem, simprocAttr, a0p h, a0N, a0K, a0J, a1J, hu, h0, h1, h2]; exact rfl))); (try simp only [go_sem, simprocAttr, a0N, a0K, a0J, a1J, hu, h0, h1, h2])) | ((first | apply a0e | apply d7E | apply a0a) <;> intro h <;> (try simp only [go_sem, simprocAttr, h, a0N, a0K, a0J, a1J, hu, h0, h1, h2]))))
   all_goals (simp_all [third, a5d]; done)
 . obtain ⟨x3, h3⟩ := hx 3 (by omega)
   rw [K_fn P04.f145 _ _ rfl]
   (simp only [go_sem, simprocAttr, a0N, a0K, a0J, a1J, hu, h1, h2, h3]; repeat' (first | ((first | refine brY ?_ | refine brN ?_ | refine brA ?_ | refine brD ?_ | refine brF ?_ | ((first | apply a0k | apply a0j); (. intro h; simp only [go_sem, simprocAttr, a0p h, a0N, a0K, a0J, a1J, hu, h1, h2, h3]; exact rfl))); (try simp only [go_sem, simprocAttr, a0N, a0K, a0J, a1J, hu, h1, h2, h3])) | ((first | apply a0e | apply d7E | apply a0a) <;> intro h <;> (try simp only [go_sem, simprocAttr, h, a0N, a0K, a0J, a1J, hu, h1, h2, h3]))))
   all_goals (simp_all [third, a5d]; done)
 . obtain ⟨x3, h3⟩ := hx 3 (by omega)
   obtain ⟨x4, h4⟩ := hx 4 (by omega)
   rw [K_fn P04.f145 _ _ rfl]
   (simp only [go_sem, simprocAttr, a0N, a0K, a0J, a1J, hu, h2, h3, h4]; repeat' (first | ((first | refine brY ?_ | refine brN ?_ | refine brA ?_ | refine brD ?_ | refine brF ?_ | ((first | apply a0k | apply a0j); (. intro h; simp only [go_sem, simprocAttr, a0p h, a0N, a0K, a0J, a1J, hu, h2, h3, h4]; exact rfl))); (try simp only [go_sem, simprocAttr, a0N, a0K, a0J, a1J, hu, h2, h3, h4])) | ((first | apply a0e | apply d7E | apply a0a) <;> intro h <;> (try simp only [go_sem, simprocAttr, h, a0N, a0K, a0J, a1J, hu, h2, h3, h4]))))
   all_goals (simp_all [third, a5d]; done)
end
end Go.Pm.St
namespace Go.Pm.St
open Ac
def Rest.same (x y : Rest) : Bool := decide (x.day = y.day) && decide (x.singer = y.singer)
def idxR (n : Rest) (l : List Rest) : Int := match a0z (fun _ x => x.same n) 0 l with | some (i, _) => i | none => -1
theorem b5s (n : Rest) (l : List Rest) : decide (0 <= idxR n l) = l.any (·.same n) := by
 unfold idxR
 cases h : a0z (fun _ x => x.same n) 0 l with
 | none =>
   rw [a2L] at h
   rw [eq_comm, decide_eq_false (by decide), Bool.eq_false_iff]
   intro hc
   obtain ⟨x, hx, e⟩ := List.any_eq_true.1 hc
   obtain ⟨i, hi⟩ := List.getElem?_of_mem hx
   have := h i x hi
   rw [this] at e; cases e
 | some q =>
   obtain ⟨i, x⟩ := q
   obtain ⟨-, h2, h3, -⟩ := a3F h
   rw [List.any_eq_true.2 ⟨x, List.mem_of_getElem? h2, h3⟩]
   simp
@[go_sem] theorem Rest.a0c (x y : Rest) : a0c [1, 1] x.c y.c = some (decide (x.day = y.day) && decide (x.singer = y.singer)) := b4A _ _ _ _
section
variable {Γ : Env} [P04 Γ] [G04 Γ]
@[go_sem] theorem b9a (k : SK) (l : List Rest) (n : Rest) (hl : l.length <= 1000000) : K Γ (.fn 175) [.sc (.sl k 2 (l.map Rest.c)), .agg n.c] [] = some (vi (idxR n l), []) := by
 rw [K_fn P04.f175 _ _ rfl]
 simp only [go_sem, simprocAttr, a1x]
 refine (a4L (fun i => ⟨[(0, .sc (.sl k 2 (l.map Rest.c))), (3, .sc (.ptr 0 0)), (7, vi l.length), (8, vi i)], [.var n.c]⟩) l (fun _ x => x.same n)
   (fun i x => (.ret, ⟨[(4, vi i)], [.var n.c]⟩)) (.exit 0, ⟨[(0, .sc (.sl k 2 (l.map Rest.c))), (3, .sc (.ptr 0 0)), (7, vi l.length), (8, vi l.length), (9, vb false)], [.var n.c]⟩) _ ?_ ?_ ?_).trans ?_
 . intro i x hx hf
   have hlt : i < l.length := (List.getElem?_eq_some_iff.1 hx).1
   have hi : IntKind.i64.wrap ((i : Int) + 1) = i + 1 := wrap_i64 (by omega) (by omega)
   simp only [Rest.same] at hf
   have hf' : (decide (n.day = x.day) && decide (n.singer = x.singer)) = false := by rw [← hf]; congr 1 <;> exact decide_eq_decide.2 eq_comm
   (simp only [go_sem, simprocAttr, a0y, hx, hi, hf, hf']; repeat' (first | ((first | refine brY ?_ | refine brN ?_ | refine brA ?_ | refine brD ?_ | refine brF ?_ | ((first | apply a0k | apply a0j); (. intro h; simp only [go_sem, simprocAttr, a0p h, a0y, hx, hi, hf, hf']; exact rfl))); (try simp only [go_sem, simprocAttr, a0y, hx, hi, hf, hf'])) | ((first | apply a0e | apply d7E | apply a0a) <;> intro h <;> (try simp only [go_sem, simprocAttr, h, a0y, hx, hi, hf, hf']))))
   rfl
 . intro i x hx hf
   have hlt : i < l.length := (List.getElem?_eq_some_iff.1 hx).1
   simp only [Rest.same] at hf
   have hf' : (decide (n.day = x.day) && decide (n.singer = x.singer)) = true := by rw [← hf]; congr 1 <;> exact decide_eq_decide.2 eq_comm
   (simp only [go_sem, simprocAttr, a0y, hx, hf, hf']; repeat' (first | ((first | refine brY ?_ | refine brN ?_ | refine brA ?_ | refine brD ?_ | refine brF ?_ | ((first | apply a0k | apply a0j); (. intro h; simp only [go_sem, simprocAttr, a0p h, a0y, hx, hf, hf']; exact rfl))); (try simp only [go_sem, simprocAttr, a0y, hx, hf, hf'])) | ((first | apply a0e | apply d7E | apply a0a) <;> intro h <;> (try simp only [go_sem, simprocAttr, h, a0y, hx, hf, hf']))))
 . simp only [go_sem, simprocAttr, a0y]
 . cases h : a0z (fun _ x => Rest.same x n) 0 l with
   | none => simp only [go_sem, simprocAttr, idxR, h]
   | some q => obtain ⟨i, x⟩ := q; simp only [go_sem, simprocAttr, idxR, h]
@[go_sem] theorem b5k (k : SK) (l : List Rest) (n : Rest) (hl : l.length <= 1000000) : K Γ (.fn 155) [.sc (.sl k 2 (l.map Rest.c)), .agg n.c] [] = some (vb (l.any (·.same n)), []) := by
 rw [K_fn P04.f155 _ _ rfl]
 simp only [go_sem, simprocAttr, a1m, b9a k l n hl, b5s]
end
end Go.Pm.St
namespace Go.Pm.St
open Ac
def late (l : List Rest) (i : Nat) (y : Rest) : Bool := decide (0 < i) && (match l[i - 1]? with | some x => decide (0 <= x.cmp y) | none => false)
def Book.bad (b : Book) (l : List Rest) (i : Nat) (y : Rest) : Bool :=
 !b.a2O y.day || (decide (y.day < a2b b.signs) || (!b.a1f y.singer || (b.rests.any (·.same y) || late l i y)))
def Book.a4k (b : Book) (l : List Rest) : Bool := (a0z (b.bad l) 0 l).isNone
section
variable {Γ : Env} [P04 Γ] [G04 Γ]
theorem b4y (b : Book) [hb : b.Fits] (hs : Sane b) (k : SK) (l : List Rest) (hl : l.length <= 9223372036854775807) : K Γ (.fn 118) [.agg b.c, .sc (.sl k 2 (l.map Rest.c))] [] = some (vb (b.a4k l), []) := by
 have ho := b0g (Γ := Γ) b hs
 have hr6 := hs.r6
 have hcon (y : Rest) := b5k (Γ := Γ) b.kr b.rests y (by omega)
 rw [K_fn P04.f118 _ _ rfl]
 simp only [go_sem, simprocAttr, a5M]
 refine (a4L (fun i => ⟨[(1, .sc (.sl k 2 (l.map Rest.c))), (2, .sc (.ptr 0 0)), (7, .sc (.sl k 2 (l.map Rest.c))), (8, vi l.length), (9, vi i)], [.var b.c]⟩) l (b.bad l)
   (fun i y => (.ret, ⟨[(4, vb false)], [.var b.c, .var y.c]⟩)) (.exit 0, ⟨[(1, .sc (.sl k 2 (l.map Rest.c))), (2, .sc (.ptr 0 0)), (7, .sc (.sl k 2 (l.map Rest.c))), (8, vi l.length), (9, vi l.length), (10, vb false)], [.var b.c]⟩) _ ?_ ?_ ?_).trans ?_
 . intro i y hx hf
   have hlt : i < l.length := (List.getElem?_eq_some_iff.1 hx).1
   have hi : IntKind.i64.wrap ((i : Int) + 1) = i + 1 := wrap_i64 (by omega) (by omega)
   simp only [Book.bad, Bool.or_eq_false_iff, Bool.not_eq_false'] at hf
   obtain ⟨h1, h2, h3, h4, h5⟩ := hf
   cases i with
   | zero =>
     (simp only [go_sem, simprocAttr, a0x, hx, hi, ho, hcon, h1, h2, h3, h4]; repeat' (first | ((first | refine brY ?_ | refine brN ?_ | refine brA ?_ | refine brD ?_ | refine brF ?_ | ((first | apply a0k | apply a0j); (. intro h; simp only [go_sem, simprocAttr, a0p h, a0x, hx, hi, ho, hcon, h1, h2, h3, h4]; exact rfl))); (try simp only [go_sem, simprocAttr, a0x, hx, hi, ho, hcon, h1, h2, h3, h4])) | ((first | apply a0e | apply d7E | apply a0a) <;> intro h <;> (try simp only [go_sem, simprocAttr, h, a0x, hx, hi, ho, hcon, h1, h2, h3, h4]))))
     first | done | rfl
   | succ j =>
     obtain ⟨x, hj⟩ : ∃ x, l[j]? = some x := ⟨_, List.getElem?_eq_getElem (by omega)⟩
     have hp : decide ((0 : Int) < ((j + 1 : Nat) : Int)) = true := decide_eq_true (by omega)
     have hm : IntKind.i64.wrap (((j + 1 : Nat) : Int) - 1) = (j : Int) := by rw [wrap_i64 (by omega) (by omega)]; omega
     simp only [late, Nat.add_sub_cancel, hj] at h5
     have h5' : decide (0 <= x.cmp y) = false := by simpa using h5
     (simp only [go_sem, simprocAttr, a0x, hx, hi, ho, hcon, h1, h2, h3, h4, hp, hm, hj, h5']; repeat' (first | ((first | refine brY ?_ | refine brN ?_ | refine brA ?_ | refine brD ?_ | refine brF ?_ | ((first | apply a0k | apply a0j); (. intro h; simp only [go_sem, simprocAttr, a0p h, a0x, hx, hi, ho, hcon, h1, h2, h3, h4, hp, hm, hj, h5']; exact rfl))); (try simp only [go_sem, simprocAttr, a0x, hx, hi, ho, hcon, h1, h2, h3, h4, hp, hm, hj, h5'])) | ((first | apply a0e | apply d7E | apply a0a) <;> intro h <;> (try simp only [go_sem, simprocAttr, h, a0x, hx, hi, ho, hcon, h1, h2, h3, h4, hp, hm, hj, h5']))))
     first | done | rfl
 . intro i y hx hf
   have hlt : i < l.length := (List.getElem?_eq_some_iff.1 hx).1
   cases h1 : b.a2O y.day with
   | false => (simp only [go_sem, simprocAttr, a0x, hx, ho, hcon, h1]; repeat' (first | ((first | refine brY ?_ | refine brN ?_ | refine brA ?_ | refine brD ?_ | refine brF ?_ | ((first | apply a0k | apply a0j); (. intro h; simp only [go_sem, simprocAttr, a0p h, a0x, hx, ho, hcon, h1]; exact rfl))); (try simp only [go_sem, simprocAttr, a0x, hx, ho, hcon, h1])) | ((first | apply a0e | apply d7E | apply a0a) <;> intro h <;> (try simp only [go_sem, simprocAttr, h, a0x, hx, ho, hcon, h1]))))
   | true =>
     cases h2 : decide (y.day < a2b b.signs) with
     | true => (simp only [go_sem, simprocAttr, a0x, hx, ho, hcon, h1, h2]; repeat' (first | ((first | refine brY ?_ | refine brN ?_ | refine brA ?_ | refine brD ?_ | refine brF ?_ | ((first | apply a0k | apply a0j); (. intro h; simp only [go_sem, simprocAttr, a0p h, a0x, hx, ho, hcon, h1, h2]; exact rfl))); (try simp only [go_sem, simprocAttr, a0x, hx, ho, hcon, h1, h2])) | ((first | apply a0e | apply d7E | apply a0a) <;> intro h <;> (try simp only [go_sem, simprocAttr, h, a0x, hx, ho, hcon, h1, h2]))))
     | false =>
       cases h3 : b.a1f y.singer with
       | false => (simp only [go_sem, simprocAttr, a0x, hx, ho, hcon, h1, h2, h3]; repeat' (first | ((first | refine brY ?_ | refine brN ?_ | refine brA ?_ | refine brD ?_ | refine brF ?_ | ((first | apply a0k | apply a0j); (. intro h; simp only [go_sem, simprocAttr, a0p h, a0x, hx, ho, hcon, h1, h2, h3]; exact rfl))); (try simp only [go_sem, simprocAttr, a0x, hx, ho, hcon, h1, h2, h3])) | ((first | apply a0e | apply d7E | apply a0a) <;> intro h <;> (try simp only [go_sem, simprocAttr, h, a0x, hx, ho, hcon, h1, h2, h3]))))
       | true =>
         cases h4 : b.rests.any (·.same y) with
         | true => (simp only [go_sem, simprocAttr, a0x, hx, ho, hcon, h1, h2, h3, h4]; repeat' (first | ((first | refine brY ?_ | refine brN ?_ | refine brA ?_ | refine brD ?_ | refine brF ?_ | ((first | apply a0k | apply a0j); (. intro h; simp only [go_sem, simprocAttr, a0p h, a0x, hx, ho, hcon, h1, h2, h3, h4]; exact rfl))); (try simp only [go_sem, simprocAttr, a0x, hx, ho, hcon, h1, h2, h3, h4])) | ((first | apply a0e | apply d7E | apply a0a) <;> intro h <;> (try simp only [go_sem, simprocAttr, h, a0x, hx, ho, hcon, h1, h2, h3, h4]))))
         | false =>
           simp only [Book.bad, h1, h2, h3, h4, Bool.not_true, Bool.false_or] at hf
           cases i with
           | zero => simp [late] at hf
           | succ j =>
             obtain ⟨x, hj⟩ : ∃ x, l[j]? = some x := ⟨_, List.getElem?_eq_getElem (by omega)⟩
             have hp : decide ((0 : Int) < ((j + 1 : Nat) : Int)) = true := decide_eq_true (by omega)
             have hm : IntKind.i64.wrap (((j + 1 : Nat) : Int) - 1) = (j : Int) := by rw [wrap_i64 (by omega) (by omega)]; omega
             simp only [late, Nat.add_sub_cancel, hj] at hf
             have h5' : decide (0 <= x.cmp y) = true := by simpa using hf
             (simp only [go_sem, simprocAttr, a0x, hx, ho, hcon, h1, h2, h3, h4, hp, hm, hj, h5']; repeat' (first | ((first | refine brY ?_ | refine brN ?_ | refine brA ?_ | refine brD ?_ | refine brF ?_ | ((first | apply a0k | apply a0j); (. intro h; simp only [go_sem, simprocAttr, a0p h, a0x, hx, ho, hcon, h1, h2, h3, h4, hp, hm, hj, h5']; exact rfl))); (try simp only [go_sem, simprocAttr, a0x, hx, ho, hcon, h1, h2, h3, h4, hp, hm, hj, h5'])) | ((first | apply a0e | apply d7E | apply a0a) <;> intro h <;> (try simp only [go_sem, simprocAttr, h, a0x, hx, ho, hcon, h1, h2, h3, h4, hp, hm, hj, h5']))))
 . simp only [go_sem, simprocAttr, a0x]
 . rw [Book.a4k]
   cases h : a0z (b.bad l) 0 l with
   | none => simp only [go_sem, simprocAttr, Option.isNone_none]
   | some q => obtain ⟨i, x⟩ := q; simp only [go_sem, simprocAttr, Option.isNone_some]
end
end Go.Pm.St
namespace Go.Pm.St
open Ac
section
variable {Γ : Env} [P04 Γ] [G04 Γ]
theorem c3l (b : Book) [hb : b.Fits] (k : SK) (l : List Rest) (hl : l.length <= 9223372036854775807) : K Γ (.fn 103) [.agg b.c, .sc (.sl k 2 (l.map Rest.c))] [] = some (.tup [vb (b.valid && b.a4k l), vi (if b.valid then 0 else 40)], []) := by
 rw [K_fn P04.f103 _ _ rfl]
 cases hv : b.valid with
 | false => simp only [go_sem, simprocAttr, a6B, hv, Bool.false_eq_true]
 | true =>
   have hp := b4y (Γ := Γ) b (a2n.1 hv) k l hl
   simp only [go_sem, simprocAttr, a6B, hv, hp]
end
end Go.Pm.St
namespace Go.Pm.St
open Ac
@[go_sem] theorem d0e (b : Book) (m t : C) : a0R (B12 b m t) 1 2 = some [ci b.c0.lo, ci b.c0.hi] := nrfl rfl
@[go_sem] theorem d0f (b : Book) (m t : C) : a0R (B12 b m t) 3 2 = some [ci b.c1.lo, ci b.c1.hi] := nrfl rfl
@[go_sem] theorem d0g (b : Book) (m t : C) : a0R (B12 b m t) 5 2 = some [ci b.c2.lo, ci b.c2.hi] := nrfl rfl
section
variable {Γ : Env} [P04 Γ] [G04 Γ]
structure Fam (Γ : Env) (b : Book) (m t : C) {σ : Type} (I : Nat -> σ -> Prop) (step : σ -> Cost -> σ) (G : σ -> List Obj) (N l y f : Nat) : Prop where
 len : ∀ s, (G s).length = N
 und : ∀ s, (G s).all (Obj.under N) = true
 mono : ∀ r s, I (r + 1) s -> I r s
 yl : y < N
 fl : f < N
 gy : ∀ s, (G s)[y]? = some (.var [.fn (.yield l) [] [] []])
 gf : ∀ s, (G s)[f]? = some (.var [.fn (.fn 196) [] [] [.ptr y 0, .eptr (B12 b m t) 0, .ptr f 0]])
 yield : ∀ r s (fr : List Obj) (c : Cost), I (r + 1) s -> fr.all (Obj.under (N + fr.length)) = true -> b.c0.has c.p /\ b.c1.has c.f /\ b.c2.has c.n →
   I r (step s c) /\ K Γ (.yield l) [.agg [ci c.p, ci c.f, ci c.n]] (G s ++ fr) = some (vb true, G (step s c) ++ fr)
theorem Fam.app {b : Book} {m t : C} {σ : Type} {I : Nat -> σ -> Prop} {step : σ -> Cost -> σ} {G : σ -> List Obj} {N l y f : Nat} (hF : Fam Γ b m t I step G N l y f) (fr : List Obj) (hfr : fr.all (Obj.under (N + fr.length)) = true) :
   Fam Γ b m t I step (fun s => G s ++ fr) (N + fr.length) l y f where
 len s := by simp [hF.len s]
 und s := by rw [List.all_append, a0Q _ N _ (hF.und s), hfr]; rfl
 mono := hF.mono
 yl := by have := hF.yl; omega
 fl := by have := hF.fl; omega
 gy s := by rw [b2M _ _ _ (by rw [hF.len s]; exact hF.yl), hF.gy s]
 gf s := by rw [b2M _ _ _ (by rw [hF.len s]; exact hF.fl), hF.gf s]
 yield r s gr c hs hgr h0 := by
   obtain ⟨hi, he⟩ := hF.yield r s (fr ++ gr) c hs (by
     rw [List.all_append, List.length_append, ← Nat.add_assoc, a0Q _ _ _ hfr, Bool.true_and]
     exact hgr) h0
   refine ⟨hi, ?_⟩
   rw [List.append_assoc, he, List.append_assoc]
theorem Fam.less {b : Book} {m t : C} {σ : Type} {I : Nat -> σ -> Prop} {step : σ -> Cost -> σ} {G : σ -> List Obj} {N l y f : Nat} (hF : Fam Γ b m t I step G N l y f) (r : Nat) (s : σ) : ∀ (k : Nat), I (r + k) s -> I r s
 | 0, h => h
 | k + 1, h => hF.less r s k (hF.mono _ _ h)
def a7L (Γ : Env) (b : Book) (m t : C) (kind : Int) (cnt : Nat) (pre : Cost -> Prop) {σ : Type} (I : Nat -> σ -> Prop) (step : σ -> Cost -> σ) (C : σ -> Cost -> σ) : Prop :=
 ∀ (G : σ -> List Obj) (N l y f : Nat), Fam Γ b m t I step G N l y f -> ∀ (r : Nat) (s : σ) (c : Cost), I (r + cnt) s -> pre c →
   I r (C s c) /\ K Γ (.fn 196) [.agg [ci c.p, ci c.f, ci c.n], vi kind, .sc (.ptr y 0), .sc (.eptr (B12 b m t) 0), .sc (.ptr f 0)] (G s) = some (vb true, G (C s c))
theorem c2f (b : Book) (hsb : Sane b) (m t : C) {σ : Type} (I : Nat -> σ -> Prop) (step : σ -> Cost -> σ) :
   a7L Γ b m t 3 1 (fun c => b.c0.has c.p /\ b.c1.has c.f /\ b.c2.has c.n) I step step := by
 intro G N l y f hF r s c hs h0
 obtain ⟨hi, hY⟩ := hF.yield r s [.var [ci c.p, ci c.f, ci c.n]] c hs (by simp only [go_sem, simprocAttr]) h0
 refine ⟨hi, ?_⟩
 have hn := hF.len s
 have hyl : y < (G s).length := by rw [hn]; exact hF.yl
 have hy := hF.gy s
 have hu := hF.und (step s c)
 have hn' := hF.len (step s c)
 rw [K_fn P04.f196 _ _ rfl]
 simp only [go_sem, simprocAttr, a1O, hn, a0E, hyl, hy, hF.yl, hY, hn', hu]
def a4Y {σ : Type} (C : σ -> Int -> σ) (lo : Int) (s : σ) (i : Nat) : σ := (List.range i).foldl (fun s j => C s (lo + (j : Nat))) s
def a3P {σ : Type} (C : σ -> Int -> σ) (sp : Span) (s : σ) : σ := a4Y C sp.lo s (sp.hi - sp.lo + 1).toNat
theorem a5r {σ : Type} (C : σ -> Int -> σ) (lo : Int) (s : σ) (i : Nat) : a4Y C lo s (i + 1) = C (a4Y C lo s i) (lo + i) := by simp [a4Y, List.range_succ]
def F2 {σ : Type} (b : Book) (step : σ -> Cost -> σ) (s : σ) (c : Cost) : σ := a3P (fun s v => step s ⟨c.p, c.f, v⟩) b.c2 s
def F1 {σ : Type} (b : Book) (step : σ -> Cost -> σ) (s : σ) (c : Cost) : σ := a3P (fun s v => F2 b step s ⟨c.p, v, c.n⟩) b.c1 s
def F0 {σ : Type} (b : Book) (step : σ -> Cost -> σ) (s : σ) (c : Cost) : σ := a3P (fun s v => F1 b step s ⟨v, c.f, c.n⟩) b.c0 s
theorem c2e (b : Book) (hsb : Sane b) (m t : C) {σ : Type} (I : Nat -> σ -> Prop) (step : σ -> Cost -> σ) :
   a7L Γ b m t 2 2 (fun c => b.c0.has c.p /\ b.c1.has c.f) I step (F2 b step) := by
 show a7L Γ b m t 2 2 _ I step (fun s c => a3P (fun s v => step s ⟨c.p, c.f, v⟩) b.c2 s)
 intro G N l y f hF r s c hs hpre
 have hk := hsb.k2
 have hn := hF.len s
 have hyl : y < (G s).length := by rw [hn]; exact hF.yl
 have hfl : f < (G s).length := by rw [hn]; exact hF.fl
 have hy := hF.gy s
 have hf := hF.gf s
 have hu := hF.und s
 have hwm : IntKind.i64.wrap (IntKind.i64.wrap (b.c2.hi - b.c2.lo) + 1) = b.c2.hi - b.c2.lo + 1 := by
   rw [wrap_i64 (x := b.c2.hi - b.c2.lo) (by omega) (by omega), wrap_i64 (by omega) (by omega)]
 have hnext := c2f (Γ := Γ) b hsb m t I step
 have hstI : ∀ r s v, I (r + 1) s -> b.c2.lo <= v /\ v <= b.c2.hi -> I r (step s ⟨c.p, c.f, v⟩) := fun r s v hI hv => (hnext _ _ _ _ _ hF r s ⟨c.p, c.f, v⟩ hI ⟨hpre.1, hpre.2, hv⟩).1
 have hlI : ∀ (i : Nat), i <= (b.c2.hi - b.c2.lo + 1).toNat -> I (r + 1 * (2 - i)) (a4Y (fun s v => step s ⟨c.p, c.f, v⟩) b.c2.lo s i) := by
   intro i
   induction i with
   | zero => intro _; exact hs
   | succ i ih =>
     intro hi
     rw [a5r]
     refine hstI _ _ _ ?_ (by omega)
     have := ih (by omega)
     rwa [show r + 1 * (2 - i) = r + 1 * (2 - (i + 1)) + 1 by omega] at this
 refine ⟨hF.less _ _ _ (hlI _ (Nat.le_refl _)), ?_⟩
 rw [K_fn P04.f196 _ _ rfl]
 simp only [go_sem, simprocAttr, a1O, hn, a0E, hyl, hfl, hf, hy, hF.yl, hF.fl, hu, hwm]
 refine b0t (b.c2.hi - b.c2.lo + 1).toNat (fun i (a : Int) => ⟨[(1, vi 2), (4, .sc (.ptr f 0)), (5, .sc (.ptr N 0)), (8, .sc (.ptr (N + 1) 0)), (25, vi (b.c2.hi - b.c2.lo + 1)), (26, vi i)],
     G (a4Y (fun s v => step s ⟨c.p, c.f, v⟩) b.c2.lo s i) ++ [.var [ci c.p, ci c.f, ci a], .var [ci b.c2.lo, ci b.c2.hi]]⟩) (fun _ _ => True)
   (fun a => (.exit 0, ⟨[(1, vi 2), (4, .sc (.ptr f 0)), (5, .sc (.ptr N 0)), (8, .sc (.ptr (N + 1) 0)), (25, vi (b.c2.hi - b.c2.lo + 1)), (26, vi (b.c2.hi - b.c2.lo + 1)), (27, vb false)],
     G (a3P (fun s v => step s ⟨c.p, c.f, v⟩) b.c2 s) ++ [.var [ci c.p, ci c.f, ci a], .var [ci b.c2.lo, ci b.c2.hi]]⟩)) c.n trivial ?_ ?_ ?_
 . intro i a hi _
   have hiw : IntKind.i64.wrap ((i : Int) + 1) = i + 1 := wrap_i64 (by omega) (by omega)
   have hnw : IntKind.i64.wrap (b.c2.lo + i) = b.c2.lo + i := wrap_i64 (by omega) (by omega)
   have hlt : decide ((i : Int) < b.c2.hi - b.c2.lo + 1) = true := decide_eq_true (by omega)
   have hou := a5r (fun s v => step s ⟨c.p, c.f, v⟩) b.c2.lo s i
   have hI := hlI i (by omega)
   rw [show r + 1 * (2 - i) = r + 1 * (2 - (i + 1)) + 1 by omega] at hI
   generalize hs' : a4Y (fun s v => step s ⟨c.p, c.f, v⟩) b.c2.lo s i = s' at *
   have hF' := hF.app [.var [ci c.p, ci c.f, ci (b.c2.lo + i)], .var [ci b.c2.lo, ci b.c2.hi]] (by simp only [go_sem, simprocAttr])
   obtain ⟨hIs, hC⟩ := hnext _ _ _ _ _ hF' _ s' ⟨c.p, c.f, b.c2.lo + i⟩ hI ⟨hpre.1, hpre.2, (show b.c2.has (b.c2.lo + i) from ⟨by omega, by omega⟩)⟩
   have hn1 := hF.len s'
   have hu1 := hF.und s'
   have hf2 := hF.gf s'
   have hfl2 : f < (G s').length := by rw [hn1]; exact hF.fl
   have hn3 := hF.len (step s' ⟨c.p, c.f, b.c2.lo + i⟩)
   have hu3 := hF.und (step s' ⟨c.p, c.f, b.c2.lo + i⟩)
   refine ⟨b.c2.lo + i, trivial, ?_⟩
   rw [hou]
   (simp only [go_sem, simprocAttr, a0u, hn1, a0E, hlt, hnw, hiw, hfl2, hf2, hF.fl, hF.yl, hC, hn3, hu3, a0Q]; repeat' (first | ((first | refine brY ?_ | refine brN ?_ | refine brA ?_ | refine brD ?_ | refine brF ?_ | ((first | apply a0k | apply a0j); (. intro h; simp only [go_sem, simprocAttr, a0p h, a0u, hn1, a0E, hlt, hnw, hiw, hfl2, hf2, hF.fl, hF.yl, hC, hn3, hu3, a0Q]; exact rfl))); (try simp only [go_sem, simprocAttr, a0u, hn1, a0E, hlt, hnw, hiw, hfl2, hf2, hF.fl, hF.yl, hC, hn3, hu3, a0Q])) | ((first | apply a0e | apply d7E | apply a0a) <;> intro h <;> (try simp only [go_sem, simprocAttr, h, a0u, hn1, a0E, hlt, hnw, hiw, hfl2, hf2, hF.fl, hF.yl, hC, hn3, hu3, a0Q]))))
   rfl
 . intro a _
   have hm : ((b.c2.hi - b.c2.lo + 1).toNat : Int) = b.c2.hi - b.c2.lo + 1 := by omega
   simp only [hm]
   (simp only [go_sem, simprocAttr, a0u]; repeat' (first | ((first | refine brY ?_ | refine brN ?_ | refine brA ?_ | refine brD ?_ | refine brF ?_ | ((first | apply a0k | apply a0j); (. intro h; simp only [go_sem, simprocAttr, a0p h, a0u]; exact rfl))); (try simp only [go_sem, simprocAttr, a0u])) | ((first | apply a0e | apply d7E | apply a0a) <;> intro h <;> (try simp only [go_sem, simprocAttr, h, a0u]))))
   rfl
 . intro a _
   have hn' := hF.len (a3P (fun s v => step s ⟨c.p, c.f, v⟩) b.c2 s)
   have hu' := hF.und (a3P (fun s v => step s ⟨c.p, c.f, v⟩) b.c2 s)
   simp only [go_sem, simprocAttr, hn', a0E, hn, hu']
theorem c2d (b : Book) (hsb : Sane b) (m t : C) {σ : Type} (I : Nat -> σ -> Prop) (step : σ -> Cost -> σ) :
   a7L Γ b m t 1 4 (fun c => b.c0.has c.p) I step (F1 b step) := by
 show a7L Γ b m t 1 4 _ I step (fun s c => a3P (fun s v => F2 b step s ⟨c.p, v, c.n⟩) b.c1 s)
 intro G N l y f hF r s c hs hpre
 have hk := hsb.k1
 have hn := hF.len s
 have hyl : y < (G s).length := by rw [hn]; exact hF.yl
 have hfl : f < (G s).length := by rw [hn]; exact hF.fl
 have hy := hF.gy s
 have hf := hF.gf s
 have hu := hF.und s
 have hwm : IntKind.i64.wrap (IntKind.i64.wrap (b.c1.hi - b.c1.lo) + 1) = b.c1.hi - b.c1.lo + 1 := by
   rw [wrap_i64 (x := b.c1.hi - b.c1.lo) (by omega) (by omega), wrap_i64 (by omega) (by omega)]
 have hnext := c2e (Γ := Γ) b hsb m t I step
 have hstI : ∀ r s v, I (r + 2) s -> b.c1.lo <= v /\ v <= b.c1.hi -> I r (F2 b step s ⟨c.p, v, c.n⟩) := fun r s v hI hv => (hnext _ _ _ _ _ hF r s ⟨c.p, v, c.n⟩ hI ⟨hpre, hv⟩).1
 have hlI : ∀ (i : Nat), i <= (b.c1.hi - b.c1.lo + 1).toNat -> I (r + 2 * (2 - i)) (a4Y (fun s v => F2 b step s ⟨c.p, v, c.n⟩) b.c1.lo s i) := by
   intro i
   induction i with
   | zero => intro _; exact hs
   | succ i ih =>
     intro hi
     rw [a5r]
     refine hstI _ _ _ ?_ (by omega)
     have := ih (by omega)
     rwa [show r + 2 * (2 - i) = r + 2 * (2 - (i + 1)) + 2 by omega] at this
 refine ⟨hF.less _ _ _ (hlI _ (Nat.le_refl _)), ?_⟩
 rw [K_fn P04.f196 _ _ rfl]
 simp only [go_sem, simprocAttr, a1O, hn, a0E, hyl, hfl, hf, hy, hF.yl, hF.fl, hu, hwm]
 refine b0t (b.c1.hi - b.c1.lo + 1).toNat (fun i (a : Int) => ⟨[(1, vi 1), (4, .sc (.ptr f 0)), (5, .sc (.ptr N 0)), (8, .sc (.ptr (N + 1) 0)), (25, vi (b.c1.hi - b.c1.lo + 1)), (26, vi i)],
     G (a4Y (fun s v => F2 b step s ⟨c.p, v, c.n⟩) b.c1.lo s i) ++ [.var [ci c.p, ci a, ci c.n], .var [ci b.c1.lo, ci b.c1.hi]]⟩) (fun _ _ => True)
   (fun a => (.exit 0, ⟨[(1, vi 1), (4, .sc (.ptr f 0)), (5, .sc (.ptr N 0)), (8, .sc (.ptr (N + 1) 0)), (25, vi (b.c1.hi - b.c1.lo + 1)), (26, vi (b.c1.hi - b.c1.lo + 1)), (27, vb false)],
     G (a3P (fun s v => F2 b step s ⟨c.p, v, c.n⟩) b.c1 s) ++ [.var [ci c.p, ci a, ci c.n], .var [ci b.c1.lo, ci b.c1.hi]]⟩)) c.f trivial ?_ ?_ ?_
 . intro i a hi _
   have hiw : IntKind.i64.wrap ((i : Int) + 1) = i + 1 := wrap_i64 (by omega) (by omega)
   have hnw : IntKind.i64.wrap (b.c1.lo + i) = b.c1.lo + i := wrap_i64 (by omega) (by omega)
   have hlt : decide ((i : Int) < b.c1.hi - b.c1.lo + 1) = true := decide_eq_true (by omega)
   have hou := a5r (fun s v => F2 b step s ⟨c.p, v, c.n⟩) b.c1.lo s i
   have hI := hlI i (by omega)
   rw [show r + 2 * (2 - i) = r + 2 * (2 - (i + 1)) + 2 by omega] at hI
   generalize hs' : a4Y (fun s v => F2 b step s ⟨c.p, v, c.n⟩) b.c1.lo s i = s' at *
   have hF' := hF.app [.var [ci c.p, ci (b.c1.lo + i), ci c.n], .var [ci b.c1.lo, ci b.c1.hi]] (by simp only [go_sem, simprocAttr])
   obtain ⟨hIs, hC⟩ := hnext _ _ _ _ _ hF' _ s' ⟨c.p, b.c1.lo + i, c.n⟩ hI ⟨hpre, (show b.c1.has (b.c1.lo + i) from ⟨by omega, by omega⟩)⟩
   have hn1 := hF.len s'
   have hu1 := hF.und s'
   have hf2 := hF.gf s'
   have hfl2 : f < (G s').length := by rw [hn1]; exact hF.fl
   have hn3 := hF.len (F2 b step s' ⟨c.p, b.c1.lo + i, c.n⟩)
   have hu3 := hF.und (F2 b step s' ⟨c.p, b.c1.lo + i, c.n⟩)
   refine ⟨b.c1.lo + i, trivial, ?_⟩
   rw [hou]
   (simp only [go_sem, simprocAttr, a0u, hn1, a0E, hlt, hnw, hiw, hfl2, hf2, hF.fl, hF.yl, hC, hn3, hu3, a0Q]; repeat' (first | ((first | refine brY ?_ | refine brN ?_ | refine brA ?_ | refine brD ?_ | refine brF ?_ | ((first | apply a0k | apply a0j); (. intro h; simp only [go_sem, simprocAttr, a0p h, a0u, hn1, a0E, hlt, hnw, hiw, hfl2, hf2, hF.fl, hF.yl, hC, hn3, hu3, a0Q]; exact rfl))); (try simp only [go_sem, simprocAttr, a0u, hn1, a0E, hlt, hnw, hiw, hfl2, hf2, hF.fl, hF.yl, hC, hn3, hu3, a0Q])) | ((first | apply a0e | apply d7E | apply a0a) <;> intro h <;> (try simp only [go_sem, simprocAttr, h, a0u, hn1, a0E, hlt, hnw, hiw, hfl2, hf2, hF.fl, hF.yl, hC, hn3, hu3, a0Q]))))
   rfl
 . intro a _
   have hm : ((b.c1.hi - b.c1.lo + 1).toNat : Int) = b.c1.hi - b.c1.lo + 1 := by omega
   simp only [hm]
   (simp only [go_sem, simprocAttr, a0u]; repeat' (first | ((first | refine brY ?_ | refine brN ?_ | refine brA ?_ | refine brD ?_ | refine brF ?_ | ((first | apply a0k | apply a0j); (. intro h; simp only [go_sem, simprocAttr, a0p h, a0u]; exact rfl))); (try simp only [go_sem, simprocAttr, a0u])) | ((first | apply a0e | apply d7E | apply a0a) <;> intro h <;> (try simp only [go_sem, simprocAttr, h, a0u]))))
   rfl
 . intro a _
   have hn' := hF.len (a3P (fun s v => F2 b step s ⟨c.p, v, c.n⟩) b.c1 s)
   have hu' := hF.und (a3P (fun s v => F2 b step s ⟨c.p, v, c.n⟩) b.c1 s)
   simp only [go_sem, simprocAttr, hn', a0E, hn, hu']
theorem c2c (b : Book) (hsb : Sane b) (m t : C) {σ : Type} (I : Nat -> σ -> Prop) (step : σ -> Cost -> σ) :
   a7L Γ b m t 0 8 (fun c => True) I step (F0 b step) := by
 show a7L Γ b m t 0 8 _ I step (fun s c => a3P (fun s v => F1 b step s ⟨v, c.f, c.n⟩) b.c0 s)
 intro G N l y f hF r s c hs hpre
 have hk := hsb.k0
 have hn := hF.len s
 have hyl : y < (G s).length := by rw [hn]; exact hF.yl
 have hfl : f < (G s).length := by rw [hn]; exact hF.fl
 have hy := hF.gy s
 have hf := hF.gf s
 have hu := hF.und s
 have hwm : IntKind.i64.wrap (IntKind.i64.wrap (b.c0.hi - b.c0.lo) + 1) = b.c0.hi - b.c0.lo + 1 := by
   rw [wrap_i64 (x := b.c0.hi - b.c0.lo) (by omega) (by omega), wrap_i64 (by omega) (by omega)]
 have hnext := c2d (Γ := Γ) b hsb m t I step
 have hstI : ∀ r s v, I (r + 4) s -> b.c0.lo <= v /\ v <= b.c0.hi -> I r (F1 b step s ⟨v, c.f, c.n⟩) := fun r s v hI hv => (hnext _ _ _ _ _ hF r s ⟨v, c.f, c.n⟩ hI hv).1
 have hlI : ∀ (i : Nat), i <= (b.c0.hi - b.c0.lo + 1).toNat -> I (r + 4 * (2 - i)) (a4Y (fun s v => F1 b step s ⟨v, c.f, c.n⟩) b.c0.lo s i) := by
   intro i
   induction i with
   | zero => intro _; exact hs
   | succ i ih =>
     intro hi
     rw [a5r]
     refine hstI _ _ _ ?_ (by omega)
     have := ih (by omega)
     rwa [show r + 4 * (2 - i) = r + 4 * (2 - (i + 1)) + 4 by omega] at this
 refine ⟨hF.less _ _ _ (hlI _ (Nat.le_refl _)), ?_⟩
 rw [K_fn P04.f196 _ _ rfl]
 simp only [go_sem, simprocAttr, a1O, hn, a0E, hyl, hfl, hf, hy, hF.yl, hF.fl, hu, hwm]
 refine b0t (b.c0.hi - b.c0.lo + 1).toNat (fun i (a : Int) => ⟨[(1, vi 0), (4, .sc (.ptr f 0)), (5, .sc (.ptr N 0)), (8, .sc (.ptr (N + 1) 0)), (25, vi (b.c0.hi - b.c0.lo + 1)), (26, vi i)],
     G (a4Y (fun s v => F1 b step s ⟨v, c.f, c.n⟩) b.c0.lo s i) ++ [.var [ci a, ci c.f, ci c.n], .var [ci b.c0.lo, ci b.c0.hi]]⟩) (fun _ _ => True)
   (fun a => (.exit 0, ⟨[(1, vi 0), (4, .sc (.ptr f 0)), (5, .sc (.ptr N 0)), (8, .sc (.ptr (N + 1) 0)), (25, vi (b.c0.hi - b.c0.lo + 1)), (26, vi (b.c0.hi - b.c0.lo + 1)), (27, vb false)],
     G (a3P (fun s v => F1 b step s ⟨v, c.f, c.n⟩) b.c0 s) ++ [.var [ci a, ci c.f, ci c.n], .var [ci b.c0.lo, ci b.c0.hi]]⟩)) c.p trivial ?_ ?_ ?_
 . intro i a hi _
   have hiw : IntKind.i64.wrap ((i : Int) + 1) = i + 1 := wrap_i64 (by omega) (by omega)
   have hnw : IntKind.i64.wrap (b.c0.lo + i) = b.c0.lo + i := wrap_i64 (by omega) (by omega)
   have hlt : decide ((i : Int) < b.c0.hi - b.c0.lo + 1) = true := decide_eq_true (by omega)
   have hou := a5r (fun s v => F1 b step s ⟨v, c.f, c.n⟩) b.c0.lo s i
   have hI := hlI i (by omega)
   rw [show r + 4 * (2 - i) = r + 4 * (2 - (i + 1)) + 4 by omega] at hI
   generalize hs' : a4Y (fun s v => F1 b step s ⟨v, c.f, c.n⟩) b.c0.lo s i = s' at *
   have hF' := hF.app [.var [ci (b.c0.lo + i), ci c.f, ci c.n], .var [ci b.c0.lo, ci b.c0.hi]] (by simp only [go_sem, simprocAttr])
   obtain ⟨hIs, hC⟩ := hnext _ _ _ _ _ hF' _ s' ⟨b.c0.lo + i, c.f, c.n⟩ hI (show b.c0.has (b.c0.lo + i) from ⟨by omega, by omega⟩)
   have hn1 := hF.len s'
   have hu1 := hF.und s'
   have hf2 := hF.gf s'
   have hfl2 : f < (G s').length := by rw [hn1]; exact hF.fl
   have hn3 := hF.len (F1 b step s' ⟨b.c0.lo + i, c.f, c.n⟩)
   have hu3 := hF.und (F1 b step s' ⟨b.c0.lo + i, c.f, c.n⟩)
   refine ⟨b.c0.lo + i, trivial, ?_⟩
   rw [hou]
   (simp only [go_sem, simprocAttr, a0u, hn1, a0E, hlt, hnw, hiw, hfl2, hf2, hF.fl, hF.yl, hC, hn3, hu3, a0Q]; repeat' (first | ((first | refine brY ?_ | refine brN ?_ | refine brA ?_ | refine brD ?_ | refine brF ?_ | ((first | apply a0k | apply a0j); (. intro h; simp only [go_sem, simprocAttr, a0p h, a0u, hn1, a0E, hlt, hnw, hiw, hfl2, hf2, hF.fl, hF.yl, hC, hn3, hu3, a0Q]; exact rfl))); (try simp only [go_sem, simprocAttr, a0u, hn1, a0E, hlt, hnw, hiw, hfl2, hf2, hF.fl, hF.yl, hC, hn3, hu3, a0Q])) | ((first | apply a0e | apply d7E | apply a0a) <;> intro h <;> (try simp only [go_sem, simprocAttr, h, a0u, hn1, a0E, hlt, hnw, hiw, hfl2, hf2, hF.fl, hF.yl, hC, hn3, hu3, a0Q]))))
   rfl
 . intro a _
   have hm : ((b.c0.hi - b.c0.lo + 1).toNat : Int) = b.c0.hi - b.c0.lo + 1 := by omega
   simp only [hm]
   (simp only [go_sem, simprocAttr, a0u]; repeat' (first | ((first | refine brY ?_ | refine brN ?_ | refine brA ?_ | refine brD ?_ | refine brF ?_ | ((first | apply a0k | apply a0j); (. intro h; simp only [go_sem, simprocAttr, a0p h, a0u]; exact rfl))); (try simp only [go_sem, simprocAttr, a0u])) | ((first | apply a0e | apply d7E | apply a0a) <;> intro h <;> (try simp only [go_sem, simprocAttr, h, a0u]))))
   rfl
 . intro a _
   have hn' := hF.len (a3P (fun s v => F1 b step s ⟨v, c.f, c.n⟩) b.c0 s)
   have hu' := hF.und (a3P (fun s v => F1 b step s ⟨v, c.f, c.n⟩) b.c0 s)
   simp only [go_sem, simprocAttr, hn', a0E, hn, hu']
theorem b8c (b : Book) (hsb : Sane b) (m t : C) (hmt : C.a0v [m, t] = true) {σ : Type} (I : Nat -> σ -> Prop) (step : σ -> Cost -> σ)
   (G : σ -> List Obj) (N l : Nat) (hl : l < N) (len : ∀ s, (G s).length = N) (und : ∀ s, (G s).all (Obj.under N) = true) (mono : ∀ r s, I (r + 1) s -> I r s)
   (yield : ∀ r s (fr : List Obj) (c : Cost), I (r + 1) s -> fr.all (Obj.under (N + fr.length)) = true -> b.c0.has c.p /\ b.c1.has c.f /\ b.c2.has c.n →
     I r (step s c) /\ K Γ (.yield l) [.agg [ci c.p, ci c.f, ci c.n]] (G s ++ fr) = some (vb true, G (step s c) ++ fr)) (r : Nat) (s : σ) (hs : I (r + 8) s) :
   I r (F0 b step s ⟨0, 0, 0⟩) /\ K Γ (.fn 190) [.sc (.fn (.yield l) [] [] []), .sc (.eptr (B12 b m t) 0)] (G s) = some (.tup [], G (F0 b step s ⟨0, 0, 0⟩)) := by
 have hu0 (n : Nat) : C.a0G n [m, t] = true := a0C n _ hmt
 have hF : Fam Γ b m t I step (fun s => G s ++ [.var [.fn (.yield l) [] [] []], .var [.fn (.fn 196) [] [] [.ptr N 0, .eptr (B12 b m t) 0, .ptr (N + 1) 0]]]) (N + 2) l N (N + 1) :=
   { len := fun s => by simp [len s]
     und := fun s => by
       rw [List.all_append, a0Q _ N 2 (und s)]
       simp [go_sem]; omega
     mono := mono
     yl := by omega
     fl := by omega
     gy := fun s => by rw [b5P _ _ _ (len s)]; rfl
     gf := fun s => by rw [b2L _ _ _ _ (len s)]; rfl
     yield := fun r s fr c hs hfr h0 => by
       obtain ⟨hi, he⟩ := yield r s ([.var [.fn (.yield l) [] [] []], .var [.fn (.fn 196) [] [] [.ptr N 0, .eptr (B12 b m t) 0, .ptr (N + 1) 0]]] ++ fr) c hs (by
         rw [List.all_append, List.length_append]
         rw [show N + ([Obj.var [C.fn (.yield l) [] [] []], .var [.fn (.fn 196) [] [] [.ptr N 0, .eptr (B12 b m t) 0, .ptr (N + 1) 0]]].length + fr.length) = N + 2 + fr.length by simp; omega, hfr]
         simp [go_sem]; omega) h0
       refine ⟨hi, ?_⟩
       rw [List.append_assoc, he, List.append_assoc] }
 obtain ⟨hI, hC⟩ := c2c (Γ := Γ) b hsb m t I step _ _ _ _ _ hF r s ⟨0, 0, 0⟩ hs trivial
 refine ⟨hI, ?_⟩
 have hn := len s
 have hn2 := len (F0 b step s ⟨0, 0, 0⟩)
 replace hC := hC.trans (show _ = some (vb true, G (F0 b step s ⟨0, 0, 0⟩) ++ [.var [.fn (.yield l) [] [] []], .var [.fn (.fn 196) [] [] [.ptr N 0, .eptr (B12 b m t) 0, .ptr (N + 1) 0]]]) from rfl)
 have hu2 := und (F0 b step s ⟨0, 0, 0⟩)
 rw [K_fn P04.f190 _ _ rfl]
 simp only [go_sem, simprocAttr, a3u, hn, a0E, hC, hn2, hu2]
theorem b9u (b : Book) (m t : C) (hmt : C.a0v [m, t] = true) : K Γ (.fn 172) [.agg (B12 b m t)] [] = some (.sc (.fn (.fn 190) [] [] [.eptr (B12 b m t) 0]), []) := by
 have hu0 (n : Nat) : C.a0G n (B12 b m t) = true := a0C n _ (a2S b m t hmt)
 have hp := a2S b m t hmt
 have hmt' := hmt
 simp only [C.a0v, Bool.and_true, Bool.and_eq_true] at hmt'
 have hun := b1q b m t (a9r m hmt'.1) (a9r t hmt'.2)
 rw [K_fn P04.f172 _ _ rfl]
 simp only [go_sem, simprocAttr, a3W, hp, hu0, hun]
end
theorem b6D {σ : Type} (C : σ -> Int -> σ) (sp : Span) (s : σ) : a3P C sp s = (upto sp.lo sp.hi).foldl C s := by
 simp only [a3P, a4Y, upto, List.foldl_map]
theorem foldl_flatMap {α β σ : Type} (f : σ -> β -> σ) (g : α -> List β) : ∀ (l : List α) (s : σ), (l.flatMap g).foldl f s = l.foldl (fun s a => (g a).foldl f s) s
 | [], _ => rfl
 | a :: l, s => by simp only [List.flatMap_cons, List.foldl_append, List.foldl_cons]; exact foldl_flatMap f g l _
theorem b7h {σ : Type} (b : Book) (step : σ -> Cost -> σ) (s : σ) : F0 b step s ⟨0, 0, 0⟩ = b.a8a.foldl step s := by
 simp only [F0, F1, F2, b6D, Book.a8a, foldl_flatMap, List.foldl_map]
end Go.Pm.St
