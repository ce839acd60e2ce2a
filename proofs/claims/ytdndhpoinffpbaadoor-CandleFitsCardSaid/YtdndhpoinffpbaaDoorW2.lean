/- The plain machine, part 2. -/
import Derived.Test.YtdndhpoinffpbaaDoorW1
import Derived.Laws.CopyRow
import Derived.Laws.MakeOwn
import Derived.RangeFuncRecord
import Derived.OrdersIn
import Derived.LoopNIn
set_option linter.all false
namespace Go.Pm

structure Goes (S : Seat) (G : List Nat) (nt : Nat) (g g' : Gh) (s s' : St) (a a' : Act) (w w' : World) : Prop where
  le : g.Le g'
  rel : Rel S G g' nt s' a' w'
  keeps : Keeps (Perm g s a w) w w'
  back : ∀ b, b < w.heap.size → Perm g' s' a' w' b → Perm g s a w b
  im : ∀ b o v, g'.M b o = some v → g.M b o = some v ∨ w.heap.size ≤ b ∨ Perm g s a w b
  mm : ∀ b es, g'.N b = some es → g.N b = some es ∨ w.heap.size ≤ b ∨ Perm g s a w b

structure Unclaimed (g : Gh) (s : St) (a : Act) (w : World) (b : Nat) : Prop where
  t : ∀ i, ¬ ClaimT s.t a.tmps i b
  h : ∀ r j, ¬ ClaimH g s.h w r j b
  o : ∀ (r : Nat) o, s.h[r]? = some o → live o = true → g.σ r ≠ b

section
variable {S : Seat} {G : List Nat} {g g' g'' : Gh} {nt : Nat} {s s' s'' : St} {a a' a'' : Act} {w w' w'' : World} {h : List Obj}

theorem Goes.refl (hR : Rel S G g nt s a w) : Goes S G nt g g s s a a w w :=
  ⟨.refl g, hR, .refl _ w, fun _ _ h => h, fun _ _ _ h => .inl h, fun _ _ h => .inl h⟩

theorem Goes.trans (h : Goes S G nt g g' s s' a a' w w') (k : Goes S G nt g' g'' s' s'' a' a'' w' w'') : Goes S G nt g g'' s s'' a a'' w w'' where
  le := h.le.trans k.le
  rel := k.rel
  keeps := h.keeps.trans k.keeps h.back
  back := fun b hb hp => h.back b hb (k.back b (Nat.lt_of_lt_of_le hb h.keeps.size) hp)
  im := fun b o v e => by
    rcases k.im b o v e with e | e | e
    · exact h.im b o v e
    · exact .inr (.inl (Nat.le_trans h.keeps.size e))
    · by_cases hb : b < w.heap.size
      · exact .inr (.inr (h.back b hb e))
      · exact .inr (.inl (by omega))
  mm := fun b es e => by
    rcases k.mm b es e with e | e | e
    · exact h.mm b es e
    · exact .inr (.inl (Nat.le_trans h.keeps.size e))
    · by_cases hb : b < w.heap.size
      · exact .inr (.inr (h.back b hb e))
      · exact .inr (.inl (by omega))

theorem Goes.grow (hR : Rel S G g nt s a w) (k : Grows g g' w w') : Goes S G nt g g' s s a a w w' where
  le := k.le
  rel := hR.grow k
  keeps := k.keeps.mono fun _ _ h => h.elim
  back := fun b hb hp => by
    rcases hp with (⟨r, o, h1, h2, rfl⟩ | ⟨r, j, hc⟩) | ⟨i, hc⟩
    · exact .inl (.inl ⟨r, o, h1, h2, (k.le.eq r (hR.hp.lv r o h1 h2)).symm⟩)
    · exact .inl (.inr ⟨r, j, k.claimH hR.hp hc⟩)
    · exact .inr ⟨i, hc⟩
  im := fun b o v e => by
    rcases k.im b o v e with h | ⟨h, _⟩
    · exact .inl h
    · exact .inr (.inl h)
  mm := fun b es e => by
    rcases k.mm b es e with h | ⟨h, _⟩
    · exact .inl h
    · exact .inr (.inl h)

theorem ClaimT.of_drop {l : List Nat} {t : List (Nat × V)} {tm : Array Value} {i b : Nat} (hc : ClaimT (drop l t) tm i b) : ClaimT t tm i b ∧ i ∉ l := by
  obtain ⟨es, l', ad, n, cap, h1, h2, h3⟩ := hc
  rw [get_drop] at h1
  split at h1
  · exact absurd h1 (unown_not_own _ _ _)
  · rename_i hn
    exact ⟨⟨es, l', ad, n, cap, h1, h2, h3⟩, hn⟩

theorem Goes.drop (hR : Rel S G g nt s a w) (l : List Nat) : Goes S G nt g g s { t := drop l s.t, h := s.h } a a w w where
  le := .refl g
  rel := hR.drop l
  keeps := .refl _ w
  back := fun b _ hp => by
    rcases hp with h | ⟨i, hc⟩
    · exact .inl h
    · exact .inr ⟨i, hc.of_drop.1⟩
  im := fun _ _ _ h => .inl h
  mm := fun _ _ h => .inl h

theorem Goes.put (hR : Rel S G g nt s a w) {dst : Option Nat} {v : V} {x : Value} (hv : RV S g v x) (hd : ∀ d, dst = some d → d < nt) :
    Goes S G nt g g s { t := put1 dst v s.t, h := s.h } a (a.put dst x) w w where
  le := .refl g
  rel := hR.put hv hd
  keeps := .refl _ w
  back := fun b _ hp => by
    rcases hp with h | ⟨i, es, l, ad, n, cap, h1, h2, h3⟩
    · exact .inl h
    · have hd' : ∀ d, dst = some d → d < a.tmps.size := fun d e => by rw [hR.sz]; exact hd d e
      have h1' : get (put1 dst v s.t) i = .sc (.own es l) := h1
      rw [get_put1] at h1'
      rw [getD_put a dst x i hd'] at h2
      by_cases e : dst = some i
      · rw [if_pos e] at h1'
        subst h1'
        cases hv with
        | sc _ _ h => exact absurd rfl (h.not_own es l)
      · rw [if_neg e] at h1' h2
        exact .inr ⟨i, es, l, ad, n, cap, h1', h2, h3⟩
  im := fun _ _ _ h => .inl h
  mm := fun _ _ h => .inl h

theorem Goes.putOwn (hR : Rel S G g nt s a w) {dst : Option Nat} {es : Nat} {l : List (List C)} {b off cap : Nat} (ho : OwnAt S g w es l b off cap) (hu : Unclaimed g s a w b) (hd : ∀ d, dst = some d → d < nt) :
    Rel S G g nt { t := put1 dst (.sc (.own es l)) s.t, h := s.h } (a.put dst (.slice (some ⟨b, off, none⟩) l.length cap)) w ∧
      ∀ i c, ClaimT (put1 dst (.sc (.own es l)) s.t) (a.put dst (.slice (some ⟨b, off, none⟩) l.length cap)).tmps i c → ClaimT s.t a.tmps i c ∨ c = b := by
  have hd' : ∀ d, dst = some d → d < a.tmps.size := fun d e => by rw [hR.sz]; exact hd d e
  have hc : ∀ i c, ClaimT (put1 dst (.sc (.own es l)) s.t) (a.put dst (.slice (some ⟨b, off, none⟩) l.length cap)).tmps i c → (dst ≠ some i ∧ ClaimT s.t a.tmps i c) ∨ (dst = some i ∧ c = b) := by
    rintro i c ⟨es', l', ad, n, cap', h1, h2, h3⟩
    rw [get_put1] at h1
    rw [getD_put a dst _ i hd'] at h2
    by_cases e : dst = some i
    · rw [if_pos e] at h1 h2
      simp only [Value.slice.injEq, Option.some.injEq] at h2
      obtain ⟨rfl, _⟩ := h2
      exact .inr ⟨e, h3.symm⟩
    · rw [if_neg e] at h1 h2
      exact .inl ⟨e, es', l', ad, n, cap', h1, h2, h3⟩
  refine ⟨⟨hR.hp, by rw [size_put]; exact hR.sz, fun i => ?_, fun i i' c d e => ?_, fun i c r j d e => ?_, fun i c r o d e hl => ?_⟩, fun i c d => ?_⟩
  · show RT S g w (get (put1 dst _ s.t) i) _
    rw [get_put1, getD_put a dst _ i hd']
    by_cases e : dst = some i
    · rw [if_pos e, if_pos e]; exact .own _ _ _ _ _ ho
    · rw [if_neg e, if_neg e]; exact hR.tm i
  · rcases hc i c d with ⟨_, d1⟩ | ⟨hi, hcb⟩
    · rcases hc i' c e with ⟨_, e1⟩ | ⟨hi', hcb⟩
      · exact hR.exT i i' c d1 e1
      · exact absurd (hcb ▸ d1) (hu.t i)
    · rcases hc i' c e with ⟨_, e1⟩ | ⟨hi', _⟩
      · exact absurd (hcb ▸ e1) (hu.t i')
      · rw [hi] at hi'; exact Option.some.inj hi'
  · rcases hc i c d with ⟨_, d1⟩ | ⟨_, hcb⟩
    · exact hR.exTH i c r j d1 e
    · exact hu.h r j (hcb ▸ e)
  · rcases hc i c d with ⟨_, d1⟩ | ⟨_, hcb⟩
    · exact hR.clT i c r o d1 e hl
    · rw [hcb]; exact hu.o r o e hl
  · rcases hc i c d with ⟨_, d1⟩ | ⟨_, hcb⟩
    · exact .inl d1
    · exact .inr hcb

theorem RObj.same {r : Nat} {o : Obj} (hr : h[r]? = some o) (hR : RObj S G g w o (g.σ r)) (hle : g.Le g') (hσ : live o = true → g'.σ r = g.σ r) (h1 : live o = true → w'.heap[g.σ r]? = w.heap[g.σ r]?)
    (h2 : ∀ j b, ClaimH g h w r j b → w'.heap[b]? = w.heap[b]? ∧ ∀ o, g'.M b o = g.M b o) : RObj S G g' w' o (g'.σ r) := by
  cases o with
  | dead => trivial
  | free => trivial
  | var cs =>
    rw [hσ rfl]
    obtain ⟨vals, elem, hb, hs, hro⟩ := hR
    refine ⟨vals, elem, by rw [h1 rfl]; exact hb, hs, fun j c x e1 e2 => ?_⟩
    have := hro j c x e1 e2
    cases this with
    | rc _ _ hrc => exact .rc _ _ (hrc.mono hle)
    | own es l b off cap ho =>
      obtain ⟨k1, k2⟩ := h2 j b ⟨cs, es, l, vals, elem, (0, 0), ⟨b, off, none⟩, l.length, cap, hr, e1, hb, e2, rfl⟩
      exact .own _ _ _ _ _ (ho.mono hle k1 k2)
  | map ka va l ph =>
    rw [hσ rfl]
    obtain ⟨es, hb, h3, h4, h5, h6⟩ := hR
    exact ⟨es, by rw [h1 rfl]; exact hb, h3, h4, fun i e m a b => let ⟨x, y, z⟩ := h5 i e m a b; ⟨x.mono hle, y.mono hle, z⟩, fun p z m a b => let ⟨x, y, z⟩ := h6 p z m a b; ⟨x.mono hle, y.mono hle, z⟩⟩
  | loop st pend t ps x y =>
    rw [hσ rfl]
    obtain ⟨L, n, hb, h3, h4, h5, h6, h7, h8, h9, h10⟩ := hR
    exact ⟨L, n, by rw [h1 rfl]; exact hb, h3, h4, h5, h6, h7, h8, fun i => (h9 i).mono hle, h10⟩

theorem get_set {h : List Obj} {p : Nat} {o' : Obj} {r : Nat} {o : Obj} (e : (h.set p o')[r]? = some o) : (r = p ∧ o = o' ∧ p < h.length) ∨ (r ≠ p ∧ h[r]? = some o) := by
  rw [List.getElem?_set] at e
  split at e
  · rename_i hpr
    subst hpr
    split at e
    · simp only [Option.some.injEq] at e
      exact .inl ⟨rfl, e.symm, by assumption⟩
    · cases e
  · rename_i hpr
    exact .inr ⟨fun h => hpr h.symm, e⟩

theorem get_set_ne {h : List Obj} {p : Nat} {o' : Obj} {r : Nat} (e : r ≠ p) : (h.set p o')[r]? = h[r]? := by
  rw [List.getElem?_set, if_neg (fun h => e h.symm)]

theorem Goes.write (hR : Rel S G g nt s a w) {p : Nat} {o o' : Obj} {takes : List Nat} {off0 : Nat} (hp : s.h[p]? = some o) (hl' : live o' = true) (hle : g.Le g')
    (hA : ∀ r, g'.A r → r = p ∨ g.A r) (hAp : g'.A p) (hσ : ∀ r, r ≠ p → g'.σ r = g.σ r) (hM : g'.M = g.M) (hN : g'.N = g.N)
    (hf1 : ∀ (r : Nat) o, s.h[r]? = some o → live o = true → r ≠ p → g.σ r ≠ g'.σ p) (hf2 : ∀ r j b, ClaimH g s.h w r j b → b ≠ g'.σ p) (hf3 : ∀ i b, ClaimT s.t a.tmps i b → b ≠ g'.σ p)
    (hf4 : ∀ k, g.M (g'.σ p) k = none) (hf5 : g.N (g'.σ p) = none)
    (hsame : ∀ b, b ≠ g'.σ p → b < w.heap.size → w'.heap[b]? = w.heap[b]?) (hsize : w.heap.size ≤ w'.heap.size) (hout : w'.output = w.output) (hos : w'.os = w.os) (htape : w'.tape = w.tape)
    (hperm : g'.σ p < w.heap.size → PermH g s.h w (g'.σ p))
    (hob : RObj S G g' w' o' (g'.σ p))
    (hclaim : ∀ j b, ClaimH g' (s.h.set p o') w' p j b → ClaimH g s.h w p j b ∨ (j = off0 ∧ ∃ i ∈ takes, ClaimT s.t a.tmps i b)) :
    Goes S G nt g g' s { t := Pm.drop takes s.t, h := s.h.set p o' } a a w w' := by
  have hplt : p < s.h.length := (List.getElem?_eq_some_iff.1 hp).1
  have hsetp : (s.h.set p o')[p]? = some o' := by simp [hplt]
  have hclaimO : ∀ r j b, r ≠ p → ClaimH g' (s.h.set p o') w' r j b → ClaimH g s.h w r j b := by
    rintro r j b hr ⟨cs, es, l, vals, elem, fr, ad, n, cap, h1, h2, h3, h4, rfl⟩
    rw [get_set_ne hr] at h1
    rw [hσ r hr, hsame _ (hf1 r _ h1 rfl hr) (live_lt hR.hp h1 rfl)] at h3
    exact ⟨cs, es, l, vals, elem, fr, ad, n, cap, h1, h2, h3, h4, rfl⟩
  have hall : ∀ r j b, ClaimH g' (s.h.set p o') w' r j b → ClaimH g s.h w r j b ∨ (r = p ∧ j = off0 ∧ ∃ i ∈ takes, ClaimT s.t a.tmps i b) := by
    intro r j b hc
    by_cases hr : r = p
    · subst hr
      rcases hclaim j b hc with h | ⟨h, h2⟩
      · exact .inl h
      · exact .inr ⟨rfl, h, h2⟩
    · exact .inl (hclaimO r j b hr hc)
  have hMw : ∀ b o v, g.M b o = some v → w'.heap[b]? = w.heap[b]? := fun b o v e =>
    hsame b (fun h => by rw [h, hf4] at e; cases e) (M_lt hR.hp e)
  have hNw : ∀ b es, g.N b = some es → w'.heap[b]? = w.heap[b]? := fun b es e =>
    hsame b (fun h => by rw [h, hf5] at e; cases e) (N_lt hR.hp e)
  have hlive : ∀ (r : Nat) o, (s.h.set p o')[r]? = some o → live o = true → r = p ∨ (r ≠ p ∧ s.h[r]? = some o) := fun r o e _ => by
    rcases get_set e with ⟨h, _⟩ | h
    · exact .inl h
    · exact .inr h
  have hown : ∀ {es l b off cap}, b ≠ g'.σ p → OwnAt S g w es l b off cap → OwnAt S g' w' es l b off cap := fun hb ho =>
    ho.mono hle (hsame _ hb ho.lt) (fun _ => by rw [hM])
  have hH : RelH S G g' (s.h.set p o') w' := by
    refine ⟨fun r o1 e => ?_, fun r hr => ?_, fun r o1 e hl => ?_, fun r r' o1 o2 e e' hl1 hl2 hs => ?_, fun b k v e => ?_, fun b es e => ?_, fun r o1 e hl k => ?_, fun r o1 e hl => ?_, fun id hid => (hR.hp.gl id hid).mono hle, fun r j r' j' b c1 c2 => ?_, fun r j b r' o1 c e hl => ?_⟩
    · rcases get_set e with ⟨rfl, rfl, _⟩ | ⟨hr, e⟩
      · exact hob
      · refine RObj.same e (hR.hp.ob r o1 e) hle (fun _ => hσ r hr) (fun hl => hsame _ (hf1 r o1 e hl hr) (live_lt hR.hp e hl)) fun j b hc => ⟨hsame _ (hf2 r j b hc) (claimH_lt hR.hp hc), fun _ => by rw [hM]⟩
    · by_cases h : r = p
      · subst h; exact ⟨o', hsetp, by cases o' <;> simp [live, isFreeO] at hl' ⊢⟩
      · rw [get_set_ne h]
        exact hR.hp.as r ((hA r hr).resolve_left h)
    · rcases hlive r o1 e hl with rfl | ⟨_, e⟩
      · exact hAp
      · exact hle.as r (hR.hp.lv r o1 e hl)
    · rcases hlive r o1 e hl1 with hrp | ⟨hr, e1⟩
      · rcases hlive r' o2 e' hl2 with hrp' | ⟨hr', e2⟩
        · rw [hrp, hrp']
        · rw [hσ r' hr', hrp] at hs; exact absurd hs.symm (hf1 r' o2 e2 hl2 hr')
      · rcases hlive r' o2 e' hl2 with hrp' | ⟨hr', e2⟩
        · rw [hσ r hr, hrp'] at hs; exact absurd hs (hf1 r o1 e1 hl1 hr)
        · rw [hσ r hr, hσ r' hr'] at hs; exact hR.hp.inj r r' o1 o2 e1 e2 hl1 hl2 hs
    · rw [hM] at e
      have := hR.hp.im b k v e
      simp only [World.cell?] at this ⊢
      rw [hMw b k v e]; exact this
    · rw [hN] at e
      obtain ⟨n, hn⟩ := hR.hp.mm b es e
      exact ⟨n, by rw [hNw b es e]; exact hn⟩
    · rcases hlive r o1 e hl with rfl | ⟨hr, e⟩
      · rw [hM]; exact hf4 k
      · rw [hM, hσ r hr]; exact hR.hp.djM r o1 e hl k
    · rcases hlive r o1 e hl with rfl | ⟨hr, e⟩
      · rw [hN]; exact hf5
      · rw [hN, hσ r hr]; exact hR.hp.djN r o1 e hl
    · rcases hall r j b c1 with d1 | ⟨hr1, hj1, i, hi, d1⟩
      · rcases hall r' j' b c2 with d2 | ⟨hr2, hj2, i, hi, d2⟩
        · exact hR.hp.ex r j r' j' b d1 d2
        · exact (hR.exTH i b r j d2 d1).elim
      · rcases hall r' j' b c2 with d2 | ⟨hr2, hj2, i', hi', d2⟩
        · exact (hR.exTH i b r' j' d1 d2).elim
        · exact ⟨hr1.trans hr2.symm, hj1.trans hj2.symm⟩
    · rcases hlive r' o1 e hl with hrp | ⟨hr', e1⟩
      · rw [hrp]
        rcases hall r j b c with d | ⟨_, _, i, hi, d⟩
        · exact fun h => hf2 r j b d h.symm
        · exact fun h => hf3 i b d h.symm
      · rw [hσ r' hr']
        rcases hall r j b c with d | ⟨_, _, i, hi, d⟩
        · exact hR.hp.cl r j b r' o1 d e1 hl
        · exact hR.clT i b r' o1 d e1 hl
  refine ⟨hle, ⟨hH, hR.sz, fun i => ?_, fun i i' b c d => hR.exT i i' b c.of_drop.1 d.of_drop.1, fun i b r j c d => ?_, fun i b r o1 c e hl => ?_⟩, ⟨hsize, fun b hb hn => hsame b (fun h => hn (.inl (h ▸ hperm (h ▸ hb)))) hb, hout, hos, htape⟩, fun b hb hp => ?_, fun b o v e => .inl (by rw [← hM]; exact e), fun b es e => .inl (by rw [← hN]; exact e)⟩
  · show RT S g' w' (get (Pm.drop takes s.t) i) _
    have ht := hR.tm i
    rw [get_drop]
    split
    · exact .rv _ _ (ht.unown.mono hle)
    · generalize hv : get s.t i = v at ht
      generalize hx : a.tmps.getD i undef = x at ht
      cases ht with
      | rv _ _ h => exact .rv _ _ (h.mono hle)
      | own es l b off cap ho => exact .own _ _ _ _ _ (hown (hf3 i b ⟨es, l, _, _, _, hv, hx, rfl⟩) ho)
  · obtain ⟨c1, hi⟩ := c.of_drop
    rcases hall r j b d with d1 | ⟨_, _, i', hi', d1⟩
    · exact hR.exTH i b r j c1 d1
    · have := hR.exT i i' b c1 d1
      subst this
      exact hi hi'
  · obtain ⟨c1, hi⟩ := c.of_drop
    rcases hlive r o1 e hl with hrp | ⟨hr', e1⟩
    · rw [hrp]; exact fun h => hf3 i b c1 h.symm
    · rw [hσ r hr']; exact hR.clT i b r o1 c1 e1 hl
  · rcases hp with (⟨r, o1, h1, h2, rfl⟩ | ⟨r, j, hc⟩) | ⟨i, hc⟩
    · rcases hlive r o1 h1 h2 with rfl | ⟨hr', e⟩
      · exact .inl (hperm hb)
      · exact .inl (.inl ⟨r, o1, e, h2, (hσ r hr').symm⟩)
    · rcases hall r j b hc with c | ⟨_, _, i, _, c⟩
      · exact .inl (.inr ⟨r, j, c⟩)
      · exact .inr ⟨i, c⟩
    · exact .inr ⟨i, hc.of_drop.1⟩

theorem Goes.modify (hR : Rel S G g nt s a w) {p : Nat} {o o' : Obj} {takes : List Nat} {off0 : Nat} (hp : s.h[p]? = some o) (hl : live o = true) (hl' : live o' = true)
    (hsame : ∀ b, b ≠ g.σ p → w'.heap[b]? = w.heap[b]?) (hsize : w'.heap.size = w.heap.size) (hout : w'.output = w.output) (hos : w'.os = w.os) (htape : w'.tape = w.tape)
    (hob : RObj S G g w' o' (g.σ p))
    (hclaim : ∀ j b, ClaimH g (s.h.set p o') w' p j b → ClaimH g s.h w p j b ∨ (j = off0 ∧ ∃ i ∈ takes, ClaimT s.t a.tmps i b)) :
    Goes S G nt g g s { t := Pm.drop takes s.t, h := s.h.set p o' } a a w w' :=
  Goes.write hR hp hl' (.refl g) (fun _ h => .inr h) (hR.hp.lv p o hp hl) (fun _ _ => rfl) rfl rfl
    (fun r o1 e hl1 hr h => hr (hR.hp.inj r p o1 o e hp hl1 hl h)) (fun r j b c h => hR.hp.cl r j b p o c hp hl h.symm) (fun i b c h => hR.clT i b p o c hp hl h.symm)
    (fun k => hR.hp.djM p o hp hl k) (hR.hp.djN p o hp hl) (fun b hb _ => hsame b hb) (Nat.le_of_eq hsize.symm) hout hos htape (fun _ => .inl ⟨p, o, hp, hl, rfl⟩) hob hclaim

def Gh.with (g : Gh) (p b : Nat) : Gh := { g with σ := fun r => if r = p then b else g.σ r, A := fun r => r = p ∨ g.A r }

theorem Goes.born (hR : Rel S G g nt s a w) {p : Nat} {o' : Obj} {takes : List Nat} {off0 : Nat} {ob : Go.Obj} (hp : s.h[p]? = some .free) (hl' : live o' = true)
    (hob : RObj S G (g.with p w.heap.size) (w.alloc ob) o' w.heap.size)
    (hclaim : ∀ j b, ClaimH (g.with p w.heap.size) (s.h.set p o') (w.alloc ob) p j b → j = off0 ∧ ∃ i ∈ takes, ClaimT s.t a.tmps i b) :
    Goes S G nt g (g.with p w.heap.size) s { t := Pm.drop takes s.t, h := s.h.set p o' } a a w (w.alloc ob) := by
  have hσp : (g.with p w.heap.size).σ p = w.heap.size := by simp [Gh.with]
  have hne : ∀ r, g.A r → r ≠ p := fun r hA h => by
    subst h
    obtain ⟨o, ho, hf⟩ := hR.hp.as r hA
    rw [hp] at ho
    simp only [Option.some.injEq] at ho
    subst ho
    simp [isFreeO] at hf
  refine Goes.write hR hp hl' ⟨fun r h => .inr h, fun r h => by simp [Gh.with, hne r h], fun _ _ _ h => h, fun _ _ h => h⟩ (fun _ h => h) (.inl rfl) (fun r hr => by simp [Gh.with, hr]) rfl rfl
    (fun r o1 e hl1 _ h => ?_) (fun r j b c h => ?_) (fun i b c h => ?_) (fun k => ?_) ?_ (fun b hb hlt => heap_alloc_old w ob b hlt) (by simp) rfl rfl rfl (fun h => ?_) (by rw [hσp]; exact hob) (fun j b c => .inr (hclaim j b c))
  · have := live_lt hR.hp e hl1; rw [hσp] at h; omega
  · have := claimH_lt hR.hp c; rw [hσp] at h; omega
  · have := claimT_lt hR c; rw [hσp] at h; omega
  · rw [hσp]
    cases e : g.M w.heap.size k with
    | none => rfl
    | some v => have := M_lt hR.hp e; omega
  · rw [hσp]
    cases e : g.N w.heap.size with
    | none => rfl
    | some v => have := N_lt hR.hp e; omega
  · rw [hσp] at h; omega

theorem Goes.extend (hR : Rel S G g nt s a w) {i b : Nat} (hc : ClaimT s.t a.tmps i b) (hσ : g'.σ = g.σ) (hA : g'.A = g.A) (hN : g'.N = g.N) (hM : ∀ b' o v, g.M b' o = some v → g'.M b' o = some v)
    (hMo : ∀ b' o, b' ≠ b → g'.M b' o = g.M b' o) (him : ∀ o v, g'.M b o = some v → w'.cell? ⟨b, o, none⟩ = some v) (hcell : ∃ cs elem fr, w.heap[b]? = some (.cells cs elem fr))
    (hsame : ∀ b', b' ≠ b → w'.heap[b']? = w.heap[b']?) (hsize : w'.heap.size = w.heap.size) (hout : w'.output = w.output) (hos : w'.os = w.os) (htape : w'.tape = w.tape) :
    Goes S G nt g g' s { t := Pm.drop [i] s.t, h := s.h } a a w w' ∧ Unclaimed g' { t := Pm.drop [i] s.t, h := s.h } a w' b := by
  have hle : g.Le g' := ⟨fun r h => by rw [hA]; exact h, fun r _ => by rw [hσ], hM, fun b es h => by rw [hN]; exact h⟩
  have hlv : ∀ (r : Nat) o, s.h[r]? = some o → live o = true → g.σ r ≠ b := fun r o e hl => hR.clT i b r o hc e hl
  have hcH : ∀ r j c, ClaimH g' s.h w' r j c → ClaimH g s.h w r j c := by
    rintro r j c ⟨cs, es, l, vals, elem, fr, ad, n, cap, h1, h2, h3, h4, rfl⟩
    rw [hσ, hsame _ (hlv r _ h1 rfl)] at h3
    exact ⟨cs, es, l, vals, elem, fr, ad, n, cap, h1, h2, h3, h4, rfl⟩
  have hH : RelH S G g' s.h w' := by
    refine ⟨fun r o1 e => ?_, fun r hr => hR.hp.as r (by rw [hA] at hr; exact hr), fun r o1 e hl => by rw [hA]; exact hR.hp.lv r o1 e hl, fun r r' o1 o2 e e' hl1 hl2 hs => hR.hp.inj r r' o1 o2 e e' hl1 hl2 (by rw [hσ] at hs; exact hs), fun c k v e => ?_, fun c es e => ?_,
      fun r o1 e hl k => by rw [hσ, hMo _ _ (hlv r o1 e hl)]; exact hR.hp.djM r o1 e hl k, fun r o1 e hl => by rw [hσ, hN]; exact hR.hp.djN r o1 e hl, fun id hid => (hR.hp.gl id hid).mono hle, fun r j r' j' c c1 c2 => hR.hp.ex r j r' j' c (hcH _ _ _ c1) (hcH _ _ _ c2),
      fun r j c r' o1 c1 e hl => by rw [hσ]; exact hR.hp.cl r j c r' o1 (hcH _ _ _ c1) e hl⟩
    · refine RObj.same e (hR.hp.ob r o1 e) hle (fun _ => by rw [hσ]) (fun hl => hsame _ (hlv r o1 e hl)) fun j c hcl => ?_
      have : c ≠ b := fun h => hR.exTH i b r j hc (h ▸ hcl)
      exact ⟨hsame c this, fun o => hMo c o this⟩
    · by_cases hb : c = b
      · subst hb; exact him k v e
      · rw [hMo c k hb] at e
        have := hR.hp.im c k v e
        simp only [World.cell?] at this ⊢
        rw [hsame c hb]; exact this
    · rw [hN] at e
      obtain ⟨n, hn⟩ := hR.hp.mm c es e
      refine ⟨n, ?_⟩
      have : c ≠ b := by
        rintro rfl
        obtain ⟨cs, elem, fr, h⟩ := hcell
        rw [h] at hn
        cases hn
      rw [hsame c this]; exact hn
  refine ⟨⟨hle, ⟨hH, hR.sz, fun j => ?_, fun j j' c d e => hR.exT j j' c d.of_drop.1 e.of_drop.1, fun j c r k d e => hR.exTH j c r k d.of_drop.1 (hcH _ _ _ e), fun j c r o1 d e hl => by rw [hσ]; exact hR.clT j c r o1 d.of_drop.1 e hl⟩,
    ⟨Nat.le_of_eq hsize.symm, fun c _ hn => hsame c (fun h => hn (.inr ⟨i, h ▸ hc⟩)), hout, hos, htape⟩, fun c _ hp => ?_, fun c o v e => ?_, fun c es e => .inl (by rw [← hN]; exact e)⟩, ?_⟩
  · show RT S g' w' (get (Pm.drop [i] s.t) j) _
    have ht := hR.tm j
    rw [get_drop]
    split
    · exact .rv _ _ (ht.unown.mono hle)
    · rename_i hj
      generalize hv : get s.t j = v at ht
      generalize hx : a.tmps.getD j undef = x at ht
      cases ht with
      | rv _ _ h => exact .rv _ _ (h.mono hle)
      | own es l c off cap ho =>
        have hcb : c ≠ b := by
          rintro rfl
          exact hj (by rw [hR.exT j i c ⟨es, l, _, _, _, hv, hx, rfl⟩ hc]; simp)
        exact .own _ _ _ _ _ (ho.mono hle (hsame c hcb) (fun o => hMo c o hcb))
  · rcases hp with (⟨r, o1, h1, h2, rfl⟩ | ⟨r, j, hc'⟩) | ⟨j, hc'⟩
    · exact .inl (.inl ⟨r, o1, h1, h2, by rw [hσ]⟩)
    · exact .inl (.inr ⟨r, j, hcH _ _ _ hc'⟩)
    · exact .inr ⟨j, hc'.of_drop.1⟩
  · by_cases hb : c = b
    · subst hb; exact .inr (.inr (.inr ⟨i, hc⟩))
    · rw [hMo c o hb] at e; exact .inl e
  · refine ⟨fun j hj => ?_, fun r j hj => hR.exTH i b r j hc (hcH _ _ _ hj), fun r o1 e hl => by rw [hσ]; exact hlv r o1 e hl⟩
    obtain ⟨h1, h2⟩ := hj.of_drop
    exact h2 (by rw [hR.exT j i b h1 hc]; simp)

end
end Go.Pm

namespace Go.Pm

inductive Val (S : Seat) (g : Gh) (s : St) (a : Act) (w : World) (p : Nat → Prop) : V → Value → Prop
  | rv (v : V) (x : Value) (h : RV S g v x) : Val S g s a w p v x
  | own (es : Nat) (l : List (List C)) (b off cap : Nat) (h : OwnAt S g w es l b off cap) (hu : Unclaimed g s a w b) (hp : p b) : Val S g s a w p (.sc (.own es l)) (.slice (some ⟨b, off, none⟩) l.length cap)

def Does (S : Seat) (G : List Nat) (nt : Nat) (g : Gh) (s : St) (a : Act) (w : World) (o : Go.Op) (takes : List Nat) (v : V) (h : List Obj) : Prop :=
  ∀ o' : Go.Oper, o'.op = o → ∃ x n w' g', (execOp a.eval o').run S.P w = .ok n w' ∧ (n = .value x ∨ (n = .skip ∧ x = undef)) ∧ Goes S G nt g g' s { t := drop takes s.t, h := h } a a w w' ∧
    Val S g' { t := drop takes s.t, h := h } a w' (fun b => b < w.heap.size → Perm g s a w b) v x

section
variable {S : Seat} {G : List Nat} {g g' g'' : Gh} {nt : Nat} {s s' s'' : St} {a a' a'' : Act} {w w' w'' : World} {h : List Obj} {base : Nat} {v : V} {ws : List (Nat × Obj)} {takes : List Nat}

theorem Goes.val {p : Nat → Prop} (hg : Goes S G nt g g' s s' a a w w') {x : Value} (hv : Val S g' s' a w' p v x) (hp : ∀ b, p b → b < w.heap.size → Perm g s a w b) {dst : Option Nat} (hd : ∀ d, dst = some d → d < nt) :
    Goes S G nt g g' s { t := put1 dst v s'.t, h := s'.h } a (a.put dst x) w w' := by
  cases hv with
  | rv _ _ h => exact hg.trans (.put hg.rel h hd)
  | own es l b off cap ho hu hpb =>
    obtain ⟨h1, h2⟩ := Goes.putOwn hg.rel ho hu hd
    refine ⟨hg.le, h1, hg.keeps, fun c hc hpm => ?_, hg.im, hg.mm⟩
    rcases hpm with h | ⟨i, hci⟩
    · exact hg.back c hc (.inl h)
    · rcases h2 i c hci with h | rfl
      · exact hg.back c hc (.inr ⟨i, h⟩)
      · exact hp c hpb hc

theorem Does.step {o : Go.Op} (hd : Does S G nt g s a w o takes v h) {o' : Go.Oper} (ho : o'.op = o) {dst : Option Nat} (hdst : ∀ d, dst = some d → d < nt) :
    ∃ x n w' g', (execOp a.eval o').run S.P w = .ok n w' ∧ (n = .value x ∨ (n = .skip ∧ x = undef)) ∧ Goes S G nt g g' s { t := put1 dst v (drop takes s.t), h := h } a (a.put dst x) w w' := by
  obtain ⟨x, n, w', g', h1, h2, h3, h4⟩ := hd o' ho
  exact ⟨x, n, w', g', h1, h2, h3.val h4 (fun b hb => hb) hdst⟩

theorem drop_nil (t : List (Nat × V)) : drop [] t = t := rfl

theorem Looks.does (hR : Rel S G g nt s a w) {o : Go.Op} (hl : Looks S g a w o v) : Does S G nt g s a w o [] v s.h := fun o' ho =>
  let ⟨x, h1, h2⟩ := hl o' ho
  ⟨x, _, w, g, h1, .inl rfl, .refl hR, .rv _ _ h2⟩

theorem taken_unclaimed (hR : Rel S G g nt s a w) {i b : Nat} (hc : ClaimT s.t a.tmps i b) : Unclaimed g { t := drop [i] s.t, h := s.h } a w b where
  t := fun j hj => by
    obtain ⟨h1, h2⟩ := hj.of_drop
    exact h2 (by rw [hR.exT j i b h1 hc]; simp)
  h := fun r j hj => hR.exTH i b r j hc hj
  o := fun r o e hl => hR.clT i b r o hc e hl

theorem mv_does (hR : Rel S G g nt s a w) {x : Rand} {x' : Operand} {o : Go.Op} (h1 : MT S G x x') (ho : o = .move x' ∨ o = .assign x') (e : eff base s.h (rd S.Γ s.t) (.mv x) = some (v, ws)) :
    ws = [] ∧ Does S G nt g s a w o x.takes v s.h := by
  simp only [eff, Option.some.injEq, Prod.mk.injEq] at e
  obtain ⟨rfl, rfl⟩ := e
  have hrun : ∀ o' : Go.Oper, o'.op = o → (execOp a.eval o').run S.P w = .ok (.value (a.eval x')) w := fun o' ho' => by
    rcases ho with rfl | rfl <;> simp [execOp, ho']
  refine ⟨rfl, fun o' ho' => ?_⟩
  cases h1 with
  | r _ _ h =>
    have ht : x.takes = [] := by cases h <;> rfl
    rw [ht]
    exact ⟨_, _, w, g, hrun o' ho', .inl rfl, .refl hR, .rv _ _ (rd_rv hR h)⟩
  | tk i =>
    refine ⟨_, _, w, g, hrun o' ho', .inl rfl, .drop hR [i], ?_⟩
    have ht := hR.tm i
    show Val S g _ a w _ (get s.t i) (a.tmps.getD i undef)
    generalize hv : get s.t i = v at ht
    generalize hx : a.tmps.getD i undef = x at ht
    cases ht with
    | rv _ _ h => exact .rv _ _ h
    | own es l b off cap ho' =>
      have hc : ClaimT s.t a.tmps i b := ⟨es, l, _, _, _, hv, hx, rfl⟩
      exact .own _ _ _ _ _ ho' (taken_unclaimed hR hc) (fun _ => .inr ⟨i, hc⟩)

/-! ### Cells written one by one -/

theorem setAll_length : ∀ (vs cs : List C) (off : Nat), (setAll cs off vs).length = cs.length
  | [], _, _ => rfl
  | v :: vs, cs, off => by simp [setAll, setAll_length vs]

theorem setAll_get : ∀ (vs cs : List C) (off j : Nat), off + vs.length ≤ cs.length → (setAll cs off vs)[j]? = if off ≤ j ∧ j < off + vs.length then vs[j - off]? else cs[j]?
  | [], cs, off, j, _ => by
    have : ¬ (off ≤ j ∧ j < off + 0) := by omega
    simp only [setAll, List.length_nil, if_neg this]
  | v :: vs, cs, off, j, h => by
    simp only [List.length_cons] at h
    rw [setAll, setAll_get vs (cs.set off v) (off + 1) j (by simp; omega)]
    by_cases hj : j = off
    · subst hj
      have h1 : ¬ (j + 1 ≤ j ∧ j < j + 1 + vs.length) := by omega
      have h2 : j ≤ j ∧ j < j + (v :: vs).length := by simp
      rw [if_neg h1, if_pos h2]
      rw [List.getElem?_set_self (by omega)]
      simp
    · have h3 : off ≠ j := fun h => hj h.symm
      by_cases hc : off + 1 ≤ j ∧ j < off + 1 + vs.length
      · have h2 : off ≤ j ∧ j < off + (v :: vs).length := by simp; omega
        rw [if_pos hc, if_pos h2, show j - off = (j - (off + 1)) + 1 from by omega]
        simp
      · have h2 : ¬ (off ≤ j ∧ j < off + (v :: vs).length) := by simp; omega
        rw [if_neg hc, if_neg h2, List.getElem?_set_ne h3]

theorem fold_get : ∀ (vs : List Value) (k : Nat) (cells : Array Value) (off j : Nat), off + k + vs.length ≤ cells.size →
    ((vs.zipIdx k).foldl (fun cs (p : Value × Nat) => cs.setIfInBounds (off + p.2) p.1) cells)[j]? = if off + k ≤ j ∧ j < off + k + vs.length then vs[j - (off + k)]? else cells[j]?
  | [], k, cells, off, j, _ => by
    have : ¬ (off + k ≤ j ∧ j < off + k + 0) := by omega
    simp only [List.zipIdx_nil, List.foldl_nil, List.length_nil, if_neg this]
  | v :: vs, k, cells, off, j, h => by
    simp only [List.length_cons] at h
    rw [List.zipIdx_cons, List.foldl_cons, fold_get vs (k + 1) _ off j (by simp; omega)]
    by_cases hj : j = off + k
    · subst hj
      have h1 : ¬ (off + (k + 1) ≤ off + k ∧ off + k < off + (k + 1) + vs.length) := by omega
      have h2 : off + k ≤ off + k ∧ off + k < off + k + (v :: vs).length := by simp
      rw [if_neg h1, if_pos h2]
      have : off + k < cells.size := by omega
      simp [this]
    · have h3 : off + k ≠ j := fun h => hj h.symm
      by_cases hc : off + (k + 1) ≤ j ∧ j < off + (k + 1) + vs.length
      · have h2 : off + k ≤ j ∧ j < off + k + (v :: vs).length := by simp; omega
        rw [if_pos hc, if_pos h2, show j - (off + k) = (j - (off + (k + 1))) + 1 from by omega]
        simp
      · have h2 : ¬ (off + k ≤ j ∧ j < off + k + (v :: vs).length) := by simp; omega
        rw [if_neg hc, if_neg h2]
        simp [h3]

theorem fold_size : ∀ (vs : List Value) (k : Nat) (cells : Array Value) (off : Nat), ((vs.zipIdx k).foldl (fun cs (p : Value × Nat) => cs.setIfInBounds (off + p.2) p.1) cells).size = cells.size
  | [], k, cells, off => rfl
  | v :: vs, k, cells, off => by rw [List.zipIdx_cons, List.foldl_cons, fold_size vs]; simp

def Cells (S : Seat) (g : Gh) (cs : List C) (vals : Array Value) : Prop := cs.length = vals.size ∧ ∀ (j : Nat) c x, cs[j]? = some c → vals[j]? = some x → RC S g c x

theorem cells_of {v : V} {x : Value} (h : RV S g v x) (hn : 0 < v.cells.length) : Cells S g v.cells x.cells :=
  h.cells (by rintro rfl; simp [V.cells] at hn) (by rintro vs rfl; simp [V.cells] at hn)

theorem Cells.set {cs vs : List C} {vals xs : Array Value} {off : Nat} (h : Cells S g cs vals) (hv : Cells S g vs xs) (hle : off + vs.length ≤ cs.length) :
    Cells S g (setAll cs off vs) (xs.zipIdx.foldl (fun cs (p : Value × Nat) => cs.setIfInBounds (off + p.2) p.1) vals) := by
  have e : xs.zipIdx.foldl (fun cs (p : Value × Nat) => cs.setIfInBounds (off + p.2) p.1) vals = (xs.toList.zipIdx 0).foldl (fun cs (p : Value × Nat) => cs.setIfInBounds (off + p.2) p.1) vals := by
    rw [← Array.foldl_toList]; simp
  rw [e]
  have hlen : xs.toList.length = vs.length := by simp [hv.1]
  refine ⟨by rw [setAll_length, fold_size]; exact h.1, fun j c x h1 h2 => ?_⟩
  rw [setAll_get _ _ _ _ hle] at h1
  rw [fold_get _ _ _ _ _ (by rw [hlen, ← h.1]; exact hle), hlen] at h2
  simp only [Nat.add_zero] at h2
  split at h1
  · rename_i hc
    rw [if_pos hc] at h2
    exact hv.2 _ _ _ h1 (by simpa using h2)
  · rename_i hc
    rw [if_neg hc] at h2
    exact h.2 _ _ _ h1 h2

theorem fill_run {f : Nat → Option (Nat × Nat)} : ∀ (ps : List (Nat × Nat × V)) (parts : List (Nat × Value)) (zs cs : List C) (vals : Array Value), (ps.map fun p => some (p.1, p.2.1)) = (parts.map fun p => f p.1) →
    (∀ (j : Nat) p q, ps[j]? = some p → parts[j]? = some q → RV S g p.2.2 q.2) → Cells S g zs vals → fillCells zs ps = some cs → ∃ vals', Instr.fill f vals parts = some vals' ∧ Cells S g cs vals'
  | [], parts, zs, cs, vals, hp, _, hz, e => by
    cases parts with
    | cons => simp at hp
    | nil =>
      simp only [fillCells, Option.some.injEq] at e
      subst e
      exact ⟨vals, rfl, hz⟩
  | (off, n, v) :: ps, parts, zs, cs, vals, hp, hr, hz, e => by
    cases parts with
    | nil => simp at hp
    | cons q parts =>
      obtain ⟨i, x⟩ := q
      simp only [List.map_cons, List.cons.injEq] at hp
      simp only [fillCells] at e
      split at e
      · rename_i hc
        obtain ⟨hn, hpos, hle⟩ := hc
        have hv : RV S g v x := hr 0 _ _ rfl rfl
        have hcl := cells_of hv (by omega)
        obtain ⟨vals', h1, h2⟩ := fill_run ps parts _ cs _ hp.2 (fun j p q a b => hr (j + 1) p q (by simpa using a) (by simpa using b)) (hz.set hcl (off := off) (by omega)) e
        refine ⟨vals', ?_, h2⟩
        have hsz : x.cells.size = n := by rw [← hcl.1, hn]
        have hle' : ¬ (off + x.cells.size > vals.size) := by rw [hsz, ← hz.1]; omega
        simp only [Instr.fill, ← hp.1]
        rw [if_neg (by simp [hsz]; rw [← hz.1]; omega)]
        exact h1
      · cases e

theorem parts_rv (hR : Rel S G g nt s a w) {α : Type} {ps : List α} {fv : α → Rand} {ps' : List (Nat × Operand)} (hm : MRs S G (ps.map fv) (ps'.map (·.2))) {j : Nat} {p : α} {q : Nat × Operand}
    (h1 : ps[j]? = some p) (h2 : ps'[j]? = some q) : RV S g (rd S.Γ s.t (fv p)) (a.eval q.2) :=
  MRs_rv hR hm j _ _ (by simp [h1]) (by simp [h2])

theorem run_places {P : Program} {w : World} : ∀ (fs : List Field), (∀ x ∈ fs, (P.info? x.type).isSome) →
    (fs.mapM (fun f => do pure (f.offset, ← sizeOf f.type) : Field → Sem (Nat × Nat))).run P w = .ok (fs.map fun f => (f.offset, P.cellsOf f.type)) w
  | [], _ => by simp
  | f :: fs, h => by
    have ih := run_places (w := w) fs (fun x hx => h x (by simp [hx]))
    obtain ⟨i, hi⟩ := Option.isSome_iff_exists.1 (h f (by simp))
    simp only [List.mapM_cons, Sem.run_bind, run_sizeOf w hi, Result.andThen_ok, Sem.run_pure, ih, List.map_cons]

theorem build_ok (hR : Rel S G g nt s a w) {z : List C} {ps : List (Nat × Nat × Rand)} {t : TypeId} {ps' : Array (Nat × Operand)} (hz : TZero S.P t z)
    (hp : ∃ f : Nat → Option (Nat × Nat), (ps.map fun p => some (p.1, p.2.1)) = (ps'.toList.map fun p => f p.1) ∧
      ((∃ fs, S.P.underlying t = some (.struct fs) ∧ (∀ x ∈ fs, (S.P.info? x.type).isSome) ∧ f = fun i => fs[i]?.map fun x => (x.offset, S.P.cellsOf x.type)) ∨
       (∃ len e, S.P.underlying t = some (.array len e) ∧ (S.P.info? e).isSome ∧ f = fun i => some (i * S.P.cellsOf e, S.P.cellsOf e))))
    (hr : MRs S G (ps.map (·.2.2)) (ps'.toList.map (·.2))) (e : eff base s.h (rd S.Γ s.t) (.build z ps) = some (v, ws)) : ws = [] ∧ Looks S g a w (.build t ps') v := by
  simp only [eff, Option.map_eq_some_iff, Prod.mk.injEq] at e
  obtain ⟨cs, hcs, rfl, rfl⟩ := e
  obtain ⟨i, zv, hi, hzv, hzl, hzr⟩ := hz
  obtain ⟨f, hf, hcase⟩ := hp
  have hz0 : Cells S g z zv.cells := ⟨by simpa using hzl, fun j c x h1 h2 => (hzr j c x h1 (by simpa using h2)).rc⟩
  obtain ⟨vals, hfill, hcl⟩ := fill_run (S := S) (g := g) (f := f) (ps.map fun p => (p.1, p.2.1, rd S.Γ s.t p.2.2)) (ps'.toList.map fun p => (p.1, a.eval p.2)) z cs zv.cells
    (by simpa [List.map_map, Function.comp_def] using hf) (fun j p q h1 h2 => by
      simp only [List.getElem?_map, Option.map_eq_some_iff] at h1 h2
      obtain ⟨p0, hp0, rfl⟩ := h1
      obtain ⟨q0, hq0, rfl⟩ := h2
      exact parts_rv hR (fv := fun p => p.2.2) hr hp0 hq0) hz0 hcs
  refine ⟨rfl, fun o' ho' => ⟨.agg vals, ?_, .agg _ _ hcl.1 hcl.2⟩⟩
  have hparts : (ps'.map fun p => (p.1, a.eval p.2)).toList = ps'.toList.map fun p => (p.1, a.eval p.2) := by simp
  rcases hcase with ⟨fs, hu, hinfo, rfl⟩ | ⟨len, el, hu, hinfo, rfl⟩
  · have hpl := run_places (P := S.P) (w := w) fs.toList (fun x hx => hinfo x (Array.mem_toList_iff.1 hx))
    have hpl' : (fs.mapM (fun f => do pure (f.offset, ← sizeOf f.type) : Field → Sem (Nat × Nat))).run S.P w = .ok (fs.map fun f => (f.offset, S.P.cellsOf f.type)) w := by
      rw [Array.mapM_eq_mapM_toList]
      rw [← bind_pure_comp, Sem.run_bind, hpl, Result.andThen_ok, Sem.run_pure]
      congr 1
      apply Array.ext'
      simp
    have hfill' : Instr.fill ((fs.map fun f => (f.offset, S.P.cellsOf f.type))[·]?) zv.cells (ps'.toList.map fun p => (p.1, a.eval p.2)) = some vals := by
      rw [← hfill]; congr 1; funext i; simp
    simp only [execOp, ho', Instr.build, Sem.run_bind, run_zero hi hzv, Result.andThen_ok, run_underlying hu, hpl', hparts, hfill', Sem.run_pure]
  · obtain ⟨ie, hie⟩ := Option.isSome_iff_exists.1 hinfo
    simp only [execOp, ho', Instr.build, Sem.run_bind, run_zero hi hzv, Result.andThen_ok, run_underlying hu, run_sizeOf w hie, hparts, hfill, Sem.run_pure]

end
end Go.Pm

namespace Go.Pm

section
variable {S : Seat} {G : List Nat} {g g' g'' : Gh} {nt : Nat} {s s' s'' : St} {a a' a'' : Act} {w w' w'' : World} {h : List Obj} {base : Nat} {v : V} {ws : List (Nat × Obj)} {takes : List Nat}

theorem isFree_spec {h : List Obj} {r : Nat} (e : isFree h r = true) : h[r]? = some .free := by
  unfold isFree at e
  split at e
  · assumption
  · cases e

theorem rt_cells {x : Value} (ht : RT S g w v x) (hn : 0 < v.cells.length) : v.cells.length = x.cells.size ∧ ∀ (j : Nat) c y, v.cells[j]? = some c → x.cells[j]? = some y → RO S g w c y := by
  cases ht with
  | rv _ _ h => exact ⟨(cells_of h hn).1, fun j c y h1 h2 => .rc _ _ ((cells_of h hn).2 j c y h1 h2)⟩
  | own es l b off cap ho =>
    refine ⟨rfl, fun j c y h1 h2 => ?_⟩
    rcases j with _ | j
    · simp [V.cells] at h1
      simp [Value.cells] at h2
      subst h1; subst h2
      exact .own _ _ _ _ _ ho
    · simp [V.cells] at h1

theorem rt_scalar {c : C} {y : Value} (h : RO S g w c y) : y.oneCell' = true := by
  cases h with
  | rc _ _ h => cases h <;> rfl
  | own => rfl

theorem under_cells {n : Nat} (h : v.under n = true) : C.underL n v.cells = true := by
  cases v with
  | sc c => cases c <;> first | rfl | (simp only [V.cells, C.underL, Bool.and_true]; exact h)
  | agg cs => exact h
  | tup vs => rfl

theorem own_cell (hR : Rel S G g nt s a w) {x : Rand} {x' : Operand} (h1 : MT S G x x') {j : Nat} {es : Nat} {l : List (List C)} (hj : (rd S.Γ s.t x).cells[j]? = some (.own es l)) {y : Value} (hy : (a.eval x').cells[j]? = some y) :
    j = 0 ∧ ∃ i ∈ x.takes, ∀ b, (∃ ad n cap, y = .slice (some ad) n cap ∧ ad.block = b) → ClaimT s.t a.tmps i b := by
  cases h1 with
  | r _ _ h =>
    have hv := rd_rv hR h
    exfalso
    generalize hrd : rd S.Γ s.t x = rv at hv hj
    generalize hev : a.eval x' = ev at hv
    cases hv with
    | top => simp [V.cells] at hj
    | sc c _ h =>
      have hc : V.cells (.sc c) = [c] := by cases c <;> first | rfl | exact absurd rfl h.not_top
      rw [hc] at hj
      rcases j with _ | j
      · simp at hj; exact h.not_own es l hj
      · simp at hj
    | agg cs vals hs hr =>
      have hlt : j < vals.size := by rw [← hs]; exact (List.getElem?_eq_some_iff.1 hj).1
      exact (hr j _ _ hj (Array.getElem?_eq_getElem hlt)).not_own es l rfl
    | tup => simp [V.cells] at hj
  | tk i =>
    have ht := hR.tm i
    have hrd : rd S.Γ s.t (.tk i) = get s.t i := rfl
    have hev : a.eval (.tmp i) = a.tmps.getD i undef := rfl
    rw [hrd] at hj
    rw [hev] at hy
    generalize hv : get s.t i = v at ht hj
    generalize hx : a.tmps.getD i undef = x at ht hy
    cases ht with
    | rv _ _ h =>
      exfalso
      cases h with
      | top => simp [V.cells] at hj
      | sc c _ h =>
        have hc : V.cells (.sc c) = [c] := by cases c <;> first | rfl | exact absurd rfl h.not_top
        rw [hc] at hj
        rcases j with _ | j
        · simp at hj; exact h.not_own es l hj
        · simp at hj
      | agg cs vals hs hr =>
        have hlt : j < vals.size := by rw [← hs]; exact (List.getElem?_eq_some_iff.1 hj).1
        exact (hr j _ _ hj (Array.getElem?_eq_getElem hlt)).not_own es l rfl
      | tup => simp [V.cells] at hj
    | own es' l' b off cap ho =>
      rcases j with _ | j
      · simp [Value.cells] at hy
        subst hy
        refine ⟨rfl, i, by simp [Rand.takes], ?_⟩
        rintro c ⟨ad, n, cap', e, rfl⟩
        exact ⟨es', l', ad, n, cap', hv, by rw [hx]; exact e, rfl⟩
      · simp [V.cells] at hj

theorem var_born (hR : Rel S G g nt s a w) {p : Nat} {x : Rand} {x' : Operand} {t : TypeId} (h1 : MT S G x x') (hp : s.h[p]? = some .free) :
    Goes S G nt g (g.with p w.heap.size) s { t := drop x.takes s.t, h := s.h.set p (.var (rd S.Γ s.t x).cells) } a a w (w.alloc (.cells (a.eval x').cells t)) := by
  have hrt := rd_rt hR h1
  have hle : g.Le (g.with p w.heap.size) := by
    refine ⟨fun r h => .inr h, fun r h => ?_, fun _ _ _ h => h, fun _ _ h => h⟩
    have hne : r ≠ p := by
      rintro rfl
      obtain ⟨o, ho, hf⟩ := hR.hp.as r h
      rw [hp] at ho
      simp only [Option.some.injEq] at ho
      subst ho
      simp [isFreeO] at hf
    simp [Gh.with, hne]
  refine Goes.born (takes := x.takes) (off0 := 0) hR hp rfl ⟨_, t, heap_alloc_new _ _, ?_, fun j c y h2 h3 => ?_⟩ ?_
  · by_cases hn : 0 < (rd S.Γ s.t x).cells.length
    · exact Nat.le_of_eq (rt_cells hrt hn).1
    · omega
  · have hn : 0 < (rd S.Γ s.t x).cells.length := by have := (List.getElem?_eq_some_iff.1 h2).1; omega
    have := (rt_cells hrt hn).2 j c y h2 h3
    cases this with
    | rc _ _ h => exact .rc _ _ (h.mono hle)
    | own es l b off cap ho => exact .own _ _ _ _ _ (ho.mono hle (heap_alloc_old _ _ _ ho.lt) (fun _ => rfl))
  · rintro j b ⟨cs, es, l, vals, elem, fr, ad, n, cap, e1, e2, e3, e4, rfl⟩
    have hplt : p < s.h.length := (List.getElem?_eq_some_iff.1 hp).1
    simp [hplt] at e1
    subst e1
    have hσ : (g.with p w.heap.size).σ p = w.heap.size := by simp [Gh.with]
    rw [hσ, heap_alloc_new] at e3
    simp only [Option.some.injEq, Obj.cells.injEq] at e3
    obtain ⟨rfl, rfl, rfl⟩ := e3
    obtain ⟨h0, i, hi, hcl⟩ := own_cell hR h1 e2 e4
    exact ⟨h0, i, hi, hcl _ ⟨ad, n, cap, rfl, rfl⟩⟩

theorem ptr_new {p : Nat} : RV S (g.with p w.heap.size) (.sc (.ptr p 0)) (.pointer (some ⟨w.heap.size, 0, none⟩)) := by
  have hσ : (g.with p w.heap.size).σ p = w.heap.size := by simp [Gh.with]
  have := RC.ptr (S := S) (g := g.with p w.heap.size) p 0 (.inl rfl)
  rw [hσ] at this
  exact .sc _ _ this

theorem box_does (hR : Rel S G g nt s a w) {n : Nat} {x : Rand} {x' : Operand} {t : TypeId} (h1 : MT S G x x') (e : eff base s.h (rd S.Γ s.t) (.box n x) = some (v, ws)) :
    Does S G nt g s a w (.box t x') x.takes v (setObjs s.h ws) := by
  simp only [eff] at e
  split at e
  · rename_i hc
    simp only [Option.some.injEq, Prod.mk.injEq] at e
    obtain ⟨rfl, rfl⟩ := e
    exact fun o' ho' => ⟨_, _, _, _, by simp only [execOp, ho', Instr.box, newVar, newRow, newObj, Sem.run_bind, Sem.run, Result.andThen_ok, Sem.run_pure, World.alloc_eq], .inl rfl, var_born (t := t) hR h1 (isFree_spec hc), .rv _ _ ptr_new⟩
  · cases e

theorem alloc_does (hR : Rel S G g nt s a w) {n : Nat} {z : List C} {t : TypeId} (hz : TZero S.P t z) (e : eff base s.h (rd S.Γ s.t) (.alloc n z) = some (v, ws)) :
    Does S G nt g s a w (.alloc t) [] v (setObjs s.h ws) := by
  simp only [eff] at e
  split at e
  · rename_i hc
    simp only [Option.some.injEq, Prod.mk.injEq] at e
    obtain ⟨rfl, rfl⟩ := e
    obtain ⟨i, zv, hi, hzv, hzl, hzr⟩ := hz
    have hp := isFree_spec hc.1
    refine fun o' ho' => ⟨_, _, w.alloc (.cells zv.cells t), _, by simp [execOp, ho', Instr.alloc, run_zero hi hzv, newVar, newRow, newObj, Sem.run, World.alloc_eq], .inl rfl,
      Goes.born (takes := []) (off0 := 0) hR hp rfl ⟨_, t, heap_alloc_new _ _, Nat.le_of_eq (by simpa using hzl), fun j c y h2 h3 => .rc _ _ (hzr j c y h2 (by simpa using h3)).rc⟩ ?_, .rv _ _ ptr_new⟩
    rintro j b ⟨cs, es, l, vals, elem, fr, ad, m, cap, e1, e2, e3, e4, rfl⟩
    have hplt : base + n < s.h.length := (List.getElem?_eq_some_iff.1 hp).1
    simp [hplt] at e1
    subst e1
    exact absurd (pureL_get hc.2 e2) (by simp [C.pure])
  · cases e

theorem claim_of_own (hR : RelH S G g h w) {r j : Nat} {cs : List C} {es : Nat} {l : List (List C)} {vals : Array Value} {elem : TypeId} {y : Value} (hr : h[r]? = some (.var cs)) (hj : cs[j]? = some (.own es l))
    (hb : w.heap[g.σ r]? = some (.cells vals elem (0, 0))) (hy : vals[j]? = some y) : ∃ b off cap, y = .slice (some ⟨b, off, none⟩) l.length cap ∧ OwnAt S g w es l b off cap ∧ ClaimH g h w r j b := by
  obtain ⟨vals', elem', hb', hs, hro⟩ := hR.ob r _ hr
  rw [hb] at hb'
  simp only [Option.some.injEq, Obj.cells.injEq] at hb'
  obtain ⟨rfl, rfl, _⟩ := hb'
  have := hro j _ _ hj hy
  cases this with
  | rc _ _ h => exact absurd rfl (h.not_own es l)
  | own es l b off cap ho => exact ⟨b, off, cap, rfl, ho, cs, es, l, vals, elem, (0, 0), _, _, _, hr, hj, hb, hy, rfl⟩

theorem loadT_does (hR : Rel S G g nt s a w) {x : Rand} {x' : Operand} {t : TypeId} (h1 : MR S G x x') (hs : TSh S.P t none) (e : eff base s.h (rd S.Γ s.t) (.loadT x) = some (v, ws)) :
    Does S G nt g s a w (.load t x') [] v (setObjs s.h ws) := by
  have hx := rd_rv hR h1
  simp only [eff] at e
  split at e
  · rename_i p off hp
    rw [hp] at hx
    obtain ⟨hA, hx⟩ := hx.ptr_inv
    split at e
    · rename_i cs hcs
      split at e
      · rename_i c hc
        simp only [Option.some.injEq, Prod.mk.injEq] at e
        obtain ⟨rfl, rfl⟩ := e
        obtain ⟨vals, elem, hb, hsz, hro⟩ := hR.hp.ob p _ hcs
        have hlt : off < cs.length := (List.getElem?_eq_some_iff.1 hc).1
        have hlt' : off < vals.size := by omega
        have hy := hro off c _ hc (Array.getElem?_eq_getElem hlt')
        obtain ⟨d, hd, hag⟩ := hs
        have hcell : w.cell? ⟨g.σ p, off, none⟩ = some vals[off] := by rw [cell_of_heap hb, Array.getElem?_eq_getElem hlt']
        have hplt : p < s.h.length := (List.getElem?_eq_some_iff.1 hcs).1
        have hnc : ∀ j b, ClaimH g (s.h.set p (.var (cs.set off (Pm.unown c)))) w p j b → ClaimH g s.h w p j b ∧ j ≠ off := by
          rintro j b ⟨cs', es, l, vals', elem', fr, ad, m, cap, e1, e2, e3, e4, rfl⟩
          simp [hplt] at e1
          subst e1
          by_cases hj : j = off
          · subst hj
            simp [hlt] at e2
            cases c <;> simp [Pm.unown] at e2
          · rw [List.getElem?_set_ne (fun h => hj h.symm)] at e2
            exact ⟨⟨cs, es, l, vals', elem', fr, ad, m, cap, hcs, e2, e3, e4, rfl⟩, hj⟩
        have hgo : Goes S G nt g g s { t := drop [] s.t, h := s.h.set p (.var (cs.set off (Pm.unown c))) } a a w w := by
          refine Goes.modify (takes := []) (off0 := 0) hR hcs rfl rfl (fun _ _ => rfl) rfl rfl rfl rfl ⟨vals, elem, hb, by simpa using hsz, fun j c' y h2 h3 => ?_⟩ (fun j b hcl => .inl (hnc j b hcl).1)
          · by_cases hj : j = off
            · subst hj
              simp [hlt] at h2
              subst h2
              rw [Array.getElem?_eq_getElem hlt'] at h3
              cases h3
              exact .rc _ _ hy.unown
            · rw [List.getElem?_set_ne (fun h => hj h.symm)] at h2
              exact hro j c' y h2 h3
        refine fun o' ho' => ⟨vals[off], _, w, g, by simp [execOp, ho', hx, Instr.loadAt, Instr.sureAddr, loadVar, run_isAgg hd, hag, hcell], .inl rfl, hgo, ?_⟩
        have hyo := Array.getElem?_eq_getElem hlt'
        generalize hyv : vals[off] = y at hy hyo
        cases hy with
        | rc _ _ h => exact .rv _ _ (.sc _ _ h)
        | own es l b o cap ho =>
          have hcl : ClaimH g s.h w p off b := ⟨cs, es, l, vals, elem, (0, 0), _, _, _, hcs, hc, hb, hyo, rfl⟩
          refine .own _ _ _ _ _ ho ⟨fun i hi => hR.exTH i b p off hi.of_drop.1 hcl, fun r j hj => ?_, fun r o1 e1 hl => ?_⟩ (fun _ => .inl (.inr ⟨p, off, hcl⟩))
          · by_cases hr : r = p
            · subst hr
              obtain ⟨h2, h3⟩ := hnc j b hj
              exact h3 (hR.hp.ex r j r off b h2 hcl).2
            · obtain ⟨cs', es', l', vals', elem', fr, ad, m, cap', e1, e2, e3, e4, e5⟩ := hj
              have e1' : s.h[r]? = some (.var cs') := by rw [← get_set_ne hr]; exact e1
              exact hr (hR.hp.ex r j p off b ⟨cs', es', l', vals', elem', fr, ad, m, cap', e1', e2, e3, e4, e5⟩ hcl).1
          · rcases get_set e1 with ⟨rfl, rfl, _⟩ | ⟨hr, e1⟩
            · exact hR.hp.cl r off b r _ hcl hcs rfl
            · exact hR.hp.cl p off b r o1 hcl e1 hl
      · cases e
    · cases e
  · cases e

theorem mid_get (l vs : List Value) (o j : Nat) (h : o + vs.length ≤ l.length) :
    (l.take o ++ vs ++ l.drop (o + vs.length))[j]? = if o ≤ j ∧ j < o + vs.length then vs[j - o]? else l[j]? := by
  have h1 : (l.take o).length = o := by simp; omega
  by_cases hj : j < o
  · rw [if_neg (by omega), List.append_assoc, List.getElem?_append_left (by omega), List.getElem?_take, if_pos hj]
  · by_cases hj2 : j < o + vs.length
    · rw [if_pos ⟨by omega, hj2⟩, List.append_assoc, List.getElem?_append_right (by omega), h1, List.getElem?_append_left (by omega)]
    · rw [if_neg (by omega), List.append_assoc, List.getElem?_append_right (by omega), h1, List.getElem?_append_right (by omega), List.getElem?_drop]
      congr 1; omega

theorem setRow_same {b : Nat} {cs : Array Value} {b' : Nat} (h : b' ≠ b) : (w.setRow b cs).heap[b']? = w.heap[b']? := by
  simp only [World.setRow, Array.getElem?_modify]
  rw [if_neg (fun e => h e.symm)]

theorem store_does (hR : Rel S G g nt s a w) {n : Nat} {x y : Rand} {x' y' : Operand} {t : TypeId} (h1 : MR S G x x') (h2 : MT S G y y') (hs : TSize S.P t n) (e : eff base s.h (rd S.Γ s.t) (.store n x y) = some (v, ws)) :
    Does S G nt g s a w (.store t x' y') y.takes v (setObjs s.h ws) := by
  have hx := rd_rv hR h1
  have hy := rd_rt hR h2
  simp only [eff] at e
  split at e
  · rename_i p off hp
    rw [hp] at hx
    obtain ⟨hA, hx⟩ := hx.ptr_inv
    split at e
    · rename_i cs hcs
      split at e
      · rename_i hc
        obtain ⟨hn, hpos, hle⟩ := hc
        simp only [Option.some.injEq, Prod.mk.injEq] at e
        obtain ⟨rfl, rfl⟩ := e
        obtain ⟨vals, elem, hb, hsz, hro⟩ := hR.hp.ob p _ hcs
        obtain ⟨c1, c2⟩ := rt_cells hy (by omega)
        obtain ⟨i, hi, hisz⟩ := hs
        have hplt : p < s.h.length := (List.getElem?_eq_some_iff.1 hcs).1
        have hsize : (a.eval y').cells.toList.length = n := by simp [← c1, hn]
        have hst := run_storeCells_at S.P (g.σ p) off elem (a.eval y').cells.toList 0 vals w hb (by rw [hsize]; omega) (fun u hu => by
          obtain ⟨j, hj⟩ := List.getElem?_of_mem hu
          rw [Array.getElem?_toList] at hj
          have hjl : j < (rd S.Γ s.t y).cells.length := by rw [c1]; exact (Array.getElem?_eq_some_iff.1 hj).1
          exact rt_scalar (c2 j _ u (List.getElem?_eq_getElem hjl) hj))
        have hle2 : off + (a.eval y').cells.toList.length ≤ vals.toList.length := by rw [hsize]; simp; omega
        have hsv : (storeVar t ⟨g.σ p, off, none⟩ (a.eval y')).run S.P w = .ok () (w.setRow (g.σ p) (vals.toList.take (off + 0) ++ (a.eval y').cells.toList ++ vals.toList.drop (off + 0 + (a.eval y').cells.toList.length)).toArray) := by
          have hnn : ¬ ((a.eval y').cells.size ≠ n) := by simp [← c1, hn]
          simp only [storeVar, Sem.run_bind, run_size hi, hisz, Result.andThen_ok, if_neg hnn]
          exact hst
        refine fun o' ho' => ⟨undef, .skip, w.setRow (g.σ p) (vals.toList.take (off + 0) ++ (a.eval y').cells.toList ++ vals.toList.drop (off + 0 + (a.eval y').cells.toList.length)).toArray, g,
          by simp only [execOp, ho', hx, Instr.storeAt, Instr.sureAddr, Sem.run_bind, Sem.run_pure, Result.andThen_ok, hsv], .inr ⟨rfl, rfl⟩, ?_, .rv _ _ (.tup [] #[] rfl fun j v w a b => by simp at a)⟩
        have hget : ∀ j, (vals.toList.take (off + 0) ++ (a.eval y').cells.toList ++ vals.toList.drop (off + 0 + (a.eval y').cells.toList.length)).toArray[j]? = if off ≤ j ∧ j < off + n then (a.eval y').cells[j - off]? else vals[j]? := fun j => by
          rw [Nat.add_zero, List.getElem?_toArray, mid_get _ _ _ _ hle2, hsize]
          simp
        have hgetc : ∀ j, (setAll cs off (rd S.Γ s.t y).cells)[j]? = if off ≤ j ∧ j < off + n then (rd S.Γ s.t y).cells[j - off]? else cs[j]? := fun j => by
          rw [setAll_get _ _ _ _ (by omega), hn]
        have hne : ∀ b', b' ≠ g.σ p → (w.setRow (g.σ p) (vals.toList.take (off + 0) ++ (a.eval y').cells.toList ++ vals.toList.drop (off + 0 + (a.eval y').cells.toList.length)).toArray).heap[b']? = w.heap[b']? := fun b' h => setRow_same h
        have hnew := setRow_heap w (g.σ p) vals (vals.toList.take (off + 0) ++ (a.eval y').cells.toList ++ vals.toList.drop (off + 0 + (a.eval y').cells.toList.length)).toArray elem (0, 0) hb
        have hroN : ∀ {c u}, (∀ es l, c = .own es l → ∀ b o cap, u = .slice (some ⟨b, o, none⟩) l.length cap → b ≠ g.σ p) → RO S g w c u →
            RO S g (w.setRow (g.σ p) (vals.toList.take (off + 0) ++ (a.eval y').cells.toList ++ vals.toList.drop (off + 0 + (a.eval y').cells.toList.length)).toArray) c u := by
          intro c u hb' h
          cases h with
          | rc _ _ h => exact .rc _ _ h
          | own es l b o cap ho => exact .own _ _ _ _ _ (ho.mono (.refl g) (hne b (hb' es l rfl b o cap rfl)) (fun _ => rfl))
        refine Goes.modify (takes := y.takes) (off0 := off) hR hcs rfl rfl hne (by simp [World.setRow]) rfl rfl rfl ⟨_, elem, hnew, ?_, fun j c u e1 e2 => ?_⟩ ?_
        · rw [setAll_length]; simp at hle2 ⊢; omega
        · rw [hgetc] at e1
          rw [hget] at e2
          split at e1
          · rename_i hcj
            rw [if_pos hcj] at e2
            refine hroN (fun es l hc b o cap hu' => ?_) (c2 _ c u e1 e2)
            subst hc
            obtain ⟨_, i', hi', hcl⟩ := own_cell hR h2 e1 e2
            exact fun hbb => hR.clT i' b p _ (hcl b ⟨_, _, _, hu', rfl⟩) hcs rfl hbb.symm
          · rename_i hcj
            rw [if_neg hcj] at e2
            refine hroN (fun es l hc b o cap hu' => ?_) (hro j c u e1 e2)
            subst hc
            exact fun hbb => hR.hp.cl p j b p _ ⟨cs, es, l, vals, elem, (0, 0), _, _, _, hcs, e1, hb, by rw [e2, hu'], rfl⟩ hcs rfl hbb.symm
        · rintro j b ⟨cs', es, l, vals', elem', fr, ad, m, cap, e1, e2, e3, e4, rfl⟩
          simp [hplt] at e1
          subst e1
          rw [hnew] at e3
          simp only [Option.some.injEq, Obj.cells.injEq] at e3
          obtain ⟨rfl, rfl, rfl⟩ := e3
          rw [hgetc] at e2
          rw [hget] at e4
          split at e2
          · rename_i hcj
            rw [if_pos hcj] at e4
            obtain ⟨h0, i', hi', hcl⟩ := own_cell hR h2 e2 e4
            exact .inr ⟨by omega, i', hi', hcl _ ⟨ad, m, cap, rfl, rfl⟩⟩
          · rename_i hcj
            rw [if_neg hcj] at e4
            exact .inl ⟨cs, es, l, vals, elem, (0, 0), ad, m, cap, hcs, e2, hb, e4, rfl⟩
      · cases e
    · cases e
  · cases e

end
end Go.Pm

namespace Go.Pm

theorem flat_len {es : Nat} : ∀ {l : List (List C)}, (∀ e ∈ l, e.length = es) → l.flatten.length = l.length * es
  | [], _ => by simp
  | e :: l, h => by
    rw [List.flatten_cons, List.length_append, h e (by simp), flat_len (fun x hx => h x (by simp [hx])), List.length_cons, Nat.add_mul, Nat.one_mul, Nat.add_comm]

theorem flat_get {es : Nat} : ∀ {l : List (List C)}, (∀ e ∈ l, e.length = es) → ∀ (i j : Nat), j < es → l.flatten[i * es + j]? = (l[i]?).bind fun e => e[j]?
  | [], _, i, j, _ => by simp
  | e :: l, h, 0, j, hj => by
    rw [List.flatten_cons, Nat.zero_mul, Nat.zero_add, List.getElem?_append_left (by rw [h e (by simp)]; exact hj)]
    simp
  | e :: l, h, i + 1, j, hj => by
    have he : e.length = es := h e (by simp)
    rw [List.flatten_cons, List.getElem?_append_right (by rw [he, Nat.add_mul, Nat.one_mul]; omega), he, show (i + 1) * es + j - es = i * es + j from by rw [Nat.add_mul, Nat.one_mul]; omega,
      flat_get (fun x hx => h x (by simp [hx])) i j hj]
    simp

theorem flat_at {es : Nat} {l : List (List C)} (h : ∀ e ∈ l, e.length = es) (he : 0 < es) (k : Nat) : l.flatten[k]? = (l[k / es]?).bind fun e => e[k % es]? := by
  have := flat_get h (k / es) (k % es) (Nat.mod_lt _ he)
  rwa [Nat.div_add_mod'] at this

theorem flat_set {es : Nat} {l : List (List C)} (h : ∀ e ∈ l, e.length = es) (he : 0 < es) {i : Nat} {x : List C} (hi : i < l.length) (hx : x.length = es) : (l.set i x).flatten = setAll l.flatten (i * es) x := by
  have h' : ∀ e ∈ l.set i x, e.length = es := fun e hm => by
    rcases List.mem_or_eq_of_mem_set hm with h1 | rfl
    · exact h e h1
    · exact hx
  have hle : i * es + x.length ≤ l.flatten.length := by
    rw [flat_len h, hx]
    have := Nat.mul_le_mul_right es (show i + 1 ≤ l.length from hi)
    rw [Nat.add_mul, Nat.one_mul] at this
    exact this
  apply List.ext_getElem?
  intro k
  rw [flat_at h' he, setAll_get _ _ _ _ hle, flat_at h he, hx]
  have hk : k / es * es + k % es = k := Nat.div_add_mod' k es
  have hm := Nat.mod_lt k he
  by_cases hki : k / es = i
  · subst hki
    rw [List.getElem?_set_self hi, if_pos (by omega)]
    simp only [Option.bind_some]
    congr 1; omega
  · rw [List.getElem?_set_ne (fun e => hki e.symm), if_neg]
    rintro ⟨h1, h2⟩
    apply hki
    have e1 : i ≤ k / es := (Nat.le_div_iff_mul_le he).2 h1
    have e2 : k / es < i + 1 := (Nat.div_lt_iff_lt_mul he).2 (by rw [Nat.add_mul, Nat.one_mul]; exact h2)
    omega

section
variable {S : Seat} {G : List Nat} {g g' g'' : Gh} {nt : Nat} {s s' s'' : St} {a a' a'' : Act} {w w' w'' : World} {h : List Obj} {base : Nat} {v : V} {ws : List (Nat × Obj)} {takes : List Nat}

theorem fillElems_run {es : Nat} (he : 0 < es) : ∀ (ps : List (Nat × V)) (parts : List (Nat × Value)) (l l' : List (List C)) (vals : Array Value), (ps.map (·.1)) = (parts.map (·.1)) →
    (∀ (j : Nat) p q, ps[j]? = some p → parts[j]? = some q → RV S g p.2 q.2) → (∀ e ∈ l, e.length = es) → Cells S g l.flatten vals → fillElems es l ps = some l' →
    ∃ vals', Instr.fill (fun i => some (i * es, es)) vals parts = some vals' ∧ Cells S g l'.flatten vals' ∧ (∀ e ∈ l', e.length = es) ∧ l'.length = l.length
  | [], parts, l, l', vals, hp, _, hl, hz, e => by
    cases parts with
    | cons => simp at hp
    | nil =>
      simp only [fillElems, Option.some.injEq] at e
      subst e
      exact ⟨vals, rfl, hz, hl, rfl⟩
  | (i, v) :: ps, parts, l, l', vals, hp, hr, hl, hz, e => by
    cases parts with
    | nil => simp at hp
    | cons q parts =>
      obtain ⟨i', x⟩ := q
      simp only [List.map_cons, List.cons.injEq] at hp
      obtain ⟨rfl, hp⟩ := hp
      simp only [fillElems] at e
      split at e
      · rename_i hc
        obtain ⟨hn, hi⟩ := hc
        have hv : RV S g v x := hr 0 _ _ rfl rfl
        have hcl := cells_of hv (by omega)
        have hle : i * es + v.cells.length ≤ l.flatten.length := by
          rw [flat_len hl, hn]
          have := Nat.mul_le_mul_right es (show i + 1 ≤ l.length from hi)
          rw [Nat.add_mul, Nat.one_mul] at this
          exact this
        have hset := hz.set hcl hle
        rw [← flat_set hl he hi hn] at hset
        obtain ⟨vals', h1, h2, h3, h4⟩ := fillElems_run he ps parts _ l' _ hp (fun j p q a b => hr (j + 1) p q (by simpa using a) (by simpa using b)) (fun e hm => by
          rcases List.mem_or_eq_of_mem_set hm with h1 | rfl
          · exact hl e h1
          · exact hn) hset e
        refine ⟨vals', ?_, h2, h3, by simpa using h4⟩
        have hsz : x.cells.size = es := by rw [← hcl.1, hn]
        have : ¬ ((x.cells.size ≠ es || decide (i * es + x.cells.size > vals.size)) = true) := by
          rw [hsz]
          simp
          rw [← hz.1]; omega
        simp only [Instr.fill, this]
        exact h1
      · cases e

theorem zeros_cells {z : List C} {zv : Array Value} (hz : KL z zv.toList) (n : Nat) (hpos : 0 < z.length) : Cells S g (List.replicate n z).flatten ((Array.range (n * z.length)).map fun k => zv[k % zv.size]!) := by
  have hsz : zv.size = z.length := by simpa using hz.1.symm
  have hall : ∀ e ∈ List.replicate n z, e.length = z.length := fun e he => by rw [List.eq_of_mem_replicate he]
  refine ⟨by rw [flat_len hall]; simp, fun k c x h1 h2 => ?_⟩
  have hk : k < n * z.length := by
    have := (Array.getElem?_eq_some_iff.1 h2).1
    simpa using this
  rw [flat_at hall hpos, List.getElem?_replicate, if_pos ((Nat.div_lt_iff_lt_mul hpos).2 hk)] at h1
  simp only [Option.bind_some] at h1
  have hm : k % zv.size < zv.size := by rw [hsz]; exact Nat.mod_lt _ hpos
  simp only [Array.getElem?_map] at h2
  rw [Array.getElem?_eq_getElem (by simpa using hk)] at h2
  simp [getElem!_pos zv (k % zv.size) hm] at h2
  subst h2
  refine (hz.2 (k % z.length) c _ h1 ?_).rc
  rw [← hsz, Array.getElem?_toList, Array.getElem?_eq_getElem hm]

def Gh.row (g : Gh) (b m : Nat) (vals : Array Value) : Gh := { g with M := fun b' o => if b' = b then (if o < m then vals[o]? else none) else g.M b' o }

theorem Grows.row (hR : RelH S G g h w) (w0 : World) (hw : w0 = w ∨ w0 = w.drew) (vals : Array Value) (t : TypeId) (m : Nat) : Grows g (g.row w.heap.size m vals) w (w0.alloc (.cells vals t)) := by
  have hh : w0.heap = w.heap := by rcases hw with rfl | rfl <;> rfl
  have hsz : w0.heap.size = w.heap.size := by rw [hh]
  refine ⟨⟨fun _ h => h, fun _ _ => rfl, fun b o v e => ?_, fun _ _ h => h⟩, fun _ h => h, ⟨by simp [hsz], fun b hb _ => by rw [heap_alloc_old w0 _ b (by rw [hsz]; exact hb), hh], ?_, ?_, ?_⟩, fun b o v e => ?_, fun _ _ h => .inl h⟩
  · have hb : b ≠ w.heap.size := by have := M_lt hR e; omega
    simp [Gh.row, hb, e]
  · rcases hw with rfl | rfl <;> rfl
  · rcases hw with rfl | rfl <;> rfl
  · rcases hw with rfl | rfl <;> rfl
  · simp only [Gh.row] at e
    split at e
    · rename_i hb
      subst hb
      split at e
      · refine .inr ⟨Nat.le_refl _, ?_⟩
        rw [cell_of_heap (by rw [← hsz]; exact heap_alloc_new w0 _)]
        exact e
      · cases e
    · exact .inl e

theorem row_slice {es : Nat} {l : List (List C)} {vals : Array Value} {k : SK} {cap b : Nat} (hl : ∀ e ∈ l, e.length = es) (hp : ∀ e ∈ l, C.pureL e = true)
    (hc : ∀ (j : Nat) c, l.flatten[j]? = some c → ∃ x, vals[j]? = some x ∧ RC S g c x) (hle : g.Le (g.row b (l.length * es) vals)) (hk : k ≠ .nil) (hf : k = .full → cap = l.length) (hcap : l.length ≤ cap) :
    RC S (g.row b (l.length * es) vals) (.sl k es l) (.slice (some ⟨b, 0, none⟩) l.length cap) := by
  have key : ∀ (i : Nat) (e : List C) (j : Nat), l[i]? = some e → j < es → ∃ x c, vals[i * es + j]? = some x ∧ e[j]? = some c ∧ RC S g c x ∧ i * es + j < l.length * es := fun i e j hi hj => by
    have hlen := hl e (List.mem_of_getElem? hi)
    have hfl := flat_get hl i j hj
    have hej : e[j]? = some (e[j]'(by rw [hlen]; exact hj)) := List.getElem?_eq_getElem _
    rw [hi, Option.bind_some, hej] at hfl
    obtain ⟨x, hx, hr⟩ := hc _ _ hfl
    refine ⟨x, _, hx, hej, hr, ?_⟩
    have := (List.getElem?_eq_some_iff.1 hfl).1
    rwa [flat_len hl] at this
  refine .sl k es l b 0 cap (fun i j => (vals[i * es + j]?).getD undef) hk hf hcap (fun i e hi => hl e (List.mem_of_getElem? hi)) (fun i e hi => hp e (List.mem_of_getElem? hi)) (fun i e j hi hj => ?_) (fun i e j c hi hj => ?_)
  · obtain ⟨x, c, h1, _, _, h4⟩ := key i e j hi hj
    simp [Gh.row, h1, h4]
  · have hjl : j < es := by rw [← hl e (List.mem_of_getElem? hi)]; exact (List.getElem?_eq_some_iff.1 hj).1
    obtain ⟨x, c', h1, h2, h3, _⟩ := key i e j hi hjl
    rw [hj] at h2
    cases h2
    simp only [h1, Option.getD_some]
    exact h3.mono hle

theorem buildSlice_run {es n : Nat} {z : List C} {ps : List (Nat × Rand)} {t e : TypeId} {ps' : Array (Nat × Operand)} {l : List (List C)} (hR : Rel S G g nt s a w) (hu : S.P.underlying t = some (.slice e)) (hs : TSize S.P e es) (hz : TZero S.P e z)
    (hn : n * es ≤ 2 ^ 24) (he : 0 < es) (hi : ps.map (·.1) = ps'.toList.map (·.1)) (hr : MRs S G (ps.map (·.2)) (ps'.toList.map (·.2))) (hzl : z.length = es)
    (hfill : fillElems es (List.replicate n z) (ps.map fun p => (p.1, rd S.Γ s.t p.2)) = some l) :
    ∃ vals, (Instr.buildSlice t n (ps'.map fun p => (p.1, a.eval p.2))).run S.P w = .ok (.slice (some ⟨w.heap.size, 0, none⟩) n n) (w.alloc (.cells vals e)) ∧ Cells S g l.flatten vals ∧ (∀ x ∈ l, x.length = es) ∧ l.length = n := by
  obtain ⟨i, hi1, hisz⟩ := hs
  obtain ⟨i2, zv, hi2, hzv, hKL⟩ := hz
  have hz0 := zeros_cells (S := S) (g := g) hKL n (by omega)
  rw [hzl] at hz0
  obtain ⟨vals, h1, h2, h3, h4⟩ := fillElems_run (S := S) (g := g) he (ps.map fun p => (p.1, rd S.Γ s.t p.2)) (ps'.toList.map fun p => (p.1, a.eval p.2)) _ l _ (by simpa [List.map_map, Function.comp_def] using hi) (fun j p q h1 h2 => by
      simp only [List.getElem?_map, Option.map_eq_some_iff] at h1 h2
      obtain ⟨p0, hp0, rfl⟩ := h1
      obtain ⟨q0, hq0, rfl⟩ := h2
      exact parts_rv hR (fv := fun p => p.2) hr hp0 hq0) (fun x hx => by rw [List.eq_of_mem_replicate hx, hzl]) hz0 hfill
  refine ⟨vals, ?_, h2, h3, by rw [h4]; simp⟩
  have hnn : ¬ (n * es > 2 ^ 24) := by omega
  have hparts : (ps'.map fun p => (p.1, a.eval p.2)).toList = ps'.toList.map fun p => (p.1, a.eval p.2) := by simp
  by_cases hn0 : n * es = 0
  · have hn' : n = 0 := by
      rcases Nat.mul_eq_zero.1 hn0 with h | h
      · exact h
      · omega
    subst hn'
    have hemp : ∀ f : Nat → Value, (Array.range 0).map f = #[] := fun f => Array.ext' (by simp)
    rw [Nat.zero_mul, hemp] at h1
    simp only [Instr.buildSlice, Sem.run_bind, run_underlying hu, Result.andThen_ok, run_size hi1, hisz, hn0, if_true, hparts]
    simp only [hemp, h1]
    simp [newRow, newObj, Sem.run, World.alloc_eq]
  · simp only [Instr.buildSlice, Sem.run_bind, run_underlying hu, Result.andThen_ok, run_size hi1, hisz, if_neg hnn, if_neg hn0, run_zero hi2 hzv, Sem.run_pure, hparts, h1]
    simp [newRow, newObj, Sem.run, World.alloc_eq]

theorem bslice_does (hR : Rel S G g nt s a w) {es n : Nat} {z : List C} {ps : List (Nat × Rand)} {t e : TypeId} {ps' : Array (Nat × Operand)} (hu : S.P.underlying t = some (.slice e)) (hs : TSize S.P e es) (hz : TZero S.P e z)
    (hn : n * es ≤ 2 ^ 24) (he : 0 < es) (hi : ps.map (·.1) = ps'.toList.map (·.1)) (hr : MRs S G (ps.map (·.2)) (ps'.toList.map (·.2))) (ee : eff base s.h (rd S.Γ s.t) (.bslice es n z ps) = some (v, ws)) :
    Does S G nt g s a w (.buildSlice t n ps') [] v (setObjs s.h ws) := by
  simp only [eff] at ee
  split at ee
  · rename_i l hfill
    split at ee
    · rename_i hc
      simp only [Option.some.injEq, Prod.mk.injEq] at ee
      obtain ⟨rfl, rfl⟩ := ee
      obtain ⟨vals, h1, h2, h3, h4⟩ := buildSlice_run hR hu hs hz hn he hi hr hc.1 hfill
      have hg := Grows.row hR.hp w (.inl rfl) vals e (l.length * es)
      refine fun o' ho' => ⟨.slice (some ⟨w.heap.size, 0, none⟩) n n, _, _, _, by simp only [execOp, ho', Sem.run_bind, h1, Result.andThen_ok, Sem.run_pure], .inl rfl, .grow hR hg, .rv _ _ (.sc _ _ ?_)⟩
      have := row_slice (S := S) (k := .full) (cap := n) h3 (fun x hx => List.all_eq_true.1 hc.2 x hx) (fun j c hj => by
        have hlt : j < vals.size := by rw [← h2.1]; exact (List.getElem?_eq_some_iff.1 hj).1
        exact ⟨vals[j], Array.getElem?_eq_getElem hlt, h2.2 j c _ hj (Array.getElem?_eq_getElem hlt)⟩) hg.le (by simp) (fun _ => h4.symm) (by omega)
      rw [h4] at this
      rw [h4]
      exact this
    · cases ee
  · cases ee

theorem mkslice_does (hR : Rel S G g nt s a w) {es n : Nat} {z : List C} {t e : TypeId} {i : TypeInfo} (hu : S.P.underlying t = some (.slice e)) (hi : S.P.info? e = some i) (hs : i.size = es) (hz : TZero S.P e z)
    (hn : n * es ≤ 2 ^ 24) (he : 0 < es) (hb : i.bytes * n ≤ 2 ^ 40) (ee : eff base s.h (rd S.Γ s.t) (.bslice es n z []) = some (v, ws)) :
    Does S G nt g s a w (.makeSlice t (.const (.int .i64 n)) (.const (.int .i64 n))) [] v (setObjs s.h ws) := by
  simp only [eff, List.map_nil, fillElems] at ee
  split at ee
  · rename_i hc
    simp only [Option.some.injEq, Prod.mk.injEq] at ee
    obtain ⟨rfl, rfl⟩ := ee
    obtain ⟨i2, zv, hi2, hzv, hKL⟩ := hz
    have : i2 = i := Option.some.inj (hi2.symm.trans hi)
    subst this
    have hn2 : n ≤ 2 ^ 24 := Nat.le_trans (by have := Nat.mul_le_mul_left n he; omega) hn
    have hbi : (i2.bytes : Int) * ((n : Nat) : Int) ≤ 281474976710656 := by
      rw [← Int.natCast_mul]
      have := Int.ofNat_le.2 hb
      omega
    have hrun := run_make (P := S.P) w t e i2 zv hu hi2 hzv .i64 .i64 n n (by omega) (by omega) hbi (by omega)
    simp only [Int.toNat_natCast] at hrun
    have h2 : Cells S g (List.replicate n z).flatten (madeCells zv.cells (n * i2.size)) := by
      have := zeros_cells (S := S) (g := g) hKL n (by omega)
      rw [hc.1, ← hs] at this
      exact this
    have hg := Grows.row hR.hp w (.inl rfl) (madeCells zv.cells (n * i2.size)) e ((List.replicate n z).length * es)
    have h3 : ∀ x ∈ List.replicate n z, x.length = es := fun x hx => by rw [List.eq_of_mem_replicate hx]; exact hc.1
    refine fun o' ho' => ⟨.slice (some ⟨w.heap.size, 0, none⟩) n n, _, _, _, by simp only [execOp, ho', Act.eval, Sem.run_bind, hrun, Result.andThen_ok, Sem.run_pure], .inl rfl, .grow hR hg, .rv _ _ (.sc _ _ ?_)⟩
    have := row_slice (S := S) (k := .full) (cap := n) h3 (fun x hx => List.all_eq_true.1 hc.2 x hx) (fun j c hj => by
      have hlt : j < (madeCells zv.cells (n * i2.size)).size := by rw [← h2.1]; exact (List.getElem?_eq_some_iff.1 hj).1
      exact ⟨_, Array.getElem?_eq_getElem hlt, h2.2 j c _ hj (Array.getElem?_eq_getElem hlt)⟩) hg.le (by simp) (fun _ => by simp) (by simp)
    simp only [List.length_replicate] at this ⊢
    exact this
  · cases ee

theorem cells_born (hR : Rel S G g nt s a w) {p : Nat} {cs : List C} {vals : Array Value} {t : TypeId} (hp : s.h[p]? = some .free) (hc : Cells S g cs vals ∨ (cs.length ≤ vals.size ∧ ∀ (j : Nat) c x, cs[j]? = some c → vals[j]? = some x → RC S g c x)) :
    Goes S G nt g (g.with p w.heap.size) s { t := drop [] s.t, h := s.h.set p (.var cs) } a a w (w.alloc (.cells vals t)) := by
  have hc' : cs.length ≤ vals.size ∧ ∀ (j : Nat) c x, cs[j]? = some c → vals[j]? = some x → RC S g c x := by
    rcases hc with h | h
    · exact ⟨Nat.le_of_eq h.1, h.2⟩
    · exact h
  have hle : g.Le (g.with p w.heap.size) := by
    refine ⟨fun r h => .inr h, fun r h => ?_, fun _ _ _ h => h, fun _ _ h => h⟩
    have hne : r ≠ p := by
      rintro rfl
      obtain ⟨o, ho, hf⟩ := hR.hp.as r h
      rw [hp] at ho
      simp only [Option.some.injEq] at ho
      subst ho
      simp [isFreeO] at hf
    simp [Gh.with, hne]
  refine Goes.born (takes := []) (off0 := 0) hR hp rfl ⟨_, t, heap_alloc_new _ _, hc'.1, fun j c y h2 h3 => .rc _ _ ((hc'.2 j c y h2 h3).mono hle)⟩ ?_
  rintro j b ⟨cs', es, l, vals', elem, fr, ad, n, cap, e1, e2, e3, e4, rfl⟩
  have hplt : p < s.h.length := (List.getElem?_eq_some_iff.1 hp).1
  simp [hplt] at e1
  subst e1
  have hlt : j < vals.size := by have := (List.getElem?_eq_some_iff.1 e2).1; omega
  exact absurd rfl ((hc'.2 j _ _ e2 (Array.getElem?_eq_getElem hlt)).not_own es l)

theorem msl_new {p n cap es : Nat} (h : n ≤ cap) : RV S (g.with p w.heap.size) (.sc (.msl p 0 n cap es)) (.slice (some ⟨w.heap.size, 0, none⟩) n cap) := by
  have hσ : (g.with p w.heap.size).σ p = w.heap.size := by simp [Gh.with]
  have := RC.msl (S := S) (g := g.with p w.heap.size) p 0 n cap es cap (.inl rfl) h (.inr rfl)
  rw [hσ] at this
  exact .sc _ _ this

theorem underL_flatten {n : Nat} : ∀ {l : List (List C)}, (∀ e ∈ l, C.underL n e = true) → C.underL n l.flatten = true := fun h =>
  underL_iff.2 fun c hc => let ⟨e, he, hce⟩ := List.mem_flatten.1 hc; underL_iff.1 (h e he) c hce

theorem bmsl_does (hR : Rel S G g nt s a w) {b es n : Nat} {z : List C} {ps : List (Nat × Rand)} {t e : TypeId} {ps' : Array (Nat × Operand)} (hu : S.P.underlying t = some (.slice e)) (hs : TSize S.P e es) (hz : TZero S.P e z)
    (hn : n * es ≤ 2 ^ 24) (he : 0 < es) (hi : ps.map (·.1) = ps'.toList.map (·.1)) (hr : MRs S G (ps.map (·.2)) (ps'.toList.map (·.2))) (ee : eff base s.h (rd S.Γ s.t) (.bmsl b es n z ps) = some (v, ws)) :
    Does S G nt g s a w (.buildSlice t n ps') [] v (setObjs s.h ws) := by
  simp only [eff] at ee
  split at ee
  · rename_i l hfill
    split at ee
    · rename_i hc
      simp only [Option.some.injEq, Prod.mk.injEq] at ee
      obtain ⟨rfl, rfl⟩ := ee
      obtain ⟨vals, h1, h2, h3, h4⟩ := buildSlice_run hR hu hs hz hn he hi hr hc.1 hfill
      exact fun o' ho' => ⟨.slice (some ⟨w.heap.size, 0, none⟩) n n, _, _, _, by simp only [execOp, ho', Sem.run_bind, h1, Result.andThen_ok, Sem.run_pure], .inl rfl,
        cells_born (t := e) hR (isFree_spec hc.2) (.inl h2), .rv _ _ (msl_new (Nat.le_refl _))⟩
    · cases ee
  · cases ee

end
end Go.Pm

namespace Go.Pm

theorem growBy_le : ∀ (n r c : Nat), Builtin.growBy n r c ≤ max c (n + (n + 768) / 4)
  | n, 0, c => by simp only [Builtin.growBy]; omega
  | n, r + 1, c => by
    simp only [Builtin.growBy]
    split
    · omega
    · have := growBy_le n r (c + (c + 768) / 4)
      omega

theorem nextslicecap_le {n old : Nat} (h : old < n) (hn : n ≤ 2147483648) : Builtin.nextslicecap n old ≤ 4294967296 := by
  unfold Builtin.nextslicecap
  split
  · omega
  · split
    · omega
    · have := growBy_le n 4 old
      omega

section
variable {S : Seat} {G : List Nat} {g g' g'' : Gh} {nt : Nat} {s s' s'' : St} {a a' a'' : Act} {w w' w'' : World} {h : List Obj} {base : Nat} {v : V} {ws : List (Nat × Obj)} {takes : List Nat}

theorem slice_cells {es : Nat} {l : List (List C)} {v : V} {x : Value} (hH : RelH S G g h w) (he : 0 < es) (hel : elems es v = some l) (hv : RV S g v x) :
    ∃ arr : Array Value, (∀ w', w'.heap = w.heap → (Builtin.firstCells es l.length x).run S.P w' = .ok arr w') ∧ Cells S g l.flatten arr ∧ (∀ e ∈ l, e.length = es) ∧ (∀ e ∈ l, C.pureL e = true) ∧ ∃ p c, x = .slice p l.length c ∧ (p = none → l = []) := by
  rcases elems_inv hel hv with ⟨rfl, rfl⟩ | ⟨b, off, cap, rfl, hc, hle, hM⟩
  · exact ⟨#[], by simp [Builtin.firstCells], ⟨rfl, fun j c x h1 => by simp at h1⟩, by simp, by simp, none, 0, rfl, fun _ => rfl⟩
  · have hl : ∀ e ∈ l, e.length = es := fun e he => let ⟨i, hi⟩ := List.getElem?_of_mem he; (hle i e hi).1
    have hp : ∀ e ∈ l, C.pureL e = true := fun e he => let ⟨i, hi⟩ := List.getElem?_of_mem he; (hle i e hi).2
    have key : ∀ k, k < l.length * es → ∃ c y, l.flatten[k]? = some c ∧ w.cell? ⟨b, off + k, none⟩ = some y ∧ RC S g c y := fun k hk => by
      have hi : k / es < l.length := (Nat.div_lt_iff_lt_mul he).2 hk
      have hj := Nat.mod_lt k he
      have e1 := flat_at hl he k
      rw [List.getElem?_eq_getElem hi, Option.bind_some] at e1
      have hlen := hl l[k / es] (List.getElem_mem hi)
      have hej : l[k / es][k % es]? = some (l[k / es][k % es]'(by rw [hlen]; exact hj)) := List.getElem?_eq_getElem _
      obtain ⟨y, hy, hr⟩ := hM (k / es) l[k / es] (k % es) _ (List.getElem?_eq_getElem hi) hej
      rw [Nat.add_assoc, Nat.div_add_mod'] at hy
      exact ⟨_, y, by rw [e1, hej], hH.im _ _ _ hy, hr⟩
    let f : Nat → Value := fun k => (w.cell? ⟨b, off + k, none⟩).getD undef
    have hrun := fun (w' : World) (hw' : w'.heap = w.heap) => run_loadCells (P := S.P) w' ⟨b, off, none⟩ (l.length * es) f (fun k hk => by
      obtain ⟨c, y, _, h2, _⟩ := key k hk
      have : w'.cell? ⟨b, off + k, none⟩ = w.cell? ⟨b, off + k, none⟩ := by simp only [World.cell?, hw']
      rw [Addr.add_none, this]; simp [f, h2])
    refine ⟨_, by simp only [Builtin.firstCells]; exact hrun, ⟨by rw [flat_len hl]; simp, fun j c x h1 h2 => ?_⟩, hl, hp, _, _, rfl, by simp⟩
    have hj : j < l.length * es := by
      have := (List.getElem?_eq_some_iff.1 h1).1
      rwa [flat_len hl] at this
    obtain ⟨c', y, e1, e2, e3⟩ := key j hj
    rw [h1] at e1
    cases e1
    simp [hj, f, e2] at h2
    subst h2
    exact e3

theorem isInt_slice {P : Program} {t e : TypeId} (h : P.underlying t = some (.slice e)) : ((do pure ((← underlying t) matches .int _) : Sem Bool)).run P w = .ok false w := by
  simp [run_underlying h]

theorem append_fits {t t2 ty : TypeId} {es n cap len c2 : Nat} {base : Option Addr} {p2 : Option Addr} {new : Array Value} (T : AppTy S t t2 es) (hroom : len + n ≤ cap)
    (hnew : (Builtin.firstCells es n (.slice p2 n c2)).run S.P w = .ok new w) (hst : ∀ ad, base = some ad → (storeCells (ad.add (len * es)) new.toList).run S.P w = .ok () w') (hnone : base = none → w' = w) :
    (Builtin.append_ #[t, t2] ty #[.slice base len cap, .slice p2 n c2]).run S.P w = .ok (.slice base (len + n) cap) w' := by
  have h1 := isInt_slice (w := w) T.hu2
  simp only [Sem.run_bind] at h1
  cases base with
  | none =>
    have := hnone rfl
    subst this
    simp [Builtin.append_, run_underlying T.hu, run_underlying T.hu2, run_size T.hi, T.hs, Builtin.lenOf, hroom, hnew]
  | some ad =>
    simp [Builtin.append_, run_underlying T.hu, run_underlying T.hu2, run_size T.hi, T.hs, Builtin.lenOf, hroom, hnew, hst ad rfl]

theorem append_grows {t t2 ty : TypeId} {es n cap len c2 : Nat} {base : Option Addr} {p2 : Option Addr} {old new : Array Value} (T : AppTy S t t2 es) (hroom : cap < len + n) (hle : len + n ≤ 2147483648)
    (hold : ∀ w', w'.heap = w.heap → (Builtin.firstCells es len (.slice base len cap)).run S.P w' = .ok old w') (hnew : ∀ w', w'.heap = w.heap → (Builtin.firstCells es n (.slice p2 n c2)).run S.P w' = .ok new w') :
    ∃ ncap, len + n ≤ ncap ∧ (Builtin.append_ #[t, t2] ty #[.slice base len cap, .slice p2 n c2]).run S.P w =
      .ok (.slice (some ⟨w.heap.size, 0, none⟩) (len + n) ncap) (w.drew.alloc (.cells (old ++ new ++ Builtin.zeroCells T.zv.cells (ncap - (len + n))) T.e)) := by
  have hnf : ¬ (len + n ≤ cap) := by omega
  have hcap := nextslicecap_le hroom hle
  have hbytes : Builtin.nextslicecap (len + n) cap * T.i.bytes ≤ 2 ^ 48 := by
    calc _ ≤ 4294967296 * 16384 := Nat.mul_le_mul hcap T.hb
      _ ≤ 2 ^ 48 := by decide
  have hbn : ¬ (2 ^ 48 < Builtin.nextslicecap (len + n) cap * T.i.bytes) := by omega
  have hb0 : T.i.bytes ≠ 0 := Nat.pos_iff_ne_zero.1 T.hb0
  refine ⟨len + n + w.tape w.drawn (.appendCap (len + n) cap T.e) % (2 ^ 63 - (len + n)), Nat.le_add_right _ _, ?_⟩
  have hq : (choose (.appendCap (len + n) cap T.e)).run S.P w = .ok (len + n + w.tape w.drawn (.appendCap (len + n) cap T.e) % (2 ^ 63 - (len + n))) w.drew := by
    rw [run_choose]; rfl
  have ho := hold w.drew rfl
  have hn := hnew w.drew rfl
  generalize len + n + w.tape w.drawn (.appendCap (len + n) cap T.e) % (2 ^ 63 - (len + n)) = ncap at hq ⊢
  have hbn' : ¬ (Builtin.nextslicecap (len + n) cap * T.i.bytes > 2 ^ 48) := by omega
  simp only [Builtin.append_, Sem.run_bind, run_underlying T.hu, run_underlying T.hu2, run_size T.hi, T.hs, Builtin.lenOf, Sem.run_pure, Result.andThen_ok, if_neg hnf, run_info T.hi, if_neg hbn', hq, run_askRoom, ho, hn, run_zero T.hi T.hz,
    newRow, newObj, hb0, Bool.false_eq_true, or_self, and_false, if_false, Bool.not_false, if_true, List.getElem?_toArray, List.getElem?_cons_zero, List.getElem?_cons_succ]
  simp [Sem.run]
  rfl

theorem run_append {t t2 : TypeId} {x' y' : Operand} {x y : Value} {o' : Go.Oper} (ho : o'.op = .call { callee := .builtin .append, args := #[x', y'], argTypes := #[t, t2] }) (hx : a.eval x' = x) (hy : a.eval y' = y) {r : Value}
    (hrun : ∀ ty, (Builtin.append_ #[t, t2] ty #[x, y]).run S.P w = .ok r w') : (execOp a.eval o').run S.P w = .ok (.value r) w' := by
  have := hrun o'.type
  simp [execOp, ho, resolve, invoke, builtin, hx, hy, this]

theorem fresh_unclaimed (hR : Rel S G g nt s a w) (k : Grows g g' w w') {t : List (Nat × V)} (ht : ∀ i b, ClaimT t a.tmps i b → ClaimT s.t a.tmps i b) : Unclaimed g' { t := t, h := s.h } a w' w.heap.size where
  t := fun i hc => absurd (claimT_lt hR (ht i _ hc)) (Nat.lt_irrefl _)
  h := fun _ _ hc => absurd (claimH_lt hR.hp (k.claimH hR.hp hc)) (Nat.lt_irrefl _)
  o := fun r o e hl => by
    rw [k.le.eq r (hR.hp.lv r o e hl)]
    exact Nat.ne_of_lt (live_lt hR.hp e hl)

theorem grown_does (hR : Rel S G g nt s a w) {t t2 : TypeId} {x' y' : Operand} {x y : Value} {es cap c2 : Nat} {l m : List (List C)} {p p2 : Option Addr} (T : AppTy S t t2 es) (hx : a.eval x' = x) (hy : a.eval y' = y)
    (hxs : x = .slice p l.length cap) (hys : y = .slice p2 m.length c2) (hcap : cap < l.length + m.length) (hle : l.length + m.length ≤ 2147483648) {old new : Array Value}
    (hold : ∀ w', w'.heap = w.heap → (Builtin.firstCells es l.length x).run S.P w' = .ok old w') (hnew : ∀ w', w'.heap = w.heap → (Builtin.firstCells es m.length y).run S.P w' = .ok new w')
    (ho : Cells S g l.flatten old) (hn : Cells S g m.flatten new) (hl : ∀ e ∈ l ++ m, e.length = es) (hp : ∀ e ∈ l ++ m, C.pureL e = true) (takes : List Nat) :
    Does S G nt g s a w (.call { callee := .builtin .append, args := #[x', y'], argTypes := #[t, t2] }) takes (.sc (.own es (l ++ m))) s.h := by
  subst hxs
  subst hys
  have h0 : ∀ ty, ∃ ncap, l.length + m.length ≤ ncap ∧ (Builtin.append_ #[t, t2] ty #[.slice p l.length cap, .slice p2 m.length c2]).run S.P w =
      .ok (.slice (some ⟨w.heap.size, 0, none⟩) (l.length + m.length) ncap) (w.drew.alloc (.cells (old ++ new ++ Builtin.zeroCells T.zv.cells (ncap - (l.length + m.length))) T.e)) := fun ty => append_grows T hcap hle hold hnew
  intro o' ho'
  obtain ⟨ncap, hnc, hrun⟩ := h0 o'.type
  have hlen : (l ++ m).flatten.length = (l.length + m.length) * es := by rw [flat_len hl, List.length_append]
  have hosz : old.size = l.length * es := by rw [← ho.1, flat_len fun e he => hl e (by simp [he])]
  have hnsz : new.size = m.length * es := by rw [← hn.1, flat_len fun e he => hl e (by simp [he])]
  generalize hvals : old ++ new ++ Builtin.zeroCells T.zv.cells (ncap - (l.length + m.length)) = vals at hrun
  have hvsz : vals.size = ncap * es := by
    rw [← hvals]
    simp only [Array.size_append, hosz, hnsz, Builtin.zeroCells, Array.size_map, Array.size_range, T.hzs]
    rw [← Nat.add_mul, ← Nat.add_mul]
    congr 1; omega
  have hcells : ∀ (j : Nat) c, (l ++ m).flatten[j]? = some c → ∃ z, vals[j]? = some z ∧ RC S g c z := fun j c hj => by
    rw [List.flatten_append] at hj
    by_cases hjl : j < l.flatten.length
    · rw [List.getElem?_append_left hjl] at hj
      have hjo : j < old.size := by rw [← ho.1]; exact hjl
      refine ⟨old[j], ?_, ho.2 j c _ hj (Array.getElem?_eq_getElem hjo)⟩
      rw [← hvals, Array.append_assoc, Array.getElem?_append_left hjo, Array.getElem?_eq_getElem hjo]
    · rw [List.getElem?_append_right (by omega)] at hj
      have hjn : j - l.flatten.length < new.size := by rw [← hn.1]; exact (List.getElem?_eq_some_iff.1 hj).1
      refine ⟨new[j - l.flatten.length], ?_, hn.2 _ c _ hj (Array.getElem?_eq_getElem hjn)⟩
      have e1 := ho.1
      rw [← hvals, Array.getElem?_append_left (by simp; omega), Array.getElem?_append_right (by omega), ← ho.1, Array.getElem?_eq_getElem hjn]
  have hg := Grows.row hR.hp w.drew (.inr rfl) vals T.e ((l ++ m).length * es)
  have hex : (execOp a.eval o').run S.P w = .ok (.value (.slice (some ⟨w.heap.size, 0, none⟩) (l ++ m).length ncap)) (w.drew.alloc (.cells vals T.e)) := by
    have := hrun
    rw [List.length_append]
    simp [execOp, ho', resolve, invoke, builtin, hx, hy, this]
  refine ⟨_, _, _, g.row w.heap.size ((l ++ m).length * es) vals, hex, .inl rfl, (Goes.drop hR takes).trans (.grow (hR.drop takes) hg), .own _ _ _ _ _ ⟨row_slice hl hp hcells hg.le (by simp) (by simp) (by rw [List.length_append]; exact hnc), ⟨vals, T.e, ?_, by rw [hvsz]; omega⟩, fun o hoo => ?_⟩
    (fresh_unclaimed hR hg fun i b hc => hc.of_drop.1) (fun h => absurd h (Nat.lt_irrefl _))⟩
  · exact heap_alloc_new w.drew _
  · have : ¬ (o < (l ++ m).length * es) := by omega
    simp only [Gh.row, if_true, if_neg this]

theorem append_does (hR : Rel S G g nt s a w) {es : Nat} {x y : Rand} {x' y' : Operand} {t t2 : TypeId} (T : AppTy S t t2 es) (h1 : MT S G x x') (h2 : MR S G y y') (e : eff base s.h (rd S.Γ s.t) (.append es x y) = some (v, ws)) :
    ws = [] ∧ Does S G nt g s a w (.call { callee := .builtin .append, args := #[x', y'], argTypes := #[t, t2] }) x.takes v s.h := by
  have hx := rd_rt hR h1
  have hy := rd_rv hR h2
  simp only [eff, one, Option.map_eq_some_iff, Prod.mk.injEq] at e
  obtain ⟨c, hc, rfl, rfl⟩ := e
  refine ⟨rfl, ?_⟩
  unfold appended at hc
  split at hc
  · cases hc
  · rename_i m hm
    obtain ⟨new, hnew, hn, hml, hmp, p2, c2, hys, hp2⟩ := slice_cells hR.hp T.he hm hy
    split at hc
    · rename_i k es' l hxv
      split at hc
      · rename_i hcond
        obtain ⟨rfl, hk, hroom⟩ := hcond
        rw [hxv] at hx
        cases hx with
        | rv _ _ hx =>
          have hel : elems es' (.sc (.sl k es' l)) = some l := by simp [elems]
          obtain ⟨old, hold, ho, hll, hlp, p, c1, hxs, hp1⟩ := slice_cells hR.hp T.he hel hx
          cases m with
          | nil =>
            simp only [Option.some.injEq] at hc
            subst hc
            have hcap : l.length + 0 ≤ c1 := by
              rw [hxs] at hx
              cases hx with
              | sc _ _ h =>
                cases h with
                | slNil => exact Nat.le_refl 0
                | sl _ _ _ _ _ _ _ _ _ hcc => exact hcc
            have hnn : new = #[] := by
              have := hn.1
              simp at this
              exact Array.size_eq_zero_iff.1 this.symm
            refine fun o' ho' => ⟨a.eval x', _, w, g, run_append (S := S) ho' rfl rfl fun ty => ?_, .inl rfl, .drop hR x.takes, .rv _ _ hx⟩
            rw [hxs, hys]
            have := append_fits (S := S) (w := w) (w' := w) (ty := ty) (base := p) (p2 := p2) (c2 := c2) (n := 0) T hcap (by have := hnew w rfl; rw [hys] at this; exact this) (fun ad _ => by subst hnn; simp [storeCells]) (fun _ => rfl)
            simpa using this
          | cons m0 ms =>
            simp only [Option.some.injEq] at hc
            subst hc
            have hcap : c1 = l.length := by
              rw [hxs] at hx
              cases hx with
              | sc _ _ h =>
                cases h with
                | slNil => rfl
                | sl _ _ _ _ _ _ _ hk' hf =>
                  cases k with
                  | nil => exact absurd rfl hk'
                  | full => exact hf rfl
                  | shared => exact absurd rfl hk
            exact grown_does hR T rfl rfl hxs hys (by rw [hcap]; simp) hroom hold hnew ho hn (fun e he => by rcases List.mem_append.1 he with h | h; exact hll e h; exact hml e h)
              (fun e he => by rcases List.mem_append.1 he with h | h; exact hlp e h; exact hmp e h) x.takes
      · cases hc
    · rename_i es' l hxv
      split at hc
      · rename_i hcond
        obtain ⟨rfl, hroom⟩ := hcond
        simp only [Option.some.injEq] at hc
        subst hc
        cases h1 with
        | r _ _ h =>
          have hv := rd_rv hR h
          rw [hxv] at hv
          cases hv with
          | sc _ _ h => exact absurd rfl (h.not_own _ _)
        | tk i =>
          have ht := hR.tm i
          have hgi : get s.t i = .sc (.own es' l) := hxv
          rw [hgi] at ht
          have hev : a.eval (.tmp i) = a.tmps.getD i undef := rfl
          generalize hxx : a.tmps.getD i undef = xv at ht hev
          cases ht with
          | rv _ _ h =>
            cases h with
            | sc _ _ h => exact absurd rfl (h.not_own _ _)
          | own _ _ b off cap hown =>
            have hcT : ClaimT s.t a.tmps i b := ⟨es', l, _, _, _, hgi, hxx, rfl⟩
            have hel : elems es' (.sc (.sl .shared es' l)) = some l := by simp [elems]
            obtain ⟨old, hold, ho, hll, hlp, p, c1, hxs, hp1⟩ := slice_cells hR.hp T.he hel (.sc _ _ hown.rel)
            have hall : ∀ e ∈ l ++ m, e.length = es' := fun e he => by rcases List.mem_append.1 he with h | h; exact hll e h; exact hml e h
            have hallp : ∀ e ∈ l ++ m, C.pureL e = true := fun e he => by rcases List.mem_append.1 he with h | h; exact hlp e h; exact hmp e h
            by_cases hfit : l.length + m.length ≤ cap
            · cases hm0 : m with
              | nil =>
                subst hm0
                have hnn : new = #[] := by
                  have := hn.1
                  simp at this
                  exact Array.size_eq_zero_iff.1 this.symm
                refine fun o' ho' => ⟨.slice (some ⟨b, off, none⟩) l.length cap, _, w, g, run_append (S := S) ho' hev rfl fun ty => ?_, .inl rfl, .drop hR [i], ?_⟩
                · rw [hys]
                  have := append_fits (S := S) (w := w) (w' := w) (ty := ty) (base := some ⟨b, off, none⟩) (p2 := p2) (c2 := c2) (n := 0) T hfit (by have := hnew w rfl; rw [hys] at this; exact this) (fun ad _ => by subst hnn; simp [storeCells]) (fun _ => rfl)
                  simpa using this
                · rw [List.append_nil]
                  exact .own _ _ _ _ _ hown (taken_unclaimed hR hcT) (fun _ => .inr ⟨i, hcT⟩)
              | cons m0 ms =>
                rw [← hm0]
                obtain ⟨cs, elem, hb, hsz⟩ := hown.blk
                have hlen : (l.length + m.length) * es' ≤ cap * es' := Nat.mul_le_mul_right _ hfit
                rw [Nat.add_mul] at hlen
                have hnsz : new.size = m.length * es' := by rw [← hn.1, flat_len hml]
                have hst := run_storeCells_at S.P b (off + l.length * es') elem new.toList 0 cs w hb (by simp [hnsz]; omega) (fun u hu => by
                  obtain ⟨j, hj⟩ := List.getElem?_of_mem hu
                  rw [Array.getElem?_toList] at hj
                  have hjl : j < m.flatten.length := by rw [hn.1]; exact (Array.getElem?_eq_some_iff.1 hj).1
                  exact rt_scalar (w := w) (.rc _ _ (hn.2 j _ u (List.getElem?_eq_getElem hjl) hj)))
                rw [Nat.add_zero] at hst
                generalize hrow : (cs.toList.take (off + l.length * es') ++ new.toList ++ cs.toList.drop (off + l.length * es' + new.toList.length)).toArray = row at hst
                have hget : ∀ j, row[j]? = if off + l.length * es' ≤ j ∧ j < off + l.length * es' + m.length * es' then new[j - (off + l.length * es')]? else cs[j]? := fun j => by
                  rw [← hrow, List.getElem?_toArray, mid_get _ _ _ _ (by simp [hnsz]; omega)]
                  simp [hnsz]
                have hrsz : row.size = cs.size := by
                  rw [← hrow]; simp [hnsz]; omega
                have hnew' : (w.setRow b row).heap[b]? = some (.cells row elem (0, 0)) := setRow_heap w b cs row elem (0, 0) hb
                let g' : Gh := { g with M := fun b' o => if b' = b ∧ off + l.length * es' ≤ o ∧ o < off + l.length * es' + m.length * es' then new[o - (off + l.length * es')]? else g.M b' o }
                have hMo : ∀ b' o v, g.M b' o = some v → g'.M b' o = some v := fun b' o v e => by
                  have : ¬ (b' = b ∧ off + l.length * es' ≤ o ∧ o < off + l.length * es' + m.length * es') := by
                    rintro ⟨rfl, h1, _⟩
                    rw [hown.spare o h1] at e; cases e
                  simp only [g', if_neg this]; exact e
                obtain ⟨hgo, hun⟩ := Goes.extend (g' := g') (w' := w.setRow b row) hR hcT rfl rfl rfl hMo (fun b' o hb' => by simp [g', hb']) (fun o v e => by
                  rw [cell_of_heap hnew', hget]
                  simp only [g', true_and] at e
                  split at e
                  · rename_i hc; rw [if_pos hc]; exact e
                  · rename_i hc
                    rw [if_neg hc, ← cell_of_heap hb]
                    exact hR.hp.im b o v e) ⟨cs, elem, _, hb⟩ (fun b' hb' => setRow_same hb') (by simp [World.setRow]) rfl rfl rfl
                refine fun o' ho' => ⟨.slice (some ⟨b, off, none⟩) (l ++ m).length cap, _, w.setRow b row, g', run_append (S := S) ho' hev rfl fun ty => ?_, .inl rfl, hgo, .own _ _ _ _ _ ⟨?_, ⟨row, elem, hnew', by rw [hrsz]; exact hsz⟩, fun o hoo => ?_⟩ hun (fun _ => .inr ⟨i, hcT⟩)⟩
                · rw [hys, List.length_append]
                  refine append_fits (S := S) T hfit (by have := hnew w rfl; rw [hys] at this; exact this) (fun ad had => ?_) (by simp)
                  simp only [Option.some.injEq] at had
                  subst had
                  rw [Addr.add_none]
                  exact hst
                · have hMl : ∀ (i : Nat) (e : List C) (j : Nat) c, l[i]? = some e → e[j]? = some c → ∃ y, g.M b (off + i * es' + j) = some y ∧ RC S g c y := by
                    rcases elems_inv hel (.sc _ _ hown.rel) with ⟨rfl, h⟩ | ⟨b2, off2, cap2, h, _, _, hM⟩
                    · intro i e j c hi; simp at hi
                    · cases h; exact hM
                  have key : ∀ (i : Nat) (e : List C) (j : Nat), (l ++ m)[i]? = some e → j < es' → ∃ z c, g'.M b (off + i * es' + j) = some z ∧ e[j]? = some c ∧ RC S g' c z := by
                    intro i e j hi hj
                    have hel := hall e (List.mem_of_getElem? hi)
                    have hej : e[j]? = some (e[j]'(by rw [hel]; exact hj)) := List.getElem?_eq_getElem _
                    by_cases hil : i < l.length
                    · rw [List.getElem?_append_left hil] at hi
                      obtain ⟨z, hz, hr⟩ := hMl i e j _ hi hej
                      exact ⟨z, _, hMo _ _ _ hz, hej, hr.mono hgo.le⟩
                    · rw [List.getElem?_append_right (by omega)] at hi
                      have hfl := flat_get hml (i - l.length) j hj
                      rw [hi, Option.bind_some, hej] at hfl
                      have hlt : (i - l.length) * es' + j < new.size := by rw [← hn.1]; exact (List.getElem?_eq_some_iff.1 hfl).1
                      have hmul : i * es' = l.length * es' + (i - l.length) * es' := by rw [← Nat.add_mul]; congr 1; omega
                      refine ⟨new[(i - l.length) * es' + j], _, ?_, hej, (hn.2 _ _ _ hfl (Array.getElem?_eq_getElem hlt)).mono hgo.le⟩
                      have hin : off + l.length * es' ≤ off + i * es' + j ∧ off + i * es' + j < off + l.length * es' + m.length * es' := by rw [hnsz] at hlt; omega
                      simp only [g', true_and, if_pos hin]
                      rw [show off + i * es' + j - (off + l.length * es') = (i - l.length) * es' + j from by omega]
                      exact Array.getElem?_eq_getElem hlt
                  refine .sl .shared es' (l ++ m) b off cap (fun i j => (g'.M b (off + i * es' + j)).getD undef) (by simp) (by simp) (by rw [List.length_append]; exact hfit) (fun i e hi => hall e (List.mem_of_getElem? hi)) (fun i e hi => hallp e (List.mem_of_getElem? hi)) (fun i e j hi hj => ?_) (fun i e j c hi hj => ?_)
                  · obtain ⟨z, c, hz, _⟩ := key i e j hi hj
                    rw [hz]; rfl
                  · have hjl : j < es' := by rw [← hall e (List.mem_of_getElem? hi)]; exact (List.getElem?_eq_some_iff.1 hj).1
                    obtain ⟨z, c', hz, hc', hr⟩ := key i e j hi hjl
                    rw [hj] at hc'
                    cases hc'
                    rw [hz]; exact hr
                · rw [List.length_append, Nat.add_mul] at hoo
                  have hnot : ¬ (off + l.length * es' ≤ o ∧ o < off + l.length * es' + m.length * es') := by omega
                  simp only [g', true_and, if_neg hnot]
                  exact hown.spare o (by omega)
            · exact grown_does hR T hev rfl rfl hys (by omega) hroom hold hnew ho hn hall hallp [i]
      · cases hc
    · cases hc

theorem appendM_does (hR : Rel S G g nt s a w) {a0 es : Nat} {x y : Rand} {x' y' : Operand} {t t2 : TypeId} (T : AppTy S t t2 es) (h1 : MR S G x x') (h2 : MR S G y y') (e : eff base s.h (rd S.Γ s.t) (.appendM a0 es x y) = some (v, ws)) :
    Does S G nt g s a w (.call { callee := .builtin .append, args := #[x', y'], argTypes := #[t, t2] }) [] v (setObjs s.h ws) := by
  have hx := rd_rv hR h1
  have hy := rd_rv hR h2
  simp only [eff] at e
  split at e
  · cases e
  · rename_i m hm
    obtain ⟨new, hnew, hn, hml, hmp, p2, c2, hys, hp2⟩ := slice_cells hR.hp T.he hm hy
    split at e
    · rename_i k es' l hxv
      split at e
      · rename_i hes
        subst hes
        rw [hxv] at hx
        have hel : elems es' (.sc (.sl k es' l)) = some l := by simp [elems]
        obtain ⟨old, hold, ho, hll, hlp, p, c1, hxs, hp1⟩ := slice_cells hR.hp T.he hel hx
        cases m with
        | nil =>
          simp only [Option.some.injEq, Prod.mk.injEq] at e
          obtain ⟨rfl, rfl⟩ := e
          have hcap : l.length + 0 ≤ c1 := by
            rw [hxs] at hx
            cases hx with
            | sc _ _ h =>
              cases h with
              | slNil => exact Nat.le_refl 0
              | sl _ _ _ _ _ _ _ _ _ hcc => exact hcc
          have hnn : new = #[] := by
            have := hn.1
            simp at this
            exact Array.size_eq_zero_iff.1 this.symm
          refine fun o' ho' => ⟨a.eval x', _, w, g, run_append (S := S) ho' rfl rfl fun ty => ?_, .inl rfl, .drop hR [], .rv _ _ hx⟩
          rw [hxs, hys]
          have := append_fits (S := S) (w := w) (w' := w) (ty := ty) (base := p) (p2 := p2) (c2 := c2) (n := 0) T hcap (by have := hnew w rfl; rw [hys] at this; exact this) (fun ad _ => by subst hnn; simp [storeCells]) (fun _ => rfl)
          simpa using this
        | cons m0 ms =>
          simp only at e
          split at e
          · rename_i hcond
            obtain ⟨hfree, hk, hroom⟩ := hcond
            simp only [Option.some.injEq, Prod.mk.injEq] at e
            obtain ⟨rfl, rfl⟩ := e
            generalize hmm : m0 :: ms = m at *
            have hcap : c1 = l.length := by
              rw [hxs] at hx
              cases hx with
              | sc _ _ h =>
                cases h with
                | slNil => rfl
                | sl _ _ _ _ _ _ _ hk' hf =>
                  cases k with
                  | nil => exact absurd rfl hk'
                  | full => exact hf rfl
                  | shared => exact absurd rfl hk
            have hm1 : 0 < m.length := by rw [← hmm]; simp
            intro o' ho'
            obtain ⟨ncap, hnc, hrun⟩ := append_grows (S := S) (w := w) (ty := o'.type) (base := p) (p2 := p2) (cap := c1) (c2 := c2) (old := old) (new := new) T (by omega) hroom
              (fun w' hw' => by have := hold w' hw'; rw [hxs] at this; exact this) (fun w' hw' => by have := hnew w' hw'; rw [hys] at this; exact this)
            have hl : ∀ e ∈ l ++ m, e.length = es' := fun e he => by rcases List.mem_append.1 he with h | h; exact hll e h; exact hml e h
            have hp : ∀ e ∈ l ++ m, C.pureL e = true := fun e he => by rcases List.mem_append.1 he with h | h; exact hlp e h; exact hmp e h
            have hlen : (l ++ m).flatten.length = (l.length + m.length) * es' := by rw [flat_len hl, List.length_append]
            have hosz : old.size = l.length * es' := by rw [← ho.1, flat_len fun e he => hl e (by simp [he])]
            have hnsz : new.size = m.length * es' := by rw [← hn.1, flat_len fun e he => hl e (by simp [he])]
            generalize hvals : old ++ new ++ Builtin.zeroCells T.zv.cells (ncap - (l.length + m.length)) = vals at hrun
            have hvsz : vals.size = ncap * es' := by
              rw [← hvals]
              simp only [Array.size_append, hosz, hnsz, Builtin.zeroCells, Array.size_map, Array.size_range, T.hzs]
              rw [← Nat.add_mul, ← Nat.add_mul]
              congr 1; omega
            have hcells : ∀ (j : Nat) c z, (l ++ m).flatten[j]? = some c → vals[j]? = some z → RC S g c z := fun j c z hj hz => by
              rw [List.flatten_append] at hj
              by_cases hjl : j < l.flatten.length
              · rw [List.getElem?_append_left hjl] at hj
                have hjo : j < old.size := by rw [← ho.1]; exact hjl
                rw [← hvals, Array.append_assoc, Array.getElem?_append_left hjo] at hz
                exact ho.2 j c z hj hz
              · rw [List.getElem?_append_right (by omega)] at hj
                have hjn : j - l.flatten.length < new.size := by rw [← hn.1]; exact (List.getElem?_eq_some_iff.1 hj).1
                have e1 := ho.1
                rw [← hvals, Array.getElem?_append_left (by simp; omega), Array.getElem?_append_right (by omega), ← ho.1] at hz
                exact hn.2 _ c z hj hz
            have hex : (execOp a.eval o').run S.P w = .ok (.value (.slice (some ⟨w.heap.size, 0, none⟩) (l.length + m.length) ncap)) (w.drew.alloc (.cells vals T.e)) := by
              have := hrun
              simp [execOp, ho', resolve, invoke, builtin, hxs, hys, this]
            have hgd := Goes.grow hR (Grows.drew g w)
            have hRd : Rel S G g nt s a w.drew := hgd.rel
            have hfr := isFree_spec hfree
            have hb := cells_born (t := T.e) (vals := vals) hRd hfr (.inr ⟨by rw [hlen, hvsz]; exact Nat.mul_le_mul_right _ hnc, hcells⟩)
            have hrv : RV S (g.with (base + a0) w.drew.heap.size) (.sc (.msl (base + a0) 0 (l.length + m.length) 0 es')) (.slice (some ⟨w.heap.size, 0, none⟩) (l.length + m.length) ncap) := by
              have hσ : (g.with (base + a0) w.drew.heap.size).σ (base + a0) = w.heap.size := by simp [Gh.with]
              have := RC.msl (S := S) (g := g.with (base + a0) w.drew.heap.size) (base + a0) 0 (l.length + m.length) 0 es' ncap (.inl rfl) hnc (.inl rfl)
              rw [hσ] at this
              exact .sc _ _ this
            exact ⟨_, _, _, _, hex, .inl rfl, hgd.trans hb, .rv _ _ hrv⟩
          · cases e
      · cases e
    · cases e

end
end Go.Pm

namespace Go.Pm

theorem bytes_eq {a b : ByteArray} (h : (a == b) = true) : a = b := by
  have : (a.data == b.data) = true := h
  cases a; cases b; simp_all

theorem tagEq_eq {t : Nat} {c d : C} (h : tagEq t c d = some true) : c = d := by
  unfold tagEq at h
  split at h
  · simp at h; rw [h]
  · split at h
    · rename_i hk; subst hk; simp at h; rw [h]
    · cases h
  · simp only [Option.some.injEq] at h
    rw [bytes_eq h]
  · cases h

theorem keyEq_cons {t : Nat} {ts : List Nat} {c d : C} {cs ds : List C} (h : keyEq (t :: ts) (c :: cs) (d :: ds) = some true) : tagEq t c d = some true ∧ keyEq ts cs ds = some true := by
  unfold keyEq at h
  split at h
  · rename_i x y h1 h2
    simp only [Option.some.injEq, Bool.and_eq_true] at h
    obtain ⟨rfl, rfl⟩ := h
    exact ⟨h1, h2⟩
  · cases h

theorem keyEq_eq : ∀ {ts : List Nat} {cs ds : List C}, keyEq ts cs ds = some true → cs = ds
  | [], [], [], _ => rfl
  | t :: ts, c :: cs, d :: ds, h => by
    obtain ⟨h1, h2⟩ := keyEq_cons h
    rw [tagEq_eq h1, keyEq_eq h2]
  | [], _ :: _, _, h => by simp [keyEq] at h
  | [], [], _ :: _, h => by simp [keyEq] at h
  | _ :: _, [], _, h => by simp [keyEq] at h
  | _ :: _, _ :: _, [], h => by simp [keyEq] at h

section
variable {S : Seat} {G : List Nat} {g g' g'' : Gh} {nt : Nat} {s s' s'' : St} {a a' a'' : Act} {w w' w'' : World} {h : List Obj} {base : Nat} {v : V} {ws : List (Nat × Obj)} {takes : List Nat}

theorem sameBits_cell {t : Nat} {c d : C} {x y : Value} (h : tagEq t c d = some true) (hx : RC S g c x) (hy : RC S g d y) (n : Nat) : Instr.sameBits n x y = true := by
  rcases tagEq_run h hx hy with ⟨_, p, q, rfl, rfl, e⟩ | ⟨_, k, p, q, rfl, rfl, e⟩ | ⟨_, p, q, rfl, rfl, e⟩
  · cases n <;> simp [Instr.sameBits] <;> simpa using e.symm
  · cases n <;> simp [Instr.sameBits] <;> simpa using e.symm
  · cases n <;> simp [Instr.sameBits] <;> exact e.symm

theorem keyEq_all : ∀ {ts : List Nat} {cs ds : List C}, keyEq ts cs ds = some true → ∀ (j : Nat) c d, cs[j]? = some c → ds[j]? = some d → ∃ t, tagEq t c d = some true
  | [], [], [], _, j, c, d, hc, _ => by simp at hc
  | t :: ts, c :: cs, d :: ds, h, j, c', d', hc, hd => by
    obtain ⟨h1, h2⟩ := keyEq_cons h
    rcases j with _ | j
    · simp at hc hd; subst hc; subst hd; exact ⟨t, h1⟩
    · exact keyEq_all h2 j c' d' (by simpa using hc) (by simpa using hd)
  | [], _ :: _, _, h, _, _, _, _, _ => by simp [keyEq] at h
  | [], [], _ :: _, h, _, _, _, _, _ => by simp [keyEq] at h
  | _ :: _, [], _, h, _, _, _, _, _ => by simp [keyEq] at h
  | _ :: _, _ :: _, [], h, _, _, _, _, _ => by simp [keyEq] at h

theorem stays_run {ty : KT} {d : Nat} {t : TypeId} {cs ds : List C} {x y : Value} (hf : flat S.P d t = some ty) (h : keyEq ty.tags cs ds = some true) (hx : KR S g ty.agg cs x) (hy : KR S g ty.agg ds y) (w : World) :
    (Instr.keyThatStays y x).run S.P w = .ok x w := by
  have hb : Instr.sameBits 10000 y x = true := by
    have hsame := keyEq_eq h
    subst hsame
    cases hag : ty.agg with
    | false =>
      rw [hag] at hx hy
      obtain ⟨u, _, _, h1⟩ := flat_agg hf
      have hl := h1 hag
      obtain ⟨t', ht'⟩ : ∃ t', ty.tags = [t'] := by
        cases htt : ty.tags with
        | nil => rw [htt] at hl; simp at hl
        | cons t' ts => cases ts with
          | nil => exact ⟨t', rfl⟩
          | cons => rw [htt] at hl; simp at hl
      rw [ht'] at h
      obtain ⟨c, d', e1, e2, e3⟩ := keyEq_one h
      subst e1
      simp at e2
      subst e2
      exact sameBits_cell e3 hy.one_inv hx.one_inv _
    | true =>
      rw [hag] at hx hy
      obtain ⟨xs, rfl, hlx, hrx⟩ := hx.agg_inv
      obtain ⟨ys, rfl, hly, hry⟩ := hy.agg_inv
      have hsz : ys.size = xs.size := by omega
      simp only [Instr.sameBits, Bool.and_eq_true, beq_iff_eq, hsz, true_and, List.all_eq_true]
      intro p hp
      obtain ⟨j, hj⟩ := List.getElem?_of_mem hp
      rw [List.getElem?_zip_eq_some] at hj
      obtain ⟨j1, j2⟩ := hj
      rw [Array.getElem?_toList] at j1 j2
      have hjl : j < cs.length := by rw [hly]; exact (Array.getElem?_eq_some_iff.1 j1).1
      obtain ⟨t', ht'⟩ := keyEq_all h j _ _ (List.getElem?_eq_getElem hjl) (List.getElem?_eq_getElem hjl)
      exact sameBits_cell ht' (hry j _ _ (List.getElem?_eq_getElem hjl) j1) (hrx j _ _ (List.getElem?_eq_getElem hjl) j2) _
  simp [Instr.keyThatStays, hb]

def setBlock (w : World) (r : Nat) (o : Go.Obj) : World := { w with heap := w.heap.setIfInBounds r o }

theorem run_setMap {P : Program} {r : Nat} {es : Array MapEntry} {n : Nat} {o : Go.Obj} (h : w.heap[r]? = some (.map es n)) : (setObj r o).run P w = .ok () (setBlock w r o) := by
  simp [setObj, Sem.run, h, setBlock]

theorem run_getMap {P : Program} {r : Nat} {es : Array MapEntry} {n : Nat} (h : w.heap[r]? = some (.map es n)) : (getObj r).run P w = .ok (.map es n) w := by
  simp [getObj, Sem.run, h]

theorem setBlock_same {r b : Nat} {o : Go.Obj} (h : b ≠ r) : (setBlock w r o).heap[b]? = w.heap[b]? := by
  simp only [setBlock, Array.getElem?_setIfInBounds]
  rw [if_neg (fun e => h e.symm)]

theorem setBlock_new {r : Nat} {o : Go.Obj} (h : r < w.heap.size) : (setBlock w r o).heap[r]? = some o := by
  simp [setBlock, h]

theorem set_self {h : List Obj} {p : Nat} {o : Obj} (e : h[p]? = some o) : h.set p o = h := by
  apply List.ext_getElem?
  intro j
  by_cases hj : j = p
  · subst hj
    have := (List.getElem?_eq_some_iff.1 e).1
    rw [List.getElem?_set_self this, e]
  · rw [get_set_ne hj]

theorem Goes.mapSet (hR : Rel S G g nt s a w) {p : Nat} {ka va : Bool} {l l' : List (List C × List C)} {ph ph' : Option (List C × List C)} {es : Array MapEntry} (hp : s.h[p]? = some (.map ka va l ph))
    (h1 : ∀ (i : Nat) m, es[i]? = some m → m.born = i) (h2 : es.size = l'.length + (if ph'.isSome then 1 else 0))
    (h3 : ∀ (i : Nat) e m, l'[i]? = some e → es[i]? = some m → KR S g ka e.1 m.key ∧ KR S g va e.2 m.val ∧ C.pureL e.1 = true ∧ C.pureL e.2 = true)
    (h4 : ∀ k z m, ph' = some (k, z) → es[l'.length]? = some m → KR S g ka k m.key ∧ KR S g va z m.val ∧ C.pureL k = true ∧ C.pureL z = true) :
    Goes S G nt g g s { t := Pm.drop [] s.t, h := s.h.set p (.map ka va l' ph') } a a w (setBlock w (g.σ p) (.map es es.size)) := by
  have hlt := live_lt hR.hp hp rfl
  refine Goes.modify (takes := []) (off0 := 0) hR hp rfl rfl (fun b hb => setBlock_same hb) (by simp [setBlock]) rfl rfl rfl ⟨es, setBlock_new hlt, h1, h2, h3, h4⟩ ?_
  rintro j b ⟨cs, es, l, vals, elem, fr, ad, m, cap, e1, _⟩
  have hplt : p < s.h.length := (List.getElem?_eq_some_iff.1 hp).1
  simp [hplt] at e1

theorem proper_kr {va : Bool} {v : V} {x : Value} (h : proper va v = true) (hv : RV S g v x) : KR S g va v.cells x := by
  simp only [proper, Bool.and_eq_true, beq_iff_eq, Bool.or_eq_true] at h
  refine .of_rv hv h.1 ?_ ?_
  · rintro rfl
    have h1 : va = false := h.1.symm
    subst h1
    simp [V.cells] at h
  · rintro vs rfl
    have h1 : va = false := h.1.symm
    subst h1
    simp [V.cells] at h

theorem mkmap_does (hR : Rel S G g nt s a w) {n : Nat} {ka va : Bool} {t : TypeId} (e : eff base s.h (rd S.Γ s.t) (.mkmap n ka va) = some (v, ws)) : Does S G nt g s a w (.makeMap t none) [] v (setObjs s.h ws) := by
  simp only [eff] at e
  split at e
  · rename_i hc
    simp only [Option.some.injEq, Prod.mk.injEq] at e
    obtain ⟨rfl, rfl⟩ := e
    have hp := isFree_spec hc
    have hσ : (g.with (base + n) w.heap.size).σ (base + n) = w.heap.size := by simp [Gh.with]
    refine fun o' ho' => ⟨.map (some w.heap.size), _, w.alloc (.map #[] 0), _, by simp [execOp, ho', Instr.makeMap, newObj, Sem.run, World.alloc_eq], .inl rfl,
      Goes.born (takes := []) (off0 := 0) hR hp rfl ⟨#[], heap_alloc_new _ _, fun i m h => by simp at h, rfl, fun i e m h => by simp at h, fun k z m h => by simp at h⟩ ?_, .rv _ _ (.sc _ _ ?_)⟩
    · rintro j b ⟨cs, es, l, vals, elem, fr, ad, m, cap, e1, _⟩
      have hplt : base + n < s.h.length := (List.getElem?_eq_some_iff.1 hp).1
      simp [hplt] at e1
    · have := RC.map (S := S) (g := g.with (base + n) w.heap.size) (base + n) (.inl rfl)
      rw [hσ] at this
      exact this
  · cases e

theorem map_inv {p : Nat} {x : Value} (h : RV S g (.sc (.map p)) x) : g.A p ∧ x = .map (some (g.σ p)) := by
  have := h.sc_inv (by simp)
  cases this with
  | map r hA => exact ⟨hA, rfl⟩

theorem foundAs_some {i n : Nat} {c : List C} {es : List MapEntry} {o : Option (Nat × Value)} (h : foundAs i (some (n, c)) es o) : ∃ m, i ≤ n ∧ es[n - i]? = some m ∧ o = some (n, m.val) := h

theorem ment_does (hR : Rel S G g nt s a w) {ty : KT} {z : V} {m key : Rand} {t kt et : TypeId} {m' key' : Operand} {d : Nat} (h1 : MR S G m m') (h2 : MR S G key key')
    (hu : S.P.underlying t = some (.map kt et)) (hz : TZeroV S.P et z) (hf : flat S.P d kt = some ty) (hd : d ≤ 100)
    (e : eff base s.h (rd S.Γ s.t) (.ment ty z m key) = some (v, ws)) : Does S G nt g s a w (.mapEntry t m' key') [] v (setObjs s.h ws) := by
  have hm := rd_rv hR h1
  have hk := rd_rv hR h2
  simp only [eff] at e
  split at e
  · rename_i p hp
    rw [hp] at hm
    obtain ⟨hA, hx⟩ := map_inv hm
    split at e
    · rename_i ka va l hobj
      split at e
      · cases e
      · rename_i hcond
        simp only [not_or, ne_eq, Decidable.not_not, Bool.not_eq_false] at hcond
        obtain ⟨hfit, rfl, hpz⟩ := hcond
        obtain ⟨kr, klen⟩ := fits_kr hf hfit hk
        obtain ⟨es, hb, hborn, hsz, hents, _⟩ := hR.hp.ob p _ hobj
        simp at hsz
        have hE : Ents S g ty.agg va l es.toList := ⟨by simp [hsz], fun i e m a b => by
          rw [Array.getElem?_toList] at b
          obtain ⟨x, y, _⟩ := hents i e m a b; exact ⟨x, y⟩⟩
        have hck : (Instr.checkKey false 10000 kt (a.eval key')).run S.P w = .ok () w := check_flat d kt ty hf 10000 (by omega) w _ _ kr klen
        have hlt := live_lt hR.hp hobj rfl
        split at e
        · rename_i i cs hr
          simp only [Option.some.injEq, Prod.mk.injEq] at e
          obtain ⟨rfl, rfl⟩ := e
          obtain ⟨o, ho, hfd⟩ := findKey_run hf hd kr w hE.keys hr
          obtain ⟨me, _, hme, rfl⟩ := foundAs_some hfd
          obtain ⟨_, en, hen, _, heq⟩ := find_spec l 0 i cs hr
          rw [Nat.sub_zero] at hen hme
          rw [Array.getElem?_toList] at hme
          have hst := stays_run hf heq kr (hE.2 i en me hen (by rw [Array.getElem?_toList]; exact hme)).1 w
          have hbi := hborn i me hme
          have hgo := Goes.mapSet (l' := l) (ph' := none) (es := es.modify i fun e => { e with key := a.eval key' }) hR hobj (fun j m hj => by
              rw [Array.getElem?_modify] at hj
              split at hj
              · rename_i hij
                subst hij
                rw [hme] at hj
                simp at hj
                subst hj
                exact hbi
              · exact hborn j m hj) (by simp [hsz]) (fun j e m hj hjm => by
              rw [Array.getElem?_modify] at hjm
              split at hjm
              · rename_i hij
                subst hij
                rw [hme] at hjm
                simp at hjm
                subst hjm
                rw [hen] at hj
                cases hj
                obtain ⟨_, k2, k3, k4⟩ := hents i en me hen hme
                exact ⟨by rw [← keyEq_eq heq]; exact kr, k2, k3, k4⟩
              · exact hents j e m hj hjm) (fun k z m h => by simp at h)
          rw [set_self hobj] at hgo
          refine fun o' ho' => ⟨.tuple #[me.val, .int .i64 i], _, setBlock w (g.σ p) (.map (es.modify i fun e => { e with key := a.eval key' }) es.size), g, ?_, .inl rfl, by simpa [setObjs] using hgo, .rv _ _ (.tup _ _ rfl fun j v x hv hx => ?_)⟩
          · simp [execOp, ho', Instr.mapEntry, run_underlying hu, hx, run_getMap hb, hck, ho, hme, hst, run_setMap hb, hbi, goInt]
          · rcases j with _ | _ | j
            · simp at hv hx; subst hv; exact .top _
            · simp at hv hx; subst hv; subst hx; exact .sc _ _ (.stamp p i hA)
            · simp at hv
        · rename_i hr
          split at e
          · rename_i hpure
            simp only [Option.some.injEq, Prod.mk.injEq] at e
            obtain ⟨rfl, rfl⟩ := e
            obtain ⟨o, ho, hfd⟩ := findKey_run hf hd kr w hE.keys hr
            have : o = none := hfd
            subst this
            obtain ⟨i, zv, hi, hzv, hKV⟩ := hz
            have hgo := Goes.mapSet (l' := l) (ph' := some ((rd S.Γ s.t key).cells, z.cells)) (es := es.push { key := a.eval key', val := zv, born := es.size }) hR hobj (fun j m hj => by
                rw [Array.getElem?_push] at hj
                split at hj
                · rename_i hij; simp at hj; subst hj; exact hij.symm
                · exact hborn j m hj) (by simp [hsz]) (fun j e m hj hjm => by
                rw [Array.getElem?_push] at hjm
                have hjl := (List.getElem?_eq_some_iff.1 hj).1
                rw [if_neg (by omega)] at hjm
                exact hents j e m hj hjm) (fun k z' m h hjm => by
                simp only [Option.some.injEq, Prod.mk.injEq] at h
                obtain ⟨rfl, rfl⟩ := h
                rw [← hsz] at hjm
                simp at hjm
                subst hjm
                exact ⟨kr, proper_kr hpz hKV.rv, hpure.1, hpure.2⟩)
            refine fun o' ho' => ⟨.tuple #[zv, .int .i64 l.length], _, setBlock w (g.σ p) (.map (es.push { key := a.eval key', val := zv, born := es.size }) (es.size + 1)), g, ?_, .inl rfl, by simpa [setObjs] using hgo, .rv _ _ (.tup _ _ rfl fun j v x hv hx => ?_)⟩
            · simp [execOp, ho', Instr.mapEntry, run_underlying hu, hx, run_getMap hb, hck, ho, run_zero hi hzv, run_setMap hb, goInt, hsz]
            · rcases j with _ | _ | j
              · simp at hv hx; subst hv; exact .top _
              · simp at hv hx; subst hv; subst hx; exact .sc _ _ (.stamp p l.length hA)
              · simp at hv
          · cases e
        · cases e
    · cases e
  · cases e

theorem find_born {es : Array MapEntry} (hborn : ∀ (i : Nat) m, es[i]? = some m → m.born = i) {i : Nat} (hi : i < es.size) : es.findIdx? (fun e => (e.born : Int) == (i : Int)) = some i := by
  rw [Array.findIdx?_eq_some_iff_getElem]
  refine ⟨hi, ?_, fun j hj => ?_⟩
  · have := hborn i es[i] (Array.getElem?_eq_getElem hi)
    simp [this]
  · have := hborn j es[j] (Array.getElem?_eq_getElem (by omega))
    simp [this]; omega

theorem estore_does (hR : Rel S G g nt s a w) {m st y : Rand} {t : TypeId} {m' st' y' : Operand} (h1 : MR S G m m') (h2 : MR S G st st') (h3 : MR S G y y')
    (e : eff base s.h (rd S.Γ s.t) (.estore m st y) = some (v, ws)) : Does S G nt g s a w (.entryStore t m' st' y') [] v (setObjs s.h ws) := by
  have hm := rd_rv hR h1
  have hs := rd_rv hR h2
  have hy := rd_rv hR h3
  simp only [eff] at e
  split at e
  · rename_i p q i hp hq
    rw [hp] at hm
    rw [hq] at hs
    obtain ⟨hA, hx⟩ := map_inv hm
    split at e
    · cases e
    · rename_i hpq
      simp only [ne_eq, Decidable.not_not] at hpq
      subst hpq
      have hsx : a.eval st' = .int .i64 i := by
        have := hs.sc_inv (by simp)
        generalize a.eval st' = u at this
        cases this with
        | stamp => rfl
      split at e
      · rename_i ka va l ph hobj
        split at e
        · rename_i hcond
          obtain ⟨hpure, hpr⟩ := hcond
          have kv := proper_kr hpr hy
          obtain ⟨es, hb, hborn, hsz, hents, hph⟩ := hR.hp.ob p _ hobj
          have hlt := live_lt hR.hp hobj rfl
          have run : i < es.size → ∀ o' : Go.Oper, o'.op = .entryStore t m' st' y' → (execOp a.eval o').run S.P w = .ok .skip (setBlock w (g.σ p) (.map (es.modify i fun e => { e with val := a.eval y' }) es.size)) := fun hi o' ho' => by
            simp [execOp, ho', Instr.entryStore, hx, hsx, run_getMap hb, asInt, asIntOf, find_born hborn hi, run_setMap hb]
          have hb2 : ∀ (j : Nat) m, (es.modify i fun e => { e with val := a.eval y' })[j]? = some m → m.born = j := fun j m hj => by
            rw [Array.getElem?_modify] at hj
            split at hj
            · simp only [Option.map_eq_some_iff] at hj
              obtain ⟨m0, hm0, rfl⟩ := hj
              exact hborn j m0 hm0
            · exact hborn j m hj
          split at e
          · split at e
            · rename_i hi
              simp only [Option.some.injEq, Prod.mk.injEq] at e
              obtain ⟨rfl, rfl⟩ := e
              simp at hsz
              have hen : l[i]? = some l[i] := List.getElem?_eq_getElem hi
              have hgo := Goes.mapSet (l' := setAt i (rd S.Γ s.t y).cells l) (ph' := none) (es := es.modify i fun e => { e with val := a.eval y' }) hR hobj hb2 (by simp [setAt, hen, hsz]) (fun j e m hj hjm => by
                simp only [setAt, hen] at hj
                rw [Array.getElem?_modify] at hjm
                split at hjm
                · rename_i hij
                  subst hij
                  simp only [Option.map_eq_some_iff] at hjm
                  obtain ⟨m0, hm0, rfl⟩ := hjm
                  rw [List.getElem?_set_self hi] at hj
                  cases hj
                  obtain ⟨k1, _, k3, _⟩ := hents i _ m0 hen hm0
                  exact ⟨k1, kv, k3, hpure⟩
                · rename_i hij
                  rw [List.getElem?_set_ne hij] at hj
                  exact hents j e m hj hjm) (fun k z m h => by simp at h)
              exact fun o' ho' => ⟨undef, _, _, g, run (by omega) o' ho', .inr ⟨rfl, rfl⟩, by simpa [setObjs] using hgo, .rv _ _ (.tup [] #[] rfl fun j v w a b => by simp at a)⟩
            · cases e
          · rename_i k z
            split at e
            · rename_i hi
              simp only [Option.some.injEq, Prod.mk.injEq] at e
              obtain ⟨rfl, rfl⟩ := e
              simp at hsz
              have hgo := Goes.mapSet (l' := l ++ [(k, (rd S.Γ s.t y).cells)]) (ph' := none) (es := es.modify i fun e => { e with val := a.eval y' }) hR hobj hb2 (by simp [hsz]) (fun j e m hj hjm => by
                rw [Array.getElem?_modify] at hjm
                split at hjm
                · rename_i hij
                  subst hij
                  simp only [Option.map_eq_some_iff] at hjm
                  obtain ⟨m0, hm0, rfl⟩ := hjm
                  subst hi
                  simp at hj
                  subst hj
                  obtain ⟨k1, _, k3, _⟩ := hph k z m0 rfl hm0
                  exact ⟨k1, kv, k3, hpure⟩
                · rename_i hij
                  have hjl : j < l.length := by
                    have := (List.getElem?_eq_some_iff.1 hj).1
                    simp at this
                    omega
                  rw [List.getElem?_append_left hjl] at hj
                  exact hents j e m hj hjm) (fun k z m h => by simp at h)
              exact fun o' ho' => ⟨undef, _, _, g, run (by omega) o' ho', .inr ⟨rfl, rfl⟩, by simpa [setObjs] using hgo, .rv _ _ (.tup [] #[] rfl fun j v w a b => by simp at a)⟩
            · cases e
        · cases e
      · cases e
  · cases e

theorem mupd_does (hR : Rel S G g nt s a w) {ty : KT} {m key y : Rand} {t kt et : TypeId} {m' key' y' : Operand} {d : Nat} {o : Go.Op} (ho : o = .mapUpdate t m' key' y' ∨ o = .insert t m' key' y') (h1 : MR S G m m') (h2 : MR S G key key') (h3 : MR S G y y')
    (hu : S.P.underlying t = some (.map kt et)) (hf : flat S.P d kt = some ty) (hd : d ≤ 100)
    (e : eff base s.h (rd S.Γ s.t) (.mupd ty m key y) = some (v, ws)) : Does S G nt g s a w o [] v (setObjs s.h ws) := by
  have hm := rd_rv hR h1
  have hk := rd_rv hR h2
  have hy := rd_rv hR h3
  have fin : ∀ W : World, (Instr.mapUpdate t (a.eval m') (a.eval key') (a.eval y')).run S.P w = .ok () W → ∀ o' : Go.Oper, o'.op = o → (execOp a.eval o').run S.P w = .ok .skip W := fun W hW o' ho' => by
    rcases ho with rfl | rfl <;> simp [execOp, ho', hW]
  simp only [eff] at e
  split at e
  · rename_i p hp
    rw [hp] at hm
    obtain ⟨hA, hx⟩ := map_inv hm
    split at e
    · rename_i ka va l hobj
      split at e
      · rename_i hcond
        obtain ⟨hpk, hpv, hpr, hfit, rfl⟩ := hcond
        obtain ⟨kr, klen⟩ := fits_kr hf hfit hk
        have kv := proper_kr hpr hy
        obtain ⟨es, hb, hborn, hsz, hents, _⟩ := hR.hp.ob p _ hobj
        simp at hsz
        have hE : Ents S g ty.agg va l es.toList := ⟨by simp [hsz], fun i e m a b => by
          rw [Array.getElem?_toList] at b
          obtain ⟨x, y, _⟩ := hents i e m a b; exact ⟨x, y⟩⟩
        have hck : (Instr.checkKey false 10000 kt (a.eval key')).run S.P w = .ok () w := check_flat d kt ty hf 10000 (by omega) w _ _ kr klen
        have hlt := live_lt hR.hp hobj rfl
        split at e
        · rename_i i cs hr
          simp only [Option.some.injEq, Prod.mk.injEq] at e
          obtain ⟨rfl, rfl⟩ := e
          obtain ⟨o1, ho1, hfd⟩ := findKey_run hf hd kr w hE.keys hr
          obtain ⟨me, _, hme, rfl⟩ := foundAs_some hfd
          obtain ⟨_, en, hen, _, heq⟩ := find_spec l 0 i cs hr
          rw [Nat.sub_zero] at hen hme
          rw [Array.getElem?_toList] at hme
          have hst := stays_run hf heq kr (hE.2 i en me hen (by rw [Array.getElem?_toList]; exact hme)).1 w
          have hi : i < l.length := (List.getElem?_eq_some_iff.1 hen).1
          have hgo := Goes.mapSet (l' := setAt i (rd S.Γ s.t y).cells l) (ph' := none) (es := es.modify i fun e => { e with key := a.eval key', val := a.eval y' }) hR hobj (fun j m hj => by
              rw [Array.getElem?_modify] at hj
              split at hj
              · simp only [Option.map_eq_some_iff] at hj
                obtain ⟨m0, hm0, rfl⟩ := hj
                exact hborn j m0 hm0
              · exact hborn j m hj) (by simp [setAt, hen, hsz]) (fun j e m hj hjm => by
              simp only [setAt, hen] at hj
              rw [Array.getElem?_modify] at hjm
              split at hjm
              · rename_i hij
                subst hij
                simp only [Option.map_eq_some_iff] at hjm
                obtain ⟨m0, hm0, rfl⟩ := hjm
                rw [List.getElem?_set_self hi] at hj
                cases hj
                obtain ⟨_, _, k3, _⟩ := hents i en m0 hen hm0
                exact ⟨by rw [← keyEq_eq heq]; exact kr, kv, k3, hpv⟩
              · rename_i hij
                rw [List.getElem?_set_ne hij] at hj
                exact hents j e m hj hjm) (fun k z m h => by simp at h)
          exact fun o' ho' => ⟨undef, _, _, g, fin _ (by simp [Instr.mapUpdate, run_underlying hu, hx, run_getMap hb, hck, ho1, hme, hst, run_setMap hb]; rfl) o' ho', .inr ⟨rfl, rfl⟩, by simpa [setObjs] using hgo, .rv _ _ (.tup [] #[] rfl fun j v w a b => by simp at a)⟩
        · rename_i hr
          simp only [Option.some.injEq, Prod.mk.injEq] at e
          obtain ⟨rfl, rfl⟩ := e
          obtain ⟨o1, ho1, hfd⟩ := findKey_run hf hd kr w hE.keys hr
          have : o1 = none := hfd
          subst this
          have hgo := Goes.mapSet (l' := l ++ [((rd S.Γ s.t key).cells, (rd S.Γ s.t y).cells)]) (ph' := none) (es := es.push { key := a.eval key', val := a.eval y', born := es.size }) hR hobj (fun j m hj => by
              rw [Array.getElem?_push] at hj
              split at hj
              · rename_i hij; simp at hj; subst hj; exact hij.symm
              · exact hborn j m hj) (by simp [hsz]) (fun j e m hj hjm => by
              rw [Array.getElem?_push] at hjm
              split at hjm
              · rename_i hij
                simp at hjm
                subst hjm
                rw [hij, hsz] at hj
                simp at hj
                subst hj
                exact ⟨kr, kv, hpk, hpv⟩
              · rename_i hij
                have hjl : j < l.length := by
                  have := (List.getElem?_eq_some_iff.1 hj).1
                  simp at this
                  omega
                rw [List.getElem?_append_left hjl] at hj
                exact hents j e m hj hjm) (fun k z m h => by simp at h)
          exact fun o' ho' => ⟨undef, _, _, g, fin _ (by simp [Instr.mapUpdate, run_underlying hu, hx, run_getMap hb, hck, ho1, run_setMap hb]; rfl) o' ho', .inr ⟨rfl, rfl⟩, by simpa [setObjs] using hgo, .rv _ _ (.tup [] #[] rfl fun j v w a b => by simp at a)⟩
        · cases e
      · cases e
    · cases e
  · cases e

end
end Go.Pm

namespace Go.Pm

def noAct : Act := { tmps := #[], defers := [] }

abbrev GoesH (S : Seat) (G : List Nat) (g g' : Gh) (h h' : List Obj) (w w' : World) : Prop := Goes S G 0 g g' ⟨[], h⟩ ⟨[], h'⟩ noAct noAct w w'

section
variable {S : Seat} {G : List Nat} {g g' g'' : Gh} {nt : Nat} {s s' s'' : St} {a a' a'' : Act} {w w' w'' : World} {h h' : List Obj}

theorem claimT_none {i b : Nat} : ¬ ClaimT [] noAct.tmps i b := by
  rintro ⟨es, l, ad, n, cap, h1, _⟩
  simp [get] at h1

theorem perm_none {b : Nat} (hp : Perm g ⟨[], h⟩ noAct w b) : PermH g h w b := by
  rcases hp with h | ⟨i, h⟩
  · exact h
  · exact absurd h claimT_none

theorem RelH.rel (hR : RelH S G g h w) : Rel S G g 0 ⟨[], h⟩ noAct w :=
  ⟨hR, rfl, fun i => .rv _ _ (.top _), fun i i' b c => absurd c claimT_none, fun i b r j c => absurd c claimT_none, fun i b r o c => absurd c claimT_none⟩

theorem claimT_notPerm (hR : Rel S G g nt s a w) {i b : Nat} (hc : ClaimT s.t a.tmps i b) : ¬ PermH g s.h w b := by
  rintro (⟨r, o, h1, h2, h3⟩ | ⟨r, j, h⟩)
  · exact hR.clT i b r o hc h1 h2 h3
  · exact hR.exTH i b r j hc h

theorem Goes.frame (hR : Rel S G g nt s a w) (hg : GoesH S G g g' s.h h' w w') : Goes S G nt g g' s ⟨s.t, h'⟩ a a w w' := by
  have hback : ∀ b, b < w.heap.size → PermH g' h' w' b → PermH g s.h w b := fun b hb hp => perm_none (hg.back b hb (.inl hp))
  refine ⟨hg.le, ⟨hg.rel.hp, hR.sz, fun i => ?_, hR.exT, fun i b r j c d => ?_, fun i b r o c e hl => ?_⟩, hg.keeps.mono fun b _ hp => .inl (perm_none hp), fun b hb hp => ?_, fun b o v e => ?_, fun b es e => ?_⟩
  · have ht := hR.tm i
    show RT S g' w' (get s.t i) (a.tmps.getD i undef)
    generalize hv : get s.t i = v at ht
    generalize hx : a.tmps.getD i undef = x at ht
    cases ht with
    | rv _ _ h => exact .rv _ _ (h.mono hg.le)
    | own es l b off cap ho =>
      have hc : ClaimT s.t a.tmps i b := ⟨es, l, _, _, _, hv, hx, rfl⟩
      have hn := claimT_notPerm hR hc
      refine .own _ _ _ _ _ ⟨ho.rel.mono hg.le, ?_, fun o hoo => ?_⟩
      · rw [hg.keeps.same b ho.lt (fun hp => hn (perm_none hp))]; exact ho.blk
      · cases e : g'.M b o with
        | none => rfl
        | some v' =>
          rcases hg.im b o v' e with h | h | h
          · rw [ho.spare o hoo] at h; cases h
          · have := ho.lt; omega
          · exact absurd (perm_none h) hn
  · exact claimT_notPerm hR c (hback b (claimT_lt hR c) (.inr ⟨r, j, d⟩))
  · rintro rfl
    exact claimT_notPerm hR c (hback _ (claimT_lt hR c) (.inl ⟨r, o, e, hl, rfl⟩))
  · rcases hp with h | h
    · exact .inl (hback b hb h)
    · exact .inr h
  · rcases hg.im b o v e with h | h | h
    · exact .inl h
    · exact .inr (.inl h)
    · exact .inr (.inr (.inl (perm_none h)))
  · rcases hg.mm b es e with h | h | h
    · exact .inl h
    · exact .inr (.inl h)
    · exact .inr (.inr (.inl (perm_none h)))

/-! ### Objects that die become values -/

open Classical in
noncomputable def Gh.kill (g : Gh) (h : List Obj) (w : World) (D : Nat → Prop) (A : Nat → Prop) : Gh where
  σ := g.σ
  A := A
  M := fun b o => if ∃ (r : Nat) (cs : List C), D r ∧ h[r]? = some (.var cs) ∧ g.σ r = b then w.cell? ⟨b, o, none⟩ else g.M b o
  N := fun b => if ∃ (r : Nat) (ka va : Bool) (l : List (List C × List C)), D r ∧ h[r]? = some (.map ka va l none) ∧ g.σ r = b then
      (match w.heap[b]? with | some (.map es _) => some es | _ => none) else g.N b

theorem kill_M (hR : RelH S G g h w) {D A : Nat → Prop} {b o : Nat} {v : Value} (e : g.M b o = some v) : (g.kill h w D A).M b o = some v := by
  simp only [Gh.kill]
  split
  · exact hR.im b o v e
  · exact e

theorem kill_N (hR : RelH S G g h w) {D A : Nat → Prop} {b : Nat} {es : Array MapEntry} (e : g.N b = some es) : (g.kill h w D A).N b = some es := by
  simp only [Gh.kill]
  split
  · obtain ⟨n, hn⟩ := hR.mm b es e
    rw [hn]
  · exact e

theorem kill_le (hR : RelH S G g h w) {D A : Nat → Prop} (hA : ∀ r, g.A r → A r) : g.Le (g.kill h w D A) :=
  ⟨hA, fun _ _ => rfl, fun _ _ _ e => kill_M hR e, fun _ _ e => kill_N hR e⟩

structure Dies (h h' : List Obj) (D A : Nat → Prop) (g : Gh) : Prop where
  left : ∀ (r : Nat) o, h'[r]? = some o → live o = true → h[r]? = some o ∧ ¬ D r
  as : ∀ r, A r → ∃ o, h'[r]? = some o ∧ isFreeO o = false
  lv : ∀ (r : Nat) o, h'[r]? = some o → live o = true → A r
  AA : ∀ r, A r → g.A r
  /-- what is left names nothing that is no more -/
  nm : ∀ (r : Nat) o, h'[r]? = some o → live o = true → ∃ n, Obj.und n o ∧ ∀ r', r' < n → g.A r' → A r'

theorem kill_M_live (hR : RelH S G g h w) {D A : Nat → Prop} {r : Nat} {o : Obj} (hr : h[r]? = some o) (hl : live o = true) (hD : ¬ D r) (k : Nat) : (g.kill h w D A).M (g.σ r) k = none := by
  simp only [Gh.kill]
  split
  · rename_i hx
    obtain ⟨r', cs, h1, h2, h3⟩ := hx
    have := hR.inj r' r _ o h2 hr rfl hl h3
    subst this
    exact absurd h1 hD
  · exact hR.djM r o hr hl k

theorem kill_N_live (hR : RelH S G g h w) {D A : Nat → Prop} {r : Nat} {o : Obj} (hr : h[r]? = some o) (hl : live o = true) (hD : ¬ D r) : (g.kill h w D A).N (g.σ r) = none := by
  simp only [Gh.kill]
  split
  · rename_i hx
    obtain ⟨r', ka, va, l, h1, h2, h3⟩ := hx
    have := hR.inj r' r _ o h2 hr rfl hl h3
    subst this
    exact absurd h1 hD
  · exact hR.djN r o hr hl

theorem kill_M_claim {D A : Nat → Prop} {b : Nat} (hb : ∀ (r : Nat) o, h[r]? = some o → live o = true → g.σ r ≠ b) (k : Nat) : (g.kill h w D A).M b k = g.M b k := by
  simp only [Gh.kill]
  split
  · rename_i hx
    obtain ⟨r', cs, h1, h2, h3⟩ := hx
    exact absurd h3 (hb r' _ h2 rfl)
  · rfl

theorem RC.keep {c : C} {v : Value} {n : Nat} (h : RC S g c v) (hu : c.under n = true) (hA : ∀ r, r < n → g.A r → g'.A r) (hσ : g'.σ = g.σ) (hM : ∀ b o v, g.M b o = some v → g'.M b o = some v) (hN : ∀ b es, g.N b = some es → g'.N b = some es) : RC S g' c v := by
  have h1 := h.cut hu
  refine h1.mono ⟨fun r hr => hA r hr.2 hr.1, fun r _ => by rw [hσ]; rfl, hM, hN⟩

theorem RV.keep {c : V} {v : Value} {n : Nat} (h : RV S g c v) (hu : c.under n = true) (hA : ∀ r, r < n → g.A r → g'.A r) (hσ : g'.σ = g.σ) (hM : ∀ b o v, g.M b o = some v → g'.M b o = some v) (hN : ∀ b es, g.N b = some es → g'.N b = some es) : RV S g' c v := by
  have h1 := h.cut hu
  refine h1.mono ⟨fun r hr => hA r hr.2 hr.1, fun r _ => by rw [hσ]; rfl, hM, hN⟩

theorem RelH.kill (hR : RelH S G g h w) {D A : Nat → Prop} (hd : Dies h h' D A g) : RelH S G (g.kill h w D A) h' w := by
  have hcl : ∀ r j b, ClaimH (g.kill h w D A) h' w r j b → ClaimH g h w r j b := by
    rintro r j b ⟨cs, es, l, vals, elem, fr, ad, n, cap, h1, h2, h3, h4, h5⟩
    exact ⟨cs, es, l, vals, elem, fr, ad, n, cap, (hd.left r _ h1 rfl).1, h2, h3, h4, h5⟩
  refine ⟨fun r o e => ?_, hd.as, hd.lv, fun r r' o o' e e' hl hl' hs => hR.inj r r' o o' (hd.left r o e hl).1 (hd.left r' o' e' hl').1 hl hl' hs, fun b k v e => ?_, fun b es e => ?_, fun r o e hl k => kill_M_live hR (hd.left r o e hl).1 hl (hd.left r o e hl).2 k,
    fun r o e hl => kill_N_live hR (hd.left r o e hl).1 hl (hd.left r o e hl).2, fun id hid => ?_, fun r j r' j' b c c' => hR.ex r j r' j' b (hcl _ _ _ c) (hcl _ _ _ c'), fun r j b r' o c e hl => hR.cl r j b r' o (hcl _ _ _ c) (hd.left r' o e hl).1 hl⟩
  · by_cases hl : live o = true
    · obtain ⟨e0, hD⟩ := hd.left r o e hl
      have ho := hR.ob r o e0
      obtain ⟨n, hord, hA⟩ := hd.nm r o e hl
      cases o with
      | dead => trivial
      | free => trivial
      | var cs =>
        obtain ⟨vals, elem, hb, hs, hro⟩ := ho
        refine ⟨vals, elem, hb, hs, fun j c x e1 e2 => ?_⟩
        have := hro j c x e1 e2
        cases this with
        | rc _ _ hrc => exact .rc _ _ (hrc.keep (underL_get hord e1) hA rfl (fun _ _ _ e => kill_M hR e) (fun _ _ e => kill_N hR e))
        | own es l b off cap hown =>
          have hclm : ClaimH g h w r j b := ⟨cs, es, l, vals, elem, (0, 0), _, _, _, e0, e1, hb, e2, rfl⟩
          exact .own _ _ _ _ _ ⟨hown.rel.of_pure (by rfl) (fun _ _ _ e => kill_M hR e) (fun _ _ e => kill_N hR e), hown.blk, fun k hk => by
            rw [kill_M_claim (fun r' o' e' hl' => hR.cl r j b r' o' hclm e' hl')]; exact hown.spare k hk⟩
      | map ka va l ph =>
        obtain ⟨es, hb, h3, h4, h5, h6⟩ := ho
        have kr : ∀ {agg cs v}, C.pureL cs = true → KR S g agg cs v → KR S (g.kill h w D A) agg cs v := fun hp ⟨vs, k1, k2, k3, k4⟩ =>
          ⟨vs, k1, k2, k3, fun j c x a b => (k4 j c x a b).of_pure (pureL_get hp a) (fun _ _ _ e => kill_M hR e) (fun _ _ e => kill_N hR e)⟩
        exact ⟨es, hb, h3, h4, fun i e m a b => let ⟨x, y, z1, z2⟩ := h5 i e m a b; ⟨kr z1 x, kr z2 y, z1, z2⟩, fun p z m a b => let ⟨x, y, z1, z2⟩ := h6 p z m a b; ⟨kr z1 x, kr z2 y, z1, z2⟩⟩
      | loop st pend t ps x y =>
        obtain ⟨L, n', hb, h3, h4, h5, h6, h7, h8, h9, h10⟩ := ho
        refine ⟨L, n', hb, h3, h4, h5, h6, h7, h8, fun i => ?_, h10⟩
        have hi := h9 i
        have hu := hord i
        exact hi.keep hu hA rfl (fun _ _ _ e => kill_M hR e) (fun _ _ e => kill_N hR e)
    · cases o <;> first | trivial | exact absurd rfl hl
  · simp only [Gh.kill] at e
    split at e
    · exact e
    · exact hR.im b k v e
  · simp only [Gh.kill] at e
    split at e
    · split at e
      · rename_i es' n hn
        simp only [Option.some.injEq] at e
        subst e
        exact ⟨n, hn⟩
      · cases e
    · exact hR.mm b es e
  · exact (hR.gl id hid).of_pure (by rfl) (fun _ _ _ e => kill_M hR e) (fun _ _ e => kill_N hR e)

/-! ### Room for what a region allocates -/

theorem room_get {n r : Nat} {o : Obj} (e : (h ++ List.replicate n .free)[r]? = some o) : h[r]? = some o ∨ o = .free := by
  by_cases hr : r < h.length
  · rw [List.getElem?_append_left hr] at e; exact .inl e
  · rw [List.getElem?_append_right (by omega)] at e
    exact .inr (List.eq_of_mem_replicate (List.mem_of_getElem? e))

theorem Goes.room (hR : Rel S G g nt s a w) (n : Nat) : Goes S G nt g g s { s with h := s.h ++ List.replicate n .free } a a w w := by
  have hlv : ∀ (r : Nat) o, (s.h ++ List.replicate n .free)[r]? = some o → live o = true → s.h[r]? = some o := fun r o e hl => by
    rcases room_get e with h | rfl
    · exact h
    · simp [live] at hl
  have hcl : ∀ r j b, ClaimH g (s.h ++ List.replicate n .free) w r j b → ClaimH g s.h w r j b := by
    rintro r j b ⟨cs, es, l, vals, elem, fr, ad, m, cap, h1, h2⟩
    exact ⟨cs, es, l, vals, elem, fr, ad, m, cap, hlv r _ h1 rfl, h2⟩
  refine ⟨.refl g, ⟨⟨fun r o e => ?_, fun r hA => ?_, fun r o e hl => hR.hp.lv r o (hlv r o e hl) hl, fun r r' o o' e e' hl hl' hs => hR.hp.inj r r' o o' (hlv r o e hl) (hlv r' o' e' hl') hl hl' hs, hR.hp.im, hR.hp.mm,
    fun r o e hl => hR.hp.djM r o (hlv r o e hl) hl, fun r o e hl => hR.hp.djN r o (hlv r o e hl) hl, hR.hp.gl, fun r j r' j' b c c' => hR.hp.ex r j r' j' b (hcl _ _ _ c) (hcl _ _ _ c'), fun r j b r' o c e hl => hR.hp.cl r j b r' o (hcl _ _ _ c) (hlv r' o e hl) hl⟩,
    hR.sz, hR.tm, hR.exT, fun i b r j c d => hR.exTH i b r j c (hcl _ _ _ d), fun i b r o c e hl => hR.clT i b r o c (hlv r o e hl) hl⟩, .refl _ w, fun b _ hp => ?_, fun _ _ _ h => .inl h, fun _ _ h => .inl h⟩
  · rcases room_get e with h | rfl
    · exact hR.hp.ob r o h
    · trivial
  · obtain ⟨o, ho, hf⟩ := hR.hp.as r hA
    exact ⟨o, by rw [List.getElem?_append_left (List.getElem?_eq_some_iff.1 ho).1]; exact ho, hf⟩
  · rcases hp with (⟨r, o, h1, h2, h3⟩ | ⟨r, j, hc⟩) | hc
    · exact .inl (.inl ⟨r, o, hlv r o h1 h2, h2, h3⟩)
    · exact .inl (.inr ⟨r, j, hcl _ _ _ hc⟩)
    · exact .inr hc

end
end Go.Pm

namespace Go.Pm

def RVs (S : Seat) (g : Gh) (vs : List V) (xs : List Value) : Prop := vs.length = xs.length ∧ ∀ (j : Nat) v x, vs[j]? = some v → xs[j]? = some x → RV S g v x

def CallPost (S : Seat) (G : List Nat) (g : Gh) (h h' : List Obj) (w : World) (v : V) (e : Ending) (w' : World) : Prop :=
  ∃ x g', e = .returned x ∧ GoesH S G g g' h h' w w' ∧ RV S g' v x

def SimK (S : Seat) (G : List Nat) (K : Calls1) : Prop :=
  ∀ fk vs h v h', K fk vs h = some (v, h') → ∀ g w xs, RelH S G g h w → RVs S g vs xs →
    match fk with
    | .fn id => (∃ fn, S.P.funcs[S.fm id]? = some fn ∧ fn.name ≠ "runtime.NumGoroutine" ∧ fn.body ≠ none) ∧ CallsIn Fence.wide 0 S.P (S.fm id) xs.toArray w (CallPost S G g h h' w v)
    | .yield l => ∃ f tmps a b, (Instr.yield (g.σ l) xs.toArray).run S.P w = .ok (.round (g.σ l) f tmps a b) w ∧ RoundIn Fence.wide 0 S.P (g.σ l) f tmps a b w (CallPost S G g h h' w v)

section
variable {S : Seat} {G : List Nat} {g g' g'' : Gh} {nt : Nat} {s s' s'' : St} {a a' a'' : Act} {w w' w'' : World} {h h' : List Obj} {base : Nat} {v : V} {ws : List (Nat × Obj)}

theorem looks_does (hR : Rel S G g nt s a w) {o : Go.Op} (hl : ws = [] ∧ Looks S g a w o v) : Does S G nt g s a w o [] v (setObjs s.h ws) := by
  obtain ⟨rfl, hl⟩ := hl
  exact hl.does hR

theorem op_does (hR : Rel S G g nt s a w) {o : Op} {o' : Go.Op} (hm : MOp S G o o') (hc : o.plain = true) (e : eff base s.h (rd S.Γ s.t) o = some (v, ws)) :
    Does S G nt g s a w o' o.takes v (setObjs s.h ws) := by
  cases hm with
  | mv x x' h => obtain ⟨rfl, hd⟩ := mv_does hR h (.inl rfl) e; exact hd
  | asg x x' h => obtain ⟨rfl, hd⟩ := mv_does hR h (.inr rfl) e; exact hd
  | pick c a b c' a' b' h1 h2 h3 => exact looks_does hR (pick_ok hR h1 h2 h3 e)
  | alloc n z t hz => exact alloc_does hR hz e
  | box n x t x' h => exact box_does hR h e
  | build z ps t ps' hz hp hr => exact looks_does hR (build_ok hR hz hp hr e)
  | bslice es n z ps t ps' el hu hs hz hn he hi hr => exact bslice_does hR hu hs hz hn he hi hr e
  | mkslice es n z t el i hu hi hs hz hn he hb => exact mkslice_does hR hu hi hs hz hn he hb e
  | bmsl b es n z ps t ps' el hu hs hz hn he hi hr => exact bmsl_does hR hu hs hz hn he hi hr e
  | load n x t x' h hs => exact looks_does hR (load_ok hR h hs e)
  | loadT x t x' h hs => exact loadT_does hR h hs e
  | store n x v t x' v' h h2 hs =>
    have hx : x.takes = [] := by cases h <;> rfl
    have := store_does hR h h2 hs e
    simp only [Op.takes, hx, List.nil_append]
    exact this
  | bin op x y t x' y' t2 h h2 => exact looks_does hR (bin_ok hR h h2 e)
  | eqf neg ty x y t x' y' t2 d h h2 hf hd hty hg => exact looks_does hR (eqf_ok hR h h2 hf hd hty hg e)
  | isnil kd neg x t x' y t2 d h hu hy => exact looks_does hR (isnil_ok hR h hu hy e)
  | un op x t x' h => exact looks_does hR (un_ok hR h e)
  | conv k x s d x' ee h hd hs ht => exact looks_does hR (conv_ok hR h hd hs e)
  | mkf id sh first cap first' cap' h1 h2 => exact looks_does hR (mkf_ok hR h1 h2 e)
  | mkmap n ka va t => exact mkmap_does hR e
  | slice es x lo hi mx t x' lo' hi' mx' el h h1 h2 h3 hu hs => exact looks_does hR (slice_ok hR h h1 h2 h3 hu hs e)
  | slArr n es x lo hi mx t x' lo' hi' mx' el h h1 h2 h3 hu hs => exact looks_does hR (slArr_ok hR h h1 h2 h3 hu hs e)
  | slStr x lo hi t x' lo' hi' h h1 h2 hu => exact looks_does hR (slStr_ok hR h h1 h2 hu e)
  | faddr off x t x' i fs f h hu hf ho hs => exact looks_does hR (faddr_ok hR h hu hf ho hs e)
  | field off n x t x' i fs f h hu hf ho hs => exact looks_does hR (field_ok hR h hu hf ho hs e)
  | iaddr es x i t x' i' el h h2 hu hs => exact looks_does hR (iaddr_ok hR h h2 hu hs e)
  | iarr len es x i t x' i' el h h2 hu hs => exact looks_does hR (iarr_ok hR h h2 hu hs e)
  | index len es n x i t x' i' el h h2 hu hs hn => exact looks_does hR (index_ok hR h h2 hu hs hn e)
  | istr x i t x' i' h h2 hu => exact looks_does hR (istr_ok hR h h2 hu e)
  | lookup ok ty z m key t m' key' kt et d h h2 hu hz hk hd => exact looks_does hR (lookup_ok hR h h2 hu hz hk hd e)
  | ment ty z m key t m' key' kt et d h h2 hu hz hk hd => exact ment_does hR h h2 hu hz hk hd e
  | estore m st y t m' st' y' h h2 h3 => exact estore_does hR h h2 h3 e
  | mupd ty m key y t m' key' y' kt et d h h2 h3 hu hk hd => exact mupd_does hR (.inl rfl) h h2 h3 hu hk hd e
  | ins ty m key y t m' key' y' kt et d h h2 h3 hu hk hd => exact mupd_does hR (.inr rfl) h h2 h3 hu hk hd e
  | ext x i x' h => exact looks_does hR (ext_ok hR h e)
  | len k x x' t h hu => exact looks_does hR (len_ok hR h hu e)
  | lenArr n x' t hu => exact looks_does hR (lenArr_ok hu e)
  | min x xs x' xs' ts h h2 => exact looks_does hR (min_ok hR h h2 e)
  | max x xs x' xs' ts h h2 => exact looks_does hR (max_ok hR h h2 e)
  | append es x y x' y' t t2 h h2 T =>
    have hy : y.takes = [] := by cases h2 <;> rfl
    obtain ⟨rfl, hd⟩ := append_does hR T h h2 e
    simp only [Op.takes, hy, List.append_nil]
    exact hd
  | appendM a0 es x y x' y' t t2 h h2 T => exact appendM_does hR T h h2 e
  | late o o' hp h => simp [Op.plain] at hc
  | nilchk x x' h => exact looks_does hR (nilchk_ok hR h e)
  | call p f args f' args' ts h h2 => simp [Op.plain] at hc

def fenceOf : Option Nat → Fence
  | none => Fence.wide
  | some l => Fence.wide.inRound l

theorem fenceOf_round (ro : Option Nat) : (fenceOf ro).round = ro := by cases ro <;> rfl
theorem fenceOf_fn (ro : Option Nat) (f : FuncId) : (fenceOf ro).fn f := by cases ro <;> trivial
theorem fenceOf_depth (ro : Option Nat) : (fenceOf ro).depth = none := by cases ro <;> rfl
theorem fenceOf_calls {ro : Option Nat} {f : FuncId} {args : Array Value} {R : Ending → World → Prop} (h : CallsIn Fence.wide 0 S.P f args w R) : CallsIn (fenceOf ro) 0 S.P f args w R := by
  cases ro with
  | none => exact h
  | some l => exact h
theorem fenceOf_rounds {ro : Option Nat} {l : Nat} {f : FuncId} {tmps : Array Value} {x y : Code} {R : Ending → World → Prop} (h : RoundIn Fence.wide 0 S.P l f tmps x y w R) : RoundIn (fenceOf ro) 0 S.P l f tmps x y w R := by
  cases ro with
  | none => exact h
  | some l => exact h

theorem not_defer {o : Op} {o' : Go.Op} (hm : MOp S G o o') : ∀ c, o' ≠ .defer c := by
  induction hm with
  | late o o' hp h ih => exact ih
  | _ => intro c hc; cases hc

theorem wanted_run (hR : Rel S G g nt s a w) {ops : Array Go.Oper} {o : Oper} {o' : Go.Oper} (hm : MOper S G nt ops o o') {b : Bool} (e : wanted o s.t = some b) : Region.wanted o' (yielded ops a.tmps) = b := by
  have hg := hm.guard
  unfold wanted at e
  unfold Region.wanted
  cases h1 : o.guard with
  | none =>
    cases h2 : o'.guard with
    | none =>
      rw [h1] at e
      simpa using e
    | some q => rw [h1, h2] at hg; exact hg.elim
  | some p =>
    obtain ⟨sl, wnt⟩ := p
    cases h2 : o'.guard with
    | none => rw [h1, h2] at hg; exact hg.elim
    | some q =>
      obtain ⟨j, b'⟩ := q
      rw [h1, h2] at hg
      rw [h1] at e
      obtain ⟨rfl, hj⟩ := hg
      dsimp only at e ⊢
      simp only [yielded, hj]
      have ht := hR.tm sl
      have hgd : a.tmps.getD sl undef = (a.tmps[sl]?).getD undef := by simp [Array.getD_eq_getD_getElem?]
      rw [hgd] at ht
      split at e
      · rename_i b0 hb
        rw [hb] at ht
        simp only [Option.some.injEq] at e
        subst e
        cases hx : a.tmps[sl]? with
        | none =>
          rw [hx] at ht
          exfalso
          cases ht with
          | rv _ _ h => have := h.bool_inv; simp [undef] at this
        | some x =>
          rw [hx] at ht
          cases ht with
          | rv _ _ h =>
            have := h.bool_inv
            simp only [Option.getD_some] at this
            subst this
            simp only [Option.bind_some, hx]
            cases b0 <;> cases wnt <;> rfl
      · rename_i hb
        rw [hb] at ht
        simp only [Option.some.injEq] at e
        subst e
        cases hx : a.tmps[sl]? with
        | none => simp [hx]
        | some x =>
          rw [hx] at ht
          cases ht with
          | rv _ _ h =>
            cases h with
            | tup _ ws hs _ => simp [hx]
      · cases e

theorem unflat_rv : ∀ {sh : List (Option Nat)} {cs : List C} {fs : List Value} {us : List V} {ys : List Value}, unflat sh cs = some us → unflatV sh fs = some ys → fs.length = cs.length →
    (∀ (j : Nat) c x, cs[j]? = some c → fs[j]? = some x → RC S g c x) → RVs S g us ys
  | [], [], [], us, ys, h1, h2, _, _ => by
    simp only [unflat, unflatV, Option.some.injEq] at h1 h2
    subst h1; subst h2
    exact ⟨rfl, fun j v x h => by simp at h⟩
  | [], [], _ :: _, _, _, _, h2, _, _ => by simp [unflatV] at h2
  | [], _ :: _, _, _, _, h1, _, _, _ => by simp [unflat] at h1
  | none :: sh, [], _, _, _, h1, _, _, _ => by simp [unflat] at h1
  | none :: sh, c :: cs, [], _, _, _, h2, _, _ => by simp [unflatV] at h2
  | none :: sh, c :: cs, f :: fs, us, ys, h1, h2, hl, hr => by
    simp only [unflat, unflatV, Option.map_eq_some_iff] at h1 h2
    obtain ⟨us', h1, rfl⟩ := h1
    obtain ⟨ys', h2, rfl⟩ := h2
    have ih := unflat_rv h1 h2 (by simpa using hl) (fun j c x a b => hr (j + 1) c x (by simpa using a) (by simpa using b))
    refine ⟨by simp [ih.1], fun j v x a b => ?_⟩
    rcases j with _ | j
    · simp at a b; subst a; subst b; exact .sc _ _ (hr 0 _ _ rfl rfl)
    · exact ih.2 j v x (by simpa using a) (by simpa using b)
  | some n :: sh, cs, fs, us, ys, h1, h2, hl, hr => by
    have h1' : (if n ≤ cs.length then (unflat sh (cs.drop n)).map (V.agg (cs.take n) :: ·) else none) = some us := by
      rw [← h1]; cases cs <;> rfl
    have h2' : (if n ≤ fs.length then (unflatV sh (fs.drop n)).map (Value.agg (fs.take n).toArray :: ·) else none) = some ys := by
      rw [← h2]; cases fs <;> rfl
    split at h1'
    · rename_i hn
      rw [if_pos (by omega)] at h2'
      simp only [Option.map_eq_some_iff] at h1' h2'
      obtain ⟨us', h1', rfl⟩ := h1'
      obtain ⟨ys', h2', rfl⟩ := h2'
      have ih := unflat_rv h1' h2' (by simp [hl]) (fun j c x a b => hr (n + j) c x (by simpa using a) (by simpa using b))
      refine ⟨by simp [ih.1], fun j v x a b => ?_⟩
      rcases j with _ | j
      · simp at a b
        subst a; subst b
        refine .agg _ _ (by simp [hl]) fun j c x a b => ?_
        rw [List.getElem?_take] at a
        split at a
        · rename_i hj
          simp only [List.getElem?_toArray, List.getElem?_take, if_pos hj] at b
          exact hr j c x a b
        · cases a
      · exact ih.2 j v x (by simpa using a) (by simpa using b)
    · cases h1'

theorem RVs.append {vs ws : List V} {xs ys : List Value} (h : RVs S g vs xs) (k : RVs S g ws ys) : RVs S g (vs ++ ws) (xs ++ ys) := by
  refine ⟨by simp [h.1, k.1], fun j v x a b => ?_⟩
  by_cases hj : j < vs.length
  · rw [List.getElem?_append_left hj] at a
    rw [List.getElem?_append_left (by rw [← h.1]; exact hj)] at b
    exact h.2 j v x a b
  · rw [List.getElem?_append_right (by omega)] at a
    rw [List.getElem?_append_right (by rw [← h.1]; omega)] at b
    rw [← h.1] at b
    exact k.2 _ v x a b

theorem RVs.args (hR : Rel S G g nt s a w) {xs : List Rand} {ys : List Operand} (h : MRs S G xs ys) : RVs S g (xs.map (rd S.Γ s.t)) (ys.map a.eval) :=
  ⟨by simp [MRs_len h], fun j v x h1 h2 => by
    simp only [List.getElem?_map, Option.map_eq_some_iff] at h1 h2
    obtain ⟨r, hr, rfl⟩ := h1
    obtain ⟨o, ho, rfl⟩ := h2
    exact MRs_rv hR h j r o hr ho⟩

def Leads (S : Seat) (g : Gh) (fk : Fk) (xs : List Value) (d : Deferred) : Prop :=
  match fk with
  | .fn id => ∃ cap, d.target = .fn (.func (S.fm id)) cap ∧ d.args ++ cap = xs.toArray
  | .yield l => ∃ cap, d.target = .fn (.yield (g.σ l)) cap ∧ d.args = xs.toArray

theorem target_leads {f : V} {fv : Value} {args : List V} {xs : List Value} {fk : Fk} {vs : List V} (hf : RV S g f fv) (ha : RVs S g args xs) (e : target f args = some (fk, vs)) :
    ∃ d ys, (Deferred.ofValue fv xs.toArray) = pure d ∧ Leads S g fk ys d ∧ RVs S g vs ys := by
  unfold target at e
  split at e
  · rename_i id sh first cap
    simp only [Option.map_eq_some_iff, Prod.mk.injEq] at e
    obtain ⟨fs, hfs, rfl, rfl⟩ := e
    cases hf with
    | sc _ _ h =>
      cases h with
      | fn _ _ _ _ fs' fvs cvs hlen hu hr hcl hc =>
        have h1 := unflat_rv hfs hu hlen hr
        have h3 : RVs S g (cap.map V.sc) cvs := ⟨by simp [hcl], fun j v x a b => by
          simp only [List.getElem?_map, Option.map_eq_some_iff] at a
          obtain ⟨c, hc', rfl⟩ := a
          exact .sc _ _ (hc j c x hc' b)⟩
        exact ⟨⟨.fn (.func (S.fm id)) cvs.toArray, fvs.toArray ++ xs.toArray⟩, fvs ++ xs ++ cvs, rfl, ⟨cvs.toArray, rfl, by simp⟩, (h1.append ha).append h3⟩
  · rename_i l _ _ _
    simp only [Option.some.injEq, Prod.mk.injEq] at e
    obtain ⟨rfl, rfl⟩ := e
    cases hf with
    | sc _ _ h =>
      cases h with
      | yield l hA => exact ⟨⟨.fn (.yield (g.σ l)) #[], #[] ++ xs.toArray⟩, xs, rfl, ⟨#[], rfl, by simp⟩, ha⟩
  · cases e

theorem beside (hR : Rel S G g nt s a w) {v : V} {x : Value} (hg : GoesH S G (g.cut 0) g' [] [] w w') (hv : RV S g' v x) :
    ∃ g'', Goes S G nt g g'' s s a a w w' ∧ RV S g'' v x := by
  have noPerm : ∀ b, ¬ Perm (g.cut 0) ⟨[], []⟩ noAct w b := by
    rintro b hp
    rcases perm_none hp with ⟨r, o, h, _⟩ | ⟨r, j, cs, es, l, vals, elem, fr, ad, n, cap, h, _⟩
    · simp at h
    · simp at h
  have noA : ∀ r, ¬ g'.A r := fun r hA => by
    obtain ⟨o, ho, _⟩ := hg.rel.hp.as r hA
    simp at ho
  let g2 : Gh := { g with M := g'.M, N := g'.N }
  have hgr : Grows g g2 w w' := by
    refine ⟨⟨fun _ h => h, fun _ _ => rfl, fun b o v e => hg.le.im b o v e, fun b es e => hg.le.mm b es e⟩, fun _ h => h, hg.keeps.mono (fun b _ hp => noPerm b hp), fun b o v e => ?_, fun b es e => ?_⟩
    · rcases hg.im b o v e with h | h | h
      · exact .inl h
      · exact .inr ⟨h, hg.rel.hp.im b o v e⟩
      · exact absurd h (noPerm b)
    · rcases hg.mm b es e with h | h | h
      · exact .inl h
      · exact .inr ⟨h, hg.rel.hp.mm b es e⟩
      · exact absurd h (noPerm b)
  exact ⟨g2, .grow hR hgr, hv.mono ⟨fun r h => absurd h (noA r), fun r h => absurd h (noA r), fun _ _ _ h => h, fun _ _ h => h⟩⟩

theorem RelH.cut0 (hR : RelH S G g h w) : RelH S G (g.cut 0) [] w :=
  ⟨fun r o e => by simp at e, fun r hA => absurd hA.2 (by omega), fun r o e => by simp at e, fun r r' o o' e => by simp at e, hR.im, hR.mm, fun r o e => by simp at e, fun r o e => by simp at e,
    fun id hid => (hR.gl id hid).cut rfl, fun r j r' j' b ⟨cs, es, l, vals, elem, fr, ad, n, cap, h, _⟩ => by simp at h, fun r j b r' o ⟨cs, es, l, vals, elem, fr, ad, n, cap, h, _⟩ => by simp at h⟩

theorem RVs.cut0 {vs : List V} {xs : List Value} (h : RVs S g vs xs) (hp : vs.all V.pure = true) : RVs S (g.cut 0) vs xs :=
  ⟨h.1, fun j v x a b => (h.2 j v x a b).of_pure (List.all_eq_true.1 hp v (List.mem_of_getElem? a)) (fun _ _ _ h => h) (fun _ _ h => h)⟩

theorem call_wp {K : Calls1} (hK : SimK S G K) (hR : Rel S G g nt s a w) {fk : Fk} {vs : List V} {xs : List Value} {d : Deferred} (hl : Leads S g fk xs d) (hx : RVs S g vs xs) {pure : Bool}
    (e : (if pure then (if vs.all V.pure then (K fk vs []).bind (alone s.h) else none) else K fk vs s.h) = some (v, h')) :
    ∃ R : Ending → World → Prop, (∀ e w', R e w' → ∃ x g', e = .returned x ∧ Goes S G nt g g' s ⟨s.t, h'⟩ a a w w' ∧ RV S g' v x) ∧
      ((∃ f args, (invoke d.target d.args).run S.P w = .ok (.enter f args) w ∧ CallsIn Fence.wide 0 S.P f args w R) ∨
       (∃ l f tmps x y, (invoke d.target d.args).run S.P w = .ok (.round l f tmps x y) w ∧ RoundIn Fence.wide 0 S.P l f tmps x y w R)) := by
  have core : ∀ {g0 : Gh} {h0 h1 : List Obj} {v1 : V}, RelH S G g0 h0 w → RVs S g0 vs xs → Leads S g0 fk xs d → K fk vs h0 = some (v1, h1) →
      ((∃ f args, (invoke d.target d.args).run S.P w = .ok (.enter f args) w ∧ CallsIn Fence.wide 0 S.P f args w (CallPost S G g0 h0 h1 w v1)) ∨
       (∃ l f tmps x y, (invoke d.target d.args).run S.P w = .ok (.round l f tmps x y) w ∧ RoundIn Fence.wide 0 S.P l f tmps x y w (CallPost S G g0 h0 h1 w v1))) := by
    intro g0 h0 h1 v1 hH hxs hld hk
    have := hK fk vs h0 v1 h1 hk g0 w xs hH hxs
    cases fk with
    | fn id =>
      obtain ⟨⟨fn, hfn, hname, hbody⟩, hc⟩ := this
      obtain ⟨cap, ht, hargs⟩ := hld
      refine .inl ⟨S.fm id, xs.toArray, ?_, hc⟩
      simp [invoke, ht, hargs, callFunc, hfn, hname, hbody]
    | yield l =>
      obtain ⟨f, tmps, x, y, hy, hc⟩ := this
      obtain ⟨cap, ht, hargs⟩ := hld
      refine .inr ⟨_, f, tmps, x, y, ?_, hc⟩
      simp only [invoke, ht, hargs]
      exact hy
  cases pure with
  | false =>
    simp only [Bool.false_eq_true, if_false] at e
    refine ⟨CallPost S G g s.h h' w v, fun e w' ⟨x, g', h1, h2, h3⟩ => ⟨x, g', h1, Goes.frame hR h2, h3⟩, core hR.hp hx hl e⟩
  | true =>
    simp only [if_true] at e
    split at e
    · rename_i hp
      simp only [Option.bind_eq_some_iff] at e
      obtain ⟨⟨v1, h1⟩, hk, e⟩ := e
      unfold alone at e
      split at e
      · rename_i hh
        simp only at hh
        subst hh
        simp only [Option.some.injEq, Prod.mk.injEq] at e
        obtain ⟨rfl, rfl⟩ := e
        have hld : Leads S (g.cut 0) fk xs d := hl
        refine ⟨CallPost S G (g.cut 0) [] [] w v1, fun e w' ⟨x, g', h1, h2, h3⟩ => ?_, core hR.hp.cut0 (hx.cut0 hp) hld hk⟩
        obtain ⟨g'', k1, k2⟩ := beside hR h2 h3
        exact ⟨x, g'', h1, k1, k2⟩
      · cases e
    · cases e

theorem put_same (a : Act) (dst : Option Tmp) (x : Value) : (a.put dst x).defers = a.defers := by cases dst <;> rfl

theorem step_wp {K : Calls1} (hK : SimK S G K) (hR : Rel S G g nt s a w) {ops : Array Go.Oper} {o : Oper} {o' : Go.Oper} (hm : MOper S G nt ops o o') (hs : step S.Γ K base o s = some s') (ro : Option Nat) {next : Act → World → Prop} {Q : Exit → Act → World → Prop}
    (hn : ∀ a' w' g', Goes S G nt g g' s s' a a' w w' → a'.defers = a.defers → next a' w') :
    if Region.wanted o' (yielded ops a.tmps) = true then o'.wpIn (fenceOf ro) 0 S.P a w next Q else (∀ f, o'.about S.P w a.eval = some f → (fenceOf ro).fn f) ∧ next (a.put o'.dst undef) w := by
  have hdst : ∀ d, o.dst = some d → d < nt := hm.lt
  have hab : ∀ f, o'.about S.P w a.eval = some f → (fenceOf ro).fn f := fun f _ => fenceOf_fn ro f
  unfold step at hs
  split at hs
  · cases hs
  · rename_i hw
    rw [wanted_run hR hm hw, if_neg (by simp)]
    simp only [Option.some.injEq] at hs
    subst hs
    refine ⟨hab, hn _ _ g ?_ (put_same _ _ _)⟩
    rw [hm.dst]
    exact Goes.put hR (.tup [] #[] rfl fun j v w a b => by simp at a) hdst
  · rename_i hw
    rw [wanted_run hR hm hw, if_pos rfl]
    split at hs
    · cases hs
    · rename_i v h' hp
      simp only [Option.some.injEq] at hs
      subst hs
      refine ⟨hab, ?_⟩
      rw [fenceOf_round, Oper.semAt_eq ro a.eval o' (not_defer hm.op)]
      by_cases hc : ∃ p f as, o.op = .call p f as
      · obtain ⟨pu, f, as, ho⟩ := hc
        have hop := hm.op
        rw [ho] at hop hp
        generalize ho' : o'.op = oo at hop
        cases hop with
        | call _ _ _ f' args' ts hf ha =>
          have htk : o.op.takes = [] := by rw [ho]; rfl
          simp only [perform, calls] at hp
          split at hp
          · cases hp
          · rename_i fk vs ht
            obtain ⟨d, ys, hd, hl, hx⟩ := target_leads (rd_rv hR hf) (RVs.args hR ha) ht
            obtain ⟨R, hpost, hcase⟩ := call_wp hK hR hl hx (pure := pu) (by cases pu <;> exact hp)
            have hres : (resolve a.eval { callee := .value f', args := args'.toArray, argTypes := ts } o'.type) = pure d := by
              simp only [resolve]
              rw [← hd]
              congr 1
              simp
            have hrun : (execOp a.eval o').run S.P w = (invoke d.target d.args).run S.P w := by
              simp only [execOp, ho', hres, Sem.run_bind, Sem.run_pure, Result.andThen_ok]
            have fin : ∀ e w', R e w' → (match e, w' with | .returned v, w'' => next (a.put o'.dst v) w'' | .panicked chain, w'' => Q (.panic chain) a w'' | .outgrown, _ => LetsOut Q) := fun e w' hr => by
              obtain ⟨x, g', rfl, h2, h3⟩ := hpost e w' hr
              refine hn _ _ g' ?_ (put_same _ _ _)
              rw [hm.dst, htk]
              exact h2.trans (Goes.put h2.rel h3 hdst)
            rw [hrun]
            rcases hcase with ⟨f, args, h1, h2⟩ | ⟨l, f, tmps, x, y, h1, h2⟩
            · rw [h1, Oper.uponIn_enter]
              exact ⟨fun h => (by rw [fenceOf_depth] at h; cases h), fenceOf_calls (h2.mono fin)⟩
            · rw [h1, Oper.uponIn_round]
              exact ⟨fun h => (by rw [fenceOf_depth] at h; cases h), fenceOf_rounds (h2.mono fin)⟩
      · have key : ∃ x n w' g', (execOp a.eval o').run S.P w = .ok n w' ∧ (n = .value x ∨ (n = .skip ∧ x = undef)) ∧ Goes S G nt g g' s { t := put1 o.dst v (drop o.op.takes s.t), h := h' } a (a.put o.dst x) w w' := by
          by_cases hpl : o.op.plain = true
          · rw [perform_eff hpl, Option.map_eq_some_iff] at hp
            obtain ⟨⟨v', ws⟩, he, e2⟩ := hp
            simp only [Prod.mk.injEq] at e2
            obtain ⟨rfl, rfl⟩ := e2
            exact (op_does hR hm.op hpl he).step rfl hdst
          · have hop := hm.op
            cases ho : o.op with
            | call p f as => exact absurd ⟨p, f, as, ho⟩ hc
            | late o1 =>
              rw [ho] at hop hp
              generalize ho' : o'.op = oo at hop
              cases hop with
              | late _ _ hp1 hm1 =>
                simp only [perform] at hp
                split at hp
                · rename_i htk
                  simp only [Option.map_eq_some_iff] at hp
                  obtain ⟨⟨v', ws⟩, he, e2⟩ := hp
                  simp only [Prod.mk.injEq] at e2
                  obtain ⟨rfl, rfl⟩ := e2
                  have hroom := Goes.room hR 1
                  obtain ⟨x, n, w', g', h1, h2, h3⟩ := (op_does (base := s.h.length) (s := ⟨s.t, s.h ++ [.free]⟩) hroom.rel hm1 hp1 he).step ho' hdst
                  rw [htk] at h3
                  exact ⟨x, n, w', g', h1, h2, hroom.trans h3⟩
                · cases hp
            | _ => rw [ho] at hpl; exact absurd rfl hpl
        obtain ⟨x, n, w', g', h1, h2, h3⟩ := key
        rw [h1]
        rcases h2 with rfl | ⟨rfl, rfl⟩
        · rw [Oper.uponIn_value]
          refine hn _ _ g' ?_ (put_same _ _ _)
          rw [hm.dst]; exact h3
        · rw [Oper.uponIn_skip]
          refine hn _ _ g' ?_ (put_same _ _ _)
          rw [hm.dst]; exact h3

end
end Go.Pm

namespace Go.Pm

section
variable {S : Seat} {G : List Nat} {g g' g'' : Gh} {nt : Nat} {s s' s'' : St} {a a' a'' : Act} {w w' w'' : World} {h h' : List Obj} {base : Nat}

theorem MOpers.get {ops : Array Go.Oper} : ∀ {os : List Oper} {os' : List Go.Oper}, MOpers S G nt ops os os' → os.length = os'.length ∧ ∀ (i : Nat) o o', os[i]? = some o → os'[i]? = some o' → MOper S G nt ops o o'
  | [], [], _ => ⟨rfl, fun i o o' h => by simp at h⟩
  | o :: os, o' :: os', h => by
    obtain ⟨h1, h2⟩ := h
    obtain ⟨h3, h4⟩ := MOpers.get h2
    refine ⟨by simp [h3], fun i p p' a b => ?_⟩
    rcases i with _ | i
    · simp at a b; subst a; subst b; exact h1
    · exact h4 i p p' (by simpa using a) (by simpa using b)
  | [], _ :: _, h => by cases h
  | _ :: _, [], h => by cases h

/-! ### Room for what a region allocates; slots forgotten -/

theorem Goes.restrict (hR : Rel S G g nt s a w) (keep : List Nat) : Goes S G nt g g s { t := Pm.restrict keep s.t, h := s.h } a a w w where
  le := .refl g
  rel := hR.restrict keep
  keeps := .refl _ w
  back := fun b _ hp => by
    rcases hp with h | ⟨i, es, l, ad, n, cap, h1, h2, h3⟩
    · exact .inl h
    · have h1' : get (Pm.restrict keep s.t) i = .sc (.own es l) := h1
      rw [get_restrict] at h1'
      split at h1'
      · exact .inr ⟨i, es, l, ad, n, cap, h1', h2, h3⟩
      · cases h1'
  im := fun _ _ _ h => .inl h
  mm := fun _ _ h => .inl h

theorem restrict_eqv {e : St} (h : Eqv s e) (keep : List Nat) : ({ t := restrict keep s.t, h := s.h } : St) = { t := restrict keep e.t, h := e.h } := by
  have : restrict keep s.t = restrict keep e.t := List.map_congr_left fun i _ => by rw [h.t i]
  rw [this, h.h]

/-! ### In their text's order -/

theorem steps_wp {K : Calls1} (hK : SimK S G K) {ops' : Array Go.Oper} (ro : Option Nat) {Q : Exit → Act → World → Prop} : ∀ (os : List Oper) (os' : List Go.Oper) (i : Nat), MOpers S G nt ops' os os' → (∀ j, os'[j]? = ops'[i + j]?) →
    ∀ (s e : St) (a : Act) (w : World) (g : Gh), steps S.Γ K base os s = some e → Rel S G g nt s a w → (∀ a' w' g', Goes S G nt g g' s e a a' w w' → a'.defers = a.defers → Q .normal a' w') →
      wpOpsIn (fenceOf ro) 0 S.P ops' Q (List.range' i os'.length) a w
  | [], [], i, _, _, s, e, a, w, g, hs, hR, hn => by
    simp only [steps, Option.some.injEq] at hs
    subst hs
    simp only [List.length_nil, List.range'_zero, wpOpsIn]
    exact hn a w g (.refl hR) rfl
  | o :: os, o' :: os', i, hm, hi, s, e, a, w, g, hs, hR, hn => by
    obtain ⟨h1, h2⟩ := hm
    simp only [steps] at hs
    split at hs
    · cases hs
    · rename_i s1 hs1
      have ho : ops'[i]? = some o' := by have := hi 0; simpa using this.symm
      rw [List.length_cons, List.range'_succ, wpOpsIn]
      simp only [ho]
      exact step_wp hK hR h1 hs1 ro fun a' w' g' hg hd => steps_wp hK ro os os' (i + 1) h2 (fun j => by have := hi (j + 1); rw [List.getElem?_cons_succ] at this; rw [this]; congr 1; omega) s1 e a' w' g' hs hg.rel
        fun a'' w'' g'' hg' hd' => hn a'' w'' g'' (hg.trans hg') (hd'.trans hd)
  | [], _ :: _, _, h, _, _, _, _, _, _, _, _, _ => by cases h
  | _ :: _, [], _, h, _, _, _, _, _, _, _, _, _ => by cases h

/-! ### In an order that is drawn -/

theorem anc_listed {ops' : Array Go.Oper} {anc : Nat → List Nat} (hlt : ∀ (i : Nat) o, ops'.toList[i]? = some o → ∀ j ∈ binds o, j < i) (hanc : ∀ (i : Nat) o, ops'.toList[i]? = some o → ∀ j ∈ anc i, j ∈ binds o ∨ ∃ k ∈ binds o, j ∈ anc k)
    {L : Nat → Prop} (hdown : ∀ (i : Nat) o', ops'[i]? = some o' → L i → ∀ j ∈ binds o', L j) : ∀ (n i : Nat) o', i < n → ops'[i]? = some o' → (∀ j ∈ binds o', L j) → ∀ j ∈ anc i, L j
  | 0, i, _, hi, _, _ => by omega
  | n + 1, i, o', hi, ho, hb => by
    intro j hj
    have ho' : ops'.toList[i]? = some o' := by rw [Array.getElem?_toList]; exact ho
    rcases hanc i o' ho' j hj with h | ⟨k, hk, hjk⟩
    · exact hb j h
    · have hki := hlt i o' ho' k hk
      have hks : k < ops'.size := by have := (Array.getElem?_eq_some_iff.1 ho).1; omega
      exact anc_listed hlt hanc hdown n k ops'[k] (by omega) (Array.getElem?_eq_getElem hks) (hdown k _ (Array.getElem?_eq_getElem hks) (hb k hk)) j hjk

theorem mem_binds {o : Go.Oper} {e : Edge} (he : e ∈ o.after) (hb : Region.binds .any e = true) : e.on ∈ binds o := by
  unfold binds
  exact List.mem_map.2 ⟨e, List.mem_filter.2 ⟨Array.mem_toList_iff.2 he, hb⟩, rfl⟩

theorem of_mem_binds {o : Go.Oper} {j : Nat} (h : j ∈ binds o) : ∃ e ∈ o.after, Region.binds .any e = true ∧ e.on = j := by
  unfold binds at h
  obtain ⟨e, he, rfl⟩ := List.mem_map.1 h
  obtain ⟨h1, h2⟩ := List.mem_filter.1 he
  exact ⟨e, Array.mem_toList_iff.1 h1, h2, rfl⟩

theorem getD_true_iff {l : Array Bool} {j : Nat} (hj : j < l.size) (d : Bool) : l.getD j d = l[j] := by simp [Array.getD, hj]

theorem draw_any {K : Calls1} (hK : SimK S G K) {ops' : Array Go.Oper} {ops : List Oper} (hm : MOpers S G nt ops' ops ops'.toList) (hd : DrawOk ops ops'.toList) (tr : List (Nat × Acc)) (ro : Option Nat) {Q : Exit → Act → World → Prop} :
    ∀ (fuel : Nat) (rem : List Oper) (listed : Array Bool) (s e : St) (a : Act) (w : World) (g : Gh), rem.length = fuel → rem.Sublist ops → listed.size = ops'.size → (∀ i, i < ops'.size → (listed.getD i true = false ↔ ∃ o ∈ rem, o.ix = i)) →
      (∀ (i : Nat) o', ops'[i]? = some o' → listed.getD i true = true → ∀ j ∈ binds o', listed.getD j true = true) → RunT S.Γ K base tr rem s e → rem.Pairwise (Pairs tr) → Rel S G g nt s a w →
      (∀ a' w' g' s', Goes S G nt g g' s s' a a' w w' → Eqv s' e → a'.defers = a.defers → Q .normal a' w') → wpAnyIn (fenceOf ro) 0 S.P .any ops' Q fuel listed a w := by
  obtain ⟨hlen, hget⟩ := hm.get
  have hpos : ∀ o ∈ ops, ops[o.ix]? = some o ∧ o.ix < ops'.size := fun o ho => by
    obtain ⟨k, hk⟩ := List.getElem?_of_mem ho
    have := hd.ix k o hk
    subst this
    exact ⟨hk, by have := (List.getElem?_eq_some_iff.1 hk).1; rw [hlen] at this; simpa using this⟩
  have hsorted : ops.Pairwise (fun x y => x.ix < y.ix) := by
    rw [List.pairwise_iff_getElem]
    intro i j hi hj hij
    rw [hd.ix i _ (List.getElem?_eq_getElem hi), hd.ix j _ (List.getElem?_eq_getElem hj)]
    exact hij
  obtain ⟨anc, hanc, hpair⟩ := hd.apart
  intro fuel
  induction fuel with
  | zero =>
    intro rem listed s e a w g hl hsub hsz hun hdown hrun hpw hR hn
    have hnil : rem = [] := List.length_eq_zero_iff.1 hl
    subst hnil
    refine ⟨?_, hn a w g s (.refl hR) hrun rfl⟩
    apply List.eq_nil_iff_forall_not_mem.2
    intro i hi
    obtain ⟨h0, o, ho, _⟩ := mem_ready.1 hi
    have hlt : i < ops'.size := (Array.getElem?_eq_some_iff.1 ho).1
    obtain ⟨o, ho, _⟩ := (hun i hlt).1 h0
    simp at ho
  | succ fuel ih =>
    intro rem listed s e a w g hl hsub hsz hun hdown hrun hpw hR hn
    refine ⟨fun hnone => ?_, fun i hi => ?_⟩
    · exfalso
      cases rem with
      | nil => simp at hl
      | cons o rest =>
        have hoops := hsub.subset (by simp : o ∈ o :: rest)
        obtain ⟨hpo, hlt⟩ := hpos o hoops
        have hready : o.ix ∈ Region.ready .any ops' listed := by
          refine mem_ready.2 ⟨(hun _ hlt).2 ⟨o, by simp, rfl⟩, ops'[o.ix], Array.getElem?_eq_getElem hlt, fun ed he hb => ?_⟩
          have hbl := hd.lt o.ix ops'[o.ix] (by rw [Array.getElem?_toList]; exact Array.getElem?_eq_getElem hlt) ed.on (mem_binds he hb)
          have hbs : ed.on < listed.size := by omega
          cases hc : listed.getD ed.on true with
          | true => rw [getD_true_iff hbs] at hc ⊢; exact hc
          | false =>
            obtain ⟨o2, ho2, hix⟩ := (hun ed.on (by omega)).1 hc
            rcases List.mem_cons.1 ho2 with rfl | ho2
            · omega
            · have := List.rel_of_pairwise_cons (hsorted.sublist hsub) ho2
              omega
        rw [hnone] at hready
        cases hready
    · obtain ⟨h0, o', ho', hall⟩ := mem_ready.1 hi
      have hlt : i < ops'.size := (Array.getElem?_eq_some_iff.1 ho').1
      obtain ⟨o, ho, hix⟩ := (hun i hlt).1 h0
      subst hix
      obtain ⟨pre, post, rfl⟩ := List.append_of_mem ho
      have hoops := hsub.subset ho
      obtain ⟨hpo, _⟩ := hpos o hoops
      have hmo := hget o.ix o o' hpo (by rw [Array.getElem?_toList]; exact ho')
      have hbl : ∀ j ∈ binds o', listed.getD j true = true := fun j hj => by
        obtain ⟨ed, he, hb, rfl⟩ := of_mem_binds hj
        have := hall ed he hb
        have hlt2 := hd.lt o.ix o' (by rw [Array.getElem?_toList]; exact ho') ed.on (mem_binds he hb)
        have hbs : ed.on < listed.size := by omega
        rw [getD_true_iff hbs] at this ⊢; exact this
      have hancl := anc_listed hd.lt hanc (L := fun j => listed.getD j true = true) hdown (o.ix + 1) o.ix o' (by omega) ho' hbl
      have hs := hsorted.sublist hsub
      have hfront := hrun.front (fun oj hoj => by
        have hm1 : oj ∈ ops := hsub.subset (by simp [hoj])
        obtain ⟨hpj, hltj⟩ := hpos oj hm1
        have hlt3 : oj.ix < o.ix := (List.pairwise_append.1 hs).2.2 oj hoj o (by simp)
        refine ⟨hpair o.ix oj.ix o oj hlt3 hpo hpj fun hmem => ?_, (List.pairwise_append.1 hpw).2.2 oj hoj o (by simp)⟩
        have h1 := hancl _ hmem
        have h2 := (hun oj.ix hltj).2 ⟨oj, by simp [hoj], rfl⟩
        rw [h1] at h2
        cases h2)
      obtain ⟨s1, hs1, _, hrest⟩ := hfront
      unfold wpOpIn
      simp only [ho']
      refine step_wp hK hR hmo hs1 ro fun a' w' g' hg hdf => ?_
      have hsub' : (pre ++ post).Sublist (pre ++ o :: post) := List.Sublist.append (List.Sublist.refl pre) (List.sublist_cons_self o post)
      have hnotin : ∀ o2 ∈ pre ++ post, o2.ix ≠ o.ix := fun o2 ho2 => by
        rcases List.mem_append.1 ho2 with h1 | h1
        · have := (List.pairwise_append.1 hs).2.2 o2 h1 o (by simp); omega
        · have := List.rel_of_pairwise_cons (List.pairwise_append.1 hs).2.1 h1; omega
      refine ih (pre ++ post) _ s1 e a' w' g' (by simp at hl ⊢; omega) (hsub'.trans hsub) (by simpa using hsz) (fun j hj => ?_) (fun j oj' hoj' hlj k hk => ?_) hrest (hpw.sublist hsub') hg.rel
        (fun a'' w'' g'' s'' hg' he hd' => hn a'' w'' g'' s'' (hg.trans hg') he (hd'.trans hdf))
      · have hjl : j < listed.size := by omega
        have hjl' : j < (listed.setIfInBounds o.ix true).size := by simpa using hjl
        rw [getD_true_iff hjl']
        by_cases hjo : j = o.ix
        · subst hjo
          simp only [Array.getElem_setIfInBounds_self, Bool.true_eq_false, false_iff, not_exists, not_and]
          exact hnotin
        · rw [Array.getElem_setIfInBounds_ne hjl (fun h => hjo h.symm), ← getD_true_iff hjl true, hun j hj]
          constructor
          · rintro ⟨o2, ho2, hx⟩
            refine ⟨o2, ?_, hx⟩
            rcases List.mem_append.1 ho2 with h1 | h1
            · exact List.mem_append_left _ h1
            · rcases List.mem_cons.1 h1 with rfl | h1
              · exact absurd hx.symm hjo
              · exact List.mem_append_right _ h1
          · rintro ⟨o2, ho2, hx⟩
            exact ⟨o2, hsub'.subset ho2, hx⟩
      · have hjl : j < ops'.size := (Array.getElem?_eq_some_iff.1 hoj').1
        have hk2 := hd.lt j oj' (by rw [Array.getElem?_toList]; exact hoj') k hk
        have hkl : k < listed.size := by omega
        have hkl' : k < (listed.setIfInBounds o.ix true).size := by simpa using hkl
        have hjl2 : j < listed.size := by omega
        have hjl' : j < (listed.setIfInBounds o.ix true).size := by simpa using hjl2
        rw [getD_true_iff hkl']
        by_cases hko : k = o.ix
        · subst hko; simp
        · rw [Array.getElem_setIfInBounds_ne hkl (fun h => hko h.symm), ← getD_true_iff hkl true]
          by_cases hjo : j = o.ix
          · subst hjo
            rw [ho'] at hoj'
            cases hoj'
            exact hbl k hk
          · rw [getD_true_iff hjl', Array.getElem_setIfInBounds_ne hjl2 (fun h => hjo h.symm), ← getD_true_iff hjl2 true] at hlj
            exact hdown j oj' hoj' hlj k hk

theorem region_wp {K : Calls1} (hK : SimK S G K) (hmix : S.P.follows .mixedOrders = true) {nal : Nat} {ops : List Oper} {draw : Bool} {keep : List Nat} {id : Nat} {ops' : Array Go.Oper} (hm : MOpers S G nt ops' ops ops'.toList) (hd : draw = true → DrawOk ops ops'.toList)
    (hR : Rel S G g nt s a w) {ex : Ex} (e : region S.Γ K nal ops draw keep s = some (ex, s')) (ro : Option Nat) {Q : Exit → Act → World → Prop}
    (hn : ex = .norm → ∀ a' w' g', Goes S G nt g g' s s' a a' w w' → a'.defers = a.defers → Q .normal a' w') : (Code.region id ops' draw).wpIn (fenceOf ro) 0 S.P Q a w := by
  have hroom := Goes.room hR nal
  cases draw with
  | false =>
    simp only [region, Option.map_eq_some_iff, Prod.mk.injEq] at e
    obtain ⟨e1, he, rfl, rfl⟩ := e
    refine wpIn_region ?_
    have hr : List.range ops'.size = List.range' 0 ops'.toList.length := by rw [List.range_eq_range']; simp
    rw [hr]
    exact steps_wp hK ro ops ops'.toList 0 hm (fun j => by simp) _ _ a w g he hroom.rel fun a' w' g' hg hdf => hn rfl a' w' g' ((hroom.trans hg).trans (.restrict hg.rel keep)) hdf
  | true =>
    simp only [region, Option.map_eq_some_iff, Prod.mk.injEq] at e
    obtain ⟨e1, ⟨⟨e2, tr⟩, he, rfl⟩, rfl, rfl⟩ := e
    obtain ⟨hlen, _⟩ := hm.get
    have hix : ops.map (·.ix) = List.range ops.length := by
      apply List.ext_getElem?
      intro i
      rw [List.getElem?_map]
      cases hi : ops[i]? with
      | none => simp [List.getElem?_eq_none_iff.1 hi]
      | some o =>
        have := (List.getElem?_eq_some_iff.1 hi).1
        have hox := (hd rfl).ix i o hi
        rw [Option.map_some, hox]
        simp [this]
    obtain ⟨r1, _, _, r4, _⟩ := stepsT_run ops _ e2 [] tr he (by rw [hix]; exact List.nodup_range) (by simp)
    refine wpIn_region_any hmix ?_
    refine draw_any hK hm (hd rfl) tr ro ops'.size ops _ _ e2 a _ g (by rw [hlen]; simp) (List.Sublist.refl _) (by simp) (fun i hi => ?_) (fun i o' ho' hl => ?_) r1 r4 (hroom.rel.grow (Grows.drew g w)) (fun a' w' g' s1 hg hE hdf => ?_)
    · have h1 : (Array.replicate ops'.size false).getD i true = false := by simp [Array.getD, hi]
      rw [h1]
      simp only [true_iff]
      have : i < ops.length := by rw [hlen]; simpa using hi
      exact ⟨ops[i], List.getElem_mem this, (hd rfl).ix i _ (List.getElem?_eq_getElem this)⟩
    · have hi : i < ops'.size := (Array.getElem?_eq_some_iff.1 ho').1
      simp [Array.getD, hi] at hl
    · refine hn rfl a' w' g' ?_ hdf
      have h1 : Goes S G nt g g' s s1 a a' w w' := (hroom.trans (Goes.grow hroom.rel (Grows.drew g w))).trans hg
      have h2 := h1.trans (.restrict h1.rel keep)
      rw [restrict_eqv hE keep] at h2
      exact h2

end
end Go.Pm

namespace Go.Pm

section
variable {S : Seat} {G : List Nat} {g g' g'' g1 : Gh} {nt : Nat} {s s' s'' s1 : St} {a a' a'' a1 : Act} {w w' w'' w1 : World} {h h' : List Obj} {base : Nat}

theorem kill_claimH {D A : Nat → Prop} (hd : Dies h h' D A g) {r j b : Nat} (hc : ClaimH (g.kill h w D A) h' w r j b) : ClaimH g h w r j b := by
  obtain ⟨cs, es, l, vals, elem, fr, ad, n, cap, h1, h2, h3, h4, h5⟩ := hc
  exact ⟨cs, es, l, vals, elem, fr, ad, n, cap, (hd.left r _ h1 rfl).1, h2, h3, h4, h5⟩

theorem Goes.kills (hG : Goes S G nt g g1 s s1 a a1 w w1) {D A : Nat → Prop} (hd : Dies s1.h h' D A g1) (hA : ∀ r, g.A r → A r) {t' : List (Nat × V)} (ht : ∀ i, RT S (g1.kill s1.h w1 D A) w1 (get t' i) (a1.tmps.getD i undef))
    (hct : ∀ i b, ClaimT t' a1.tmps i b → ClaimT s1.t a1.tmps i b) : Goes S G nt g (g1.kill s1.h w1 D A) s ⟨t', h'⟩ a a1 w w1 := by
  have hR := hG.rel
  refine ⟨⟨hA, fun r h => hG.le.eq r h, fun b o v e => kill_M hR.hp (hG.le.im b o v e), fun b es e => kill_N hR.hp (hG.le.mm b es e)⟩,
    ⟨hR.hp.kill hd, hR.sz, ht, fun i i' b c c' => hR.exT i i' b (hct i b c) (hct i' b c'), fun i b r j c d => hR.exTH i b r j (hct i b c) (kill_claimH hd d), fun i b r o c e hl => hR.clT i b r o (hct i b c) (hd.left r o e hl).1 hl⟩,
    hG.keeps, fun b hb hp => hG.back b hb ?_, fun b o v e => ?_, fun b es e => ?_⟩
  · rcases hp with (⟨r, o, h1, h2, h3⟩ | ⟨r, j, hc⟩) | ⟨i, hc⟩
    · exact .inl (.inl ⟨r, o, (hd.left r o h1 h2).1, h2, h3⟩)
    · exact .inl (.inr ⟨r, j, kill_claimH hd hc⟩)
    · exact .inr ⟨i, hct i b hc⟩
  · simp only [Gh.kill] at e
    split at e
    · rename_i hx
      obtain ⟨r, cs, h1, h2, h3⟩ := hx
      by_cases hb : b < w.heap.size
      · exact .inr (.inr (hG.back b hb (.inl (.inl ⟨r, _, h2, rfl, h3⟩))))
      · exact .inr (.inl (by omega))
    · exact hG.im b o v e
  · simp only [Gh.kill] at e
    split at e
    · rename_i hx
      obtain ⟨r, ka, va, l, h1, h2, h3⟩ := hx
      by_cases hb : b < w.heap.size
      · exact .inr (.inr (hG.back b hb (.inl (.inl ⟨r, _, h2, rfl, h3⟩))))
      · exact .inr (.inl (by omega))
    · exact hG.mm b es e

theorem kill_rt {n : Nat} (hR : Rel S G g nt s a w) {D A : Nat → Prop} (hA : ∀ r, r < n → g.A r → A r) {i : Nat} (hu : (get s.t i).under n = true) : RT S (g.kill s.h w D A) w (get s.t i) (a.tmps.getD i undef) := by
  have ht := hR.tm i
  generalize hv : get s.t i = v at ht hu
  generalize hx : a.tmps.getD i undef = x at ht
  cases ht with
  | rv _ _ h => exact .rv _ _ (h.keep hu hA rfl (fun _ _ _ e => kill_M hR.hp e) (fun _ _ e => kill_N hR.hp e))
  | own es l b off cap ho =>
    have hc : ClaimT s.t a.tmps i b := ⟨es, l, _, _, _, hv, hx, rfl⟩
    exact .own _ _ _ _ _ ⟨ho.rel.of_pure rfl (fun _ _ _ e => kill_M hR.hp e) (fun _ _ e => kill_N hR.hp e), ho.blk, fun o hoo => by
      rw [kill_M_claim (fun r o e hl => hR.clT i b r o hc e hl)]; exact ho.spare o hoo⟩

theorem dies_take (hR : RelH S G g h w) (n : Nat) (hun : (h.take n).all (Obj.under n) = true) : Dies h (h.take n) (fun r => n ≤ r) (fun r => g.A r ∧ r < n) g := by
  have hg : ∀ (r : Nat) o, (h.take n)[r]? = some o → h[r]? = some o ∧ r < n := fun r o e => by
    rw [List.getElem?_take] at e
    split at e
    · rename_i hlt; exact ⟨e, hlt⟩
    · cases e
  refine ⟨fun r o e _ => ⟨(hg r o e).1, fun hx => absurd (hg r o e).2 (by show ¬ r < n; omega)⟩, fun r ⟨hA, hlt⟩ => ?_, fun r o e hl => ⟨hR.lv r o (hg r o e).1 hl, (hg r o e).2⟩, fun r h => h.1, fun r o e _ => ⟨n, und_of (List.all_eq_true.1 hun o (List.mem_of_getElem? e)), fun r' hr' hA => ⟨hA, hr'⟩⟩⟩
  obtain ⟨o, ho, hf⟩ := hR.as r hA
  exact ⟨o, by rw [List.getElem?_take, if_pos hlt]; exact ho, hf⟩

theorem Goes.trim (hR : Rel S G g nt s a w) (hG : Goes S G nt g g1 s s1 a a1 w w1) {keep : List Nat} {s2 : St} (e : trim keep s.h.length s1 = some s2) : ∃ g2, Goes S G nt g g2 s s2 a a1 w w1 := by
  simp only [Pm.trim] at e
  split at e
  · rename_i hall
    obtain ⟨hall, hun⟩ := hall
    simp only [Option.some.injEq] at e
    subst e
    have hu : ∀ i, (get (Pm.restrict keep s1.t) i).under s.h.length = true := fun i => by
      rw [get_restrict]
      split
      · rename_i hi
        have := List.all_eq_true.1 hall (i, get s1.t i) (List.mem_map.2 ⟨i, hi, rfl⟩)
        exact this
      · rfl
    have hr := hG.trans (.restrict hG.rel keep)
    refine ⟨_, hr.kills (dies_take hr.rel.hp s.h.length hun) (fun r hA => ⟨hG.le.as r hA, A_lt hR.hp hA⟩) (fun i => kill_rt hr.rel (fun r hlt hA => ⟨hA, hlt⟩) (hu i)) (fun _ _ h => h)⟩
  · cases e

theorem RelH.und (hR : RelH S G g h w) {r : Nat} {o : Obj} (e : h[r]? = some o) : Obj.und h.length o := by
  have ho := hR.ob r o e
  cases o with
  | dead => trivial
  | free => trivial
  | map ka va l ph => trivial
  | var cs =>
    obtain ⟨vals, elem, hb, hs, hro⟩ := ho
    refine underL_of fun j c hj => ?_
    have hlt : j < vals.size := by have := (List.getElem?_eq_some_iff.1 hj).1; omega
    have := hro j c _ hj (Array.getElem?_eq_getElem hlt)
    generalize vals[j] = v at this
    cases this with
    | rc _ _ h => exact h.under fun r hA => A_lt hR hA
    | own => rfl
  | loop st pend t ps a b =>
    obtain ⟨L, n, hb, h1, h2, h3, h4, h5, h6, h7, h8⟩ := ho
    exact fun i => (h7 i).under fun r hA => A_lt hR hA

theorem dies_one (hR : RelH S G g h w) {p : Nat} {o : Obj} (hp : h[p]? = some o) : Dies h (h.set p .dead) (fun r => r = p) g.A g := by
  refine ⟨fun r o1 e hl => ?_, fun r hA => ?_, fun r o1 e hl => ?_, fun r h => h, fun r o1 e hl => ?_⟩
  · rcases get_set e with ⟨rfl, rfl, _⟩ | ⟨hr, e⟩
    · simp [live] at hl
    · exact ⟨e, hr⟩
  · by_cases hr : r = p
    · subst hr
      have := (List.getElem?_eq_some_iff.1 hp).1
      exact ⟨.dead, by simp [this], rfl⟩
    · rw [get_set_ne hr]; exact hR.as r hA
  · rcases get_set e with ⟨rfl, rfl, _⟩ | ⟨hr, e⟩
    · simp [live] at hl
    · exact hR.lv r o1 e hl
  · rcases get_set e with ⟨rfl, rfl, _⟩ | ⟨hr, e⟩
    · simp [live] at hl
    · exact ⟨_, hR.und e, fun _ _ h => h⟩

theorem kill_rt_all (hR : Rel S G g nt s a w) {D : Nat → Prop} (i : Nat) : RT S (g.kill s.h w D g.A) w (get s.t i) (a.tmps.getD i undef) := by
  have ht := hR.tm i
  generalize hv : get s.t i = v at ht
  generalize hx : a.tmps.getD i undef = x at ht
  have hle : g.Le (g.kill s.h w D g.A) := kill_le hR.hp (fun _ h => h)
  cases ht with
  | rv _ _ h => exact .rv _ _ (h.mono hle)
  | own es l b off cap ho =>
    have hc : ClaimT s.t a.tmps i b := ⟨es, l, _, _, _, hv, hx, rfl⟩
    exact .own _ _ _ _ _ ⟨ho.rel.mono hle, ho.blk, fun o hoo => by
      rw [kill_M_claim (fun r o e hl => hR.clT i b r o hc e hl)]; exact ho.spare o hoo⟩

theorem Goes.die (hR : Rel S G g nt s a w) {p : Nat} {o : Obj} (hp : s.h[p]? = some o) : Goes S G nt g (g.kill s.h w (fun r => r = p) g.A) s ⟨s.t, s.h.set p .dead⟩ a a w w :=
  (Goes.refl hR).kills (dies_one hR.hp hp) (fun _ h => h) (kill_rt_all hR) (fun _ _ h => h)

theorem dead_var (hR : RelH S G g h w) {D A : Nat → Prop} {p : Nat} {cs : List C} (hp : h[p]? = some (.var cs)) (hD : D p) {cs' : List C} (hl : cs'.length = cs.length) (hpure : C.pureL cs' = true)
    (hr : ∀ (j : Nat) c c' v, cs[j]? = some c → cs'[j]? = some c' → RO S g w c v → RC S (g.kill h w D A) c' v) (off : Nat) :
    RC S (g.kill h w D A) (.eptr cs' off) (.pointer (some ⟨g.σ p, off, none⟩)) := by
  obtain ⟨vals, elem, hb, hs, hro⟩ := hR.ob p _ hp
  have key : ∀ j, j < cs'.length → ∃ c v, cs[j]? = some c ∧ vals[j]? = some v ∧ (g.kill h w D A).M (g.σ p) (0 + j) = some v := fun j hj => by
    have hj1 : j < cs.length := by omega
    have hj2 : j < vals.size := by omega
    refine ⟨cs[j], vals[j], List.getElem?_eq_getElem hj1, Array.getElem?_eq_getElem hj2, ?_⟩
    simp only [Gh.kill, Nat.zero_add]
    rw [if_pos ⟨p, cs, hD, hp, rfl⟩, cell_of_heap hb, Array.getElem?_eq_getElem hj2]
  have := RC.eptr (S := S) (g := g.kill h w D A) cs' off (g.σ p) 0 (fun j => (vals[j]?).getD undef) hpure (fun j hj => by
    obtain ⟨c, v, _, h2, h3⟩ := key j hj
    rw [h3, h2]; rfl) (fun j c' hc' => by
    obtain ⟨c, v, h1, h2, _⟩ := key j (List.getElem?_eq_some_iff.1 hc').1
    rw [h2]
    exact hr j c c' v h1 hc' (hro j c v h1 h2))
  rw [Nat.zero_add] at this
  exact this

theorem frozen_goes (hR : Rel S G g nt s a w) {i : Nat} (e : frozen i s = some s1) : ∃ g1, Goes S G nt g g1 s s1 a a w w := by
  simp only [frozen] at e
  split at e
  · rename_i p off hi
    split at e
    · rename_i cs hcs
      split at e
      · rename_i hpure
        simp only [Option.some.injEq] at e
        subst e
        have hle : g.Le (g.kill s.h w (fun r => r = p) g.A) := kill_le hR.hp (fun _ h => h)
        have hev : RV S (g.kill s.h w (fun r => r = p) g.A) (.sc (.eptr (cs.map Pm.unown) off)) (a.tmps.getD i undef) := by
          have ht := hR.tm i
          rw [hi] at ht
          cases ht with
          | rv _ _ h =>
            obtain ⟨_, hx⟩ := h.ptr_inv
            rw [hx]
            exact .sc _ _ (dead_var (D := fun r => r = p) (A := g.A) hR.hp hcs rfl (by simp) hpure (fun j c c' v h1 h2 h3 => by
              rw [List.getElem?_map, h1] at h2
              simp only [Option.map_some, Option.some.injEq] at h2
              subst h2
              exact h3.unown.mono hle) off)
        refine ⟨_, (Goes.refl hR).kills (dies_one hR.hp hcs) (fun _ h => h) (fun j => ?_) (fun j b hc => ?_)⟩
        · show RT S _ w (get ((i, _) :: s.t) j) _
          simp only [get]
          split
          · rename_i hij; subst hij; exact .rv _ _ hev
          · exact kill_rt_all hR j
        · obtain ⟨es, l, ad, n, cap, h1, h2, h3⟩ := hc
          simp only [get] at h1
          split at h1
          · cases h1
          · exact ⟨es, l, ad, n, cap, h1, h2, h3⟩
      · cases e
    · cases e
  · cases e

theorem dead_map (hR : RelH S G g h w) {D A : Nat → Prop} {p : Nat} {ka va : Bool} {l : List (List C × List C)} (hp : h[p]? = some (.map ka va l none)) (hD : D p) :
    RC S (g.kill h w D A) (.imap ka va l) (.map (some (g.σ p))) := by
  obtain ⟨es, hb, h1, h2, h3, _⟩ := hR.ob p _ hp
  simp at h2
  have hN : (g.kill h w D A).N (g.σ p) = some es := by
    simp only [Gh.kill]
    rw [if_pos ⟨p, ka, va, l, hD, hp, rfl⟩, hb]
  have hex : ∀ i : Nat, ∃ q : List Value × List Value, ∀ e, l[i]? = some e → ∃ m, es[i]? = some m ∧ (m.key = ofV ka q.1 ∧ q.1.length = e.1.length ∧ (ka = false → e.1.length = 1) ∧ ∀ (j : Nat) c x, e.1[j]? = some c → q.1[j]? = some x → RC S g c x) ∧
      (m.val = ofV va q.2 ∧ q.2.length = e.2.length ∧ (va = false → e.2.length = 1) ∧ ∀ (j : Nat) c x, e.2[j]? = some c → q.2[j]? = some x → RC S g c x) ∧ C.pureL e.1 = true ∧ C.pureL e.2 = true := by
    intro i
    cases hi : l[i]? with
    | none => exact ⟨([], []), fun e he => by cases he⟩
    | some e =>
      have hlt : i < es.size := by rw [h2]; exact (List.getElem?_eq_some_iff.1 hi).1
      obtain ⟨⟨ks, k1⟩, ⟨vs, k2⟩, k3, k4⟩ := h3 i e _ hi (Array.getElem?_eq_getElem hlt)
      refine ⟨(ks, vs), fun e' he => ?_⟩
      cases he
      exact ⟨es[i], Array.getElem?_eq_getElem hlt, k1, k2, k3, k4⟩
  let kv : Nat → List Value := fun i => (Classical.choose (hex i)).1
  let vv : Nat → List Value := fun i => (Classical.choose (hex i)).2
  have key : ∀ (i : Nat) e, l[i]? = some e → ∃ m, es[i]? = some m ∧ (m.key = ofV ka (kv i) ∧ (kv i).length = e.1.length ∧ (ka = false → e.1.length = 1) ∧ ∀ (j : Nat) c x, e.1[j]? = some c → (kv i)[j]? = some x → RC S g c x) ∧
      (m.val = ofV va (vv i) ∧ (vv i).length = e.2.length ∧ (va = false → e.2.length = 1) ∧ ∀ (j : Nat) c x, e.2[j]? = some c → (vv i)[j]? = some x → RC S g c x) ∧ C.pureL e.1 = true ∧ C.pureL e.2 = true :=
    fun i e hi => Classical.choose_spec (hex i) e hi
  refine .imap ka va l (g.σ p) es kv vv hN h2 (fun i e hi => ?_) (fun i e hi => ?_) (fun i e j c v hi hc hv => ?_) (fun i e j c v hi hc hv => ?_)
  · obtain ⟨m, hm, k1, k2, _⟩ := key i e hi
    exact ⟨m, hm, k1.1, k2.1⟩
  · obtain ⟨m, hm, k1, k2, k3, k4⟩ := key i e hi
    exact ⟨k1.2.1, k2.2.1, k1.2.2.1, k2.2.2.1, k3, k4⟩
  · obtain ⟨m, hm, k1, k2, k3, k4⟩ := key i e hi
    exact (k1.2.2.2 j c v hc hv).of_pure (pureL_get k3 hc) (fun _ _ _ e => kill_M hR e) (fun _ _ e => kill_N hR e)
  · obtain ⟨m, hm, k1, k2, k3, k4⟩ := key i e hi
    exact (k2.2.2.2 j c v hc hv).of_pure (pureL_get k4 hc) (fun _ _ _ e => kill_M hR e) (fun _ _ e => kill_N hR e)

end
end Go.Pm

namespace Go.Pm

section
variable {S : Seat} {G : List Nat} {g g' g'' g1 : Gh} {nt : Nat} {s s' s'' s1 : St} {a a' a'' a1 : Act} {w w' w'' w1 : World} {h h' : List Obj} {base : Nat}

theorem chunks_spec : ∀ (n : Nat) (cs : List C) (off es : Nat) (l : List (List C)), chunks cs off es n = some l → l.length = n ∧ ∀ i e, l[i]? = some e → e.length = es ∧ ∀ j, j < es → e[j]? = cs[off + i * es + j]?
  | 0, cs, off, es, l, e => by simp only [chunks, Option.some.injEq] at e; subst e; exact ⟨rfl, fun i e h => by simp at h⟩
  | n + 1, cs, off, es, l, e => by
    simp only [chunks] at e
    split at e
    · rename_i c hc
      simp only [Option.map_eq_some_iff] at e
      obtain ⟨r, hr, rfl⟩ := e
      obtain ⟨h1, h2⟩ := chunks_spec n cs (off + es) es r hr
      obtain ⟨h3, h4⟩ := cellsAt_spec es cs off c hc
      refine ⟨by simp [h1], fun i e hi => ?_⟩
      rcases i with _ | i
      · simp at hi
        subst hi
        exact ⟨h3, fun j hj => by rw [h4 j hj]; congr 1; omega⟩
      · obtain ⟨k1, k2⟩ := h2 i e (by simpa using hi)
        exact ⟨k1, fun j hj => by rw [k2 j hj]; congr 1; rw [Nat.add_mul, Nat.one_mul]; omega⟩
    · cases e

theorem dead_row (hR : RelH S G g h w) {D A : Nat → Prop} {p : Nat} {cs : List C} (hp : h[p]? = some (.var cs)) (hD : D p) {vals : Array Value} {elem : TypeId} (hb : w.heap[g.σ p]? = some (.cells vals elem (0, 0))) {cs2 : List C} (hl : cs2.length = cs.length) (hpure : C.pureL cs2 = true)
    (hr : ∀ (j : Nat) c v, cs2[j]? = some c → vals[j]? = some v → RC S (g.kill h w D A) c v) {off len es cap cap' : Nat} {l : List (List C)} (hc : chunks cs2 off es len = some l) (hle : len ≤ cap') (hcc : cap = 0 ∨ cap = cap') :
    RC S (g.kill h w D A) (.sl (if cap = len ∧ cap ≠ 0 then .full else .shared) es l) (.slice (some ⟨g.σ p, off, none⟩) len cap') := by
  obtain ⟨vals', elem', hb', hs, _⟩ := hR.ob p _ hp
  rw [hb] at hb'
  simp only [Option.some.injEq, Obj.cells.injEq] at hb'
  obtain ⟨rfl, rfl, _⟩ := hb'
  obtain ⟨c1, c2⟩ := chunks_spec len cs2 off es l hc
  subst c1
  have key : ∀ (i : Nat) (e : List C) (j : Nat), l[i]? = some e → j < es → ∃ c v, e[j]? = some c ∧ cs2[off + i * es + j]? = some c ∧ vals[off + i * es + j]? = some v ∧ (g.kill h w D A).M (g.σ p) (off + i * es + j) = some v := fun i e j hi hj => by
    obtain ⟨k1, k2⟩ := c2 i e hi
    have hej : e[j]? = some (e[j]'(by omega)) := List.getElem?_eq_getElem _
    have h3 := k2 j hj
    rw [hej] at h3
    have hlt : off + i * es + j < cs.length := by rw [← hl]; exact (List.getElem?_eq_some_iff.1 h3.symm).1
    have hlt2 : off + i * es + j < vals.size := by omega
    refine ⟨_, vals[off + i * es + j], hej, h3.symm, Array.getElem?_eq_getElem hlt2, ?_⟩
    simp only [Gh.kill]
    rw [if_pos ⟨p, cs, hD, hp, rfl⟩, cell_of_heap hb, Array.getElem?_eq_getElem hlt2]
  have hpl : ∀ (i : Nat) (e : List C), l[i]? = some e → C.pureL e = true := fun i e hi => by
    refine pureL_iff.2 fun c hc => ?_
    obtain ⟨j, hj⟩ := List.getElem?_of_mem hc
    have hjl : j < es := by rw [← (c2 i e hi).1]; exact (List.getElem?_eq_some_iff.1 hj).1
    obtain ⟨c', v, k1, k2, _⟩ := key i e j hi hjl
    rw [hj] at k1
    cases k1
    exact pureL_get hpure k2
  refine .sl _ es l (g.σ p) off cap' (fun i j => (vals[off + i * es + j]?).getD undef) (by split <;> simp) (fun hk => ?_) hle (fun i e hi => (c2 i e hi).1) hpl (fun i e j hi hj => ?_) (fun i e j c hi hj => ?_)
  · split at hk
    · omega
    · cases hk
  · obtain ⟨c, v, _, _, k3, k4⟩ := key i e j hi hj
    rw [k4, k3]; rfl
  · have hjl : j < es := by rw [← (c2 i e hi).1]; exact (List.getElem?_eq_some_iff.1 hj).1
    obtain ⟨c', v, k1, k2, k3, k4⟩ := key i e j hi hjl
    rw [hj] at k1
    cases k1
    rw [k3]
    exact hr _ c v k2 k3

def FrzOk (S : Seat) (G : List Nat) (nt : Nat) (a : Act) (w : World) (n : Nat) : Prop :=
  (∀ (c c' : C) (s : St) (h' : List Obj) (g : Gh), Rel S G g nt s a w → frozenCell n c s.h = some (c', h') →
    ∃ g', Goes S G nt g g' s ⟨s.t, h'⟩ a a w w ∧ (c' = c ∨ (c'.pure = true ∧ (∀ es l, c ≠ .own es l) ∧ ∀ v, RC S g c v → RC S g' c' v)) ∧ ∀ (r : Nat) x, h'[r]? = some (.var x) → s.h[r]? = some (.var x)) ∧
  (∀ (cs cs' : List C) (s : St) (h' : List Obj) (g : Gh), Rel S G g nt s a w → frozenCells n cs s.h = some (cs', h') →
    ∃ g', Goes S G nt g g' s ⟨s.t, h'⟩ a a w w ∧ cs'.length = cs.length ∧
      (∀ (j : Nat) c', cs'[j]? = some c' → ∃ c, cs[j]? = some c ∧ (c' = c ∨ (c'.pure = true ∧ (∀ es l, c ≠ .own es l) ∧ ∀ v, RC S g c v → RC S g' c' v))) ∧ ∀ (r : Nat) x, h'[r]? = some (.var x) → s.h[r]? = some (.var x))

theorem frozen_ok : ∀ n, FrzOk S G nt a w n
  | 0 => ⟨fun c c' s h' g _ e => by simp [frozenCell] at e, fun cs cs' s h' g _ e => by simp [frozenCells] at e⟩
  | n + 1 => by
    obtain ⟨ih1, ih2⟩ := frozen_ok n
    refine ⟨fun c c' s h' g hR e => ?_, fun cs cs' s h' g hR e => ?_⟩
    · have other : some (c, s.h) = some (c', h') → ∃ g', Goes S G nt g g' s ⟨s.t, h'⟩ a a w w ∧ (c' = c ∨ (c'.pure = true ∧ (∀ es l, c ≠ .own es l) ∧ ∀ v, RC S g c v → RC S g' c' v)) ∧ ∀ (r : Nat) x, h'[r]? = some (.var x) → s.h[r]? = some (.var x) := fun e => by
        simp only [Option.some.injEq, Prod.mk.injEq] at e
        obtain ⟨rfl, rfl⟩ := e
        exact ⟨g, .refl hR, .inl rfl, fun _ _ h => h⟩
      unfold frozenCell at e
      split at e
      · rename_i p
        split at e
        · rename_i ka va l hp
          simp only [Option.some.injEq, Prod.mk.injEq] at e
          obtain ⟨rfl, rfl⟩ := e
          have him := dead_map (D := fun r => r = p) (A := g.A) hR.hp hp rfl
          refine ⟨_, Goes.die hR hp, .inr ⟨rfl, by simp, fun v hv => ?_⟩, fun r x hx => ?_⟩
          · obtain ⟨_, rfl⟩ := map_inv (.sc _ _ hv)
            exact him
          · rcases get_set hx with ⟨_, h2, _⟩ | ⟨_, h2⟩
            · cases h2
            · exact h2
        · cases e
      · rename_i r off len cap es
        split at e
        · rename_i cs hcs
          split at e
          · rename_i cs2 h1 hm
            split at e
            · rename_i cs3 hr1
              split at e
              · rename_i hpure
                simp only [Option.map_eq_some_iff, Prod.mk.injEq] at e
                obtain ⟨l, hl, rfl, rfl⟩ := e
                obtain ⟨g1, hG1, hlen, hrel, hkeep⟩ := ih2 (cs.map unown) cs2 s h1 g hR hm
                have hcs3 := hkeep r cs3 hr1
                rw [hcs] at hcs3
                simp only [Option.some.injEq, Obj.var.injEq] at hcs3
                subst hcs3
                have hA := hR.hp.lv r _ hcs rfl
                obtain ⟨vals, elem, hb, hs, hro⟩ := hR.hp.ob r _ hcs
                have hσ : g1.σ r = g.σ r := hG1.le.eq r hA
                have hle : g1.Le (g1.kill h1 w (fun x => x = r) g1.A) := kill_le hG1.rel.hp (fun _ h => h)
                refine ⟨_, hG1.trans (Goes.die hG1.rel hr1), .inr ⟨rfl, by simp, fun v hv => ?_⟩, fun q x hx => ?_⟩
                · cases hv with
                  | msl _ _ _ _ _ cap' hA' hle' hcc =>
                    have := dead_row (D := fun x => x = r) (A := g1.A) hG1.rel.hp hr1 rfl (by rw [hσ]; exact hb) (by rw [hlen]; simp) hpure (fun j c v hc hv => by
                      obtain ⟨c0, hc0, hcase⟩ := hrel j c hc
                      rw [List.getElem?_map] at hc0
                      cases hcj : cs[j]? with
                      | none => rw [hcj] at hc0; cases hc0
                      | some c1 =>
                        rw [hcj] at hc0
                        simp only [Option.map_some, Option.some.injEq] at hc0
                        subst hc0
                        have hrc := (hro j c1 v hcj hv).unown
                        rcases hcase with rfl | ⟨_, _, h3⟩
                        · exact (hrc.mono hG1.le).mono hle
                        · exact (h3 v hrc).mono hle) hl hle' hcc
                    rw [hσ] at this
                    exact this
                · rcases get_set hx with ⟨_, h2, _⟩ | ⟨_, h2⟩
                  · cases h2
                  · exact hkeep q x h2
              · cases e
            · cases e
          · cases e
        · cases e
      · exact other e
    · cases cs with
      | nil =>
        simp only [frozenCells, Option.some.injEq, Prod.mk.injEq] at e
        obtain ⟨rfl, rfl⟩ := e
        exact ⟨g, .refl hR, rfl, fun j c h => by simp at h, fun _ _ h => h⟩
      | cons c cs =>
        simp only [frozenCells] at e
        split at e
        · rename_i c1 h1 hc1
          split at e
          · rename_i cs1 h2 hcs1
            simp only [Option.some.injEq, Prod.mk.injEq] at e
            obtain ⟨rfl, rfl⟩ := e
            obtain ⟨g1, hG1, hr1, hk1⟩ := ih1 c c1 s h1 g hR hc1
            obtain ⟨g2, hG2, hlen, hr2, hk2⟩ := ih2 cs cs1 ⟨s.t, h1⟩ h2 g1 hG1.rel hcs1
            refine ⟨g2, hG1.trans hG2, by simp [hlen], fun j c' hj => ?_, fun r x hx => hk1 r x (hk2 r x hx)⟩
            rcases j with _ | j
            · simp at hj
              subst hj
              refine ⟨c, rfl, ?_⟩
              rcases hr1 with h | ⟨h, h0, h3⟩
              · exact .inl h
              · exact .inr ⟨h, h0, fun v hv => (h3 v hv).mono hG2.le⟩
            · obtain ⟨c0, h0, h3⟩ := hr2 j c' (by simpa using hj)
              refine ⟨c0, by simpa using h0, ?_⟩
              rcases h3 with h | ⟨h, h4, h5⟩
              · exact .inl h
              · exact .inr ⟨h, h4, fun v hv => h5 v (hv.mono hG1.le)⟩
          · cases e
        · cases e

theorem Goes.retype (hR : Rel S G g nt s a w) {t : List (Nat × V)} (ht : ∀ i, get t i = get s.t i ∨ RV S g (get t i) (a.tmps.getD i undef)) : Goes S G nt g g s { t := t, h := s.h } a a w w where
  le := .refl g
  rel := hR.retype ht
  keeps := .refl _ w
  back := fun b _ hp => by
    rcases hp with h | ⟨i, es, l, ad, n, cap, h1, h2, h3⟩
    · exact .inl h
    · have h1' : get t i = .sc (.own es l) := h1
      rcases ht i with e | e
      · rw [e] at h1'; exact .inr ⟨i, es, l, ad, n, cap, h1', h2, h3⟩
      · rw [h1'] at e
        cases e with
        | sc _ _ h => exact absurd rfl (h.not_own es l)
  im := fun _ _ _ h => .inl h
  mm := fun _ _ h => .inl h

theorem frozenC_goes (hR : Rel S G g nt s a w) {i : Nat} (e : frozenC i s = some s1) : ∃ g1, Goes S G nt g g1 s s1 a a w w := by
  simp only [frozenC] at e
  split at e
  · rename_i p off hi
    split at e
    · rename_i cs hcs
      split at e
      · rename_i cs' h' hm
        split at e
        · rename_i cs3 hp
          simp only [Option.some.injEq] at e
          subst e
          obtain ⟨g1, h1, h2, h3, h4⟩ := (frozen_ok (S := S) (G := G) (nt := nt) (a := a) (w := w) 400).2 cs cs' s h' g hR hm
          have hcs3 := h4 p cs3 hp
          rw [hcs] at hcs3
          simp only [Option.some.injEq, Obj.var.injEq] at hcs3
          subst hcs3
          obtain ⟨vals, elem, hb, hs, hro⟩ := h1.rel.hp.ob p _ hp
          obtain ⟨vals0, elem0, hb0, _, hro0⟩ := hR.hp.ob p _ hcs
          have hσ : g1.σ p = g.σ p := h1.le.eq p (hR.hp.lv p _ hcs rfl)
          rw [hσ] at hb
          rw [hb0] at hb
          simp only [Option.some.injEq, Obj.cells.injEq] at hb
          obtain ⟨rfl, rfl, _⟩ := hb
          have hplt : p < h'.length := (List.getElem?_eq_some_iff.1 hp).1
          have hgo := Goes.modify (takes := []) (off0 := 0) (o' := .var cs') (w' := w) h1.rel hp rfl rfl (fun _ _ => rfl) rfl rfl rfl rfl ⟨vals0, elem0, by rw [hσ]; exact hb0, by rw [h2]; exact hs, fun j c' v e1 e2 => by
            obtain ⟨c, hc, h | ⟨k1, k2, k3⟩⟩ := h3 j c' e1
            · subst h; exact hro j c' v hc e2
            · have := hro0 j _ v hc e2
              cases this with
              | rc _ _ hrc => exact .rc _ _ (k3 v hrc)
              | own es l => exact absurd rfl (k2 es l)⟩ (fun j b hc => by
            obtain ⟨cs2, es, l, vals, elem, fr, ad, n, cap, e1, e2, e3, e4, e5⟩ := hc
            simp [hplt] at e1
            subst e1
            obtain ⟨c, hc, h | ⟨k1, _, _⟩⟩ := h3 j _ e2
            · subst h; exact .inl ⟨cs, es, l, vals, elem, fr, ad, n, cap, hp, hc, e3, e4, e5⟩
            · simp [C.pure] at k1)
          exact ⟨g1, h1.trans hgo⟩
        · cases e
      · cases e
    · cases e
  · rename_i r off len cap es hi
    split at e
    · rename_i c' h' hc
      simp only [Option.some.injEq] at e
      subst e
      obtain ⟨g1, h1, h2, _⟩ := (frozen_ok (S := S) (G := G) (nt := nt) (a := a) (w := w) 400).1 _ c' s h' g hR hc
      refine ⟨g1, h1.trans (Goes.retype h1.rel (t := (i, .sc c') :: s.t) fun j => ?_)⟩
      show get ((i, V.sc c') :: s.t) j = get s.t j ∨ _
      simp only [get]
      split
      · rename_i hij
        subst hij
        rcases h2 with rfl | ⟨_, _, h3⟩
        · exact .inl hi.symm
        · have ht := hR.tm i
          rw [hi] at ht
          cases ht with
          | rv _ _ h =>
            cases h with
            | sc _ _ h => exact .inr (.sc _ _ (h3 _ h))
      · exact .inl rfl
    · cases e
  · cases e

/-! ### What a call hands back -/

noncomputable def Gh.above (g : Gh) (h : List Obj) (w : World) (b : Nat) : Gh := g.kill h w (fun r => b ≤ r) (fun r => g.A r ∧ r < b)

theorem frz_ok (hR : RelH S G g h w) (b : Nat) : ∀ n, (∀ c c' v, frz b h n c = some c' → RO S g w c v → RC S (g.above h w b) c' v) ∧
    (∀ cs cs', frzL b h n cs = some cs' → cs'.length = cs.length ∧ ∀ (j : Nat) c c' v, cs[j]? = some c → cs'[j]? = some c' → RO S g w c v → RC S (g.above h w b) c' v)
  | 0 => ⟨fun c c' v e => by simp [frz] at e, fun cs cs' e => by simp [frzL] at e⟩
  | n + 1 => by
    obtain ⟨ih1, ih2⟩ := frz_ok hR b n
    have pure : ∀ {c v}, c.pure = true → RC S g c v → RC S (g.above h w b) c v := fun hp hr => hr.of_pure hp (fun _ _ _ e => kill_M hR e) (fun _ _ e => kill_N hR e)
    refine ⟨fun c c' v e hro => ?_, fun cs cs' e => ?_⟩
    · cases hro with
      | own es l blk off cap ho =>
        simp only [frz, Option.some.injEq] at e
        subst e
        exact pure rfl ho.rel
      | rc _ _ hrc =>
        cases hrc with
        | int k m => simp only [frz, Option.some.injEq] at e; subst e; exact .int k m
        | bool x => simp only [frz, Option.some.injEq] at e; subst e; exact .bool x
        | str x => simp only [frz, Option.some.injEq] at e; subst e; exact .str x
        | nilf => simp only [frz, Option.some.injEq] at e; subst e; exact .nilf
        | nilp => simp only [frz, Option.some.injEq] at e; subst e; exact .nilp
        | nili => simp only [frz, Option.some.injEq] at e; subst e; exact .nili
        | slNil es => simp only [frz, Option.some.injEq] at e; subst e; exact .slNil es
        | sl k es l blk off cap vals hk hf hc hl hp hM hr =>
          simp only [frz, Option.some.injEq] at e
          subst e
          exact pure rfl (.sl k es l blk off cap vals hk hf hc hl hp hM hr)
        | imapNil ka va => simp only [frz, Option.some.injEq] at e; subst e; exact .imapNil ka va
        | imap ka va l r es kv vv hN hs hE hL hK hV =>
          simp only [frz, Option.some.injEq] at e
          subst e
          exact pure rfl (.imap ka va l r es kv vv hN hs hE hL hK hV)
        | eptr cs off blk o vals hp hM hr =>
          simp only [frz, Option.some.injEq] at e
          subst e
          exact pure rfl (.eptr cs off blk o vals hp hM hr)
        | fn id sh first cap fs fvs cvs hlen hu hr hcl hc =>
          simp only [frz] at e
          split at e
          · rename_i x y hx hy
            simp only [Option.some.injEq] at e
            subst e
            obtain ⟨l1, r1⟩ := ih2 _ _ hx
            obtain ⟨l2, r2⟩ := ih2 _ _ hy
            refine .fn id sh x y fs fvs cvs (by omega) hu (fun j c' v hj hv => ?_) (by omega) (fun j c' v hj hv => ?_)
            · have hlt : j < first.length := by rw [← l1]; exact (List.getElem?_eq_some_iff.1 hj).1
              exact r1 j _ c' v (List.getElem?_eq_getElem hlt) hj (.rc _ _ (hr j _ v (List.getElem?_eq_getElem hlt) hv))
            · have hlt : j < cap.length := by rw [← l2]; exact (List.getElem?_eq_some_iff.1 hj).1
              exact r2 j _ c' v (List.getElem?_eq_getElem hlt) hj (.rc _ _ (hc j _ v (List.getElem?_eq_getElem hlt) hv))
          · cases e
        | yield l hA =>
          simp only [frz] at e
          split at e
          · rename_i hlt
            simp only [Option.some.injEq] at e
            subst e
            exact RC.yield (g := g.above h w b) l ⟨hA, hlt⟩
          · cases e
        | stamp r i hA => simp [frz] at e
        | ptr r off hA =>
          simp only [frz] at e
          split at e
          · rename_i hlt
            simp only [Option.some.injEq] at e
            subst e
            exact RC.ptr (g := g.above h w b) r off ⟨hA, hlt⟩
          · rename_i hge
            split at e
            · rename_i cs hcs
              split at e
              · rename_i cs2 hf
                split at e
                · rename_i hp
                  simp only [Option.some.injEq] at e
                  subst e
                  obtain ⟨l1, r1⟩ := ih2 _ _ hf
                  exact dead_var (D := fun r => b ≤ r) hR hcs (by omega) l1 hp r1 off
                · cases e
              · cases e
            · cases e
        | map r hA =>
          simp only [frz] at e
          split at e
          · rename_i hlt
            simp only [Option.some.injEq] at e
            subst e
            exact RC.map (g := g.above h w b) r ⟨hA, hlt⟩
          · rename_i hge
            split at e
            · rename_i ka va l hm
              simp only [Option.some.injEq] at e
              subst e
              exact dead_map (D := fun r => b ≤ r) hR hm (by omega)
            · cases e
        | msl r off len cap es cap' hA hle hcc =>
          simp only [frz] at e
          split at e
          · rename_i hlt
            simp only [Option.some.injEq] at e
            subst e
            exact RC.msl (g := g.above h w b) r off len cap es cap' ⟨hA, hlt⟩ hle hcc
          · rename_i hge
            split at e
            · rename_i cs hcs
              split at e
              · rename_i cs2 hf
                split at e
                · rename_i hp
                  simp only [Option.map_eq_some_iff] at e
                  obtain ⟨l, hl, rfl⟩ := e
                  obtain ⟨l1, r1⟩ := ih2 _ _ hf
                  obtain ⟨vals, elem, hb, hs, hro⟩ := hR.ob r _ hcs
                  exact dead_row (D := fun r => b ≤ r) hR hcs (by show b ≤ r; omega) hb l1 hp (fun j c v hc hv => by
                    have hlt : j < cs.length := by rw [← l1]; exact (List.getElem?_eq_some_iff.1 hc).1
                    exact r1 j _ c v (List.getElem?_eq_getElem hlt) hc (hro j _ v (List.getElem?_eq_getElem hlt) hv)) hl hle hcc
                · cases e
              · cases e
            · cases e
    · cases cs with
      | nil =>
        simp only [frzL, Option.some.injEq] at e
        subst e
        exact ⟨rfl, fun j c c' v h => by simp at h⟩
      | cons c cs =>
        simp only [frzL] at e
        split at e
        · rename_i x y hx hy
          simp only [Option.some.injEq] at e
          subst e
          obtain ⟨l1, r1⟩ := ih2 _ _ hy
          refine ⟨by simp [l1], fun j c1 c2 v h1 h2 hr => ?_⟩
          rcases j with _ | j
          · simp at h1 h2
            subst h1; subst h2
            exact ih1 _ _ v hx hr
          · exact r1 j c1 c2 v (by simpa using h1) (by simpa using h2) hr
        · cases e

theorem frzV_ok (hR : RelH S G g h w) {b : Nat} {v v' : V} {x : Value} (e : frzV b h v = some v') (hv : RV S g v x) : RV S (g.above h w b) v' x := by
  cases hv with
  | top =>
    simp [frzV, frz] at e
    subst e
    exact .top _
  | sc c _ hc =>
    simp only [frzV, Option.map_eq_some_iff] at e
    obtain ⟨c', h1, rfl⟩ := e
    exact .sc _ _ ((frz_ok hR b 64).1 c c' _ h1 (.rc _ _ hc))
  | agg cs vals hs hr =>
    simp only [frzV, Option.map_eq_some_iff] at e
    obtain ⟨cs', h1, rfl⟩ := e
    obtain ⟨l1, r1⟩ := (frz_ok hR b 128).2 cs cs' h1
    refine .agg _ _ (by omega) fun j c' y h2 h3 => ?_
    have hlt : j < cs.length := by rw [← l1]; exact (List.getElem?_eq_some_iff.1 h2).1
    exact r1 j _ c' y (List.getElem?_eq_getElem hlt) h2 (.rc _ _ (hr j _ y (List.getElem?_eq_getElem hlt) h3))
  | tup => simp [frzV] at e

theorem frzVs_ok (hR : RelH S G g h w) {b : Nat} : ∀ {vs vs' : List V} {xs : List Value}, frzVs b h vs = some vs' → RVs S g vs xs → RVs S (g.above h w b) vs' xs
  | [], vs', xs, e, hx => by
    simp only [frzVs, Option.some.injEq] at e
    subst e
    exact ⟨hx.1, fun j v x h => by simp at h⟩
  | v :: vs, vs', xs, e, hx => by
    simp only [frzVs] at e
    split at e
    · rename_i v1 vs1 h1 h2
      simp only [Option.some.injEq] at e
      subst e
      cases xs with
      | nil => have := hx.1; simp at this
      | cons x xs =>
        have ih := frzVs_ok hR (xs := xs) h2 ⟨by simpa using hx.1, fun j v x a b => hx.2 (j + 1) v x (by simpa using a) (by simpa using b)⟩
        refine ⟨by simp [ih.1], fun j v' x' k1 k2 => ?_⟩
        rcases j with _ | j
        · simp at k1 k2
          subst k1; subst k2
          exact frzV_ok hR h1 (hx.2 0 v x rfl rfl)
        · exact ih.2 j v' x' (by simpa using k1) (by simpa using k2)
    · cases e

/-! ### A callee's slots; marks -/

theorem GoesH.of (h0 : ∀ i b, ¬ ClaimT s.t a.tmps i b) (hG : Goes S G nt g g' s s' a a' w w') : GoesH S G g g' s.h s'.h w w' := by
  have hp : ∀ b, Perm g s a w b → PermH g s.h w b := fun b hp => hp.resolve_right fun ⟨i, hc⟩ => h0 i b hc
  exact ⟨hG.le, hG.rel.hp.rel, hG.keeps.mono fun b _ h => .inl (hp b h), fun b hb h => .inl (hp b (hG.back b hb (.inl (perm_none h)))),
    fun b o v e => (hG.im b o v e).imp id (Or.imp id fun h => .inl (hp b h)), fun b es e => (hG.mm b es e).imp id (Or.imp id fun h => .inl (hp b h))⟩

theorem GoesH.above (hG : GoesH S G g g1 h h' w w') {b : Nat} (hun : (h'.take b).all (Obj.under b) = true) (hb : ∀ r, g.A r → r < b) : GoesH S G g (g1.above h' w' b) h (h'.take b) w w' :=
  Goes.kills hG (dies_take hG.rel.hp b hun) (fun r hA => ⟨hG.le.as r hA, hb r hA⟩) (fun i => .rv _ _ (.top _)) (fun i b c => absurd c claimT_none)

structure Other (g : Gh) (h : List Obj) (w : World) (b : Nat) : Prop where
  c : ∀ cs t fr, w.heap[b]? ≠ some (.cells cs t fr)
  m : ∀ es n, w.heap[b]? ≠ some (.map es n)
  o : ∀ (r : Nat) o, h[r]? = some o → live o = true → g.σ r ≠ b

theorem RelH.poke (hR : RelH S G g h w) {b : Nat} {ob : Go.Obj} (hO : Other g h w b) : RelH S G g h (w.putObj b ob) := by
  have same : ∀ b', b' ≠ b → (w.putObj b ob).heap[b']? = w.heap[b']? := fun b' h => World.putObj_heap_other h
  have hc0 : ∀ {es l c off cap}, OwnAt S g w es l c off cap → c ≠ b := fun ho h => by
    obtain ⟨cs, elem, hb, _⟩ := ho.blk
    rw [h] at hb
    exact hO.c _ _ _ hb
  have hcl : ∀ r j c, ClaimH g h (w.putObj b ob) r j c → ClaimH g h w r j c := by
    rintro r j c ⟨cs, es, l, vals, elem, fr, ad, n, cap, h1, h2, h3, h4, h5⟩
    rw [same _ (hO.o r _ h1 rfl)] at h3
    exact ⟨cs, es, l, vals, elem, fr, ad, n, cap, h1, h2, h3, h4, h5⟩
  refine ⟨fun r o e => ?_, hR.as, hR.lv, hR.inj, fun c k v e => ?_, fun c es e => ?_, hR.djM, hR.djN, hR.gl, fun r j r' j' c c1 c2 => hR.ex r j r' j' c (hcl _ _ _ c1) (hcl _ _ _ c2), fun r j c r' o c1 e hl => hR.cl r j c r' o (hcl _ _ _ c1) e hl⟩
  · refine RObj.same e (hR.ob r o e) (.refl g) (fun _ => rfl) (fun hl => same _ (hO.o r o e hl)) fun j c hc => ⟨same c fun hcb => ?_, fun _ => rfl⟩
    obtain ⟨cs, es, l, vals, elem, fr, ad, n, cap, h1, h2, h3, h4, h5⟩ := hc
    obtain ⟨vals', elem', hb', _, hro⟩ := hR.ob r _ h1
    rw [hb'] at h3
    simp only [Option.some.injEq, Obj.cells.injEq] at h3
    obtain ⟨rfl, rfl, _⟩ := h3
    have := hro j _ _ h2 h4
    cases this with
    | rc _ _ h => exact absurd rfl (h.not_own es l)
    | own es l c' off cap ho =>
      have h5' : c' = c := h5
      exact hc0 ho (h5'.trans hcb)
  · have h0 := hR.im c k v e
    have hcb : c ≠ b := by
      rintro rfl
      simp only [World.cell?] at h0
      split at h0
      · rename_i hb; exact hO.c _ _ _ hb
      · cases h0
    simp only [World.cell?] at h0 ⊢
    rw [same c hcb]; exact h0
  · obtain ⟨n, hn⟩ := hR.mm c es e
    have hcb : c ≠ b := by rintro rfl; exact hO.m _ _ hn
    exact ⟨n, by rw [same c hcb]; exact hn⟩

theorem Goes.poke (hG : Goes S G nt g g' s s' a a' w w') {b : Nat} {ob : Go.Obj} (hb : w.heap.size ≤ b) (hO : Other g' s'.h w' b) : Goes S G nt g g' s s' a a' w (w'.putObj b ob) := by
  have same : ∀ b', b' ≠ b → (w'.putObj b ob).heap[b']? = w'.heap[b']? := fun b' h => World.putObj_heap_other h
  have hcl : ∀ r j c, ClaimH g' s'.h (w'.putObj b ob) r j c → ClaimH g' s'.h w' r j c := by
    rintro r j c ⟨cs, es, l, vals, elem, fr, ad, n, cap, h1, h2, h3, h4, h5⟩
    rw [same _ (hO.o r _ h1 rfl)] at h3
    exact ⟨cs, es, l, vals, elem, fr, ad, n, cap, h1, h2, h3, h4, h5⟩
  have hR := hG.rel
  refine ⟨hG.le, ⟨hR.hp.poke hO, hR.sz, fun i => ?_, hR.exT, fun i c r j d e => hR.exTH i c r j d (hcl _ _ _ e), hR.clT⟩, ⟨by simpa using hG.keeps.size, fun c hc hn => ?_, hG.keeps.out, hG.keeps.os, hG.keeps.tape⟩, fun c hc hp => hG.back c hc ?_, hG.im, hG.mm⟩
  · have ht := hR.tm i
    generalize get s'.t i = v at ht
    generalize a'.tmps.getD i undef = x at ht
    cases ht with
    | rv _ _ h => exact .rv _ _ h
    | own es l c off cap ho =>
      refine .own _ _ _ _ _ (ho.mono (.refl g') (same c fun h => ?_) (fun _ => rfl))
      obtain ⟨cs, elem, hb, _⟩ := ho.blk
      rw [h] at hb
      exact hO.c _ _ _ hb
  · rw [same c (by omega)]; exact hG.keeps.same c hc hn
  · rcases hp with (h | ⟨r, j, h⟩) | h
    · exact .inl (.inl h)
    · exact .inl (.inr ⟨r, j, hcl _ _ _ h⟩)
    · exact .inr h

def Dfs (n : Nat) (a : Act) (w : World) : Prop := ∃ bs : List Nat, a.defers = bs.map (fun b => ({ target := .collected b, args := #[] } : Deferred)) ∧ bs.Nodup ∧ ∀ b ∈ bs, n ≤ b ∧ w.heap[b]? = some (.deferred (some []))

theorem deferred_other (hR : Rel S G g nt s a w) {b : Nat} {x : Option (List Deferred)} (hb : w.heap[b]? = some (.deferred x)) : Other g s.h w b ∧ ¬ Perm g s a w b := by
  have ho : ∀ (r : Nat) o, s.h[r]? = some o → live o = true → g.σ r ≠ b := by
    rintro r o e hl rfl
    have := hR.hp.ob r o e
    cases o with
    | dead => simp [live] at hl
    | free => simp [live] at hl
    | var cs => obtain ⟨vals, elem, h, _⟩ := this; rw [hb] at h; cases h
    | map ka va l ph => obtain ⟨es, h, _⟩ := this; rw [hb] at h; cases h
    | loop st pend t ps x y => obtain ⟨L, n, h, _⟩ := this; rw [hb] at h; cases h
  refine ⟨⟨fun cs t fr h => (by rw [hb] at h; cases h), fun es n h => (by rw [hb] at h; cases h), ho⟩, ?_⟩
  rintro ((⟨r, o, h1, h2, h3⟩ | ⟨r, j, cs, es, l, vals, elem, fr, ad, n, cap, h1, h2, h3, h4, h5⟩) | ⟨i, es, l, ad, n, cap, h1, h2, h3⟩)
  · exact ho r o h1 h2 h3
  · obtain ⟨c', off, cap', rfl', own, _⟩ := claim_of_own hR.hp h1 h2 (by
      obtain ⟨vals', elem', hb', _⟩ := hR.hp.ob r _ h1
      rw [hb'] at h3
      simp only [Option.some.injEq, Obj.cells.injEq] at h3
      obtain ⟨rfl, rfl, _⟩ := h3
      exact hb') h4
    simp only [Value.slice.injEq, Option.some.injEq] at rfl'
    obtain ⟨rfl, _⟩ := rfl'
    obtain ⟨cs', elem', hx, _⟩ := own.blk
    have h5' : c' = b := h5
    rw [h5', hb] at hx; cases hx
  · have ht := hR.tm i
    rw [h1, h2] at ht
    cases ht with
    | rv _ _ h =>
      cases h with
      | sc _ _ h => exact absurd rfl (h.not_own _ _)
    | own _ _ c' off cap' own =>
      obtain ⟨cs', elem', hx, _⟩ := own.blk
      have h3' : c' = b := h3
      rw [h3', hb] at hx; cases hx

theorem Dfs.goes {n : Nat} (hR : Rel S G g nt s a w) (hd : Dfs n a w) (hG : Goes S G nt g g' s s' a a' w w') (he : a'.defers = a.defers) : Dfs n a' w' := by
  obtain ⟨bs, h1, h2, h3⟩ := hd
  refine ⟨bs, by rw [he, h1], h2, fun b hb => ?_⟩
  obtain ⟨hn, this⟩ := h3 b hb
  refine ⟨hn, ?_⟩
  rw [hG.keeps.same b (heap_lt this) (deferred_other hR this).2]
  exact this

end
end Go.Pm

namespace Go.Pm

def exitOf : Ex → Exit
  | .norm => .normal
  | .exit id => .exit id
  | .ret => .ret

def Post (S : Seat) (G : List Nat) (nt n0 : Nat) (g : Gh) (s s' : St) (a : Act) (w : World) (ex : Ex) (e : Exit) (a' : Act) (w' : World) : Prop :=
  e = exitOf ex ∧ ∃ g', Goes S G nt g g' s s' a a' w w' ∧ Dfs n0 a' w'

def SimX (S : Seat) (G : List Nat) (X : Code1) : Prop :=
  ∀ r nt c c', MC S G nt r c c' → ∀ s ex s', X c s = some (ex, s') → ∀ ro : Option Nat, ro.isSome = r → ∀ g a w n0, Rel S G g nt s a w → Dfs n0 a w → n0 ≤ w.heap.size →
    c'.wpIn (fenceOf ro) 0 S.P (Post S G nt n0 g s s' a w ex) a w

def SimL (S : Seat) (G : List Nat) (X : Code1) (n : Nat) : Prop :=
  ∀ r nt keep c x, MC S G nt r c x → ∀ s ex s', X (.loop keep c) s = some (ex, s') → ∀ ro : Option Nat, ro.isSome = r → ∀ g a w n0, Rel S G g nt s a w → Dfs n0 a w → n0 ≤ w.heap.size →
    ∀ Q : Exit → Act → World → Prop, (∀ e a' w', Post S G nt n0 g s s' a w ex e a' w' → Q e a' w') → Code.roundsIn (fenceOf ro) 0 S.P x Q n a w

section
variable {S : Seat} {G : List Nat} {g g' g'' g1 : Gh} {nt n0 : Nat} {s s' s'' s1 s2 : St} {a a' a'' a1 : Act} {w w' w'' w1 : World} {h h' : List Obj} {base : Nat} {ex ex' : Ex}

theorem Post.trans (hG : Goes S G nt g g1 s s1 a a1 w w1) {e : Exit} (hp : Post S G nt n0 g1 s1 s' a1 w1 ex e a' w') : Post S G nt n0 g s s' a w ex e a' w' := by
  obtain ⟨h1, g', h2, h3⟩ := hp
  exact ⟨h1, g', hG.trans h2, h3⟩

theorem loop_sim {X : Code1} {K : Calls1} (hX : SimX S G X) {n : Nat} (hL : SimL S G X n) : SimL S G (execF S.Γ X K) (n + 1) := by
  intro r nt keep c x hm s ex s' e ro hro g a w n0 hR hd hn Q hQ
  rw [roundsIn_succ]
  simp only [execF] at e
  have fin : ∀ s1 ex1, X c s = some (ex1, s1) → ex1 ≠ .norm → ex1 = ex → s1 = s' → x.wpIn (fenceOf ro) 0 S.P (Exit.then (Code.roundsIn (fenceOf ro) 0 S.P x Q n) Q) a w := by
    rintro s1 ex1 hx hne rfl rfl
    refine wpIn_mono (hX r nt c x hm s ex1 s1 hx ro hro g a w n0 hR hd hn) fun e a' w' hp => ?_
    have he := hp.1
    cases ex1 with
    | norm => exact absurd rfl hne
    | exit id => rw [he] at hp ⊢; exact hQ _ _ _ hp
    | ret => rw [he] at hp ⊢; exact hQ _ _ _ hp
  cases hx : X c s with
  | none => rw [hx] at e; cases e
  | some q =>
    obtain ⟨ex1, s1⟩ := q
    rw [hx] at e
    cases ex1 with
    | norm =>
      simp only at e
      split at e
      · rename_i s2 ht
        refine wpIn_mono (hX r nt c x hm s .norm s1 hx ro hro g a w n0 hR hd hn) fun e' a' w' hp => ?_
        obtain ⟨rfl, g1, hG, hd'⟩ := hp
        obtain ⟨g2, hG2⟩ := Goes.trim hR hG ht
        show Code.roundsIn _ _ _ _ _ _ _ _
        exact hL r nt keep c x hm s2 ex s' e ro hro g2 a' w' n0 hG2.rel hd' (Nat.le_trans hn hG2.keeps.size) Q fun e a'' w'' hp => hQ e a'' w'' (Post.trans hG2 hp)
      · cases e
    | exit id =>
      simp only [Option.some.injEq, Prod.mk.injEq] at e
      exact fin s1 _ hx (by simp) e.1 e.2
    | ret =>
      simp only [Option.some.injEq, Prod.mk.injEq] at e
      exact fin s1 _ hx (by simp) e.1 e.2

/-! ### A scope without jumps -/

theorem stepR_scope {P : Program} {b : Frame} {k : List Item} {cs : List Frame} {c : Code} : Go.step P (lone (b.atR a (.code (.scope c) :: k)) cs w) = .next (lone (b.atR a (.code c :: .inScope c :: k)) cs w) :=
  step_lone_go (by simp [stepG, stepG.exec, Frame.atR])
theorem stepR_inScope {P : Program} {b : Frame} {k : List Item} {cs : List Frame} {c : Code} : Go.step P (lone (b.atR a (.inScope c :: k)) cs w) = .next (lone (b.atR a k) cs w) :=
  step_lone_go (by simp [stepG, stepG.exec, Frame.atR])

theorem wpIn_scope {F : Fence} {n : Nat} {P : Program} {c : Code} {Q : Exit → Act → World → Prop} (hg : ∀ l a w, ¬ Q (.goto l) a w) (h : c.wpIn F n P Q a w) : (Code.scope c).wpIn F n P Q a w := by
  intro b k cs hro hb hr
  have h0 : (lone (b.atR a (.code (.scope c) :: k)) cs w).fenced P F := fenced_calm hb hr rfl
  obtain ⟨e, a₁, w₁, hq, harr⟩ := h b (.inScope c :: k) cs hro hb hr
  cases e with
  | normal => exact ⟨.normal, a₁, w₁, hq, .head h0 stepR_scope (StepsIn.trans harr (.one (fenced_calm hb hr rfl) stepR_inScope))⟩
  | exit id =>
    have hx : exitTo id (.inScope c :: k) = exitTo id k := by simp [exitTo]
    exact ⟨_, a₁, w₁, hq, fun k' hk => .head h0 stepR_scope (harr.1 k' (by rw [hx]; exact hk)),
      fun hr' hk => let ⟨k₁, h1, h2⟩ := harr.2 hr' (by rw [hx]; exact hk); ⟨k₁, h1, .head h0 stepR_scope h2⟩⟩
  | goto l => exact (hg _ _ _ hq).elim
  | ret => exact ⟨_, a₁, w₁, hq, .of_steps (.one h0 stepR_scope) harr⟩
  | panic ch => exact ⟨_, a₁, w₁, hq, .of_steps (.one h0 stepR_scope) harr⟩
  | outgrown => exact ⟨_, a₁, w₁, hq, .of_steps (.one h0 stepR_scope) harr⟩

theorem post_noGoto {l : Nat} : ¬ Post S G nt n0 g s s' a w ex (.goto l) a' w' := by
  rintro ⟨h, _⟩
  cases ex <;> cases h

/-! ### A loop over a function -/

theorem get_unowned (t : List (Nat × V)) (i : Nat) : get (unowned t) i = (get t i).unown := by
  unfold unowned
  induction t with
  | nil => rfl
  | cons p t ih =>
    simp only [List.map_cons, get]
    split
    · rfl
    · exact ih

theorem set_room {h : List Obj} {o : Obj} : (h ++ List.replicate 1 Obj.free).set h.length o = h ++ [o] := by
  simp

theorem with_le (hR : RelH S G g h w) {p b : Nat} (hp : h[p]? = some .free) : g.Le (g.with p b) := by
  refine ⟨fun r h => .inr h, fun r h => ?_, fun _ _ _ h => h, fun _ _ h => h⟩
  have hne : r ≠ p := by
    rintro rfl
    obtain ⟨o, ho, hf⟩ := hR.as r h
    rw [hp] at ho
    simp only [Option.some.injEq] at ho
    subst ho
    simp [isFreeO] at hf
  simp [Gh.with, hne]

theorem Goes.defers (hG : Goes S G nt g g' s s' a a' w w') (d : List Deferred) : Goes S G nt g g' s s' a { a' with defers := d } w w' :=
  ⟨hG.le, ⟨hG.rel.hp, hG.rel.sz, hG.rel.tm, hG.rel.exT, hG.rel.exTH, hG.rel.clT⟩, hG.keeps, hG.back, hG.im, hG.mm⟩

theorem rfunc_sim {K : Calls1} (hK : SimK S G K) {f : Rand} {f' : Operand} {ps : List Nat} {ca cb : AC} {x y : Code} (hf : MR S G f f') (h1 : MC S G nt true ca x) (h2 : MC S G nt true cb y) (hps : ∀ p ∈ ps, p < nt)
    (X : Code1) (e : execF S.Γ X K (.rfunc f ps ca cb) s = some (ex, s')) (hR : Rel S G g nt s a w) (hd : Dfs n0 a w) (hn : n0 ≤ w.heap.size) :
    (Code.rangeFunc f' ps.toArray x y).wpIn Fence.wide 0 S.P (Post S G nt n0 g s s' a w ex) a w := by
  simp only [execF] at e
  split at e
  · rename_i id vs ht
    split at e
    · cases e
    · rename_i v0 h2' hk
      split at e
      · rename_i st pend t1 ps1 ca1 cb1 hl
        split at e
        · cases e
        · rename_i hst
          split at e
          case isFalse => cases e
          rename_i hun
          simp only [Option.some.injEq, Prod.mk.injEq] at e
          obtain ⟨rfl, rfl⟩ := e
          refine wpIn_rangeFunc fun fn _ => ?_
          -- the two blocks
          let w1 : World := w.alloc (.deferred (some []))
          let L : Loop := { state := .ready, pending := none, fn, tmps := a.tmps, params := ps.toArray, assign := x, body := y, defers := w.heap.size }
          let wl : World := w1.alloc (.loop L)
          have hs1 : w1.heap.size = w.heap.size + 1 := by simp [w1]
          have hG1 : Goes S G nt g g s s a a w w1 := .grow hR (Grows.alloc g w _)
          have hG2 := hG1.trans (Goes.room hG1.rel 1)
          have hfree : (s.h ++ List.replicate 1 Obj.free)[s.h.length]? = some .free := by simp
          have hle3 := with_le (b := w1.heap.size) hG2.rel.hp hfree
          have hslot : ∀ i, RV S (g.with s.h.length w1.heap.size) (get (unowned s.t) i) (a.tmps.getD i undef) := fun i => by
            rw [get_unowned]; exact (hR.tm i).unown.mono hle3
          have hb3 := Goes.born (takes := []) (off0 := 0) (o' := .loop .ready none (unowned s.t) ps ca cb) (ob := .loop L) hG2.rel hfree rfl
            ⟨L, nt, heap_alloc_new _ _, rfl, rfl, by simp [L], h1, h2, hR.sz, hslot, hps⟩ (by
              rintro j b ⟨cs, es, l, vals, elem, fr, ad, m, cap, e1, _⟩
              simp at e1)
          have hG3 := hG2.trans hb3
          have hst3 : ({ t := Pm.drop [] s.t, h := (s.h ++ List.replicate 1 Obj.free).set s.h.length (.loop .ready none (unowned s.t) ps ca cb) } : St) = ⟨s.t, s.h ++ [.loop .ready none (unowned s.t) ps ca cb]⟩ := by
            rw [set_room]; rfl
          rw [hst3] at hG3
          have hσ3 : (g.with s.h.length w1.heap.size).σ s.h.length = w.heap.size + 1 := by simp [Gh.with, hs1]
          have hyv : RV S (g.with s.h.length w1.heap.size) (.sc (.fn (.yield s.h.length) [] [] [])) (.func (.yield (w.heap.size + 1)) #[] #[]) := by
            have := RC.yield (S := S) (g := g.with s.h.length w1.heap.size) s.h.length (.inl rfl)
            rw [hσ3] at this
            exact .sc _ _ this
          obtain ⟨d, ys, hd0, hld, hvs⟩ := target_leads ((rd_rv hR hf).mono hG3.le) (⟨rfl, fun j v u a b => by
            rcases j with _ | j
            · simp at a b; subst a; subst b; exact hyv
            · simp at a⟩ : RVs S (g.with s.h.length w1.heap.size) [.sc (.fn (.yield s.h.length) [] [] [])] [.func (.yield (w.heap.size + 1)) #[] #[]]) ht
          obtain ⟨⟨fnn, hfn, hname, hbody⟩, hcall⟩ := hK (.fn id) vs _ v0 h2' hk _ wl ys hG3.rel.hp hvs
          obtain ⟨cap, htg, hargs⟩ := hld
          refine ⟨w.heap.size + 1, [{ target := .collected w.heap.size, args := #[] }], wl, d, wl, S.fm id, ys.toArray, wl, run_enterLoop_outer fn a.tmps ps.toArray x y, ?_, fun _ _ => trivial, ?_, fun hc => (by cases hc), hcall.mono fun e w3 hp => ?_⟩
          · have : resolve a.eval (rangeCall f' (w.heap.size + 1)) 0 = pure d := by
              simp only [resolve]
              rw [← hd0]
              congr 1
              simp [Act.eval]
            rw [this]; rfl
          · simp [invoke, htg, hargs, callFunc, hfn, hname, hbody]
          · obtain ⟨xv, g4, rfl, hGH, _⟩ := hp
            have hG4 := hG3.trans (Goes.frame hG3.rel hGH)
            have hR4 := hG4.rel
            have hl4 : g4.A s.h.length := hGH.le.as _ (.inl rfl)
            have hσ4 : g4.σ s.h.length = w.heap.size + 1 := by rw [hGH.le.eq _ (.inl rfl), hσ3]
            obtain ⟨L4, nt4, hb4, k1, k2, _⟩ := hR4.hp.ob s.h.length _ hl
            rw [hσ4] at hb4
            have hnb : L4.state ≠ .busy := by rw [k1]; cases st <;> simp [lsOf] at hst ⊢
            refine ⟨L4.pending, w3.putObj (w.heap.size + 1) (.loop { L4 with state := .exhausted }), run_endLoop hb4 hnb, ?_⟩
            -- the loop's object dies
            have hle5 : g.Le (g4.kill h2' w3 (fun r => s.h.length ≤ r) (fun r => g4.A r ∧ r < s.h.length)) :=
              ⟨fun r hA => ⟨hG4.le.as r hA, A_lt hR.hp hA⟩, fun r hA => hG4.le.eq r hA, fun b o v e => kill_M hR4.hp (hG4.le.im b o v e), fun b es e => kill_N hR4.hp (hG4.le.mm b es e)⟩
            have hG5 := hG4.kills (t' := s.t) (dies_take hR4.hp s.h.length hun) (fun r hA => ⟨hG4.le.as r hA, A_lt hR.hp hA⟩) (fun i => by
              have t0 := hR.tm i
              have t4 := hR4.tm i
              have t4' : RT S g4 w3 (get s.t i) (a.tmps.getD i undef) := t4
              generalize hv : get s.t i = v at t0 t4'
              generalize hx : a.tmps.getD i undef = u at t0 t4'
              cases t0 with
              | rv _ _ h => exact .rv _ _ (h.mono hle5)
              | own es l b off cap _ =>
                cases t4' with
                | rv _ _ h =>
                  cases h with
                  | sc _ _ h => exact absurd rfl (h.not_own _ _)
                | own _ _ _ _ _ ho =>
                  have hc : ClaimT s.t a.tmps i b := ⟨es, l, _, _, _, hv, hx, rfl⟩
                  exact .own _ _ _ _ _ ⟨ho.rel.of_pure rfl (fun _ _ _ e => kill_M hR4.hp e) (fun _ _ e => kill_N hR4.hp e), ho.blk, fun o hoo => by
                    rw [kill_M_claim (fun r o e hl => hR4.clT i b r o hc e hl)]; exact ho.spare o hoo⟩) (fun _ _ h => h)
            have hO : Other (g4.kill h2' w3 (fun r => s.h.length ≤ r) (fun r => g4.A r ∧ r < s.h.length)) (h2'.take s.h.length) w3 (w.heap.size + 1) := by
              refine ⟨fun cs t fr h => (by rw [hb4] at h; cases h), fun es n h => (by rw [hb4] at h; cases h), fun r o e hl5 hs5 => ?_⟩
              rw [List.getElem?_take] at e
              split at e
              · rename_i hlt
                have := hR4.hp.inj r s.h.length o _ e hl hl5 rfl (by rw [hσ4]; exact hs5)
                omega
              · cases e
            have hG6 := (hG5.poke (ob := .loop { L4 with state := .exhausted }) (by omega) hO).defers ([{ target := .collected w.heap.size, args := #[] }] ++ a.defers)
            have hD6 : Dfs n0 { a with defers := [{ target := .collected w.heap.size, args := #[] }] ++ a.defers } (w3.putObj (w.heap.size + 1) (.loop { L4 with state := .exhausted })) := by
              obtain ⟨bs, d1, d2, d3⟩ := hd
              refine ⟨w.heap.size :: bs, by simp [d1], List.nodup_cons.2 ⟨fun hm => ?_, d2⟩, fun b hb => ?_⟩
              · have := heap_lt (d3 _ hm).2; omega
              · rcases List.mem_cons.1 hb with rfl | hb
                · refine ⟨hn, ?_⟩
                  rw [World.putObj_heap_other (by omega)]
                  have hw : wl.heap[w.heap.size]? = some (.deferred (some [])) := by
                    show (w1.alloc _).heap[w.heap.size]? = _
                    rw [heap_alloc_old w1 _ _ (by omega)]
                    exact heap_alloc_new w _
                  have hkeep := (Goes.frame hG3.rel hGH).keeps
                  rw [hkeep.same _ (heap_lt hw) (deferred_other hG3.rel hw).2]
                  exact hw
                · obtain ⟨q1, q2⟩ := d3 b hb
                  refine ⟨q1, ?_⟩
                  have hlt := heap_lt q2
                  rw [World.putObj_heap_other (by omega), hG4.keeps.same b hlt (deferred_other hR q2).2]
                  exact q2
            have fin : ∀ q, q = pend.getD .norm → Post S G nt n0 g s { s with h := h2'.take s.h.length } a w (pend.getD .norm) (exitOf q) { a with defers := [{ target := .collected w.heap.size, args := #[] }] ++ a.defers } (w3.putObj (w.heap.size + 1) (.loop { L4 with state := .exhausted })) :=
              fun q hq => ⟨by rw [hq], _, hG6, hD6⟩
            generalize w3.putObj (w.heap.size + 1) (.loop { L4 with state := .exhausted }) = W4 at fin ⊢
            rw [k2]
            cases pend with
            | none => exact fin .norm rfl
            | some q =>
              cases q with
              | norm => exact fin .norm rfl
              | exit id => exact wpIn_exit (fin (.exit id) rfl)
              | ret => exact wpIn_ret (fin .ret rfl)
      · cases e
  · cases e

theorem exec_sim (hmix : S.P.follows .mixedOrders = true) {X : Code1} {K : Calls1} (hX : SimX S G X) (hK : SimK S G K) {n : Nat} (hL : SimL S G X n) : SimX S G (execF S.Γ X K) := by
  intro r nt c c' hm
  have h0 : ∀ {s : St} {g a w n0}, Rel S G g nt s a w → Dfs n0 a w → ∀ {ex}, Post S G nt n0 g s s a w ex (exitOf ex) a w := fun hR hd => ⟨rfl, _, .refl hR, hd⟩
  induction hm with
  | skip r =>
    intro s ex s' e ro hro g a w n0 hR hd hn
    simp only [execF, Option.some.injEq, Prod.mk.injEq] at e
    obtain ⟨rfl, rfl⟩ := e
    exact wpIn_skip (h0 hR hd)
  | label r l =>
    intro s ex s' e ro hro g a w n0 hR hd hn
    simp only [execF, Option.some.injEq, Prod.mk.injEq] at e
    obtain ⟨rfl, rfl⟩ := e
    exact wpIn_label (h0 hR hd)
  | seqLabel r l a y hmc ih =>
    intro s ex s' e ro hro g a w n0 hR hd hn
    exact wpIn_seq (wpIn_label (ih s ex s' e ro hro g a w n0 hR hd hn))
  | scope r a y hmc ih =>
    intro s ex s' e ro hro g a w n0 hR hd hn
    exact wpIn_scope (fun _ _ _ => post_noGoto) (ih s ex s' e ro hro g a w n0 hR hd hn)
  | seq r a b x y h1 h2 ih1 ih2 =>
    intro s ex s' e ro hro g act w n0 hR hd hn
    simp only [execF] at e
    cases hx : X a s with
    | none => rw [hx] at e; cases e
    | some q =>
      obtain ⟨ex1, s1⟩ := q
      rw [hx] at e
      refine wpIn_seq (wpIn_mono (hX r nt a x h1 s ex1 s1 hx ro hro g act w n0 hR hd hn) fun e' a' w' hp => ?_)
      have he := hp.1
      subst he
      cases ex1 with
      | norm =>
        obtain ⟨_, g1, hG, hd'⟩ := hp
        show y.wpIn _ _ _ _ _ _
        exact wpIn_mono (hX r nt b y h2 s1 ex s' e ro hro g1 a' w' n0 hG.rel hd' (Nat.le_trans hn hG.keeps.size)) fun e'' a'' w'' hp => Post.trans hG hp
      | exit id =>
        simp only [Option.some.injEq, Prod.mk.injEq] at e
        obtain ⟨rfl, rfl⟩ := e
        exact hp
      | ret =>
        simp only [Option.some.injEq, Prod.mk.injEq] at e
        obtain ⟨rfl, rfl⟩ := e
        exact hp
  | cond r c c' a b x y hc h1 h2 ih1 ih2 =>
    intro s ex s' e ro hro g act w n0 hR hd hn
    simp only [execF] at e
    have hcv := rd_rv hR hc
    split at e
    · rename_i hb
      rw [hb] at hcv
      exact wpIn_cond_true hcv.bool_inv (hX r nt a x h1 s ex s' e ro hro g act w n0 hR hd hn)
    · rename_i hb
      rw [hb] at hcv
      exact wpIn_cond_false hcv.bool_inv (hX r nt b y h2 s ex s' e ro hro g act w n0 hR hd hn)
    · cases e
  | block r id a x h1 ih1 =>
    intro s ex s' e ro hro g act w n0 hR hd hn
    simp only [execF] at e
    cases hx : X a s with
    | none => rw [hx] at e; cases e
    | some q =>
      obtain ⟨ex1, s1⟩ := q
      rw [hx] at e
      refine wpIn_block (wpIn_mono (hX r nt a x h1 s ex1 s1 hx ro hro g act w n0 hR hd hn) fun e' a' w' hp => ?_)
      have he := hp.1
      subst he
      cases ex1 with
      | norm =>
        simp only [Option.some.injEq, Prod.mk.injEq] at e
        obtain ⟨rfl, rfl⟩ := e
        exact hp
      | exit id' =>
        simp only at e
        show if id' = id then _ else _
        split at e
        · rename_i hid
          rw [if_pos hid]
          simp only [Option.some.injEq, Prod.mk.injEq] at e
          obtain ⟨rfl, rfl⟩ := e
          exact ⟨rfl, hp.2⟩
        · rename_i hid
          rw [if_neg hid]
          simp only [Option.some.injEq, Prod.mk.injEq] at e
          obtain ⟨rfl, rfl⟩ := e
          exact hp
      | ret =>
        simp only [Option.some.injEq, Prod.mk.injEq] at e
        obtain ⟨rfl, rfl⟩ := e
        exact hp
  | loop r keep a x h1 ih1 =>
    intro s ex s' e ro hro g act w n0 hR hd hn
    exact wpIn_loop_rounds (n + 1) (loop_sim hX hL r nt keep a x h1 s ex s' e ro hro g act w n0 hR hd hn _ fun _ _ _ hp => hp)
  | exit r id =>
    intro s ex s' e ro hro g a w n0 hR hd hn
    simp only [execF, Option.some.injEq, Prod.mk.injEq] at e
    obtain ⟨rfl, rfl⟩ := e
    exact wpIn_exit (h0 (ex := .exit id) hR hd)
  | ret r =>
    intro s ex s' e ro hro g a w n0 hR hd hn
    simp only [execF, Option.some.injEq, Prod.mk.injEq] at e
    obtain ⟨rfl, rfl⟩ := e
    exact wpIn_ret (h0 (ex := .ret) hR hd)
  | frz r i a y h1 ih1 =>
    intro s ex s' e ro hro g act w n0 hR hd hn
    simp only [execF] at e
    split at e
    · rename_i s1 hf
      obtain ⟨g1, hG⟩ := frozen_goes hR hf
      exact wpIn_mono (hX r nt a y h1 s1 ex s' e ro hro g1 act w n0 hG.rel hd hn) fun e' a' w' hp => Post.trans hG hp
    · cases e
  | frzc r i a y h1 ih1 =>
    intro s ex s' e ro hro g act w n0 hR hd hn
    simp only [execF] at e
    split at e
    · rename_i s1 hf
      obtain ⟨g1, hG⟩ := frozenC_goes hR hf
      exact wpIn_mono (hX r nt a y h1 s1 ex s' e ro hro g1 act w n0 hG.rel hd hn) fun e' a' w' hp => Post.trans hG hp
    · cases e
  | region r nal ops keep id ops' hm =>
    intro s ex s' e ro hro g a w n0 hR hd hn
    have hex : ex = .norm := by
      simp only [execF, Pm.region, Option.map_eq_some_iff, Prod.mk.injEq] at e
      obtain ⟨_, _, h, _⟩ := e
      exact h.symm
    subst hex
    have e' : Pm.region S.Γ K nal ops false keep s = some (.norm, s') := e
    exact region_wp hK hmix hm (fun h => by cases h) hR e' ro fun _ a' w' g' hG hdf => ⟨rfl, g', hG, hd.goes hR hG hdf⟩
  | draw r nal ops keep id ops' hm hdr =>
    intro s ex s' e ro hro g a w n0 hR hd hn
    have hex : ex = .norm := by
      simp only [execF, Pm.region, Option.map_eq_some_iff, Prod.mk.injEq] at e
      obtain ⟨_, _, h, _⟩ := e
      exact h.symm
    subst hex
    have e' : Pm.region S.Γ K nal ops true keep s = some (.norm, s') := e
    exact region_wp hK hmix hm (fun _ => hdr) hR e' ro fun _ a' w' g' hG hdf => ⟨rfl, g', hG, hd.goes hR hG hdf⟩
  | rfunc f f' ps a b x y hf h1 h2 hp ih1 ih2 =>
    intro s ex s' e ro hro g act w n0 hR hd hn
    cases ro with
    | some l => cases hro
    | none => exact rfunc_sim hK hf h1 h2 hp X e hR hd hn

end
end Go.Pm

namespace Go.Pm

def MRes (P : Program) : List (Nat × Option (Option Nat)) → List ResultVar → Prop
  | [], [] => True
  | (t, none) :: rs, .tmp t' :: rs' => t = t' ∧ MRes P rs rs'
  | (t, some n) :: rs, .cell t' ty :: rs' => t = t' ∧ TSh P ty n ∧ MRes P rs rs'
  | _, _ => False

structure FnOk (S : Seat) (G : List Nat) (id : Nat) (f : Fn) : Prop where
  ex : ∃ fn c, S.P.funcs[S.fm id]? = some fn ∧ fn.body = some c ∧ fn.name ≠ "runtime.NumGoroutine" ∧ fn.ntmps = f.nt ∧ MC S G f.nt false f.body c ∧ f.np ≤ f.nt ∧ MRes S.P f.res fn.results.toList

structure SeatOk (S : Seat) (G : List Nat) : Prop where
  mixed : S.P.follows .mixedOrders = true
  fn : ∀ id f, S.Γ.fn id = some f → FnOk S G id f
  prim : ∀ id p vs v, S.Γ.fn id = none → S.Γ.prim id = some p → p vs = some v → ∀ g h w xs, RelH S G g h w → RVs S g vs xs →
    (∃ fn, S.P.funcs[S.fm id]? = some fn ∧ fn.name ≠ "runtime.NumGoroutine" ∧ fn.body ≠ none) ∧ CallsIn Fence.wide 0 S.P (S.fm id) xs.toArray w (CallPost S G g h h w v)

section
variable {S : Seat} {G : List Nat} {g g' g'' g1 : Gh} {nt n0 : Nat} {s s' s'' s1 s2 : St} {a a' a'' a1 : Act} {w w' w'' w1 : World} {h h' : List Obj} {base : Nat} {ex ex' : Ex}

theorem get_number : ∀ (vs : List V) (n i : Nat), get (number n vs) i = if n ≤ i then (vs[i - n]?).getD (.sc .top) else .sc .top
  | [], n, i => by simp [number, get]
  | v :: vs, n, i => by
    simp only [number, get]
    by_cases h : n = i
    · subst h; simp
    · rw [if_neg h, get_number vs (n + 1) i]
      by_cases h2 : n ≤ i
      · rw [if_pos (by omega), if_pos h2, show i - n = (i - (n + 1)) + 1 from by omega]
        simp
      · rw [if_neg (by omega), if_neg h2]

theorem start_rv {vs : List V} {xs : List Value} (hx : RVs S g vs xs) (k i : Nat) : RV S g (get (number 0 vs) i) ((xs.toArray ++ Array.replicate k undef).getD i undef) := by
  rw [get_number]
  simp only [Nat.zero_le, if_true, Nat.sub_zero]
  cases hv : vs[i]? with
  | none => exact .top _
  | some v =>
    have hlt : i < xs.length := by rw [← hx.1]; exact (List.getElem?_eq_some_iff.1 hv).1
    have : (xs.toArray ++ Array.replicate k undef).getD i undef = xs[i] := by
      simp [Array.getD_eq_getD_getElem?, Array.getElem?_append, hlt]
    rw [this]
    exact hx.2 i v _ hv (List.getElem?_eq_getElem hlt)

theorem noClaim {t : List (Nat × V)} {tm : Array Value} (h : ∀ i, RV S g (get t i) (tm.getD i undef)) (i b : Nat) : ¬ ClaimT t tm i b := by
  rintro ⟨es, l, ad, n, cap, h1, _⟩
  have := h i
  rw [h1] at this
  cases this with
  | sc _ _ h => exact absurd rfl (h.not_own es l)

theorem start_rel (hR : RelH S G g h w) {t : List (Nat × V)} {tm : Array Value} (hsz : tm.size = nt) (ht : ∀ i, RV S g (get t i) (tm.getD i undef)) : Rel S G g nt ⟨t, h⟩ { tmps := tm, defers := [] } w :=
  ⟨hR, hsz, fun i => .rv _ _ (ht i), fun i i' b c => absurd c (noClaim ht i b), fun i b r j c => absurd c (noClaim ht i b), fun i b r o c => absurd c (noClaim ht i b)⟩

theorem result_load (hR : Rel S G g nt s a w) {t : Nat} {n : Option Nat} {ty : TypeId} (hs : TSh S.P ty n) {v : V} (e : result1 s (t, some n) = some v) :
    ∃ x, ((do loadVar ty (← asAddr (a.tmps.getD t undef)) : Sem Value)).run S.P w = .ok x w ∧ RV S g v x := by
  simp only [result1] at e
  split at e
  · rename_i r off hp
    have hx : RV S g (.sc (.ptr r off)) (a.tmps.getD t undef) := by
      have := hR.tm t
      rw [hp] at this
      cases this with
      | rv _ _ h => exact h
    obtain ⟨hA, hx⟩ := hx.ptr_inv
    split at e
    · rename_i cs hcs
      obtain ⟨vals, elem, hb, hs', hro⟩ := hR.hp.ob r _ hcs
      obtain ⟨y, hy, hrv⟩ := load_sound (w := w) (g := g) (b := g.σ r) (o := 0) hs (fun j c hj => by
        have : j < vals.size := Nat.lt_of_lt_of_le (List.getElem?_eq_some_iff.1 hj).1 hs'
        exact ⟨vals[j], by rw [Nat.zero_add, cell_of_heap hb, Array.getElem?_eq_getElem this], hro j c _ hj (Array.getElem?_eq_getElem this)⟩) e
      rw [Nat.zero_add] at hy
      exact ⟨y, by rw [hx]; simp [asAddr, hy], hrv⟩
    · cases e
  · cases e

def readRes (tm : Array Value) : ResultVar → Sem Value
  | .tmp t => pure (tm.getD t undef)
  | .cell ad t => do loadVar t (← asAddr (tm.getD ad undef))

theorem results_eq (fn : Func) (tm : Array Value) : Go.results fn tm = (do let vs ← fn.results.mapM (readRes tm); pure (if h : vs.size = 1 then vs[0] else .tuple vs)) := by
  unfold Go.results
  congr 1

theorem results_run (hR : Rel S G g nt s a w) : ∀ {rs : List (Nat × Option (Option Nat))} {rs' : List ResultVar} {vs : List V}, MRes S.P rs rs' → results s rs = some vs →
    ∃ xs, (rs'.mapM (readRes a.tmps)).run S.P w = .ok xs w ∧ RVs S g vs xs
  | [], [], vs, _, e => by
    simp only [results, Option.some.injEq] at e
    subst e
    exact ⟨[], by simp, rfl, fun j v x h => by simp at h⟩
  | (t, none) :: rs, .tmp t' :: rs', vs, hm, e => by
    obtain ⟨rfl, hm⟩ := hm
    simp only [results] at e
    split at e
    · rename_i v vs' h1 h2
      simp only [Option.some.injEq] at e
      subst e
      obtain ⟨xs, hxs, hr⟩ := results_run hR hm h2
      simp only [result1, Option.some.injEq] at h1
      subst h1
      refine ⟨a.tmps.getD t undef :: xs, ?_, by simp [hr.1], fun j v x k1 k2 => ?_⟩
      · simp only [List.mapM_cons, readRes, Sem.run_bind, Sem.run_pure, Result.andThen_ok, hxs]
      · rcases j with _ | j
        · simp at k1 k2; subst k1; subst k2
          exact (by simpa [Array.getD_eq_getD_getElem?] using (hR.tm t).unown)
        · exact hr.2 j v x (by simpa using k1) (by simpa using k2)
    · cases e
  | (t, some n) :: rs, .cell t' ty :: rs', vs, hm, e => by
    obtain ⟨rfl, hs, hm⟩ := hm
    simp only [results] at e
    split at e
    · rename_i v vs' h1 h2
      simp only [Option.some.injEq] at e
      subst e
      obtain ⟨xs, hxs, hr⟩ := results_run hR hm h2
      obtain ⟨y, hy, hrv⟩ := result_load hR hs h1
      refine ⟨y :: xs, ?_, by simp [hr.1], fun j v x k1 k2 => ?_⟩
      · have hy' : (readRes a.tmps (.cell t ty)).run S.P w = .ok y w := hy
        simp only [List.mapM_cons, Sem.run_bind, hy', Result.andThen_ok, hxs, Sem.run_pure]
      · rcases j with _ | j
        · simp at k1 k2; subst k1; subst k2; exact hrv
        · exact hr.2 j v x (by simpa using k1) (by simpa using k2)
    · cases e
  | [], _ :: _, _, hm, _ => by cases hm
  | (_, none) :: _, [], _, hm, _ => by cases hm
  | (_, some _) :: _, [], _, hm, _ => by cases hm
  | (_, none) :: _, .cell _ _ :: _, _, hm, _ => by cases hm
  | (_, some _) :: _, .tmp _ :: _, _, hm, _ => by cases hm

theorem tuple_rv {vs : List V} {xs : Array Value} (h : RVs S g vs xs.toList) : RV S g (tuple vs) (if h : xs.size = 1 then xs[0] else .tuple xs) := by
  match vs, h with
  | [], h =>
    have : xs.size = 0 := by have := h.1; simpa using this.symm
    rw [dif_neg (by omega)]
    exact .tup [] xs (by simp [this]) fun j v x a => by simp at a
  | [v], h =>
    have : xs.size = 1 := by have := h.1; simpa using this.symm
    rw [dif_pos this]
    exact h.2 0 v _ rfl (by simp [this])
  | v :: v2 :: vs, h =>
    have hs : xs.size = vs.length + 2 := by have := h.1; simpa using this.symm
    rw [dif_neg (by omega)]
    exact .tup _ xs (by simp [hs]) fun j u x a b => h.2 j u x a (by simpa using b)

theorem leaves_marks {fn : Func} {tm : Array Value} {R : Ending → World → Prop} : ∀ (bs : List Nat) (g1 : Gh) (w1 : World), bs.Nodup → (∀ b ∈ bs, w.heap.size ≤ b ∧ w1.heap[b]? = some (.deferred (some []))) → Goes S G nt g g1 s s1 a { tmps := tm, defers := [] } w w1 →
    (∀ w2 g2, Goes S G nt g g2 s s1 a { tmps := tm, defers := [] } w w2 → g2 = g1 → ∃ v, (Go.results fn tm).run S.P w2 = .ok v w2 ∧ R (.returned v) w2) →
    LeavesInM Fence.wide 0 S.P fn tm R (bs.map fun b => ({ target := .collected b, args := #[] } : Deferred)) .returning w1
  | [], g1, w1, _, _, hG, hk => hk w1 g1 hG rfl
  | b :: bs, g1, w1, hnd, hb, hG, hk => by
    obtain ⟨h1, h2⟩ := hb b (by simp)
    refine ⟨by simp, .inl ⟨b, _, rfl, run_takeDeferred h2, ?_⟩⟩
    have hnd' := List.nodup_cons.1 hnd
    refine leaves_marks bs g1 _ hnd'.2 (fun c hc => ?_) (hG.poke h1 (deferred_other hG.rel h2).1) hk
    obtain ⟨k1, k2⟩ := hb c (by simp [hc])
    refine ⟨k1, ?_⟩
    have hcb : c ≠ b := by rintro rfl; exact hnd'.1 hc
    rw [World.putObj_heap_other hcb]
    exact k2

theorem fn_sim {X : Code1} (hX : SimX S G X) {id : Nat} {f : Fn} (hf : FnOk S G id f) {vs : List V} {v : V} (e : callF S.Γ X (.fn id) vs h = some (v, h')) (hΓ : S.Γ.fn id = some f) (hR : RelH S G g h w) {xs : List Value} (hx : RVs S g vs xs) :
    (∃ fn, S.P.funcs[S.fm id]? = some fn ∧ fn.name ≠ "runtime.NumGoroutine" ∧ fn.body ≠ none) ∧ CallsIn Fence.wide 0 S.P (S.fm id) xs.toArray w (CallPost S G g h h' w v) := by
  obtain ⟨fn, c, hfn, hbody, hname, hnt, hmc, hnp, hres⟩ := hf.ex
  refine ⟨⟨fn, hfn, hname, by rw [hbody]; simp⟩, callsIn_of_wp_marks hfn hbody trivial ?_⟩
  simp only [callF, hΓ] at e
  split at e
  · cases e
  · rename_i hlen
    simp only [ne_eq, Decidable.not_not] at hlen
    split at e
    · rename_i ex1 s1 hx1
      have hsz : (xs.toArray ++ Array.replicate (fn.ntmps - xs.toArray.size) undef).size = f.nt := by
        simp only [Array.size_append, List.size_toArray, Array.size_replicate, hnt]
        have := hx.1
        omega
      have hst := start_rv hx (fn.ntmps - xs.toArray.size)
      have hrel := start_rel hR hsz hst
      have hwp := hX false f.nt f.body c hmc ⟨number 0 vs, h⟩ ex1 s1 hx1 none rfl g _ w w.heap.size hrel ⟨[], rfl, List.nodup_nil, by simp⟩ (Nat.le_refl _)
      refine wpIn_mono hwp fun e' a' w' hp => ?_
      obtain ⟨rfl, g1, hG, bs, hd1, hd2, hd3⟩ := hp
      have fin : (match results s1 f.res with
          | some rs => if f.opn then some (tuple rs, s1.h) else match frzVs h.length s1.h rs with
            | some rs => if (s1.h.take h.length).all (Obj.under h.length) then some (tuple rs, s1.h.take h.length) else none
            | none => none
          | none => none) = some (v, h') → LeavesInM Fence.wide 0 S.P fn a'.tmps (CallPost S G g h h' w v) a'.defers .returning w' := by
        intro e
        split at e
        · rename_i rs hrs
          have run2 : ∀ w2 g2, Goes S G f.nt g g2 ⟨number 0 vs, h⟩ s1 { tmps := xs.toArray ++ Array.replicate (fn.ntmps - xs.toArray.size) undef, defers := [] } { tmps := a'.tmps, defers := [] } w w2 →
              ∃ ys, (Go.results fn a'.tmps).run S.P w2 = .ok (if h : ys.toArray.size = 1 then ys.toArray[0] else .tuple ys.toArray) w2 ∧ RVs S g2 rs ys := fun w2 g2 hG2 => by
            obtain ⟨ys, hys, hrv⟩ := results_run hG2.rel hres hrs
            refine ⟨ys, ?_, hrv⟩
            rw [results_eq, Array.mapM_eq_mapM_toList]
            simp only [Sem.run_bind]
            have hys' : (fn.results.toList.mapM (readRes a'.tmps)).run S.P w2 = .ok ys w2 := hys
            rw [← bind_pure_comp, Sem.run_bind, hys', Result.andThen_ok, Sem.run_pure, Result.andThen_ok]
            rfl
          split at e
          · simp only [Option.some.injEq, Prod.mk.injEq] at e
            obtain ⟨rfl, rfl⟩ := e
            rw [hd1]
            refine leaves_marks (S := S) (G := G) (nt := f.nt) (g := g) (s := ⟨number 0 vs, h⟩) (s1 := s1) (a := { tmps := xs.toArray ++ Array.replicate (fn.ntmps - xs.toArray.size) undef, defers := [] }) (w := w) bs g1 w' hd2 hd3 (hG.defers []) (fun w2 g2 hG2 hg2 => ?_)
            subst hg2
            obtain ⟨ys, hrun, hrv⟩ := run2 w2 g2 hG2
            exact ⟨_, hrun, _, g2, rfl, GoesH.of (fun i b => noClaim hst i b) hG2, tuple_rv (by simpa using hrv)⟩
          · split at e
            · rename_i rs' hfr
              split at e
              case isFalse => cases e
              rename_i hun
              simp only [Option.some.injEq, Prod.mk.injEq] at e
              obtain ⟨rfl, rfl⟩ := e
              rw [hd1]
              refine leaves_marks (S := S) (G := G) (nt := f.nt) (g := g) (s := ⟨number 0 vs, h⟩) (s1 := s1) (a := { tmps := xs.toArray ++ Array.replicate (fn.ntmps - xs.toArray.size) undef, defers := [] }) (w := w) bs g1 w' hd2 hd3 (hG.defers []) (fun w2 g2 hG2 hg2 => ?_)
              subst hg2
              obtain ⟨ys, hrun, hrv⟩ := run2 w2 g2 hG2
              refine ⟨_, hrun, _, g2.above s1.h w2 h.length, rfl, (GoesH.of (fun i b => noClaim hst i b) hG2).above hun (fun r hA => A_lt hR hA), ?_⟩
              exact tuple_rv (by simpa using frzVs_ok hG2.rel.hp hfr hrv)
            · cases e
        · cases e
      cases ex1 with
      | norm => exact fin e
      | ret => exact fin e
      | exit id => cases e
    · cases e

/-! ### A round of a loop over a function -/

theorem get_setParams : ∀ (ps : List Nat) (vs : List V) (t : List (Nat × V)) (tm : Array Value) (xs : List Value), (∀ i, RV S g (get t i) (tm.getD i undef)) → RVs S g vs xs → (∀ p ∈ ps, p < tm.size) →
    ∀ i, RV S g (get (setParams ps vs t) i) (((ps.zip xs).foldl (fun tmps (p : Nat × Value) => tmps.setIfInBounds p.1 p.2) tm).getD i undef)
  | [], vs, t, tm, xs, ht, _, _, i => by simp only [setParams, List.zip_nil_left, List.foldl_nil]; exact ht i
  | p :: ps, [], t, tm, xs, ht, hx, _, i => by
    have : xs = [] := List.length_eq_zero_iff.1 hx.1.symm
    subst this
    simp only [setParams, List.zip_nil_right, List.foldl_nil]; exact ht i
  | p :: ps, v :: vs, t, tm, [], ht, hx, _, i => by have := hx.1; simp at this
  | p :: ps, v :: vs, t, tm, x :: xs, ht, hx, hp, i => by
    simp only [setParams, List.zip_cons_cons, List.foldl_cons]
    refine get_setParams ps vs ((p, v) :: t) (tm.setIfInBounds p x) xs (fun j => ?_) ⟨by simpa using hx.1, fun j v x a b => hx.2 (j + 1) v x (by simpa using a) (by simpa using b)⟩ (fun q hq => by simpa using hp q (by simp [hq])) i
    simp only [get]
    have hplt := hp p (by simp)
    by_cases hj : p = j
    · subst hj
      rw [if_pos rfl]
      have : (tm.setIfInBounds p x).getD p undef = x := by simp [Array.getD_eq_getD_getElem?, hplt]
      rw [this]
      exact hx.2 0 v x rfl rfl
    · rw [if_neg hj]
      have : (tm.setIfInBounds p x).getD j undef = tm.getD j undef := by simp [Array.getD_eq_getD_getElem?, hj]
      rw [this]
      exact ht j

theorem fold_size2 : ∀ (l : List (Nat × Value)) (tm : Array Value), (l.foldl (fun tmps (p : Nat × Value) => tmps.setIfInBounds p.1 p.2) tm).size = tm.size
  | [], tm => rfl
  | p :: l, tm => by rw [List.foldl_cons, fold_size2 l]; simp

theorem Goes.loopSet (hR : Rel S G g nt s a w) {l : Nat} {o : Obj} {st : LS} {pend : Option Ex} {t : List (Nat × V)} {ps : List Nat} {ca cb : AC} (hl : s.h[l]? = some o) (ho : live o = true) {L : Loop}
    (hob : RObj S G g (w.putObj (g.σ l) (.loop L)) (.loop st pend t ps ca cb) (g.σ l)) :
    Goes S G nt g g s ⟨s.t, s.h.set l (.loop st pend t ps ca cb)⟩ a a w (w.putObj (g.σ l) (.loop L)) :=
  Goes.modify (takes := []) (off0 := 0) hR hl ho rfl (fun b hb => World.putObj_heap_other hb) (by simp) rfl rfl rfl hob (by
    rintro j b ⟨cs, es, l', vals, elem, fr, ad, m, cap, e1, _⟩
    have hlt : l < s.h.length := (List.getElem?_eq_some_iff.1 hl).1
    simp [hlt] at e1)

theorem yield_sim {X : Code1} (hX : SimX S G X) {l : Nat} {vs : List V} {v : V} (e : callF S.Γ X (.yield l) vs h = some (v, h')) (hR : RelH S G g h w) {xs : List Value} (hx : RVs S g vs xs) :
    ∃ f tmps x y, (Instr.yield (g.σ l) xs.toArray).run S.P w = .ok (.round (g.σ l) f tmps x y) w ∧ RoundIn Fence.wide 0 S.P (g.σ l) f tmps x y w (CallPost S G g h h' w v) := by
  simp only [callF] at e
  split at e
  · rename_i t ps ca cb hl
    split at e
    · cases e
    · rename_i hlen
      simp only [ne_eq, Decidable.not_not] at hlen
      obtain ⟨L, nt, hb, k1, k2, k3, k4, k5, k6, k7, k8⟩ := hR.ob l _ hl
      have hlA := hR.lv l _ hl rfl
      have hpsz : L.params = ps.toArray := by rw [← k3]
      have hfold : (L.params.zip xs.toArray).foldl (fun tmps (p : Nat × Value) => tmps.setIfInBounds p.1 p.2) L.tmps = (ps.zip xs).foldl (fun tmps (p : Nat × Value) => tmps.setIfInBounds p.1 p.2) L.tmps := by
        rw [hpsz, List.zip_toArray, List.foldl_toArray]
      have hyield := run_yield (P := S.P) (args := xs.toArray) hb (by rw [hpsz]; simp; have := hx.1; omega)
      have hyield' : (Instr.yield (g.σ l) xs.toArray).run S.P w = .ok (.round (g.σ l) L.fn ((ps.zip xs).foldl (fun tmps (p : Nat × Value) => tmps.setIfInBounds p.1 p.2) L.tmps) L.assign L.body) w := by
        rw [← hfold]; exact hyield
      refine ⟨L.fn, _, L.assign, L.body, hyield', roundIn_of_wpIn trivial ?_⟩
      have hst := get_setParams ps vs t L.tmps xs k7 hx (fun p hp => by rw [k6]; exact k8 p hp)
      have hrel := start_rel (nt := nt) hR (by rw [fold_size2]; exact k6) hst
      split at e
      · rename_i s1 hx1
        split at e
        · rename_i t1 ps1 ca1 cb1 hl1
          split at e
          · rename_i ex2 s2 hx2
            split at e
            · rename_i pend2 t2 ps2 ca2 cb2 hl2
              by_cases hun : ((s2.h.set l (.loop (if ex2 = .norm then .ready else .done) (if ex2 = .norm then none else some ex2) t2 ps2 ca2 cb2)).take h.length).all (Obj.under h.length) = true
              case neg => rw [if_neg hun] at e; cases e
              rw [if_pos hun] at e
              simp only [Option.some.injEq, Prod.mk.injEq] at e
              obtain ⟨rfl, rfl⟩ := e
              have hwp := hX true nt ca L.assign k4 _ .norm s1 hx1 (some (g.σ l)) rfl g _ w w.heap.size hrel ⟨[], rfl, List.nodup_nil, by simp⟩ (Nat.le_refl _)
              refine wpIn_mono hwp fun e' a1 w1 hp => ?_
              obtain ⟨rfl, g1, hG1, hD1⟩ := hp
              have hσ1 : g1.σ l = g.σ l := hG1.le.eq l hlA
              obtain ⟨L1, nt1, hb1, j1, j2, j3, j4, j5, j6, j7, j8⟩ := hG1.rel.hp.ob l _ hl1
              have hb1' := hb1
              rw [hσ1] at hb1'
              refine ⟨_, run_beginRound hb1' (by rw [j1]; rfl), ?_⟩
              have hlt1 := heap_lt hb1
              have hG2 := Goes.loopSet (st := .busy) (pend := none) (t := t1) (ps := ps1) (ca := ca1) (cb := cb1) (L := { L1 with state := .busy }) hG1.rel hl1 rfl ⟨_, nt1, World.putObj_heap_same hlt1, rfl, j2, j3, j4, j5, j6, j7, j8⟩
              rw [hσ1] at hG2
              have hG12 := hG1.trans hG2
              have hD2 := hD1.goes hG1.rel hG2 rfl
              have hwp2 := hX true nt cb L.body k5 _ ex2 s2 hx2 (some (g.σ l)) rfl g1 a1 _ w.heap.size hG2.rel hD2 hG12.keeps.size
              refine wpIn_mono hwp2 fun e' a2 w2 hp => ?_
              obtain ⟨rfl, g2, hG3, hD3⟩ := hp
              have hG := hG12.trans hG3
              have hσ2 : g2.σ l = g.σ l := hG.le.eq l hlA
              obtain ⟨L2, nt2, hb2, i1, i2, i3, i4, i5, i6, i7, i8⟩ := hG.rel.hp.ob l _ hl2
              have hb2' := hb2
              rw [hσ2] at hb2'
              have hlt2 := heap_lt hb2
              have key : ∀ (jump : Option Code), jump = exCode ex2 → ∃ v w', (Instr.endRound (g.σ l) jump).run S.P w2 = .ok v w' ∧ CallPost S G g h ((s2.h.set l (.loop (if ex2 = .norm then .ready else .done) (if ex2 = .norm then none else some ex2) t2 ps2 ca2 cb2)).take h.length) w (.sc (.bool (decide (ex2 = .norm)))) (.returned v) w' := by
                intro jump hj
                have hjn : jump.isNone = decide (ex2 = .norm) := by subst hj; cases ex2 <;> simp [exCode]
                refine ⟨_, _, run_endRound jump hb2', ?_⟩
                have hG4 := Goes.loopSet (st := if ex2 = .norm then .ready else .done) (pend := if ex2 = .norm then none else some ex2) (t := t2) (ps := ps2) (ca := ca2) (cb := cb2) (L := { L2 with state := if jump.isNone then .ready else .done, pending := jump }) hG.rel hl2 rfl
                  ⟨_, nt2, World.putObj_heap_same hlt2, by rw [hjn]; cases ex2 <;> simp [lsOf], by subst hj; cases ex2 <;> simp [exCode], i3, i4, i5, i6, i7, i8⟩
                rw [hσ2] at hG4
                have hGo := GoesH.of (fun i b => noClaim hst i b) (hG.trans hG4)
                refine ⟨_, _, rfl, hGo.above hun (fun r hA => A_lt hR hA), ?_⟩
                rw [hjn]
                exact .sc _ _ (.bool _)
              cases ex2 with
              | norm => exact key none rfl
              | exit id => exact key (some (.exit id)) rfl
              | ret => exact key (some .ret) rfl
            · cases e
          · cases e
        · cases e
      · cases e
  · cases e

theorem call_sim (hS : SeatOk S G) {X : Code1} (hX : SimX S G X) : SimK S G (callF S.Γ X) := by
  intro fk vs h v h' e g w xs hR hx
  cases fk with
  | fn id =>
    cases hΓ : S.Γ.fn id with
    | some f => exact fn_sim hX (hS.fn id f hΓ) e hΓ hR hx
    | none =>
      simp only [callF, hΓ] at e
      split at e
      · rename_i p hp
        split at e
        · simp only [Option.map_eq_some_iff, Prod.mk.injEq] at e
          obtain ⟨v', hv, rfl, rfl⟩ := e
          exact hS.prim id p vs v' hΓ hp hv g _ w xs hR hx
        · cases e
      · cases e
  | yield l => exact yield_sim hX e hR hx

theorem run_sim (hS : SeatOk S G) : ∀ n, SimX S G (run S.Γ n).1 ∧ SimK S G (run S.Γ n).2 ∧ SimL S G (run S.Γ n).1 n
  | 0 => ⟨fun r nt c c' _ s ex s' e => by simp [run] at e, fun fk vs h v h' e => by simp [run] at e, fun r nt keep c x _ s ex s' e => by simp [run] at e⟩
  | n + 1 => by
    obtain ⟨h1, h2, h3⟩ := run_sim hS n
    exact ⟨exec_sim hS.mixed h1 h2 h3, call_sim hS h1, loop_sim h1 h3⟩

theorem K_sim (hS : SeatOk S G) {id : Nat} {vs : List V} {v : V} (e : K S.Γ (.fn id) vs h = some (v, h')) (hR : RelH S G g h w) {xs : List Value} (hx : RVs S g vs xs) : Calls S.P (S.fm id) xs.toArray w (CallPost S G g h h' w v) := by
  obtain ⟨n, hn⟩ := K_iff.1 e
  exact callsIn_wide.1 ((run_sim hS n).2.1 (.fn id) vs h v h' hn g w xs hR hx).2

end
end Go.Pm

namespace Go.Pm

def kc : C → Value → Bool
  | .int k n, .int k' m => decide (k = k') && decide (n = m)
  | .bool a, .bool b => a == b
  | .str a, .string b => decide (a = b)
  | .nilf, .nilFunc => true
  | .nilp, .pointer none => true
  | .nili, .nilIface => true
  | .sl .nil _ [], .slice none 0 0 => true
  | .imap _ _ [], .map none => true
  | _, _ => false

theorem kc_ok {c : C} {v : Value} (h : kc c v = true) : KC c v := by
  unfold kc at h
  split at h
  · simp at h; obtain ⟨rfl, rfl⟩ := h; exact .int _ _
  · simp at h; subst h; exact .bool _
  · simp at h; subst h; exact .str _
  · exact .nilf
  · exact .nilp
  · exact .nili
  · exact .slNil _
  · exact .imapNil _ _
  · cases h

def kl : List C → List Value → Bool
  | [], [] => true
  | c :: cs, v :: vs => kc c v && kl cs vs
  | _, _ => false

theorem kl_ok : ∀ {cs : List C} {vs : List Value}, kl cs vs = true → KL cs vs
  | [], [], _ => ⟨rfl, fun j c v h => by simp at h⟩
  | c :: cs, v :: vs, h => by
    simp only [kl, Bool.and_eq_true] at h
    obtain ⟨h1, h2⟩ := kl_ok h.2
    refine ⟨by simp [h1], fun j x y a b => ?_⟩
    rcases j with _ | j
    · simp at a b; subst a; subst b; exact kc_ok h.1
    · exact h2 j x y (by simpa using a) (by simpa using b)
  | [], _ :: _, h => by cases h
  | _ :: _, [], h => by cases h

def kv : V → Value → Bool
  | .agg z, .agg vs => kl z vs.toList
  | .tup [], .tuple vs => vs.isEmpty
  | .sc c, v => kc c v
  | _, _ => false

theorem kv_ok {v : V} {x : Value} (h : kv v x = true) : KV v x := by
  unfold kv at h
  split at h
  · exact .agg _ _ (kl_ok h)
  · rename_i vs
    have : vs = #[] := by simpa using h
    subst this
    exact .undef
  · exact .sc _ _ (kc_ok h)
  · cases h

section
variable (S : Seat) (G : List Nat)

def mr : Rand → Operand → Bool
  | .t i, .tmp j => i == j
  | .k v, .const x => kv v x
  | .f id, .func f => S.fm id == f
  | .g id, .global n => G.contains id && S.gm id == n
  | _, _ => false

variable {S G} in
theorem mr_ok {x : Rand} {y : Operand} (h : mr S G x y = true) : MR S G x y := by
  unfold mr at h
  split at h
  · simp at h; subst h; exact .t _
  · exact .k _ _ (kv_ok h)
  · simp at h; subst h; exact .f _
  · simp at h; obtain ⟨h1, rfl⟩ := h; exact .g _ h1
  · cases h

def mt : Rand → Operand → Bool
  | .tk i, .tmp j => i == j
  | x, y => mr S G x y

variable {S G} in
theorem mt_ok {x : Rand} {y : Operand} (h : mt S G x y = true) : MT S G x y := by
  unfold mt at h
  split at h
  · simp at h; subst h; exact .tk _
  · exact .r _ _ (mr_ok h)

def mrs : List Rand → List Operand → Bool
  | [], [] => true
  | x :: xs, y :: ys => mr S G x y && mrs xs ys
  | _, _ => false

variable {S G} in
theorem mrs_ok : ∀ {xs : List Rand} {ys : List Operand}, mrs S G xs ys = true → MRs S G xs ys
  | [], [], _ => trivial
  | x :: xs, y :: ys, h => by
    simp only [mrs, Bool.and_eq_true] at h
    exact ⟨mr_ok h.1, mrs_ok h.2⟩
  | [], _ :: _, h => by cases h
  | _ :: _, [], h => by cases h

def mro : Option Rand → Option Operand → Bool
  | none, none => true
  | some x, some y => mr S G x y
  | _, _ => false

variable {S G} in
theorem mro_ok {x : Option Rand} {y : Option Operand} (h : mro S G x y = true) : MRo S G x y := by
  unfold mro at h
  split at h
  · trivial
  · exact mr_ok h
  · cases h

end

section
variable (P : Program)

def szIs (t : TypeId) (n : Nat) : Bool := match P.info? t with
  | some i => i.size == n
  | none => false

variable {P} in
theorem szIs_ok {t : TypeId} {n : Nat} (h : szIs P t n = true) : TSize P t n := by
  unfold szIs at h
  split at h
  · rename_i i hi; exact ⟨i, hi, by simpa using h⟩
  · cases h

def tsh (t : TypeId) : Option Nat → Bool
  | none => match P.underlying t with
    | some d => !isAggD d
    | none => false
  | some n => match P.underlying t with
    | some d => isAggD d && szIs P t n
    | none => false

variable {P} in
theorem tsh_ok {t : TypeId} {n : Option Nat} (h : tsh P t n = true) : TSh P t n := by
  cases n with
  | none =>
    simp only [tsh] at h
    split at h
    · rename_i d hd; exact ⟨d, hd, by simpa using h⟩
    · cases h
  | some n =>
    simp only [tsh] at h
    split at h
    · rename_i d hd
      simp only [Bool.and_eq_true] at h
      obtain ⟨i, hi, hs⟩ := szIs_ok h.2
      exact ⟨d, i, hd, h.1, hi, hs⟩
    · cases h

def tz (t : TypeId) (z : List C) : Bool := match P.info? t with
  | some i => match i.zero with
    | some zv => kl z zv.cells.toList
    | none => false
  | none => false

variable {P} in
theorem tz_ok {t : TypeId} {z : List C} (h : tz P t z = true) : TZero P t z := by
  unfold tz at h
  split at h
  · rename_i i hi
    split at h
    · rename_i zv hz; exact ⟨i, zv, hi, hz, kl_ok h⟩
    · cases h
  · cases h

def tzv (t : TypeId) (z : V) : Bool := match P.info? t with
  | some i => match i.zero with
    | some zv => kv z zv
    | none => false
  | none => false

variable {P} in
theorem tzv_ok {t : TypeId} {z : V} (h : tzv P t z = true) : TZeroV P t z := by
  unfold tzv at h
  split at h
  · rename_i i hi
    split at h
    · rename_i zv hz; exact ⟨i, zv, hi, hz, kv_ok h⟩
    · cases h
  · cases h

def flatIs (t : TypeId) (ty : KT) : Bool := match flat P 20 t with
  | some k => k.agg == ty.agg && decide (k.tags = ty.tags)
  | none => false

variable {P} in
theorem flatIs_ok {t : TypeId} {ty : KT} (h : flatIs P t ty = true) : flat P 20 t = some ty := by
  unfold flatIs at h
  split at h
  · rename_i k hk
    simp only [Bool.and_eq_true, beq_iff_eq, decide_eq_true_eq] at h
    obtain ⟨a, b⟩ := k
    obtain ⟨c, d⟩ := ty
    simp only at h
    obtain ⟨rfl, rfl⟩ := h
    exact hk
  · cases h

def sliceOf (t : TypeId) : Option TypeId := match P.underlying t with
  | some (.slice e) => some e
  | _ => none
def arrOf (t : TypeId) : Option (Nat × TypeId) := match P.underlying t with
  | some (.array n e) => some (n, e)
  | _ => none
def mapOf (t : TypeId) : Option (TypeId × TypeId) := match P.underlying t with
  | some (.map k e) => some (k, e)
  | _ => none
def fldsOf (t : TypeId) : Option (Array Field) := match P.underlying t with
  | some (.struct fs) => some fs
  | _ => none

variable {P} in
theorem sliceOf_ok {t e : TypeId} (h : sliceOf P t = some e) : P.underlying t = some (.slice e) := by
  unfold sliceOf at h
  split at h
  · rename_i e' he; cases h; exact he
  · cases h
variable {P} in
theorem arrOf_ok {t e : TypeId} {n : Nat} (h : arrOf P t = some (n, e)) : P.underlying t = some (.array n e) := by
  unfold arrOf at h
  split at h
  · rename_i e' he; cases h; exact he
  · cases h
variable {P} in
theorem mapOf_ok {t k e : TypeId} (h : mapOf P t = some (k, e)) : P.underlying t = some (.map k e) := by
  unfold mapOf at h
  split at h
  · rename_i e' he; cases h; exact he
  · cases h
variable {P} in
theorem fldsOf_ok {t : TypeId} {fs : Array Field} (h : fldsOf P t = some fs) : P.underlying t = some (.struct fs) := by
  unfold fldsOf at h
  split at h
  · rename_i e' he; cases h; exact he
  · cases h

def isStr (t : TypeId) : Bool := match P.underlying t with
  | some .string => true
  | _ => false
variable {P} in
theorem isStr_ok {t : TypeId} (h : isStr P t = true) : P.underlying t = some .string := by
  unfold isStr at h
  split at h
  · assumption
  · cases h

def appTy (t t2 : TypeId) (es : Nat) : Bool := match sliceOf P t, sliceOf P t2 with
  | some e, some _ => match P.info? e with
    | some i => match i.zero with
      | some zv => i.size == es && decide (i.bytes ≤ 16384) && decide (0 < i.bytes) && decide (0 < es) && zv.cells.size == es
      | none => false
    | none => false
  | _, _ => false
end

theorem appTy_ok {S : Seat} {t t2 : TypeId} {es : Nat} (h : appTy S.P t t2 es = true) : Nonempty (AppTy S t t2 es) := by
  unfold appTy at h
  split at h
  · rename_i e e2 h1 h2
    split at h
    · rename_i i hi
      split at h
      · rename_i zv hz
        simp only [Bool.and_eq_true, beq_iff_eq, decide_eq_true_eq] at h
        obtain ⟨⟨⟨⟨a, b⟩, c⟩, d⟩, f⟩ := h
        exact ⟨⟨e, e2, i, zv, sliceOf_ok h1, sliceOf_ok h2, hi, a, b, c, d, hz, f⟩⟩
      · cases h
    · cases h
  · cases h

section
variable (S : Seat) (G : List Nat)

def placesOf (t : TypeId) : Option (Nat → Option (Nat × Nat)) :=
  match S.P.underlying t with
  | some (.struct fs) => if fs.all fun x => (S.P.info? x.type).isSome then some fun i => fs[i]?.map fun x => (x.offset, S.P.cellsOf x.type) else none
  | some (.array _ e) => if (S.P.info? e).isSome then some fun i => some (i * S.P.cellsOf e, S.P.cellsOf e) else none
  | _ => none

def mop : Op → Go.Op → Bool
  | .mv x, .move x' => mt S G x x'
  | .mv x, .assign x' => mt S G x x'
  | .pick c a b, .pick c' a' b' => mr S G c c' && mr S G a a' && mr S G b b'
  | .alloc _ z, .alloc t => tz S.P t z
  | .box _ x, .box _ x' => mt S G x x'
  | .build z ps, .build t ps' => tz S.P t z && mrs S G (ps.map (·.2.2)) (ps'.toList.map (·.2)) && (match placesOf S t with
    | some f => decide ((ps.map fun p => some (p.1, p.2.1)) = (ps'.toList.map fun p => f p.1))
    | none => false)
  | .bslice es n z ps, .buildSlice t n' ps' => (match sliceOf S.P t with
    | some e => szIs S.P e es && tz S.P e z && decide (n = n') && decide (n * es ≤ 2 ^ 24) && decide (0 < es) && decide (ps.map (·.1) = ps'.toList.map (·.1)) && mrs S G (ps.map (·.2)) (ps'.toList.map (·.2))
    | none => false)
  | .bslice es n z ps, .makeSlice t (.const (.int .i64 (.ofNat l))) (.const (.int .i64 (.ofNat c))) => (match sliceOf S.P t with
    | some e => (match S.P.info? e with
      | some i => i.size == es && tz S.P e z && ps.isEmpty && decide (n = l) && decide (n = c) && decide (n * es ≤ 2 ^ 24) && decide (0 < es) && decide (i.bytes * n ≤ 2 ^ 40)
      | none => false)
    | none => false)
  | .bmsl _ es n z ps, .buildSlice t n' ps' => (match sliceOf S.P t with
    | some e => szIs S.P e es && tz S.P e z && decide (n = n') && decide (n * es ≤ 2 ^ 24) && decide (0 < es) && decide (ps.map (·.1) = ps'.toList.map (·.1)) && mrs S G (ps.map (·.2)) (ps'.toList.map (·.2))
    | none => false)
  | .load n x, .load t x' => mr S G x x' && tsh S.P t n
  | .loadT x, .load t x' => mr S G x x' && tsh S.P t none
  | .store n x v, .store t x' v' => mr S G x x' && mt S G v v' && szIs S.P t n
  | .bin op x y, .binOp op' _ x' y' _ => decide (op = op') && mr S G x x' && mr S G y y'
  | .eqf neg ty x y, .binOp op' t x' y' _ => decide (op' = if neg then .neq else .eql) && mr S G x x' && mr S G y y' && flatIs S.P t ty && (ty.agg || (!ty.agg && decide (ty.tags = [0]))) && !S.P.eqGuardType S.P.depth t
  | .isnil kd neg x, .binOp op' t x' (.const y) _ => decide (op' = if neg then .neq else .eql) && mr S G x x' && (match kd, y, S.P.underlying t with
    | 0, .slice none 0 0, some (.slice _) => true
    | 1, .nilFunc, some (.func _ _ _) => true
    | 2, .pointer none, some (.pointer _) => true
    | _, _, _ => false)
  | .un op x, .unOp op' _ x' => decide (op = op') && mr S G x x'
  | .conv k x, .convert s d x' => mr S G x x' && (match S.P.underlying d, S.P.underlying s with
    | some (.int k'), some (.int _) => decide (k = k')
    | _, _ => false)
  | .mkf id _ first cap, .makeFunc (.func f) first' cap' => S.fm id == f && mrs S G first first'.toList && mrs S G cap cap'.toList
  | .mkmap _ _ _, .makeMap _ none => true
  | .slice es x lo hi mx, .slice t x' lo' hi' mx' => mr S G x x' && mro S G lo lo' && mro S G hi hi' && mro S G mx mx' && (match sliceOf S.P t with
    | some e => szIs S.P e es
    | none => false)
  | .slArr n es x lo hi mx, .slice t x' lo' hi' mx' => mr S G x x' && mro S G lo lo' && mro S G hi hi' && mro S G mx mx' && (match arrOf S.P t with
    | some (n', e) => n == n' && szIs S.P e es
    | none => false)
  | .slStr x lo hi, .slice t x' lo' hi' none => mr S G x x' && mro S G lo lo' && mro S G hi hi' && isStr S.P t
  | .faddr off x, .fieldAddr t x' i => mr S G x x' && (match fldsOf S.P t with
    | some fs => (match fs[i]? with
      | some f => f.offset == off && (match S.P.info? f.type with | some i => i.size != 0 | none => false)
      | none => false)
    | none => false)
  | .field off n x, .field t x' i => mr S G x x' && (match fldsOf S.P t with
    | some fs => (match fs[i]? with
      | some f => f.offset == off && tsh S.P f.type n
      | none => false)
    | none => false)
  | .iaddr es x i, .indexAddr t x' i' => mr S G x x' && mr S G i i' && (match sliceOf S.P t with
    | some e => szIs S.P e es
    | none => false)
  | .iarr len es x i, .indexAddr t x' i' => mr S G x x' && mr S G i i' && (match arrOf S.P t with
    | some (n, e) => n == len && szIs S.P e es
    | none => false)
  | .index len es n x i, .index t x' i' => mr S G x x' && mr S G i i' && (match arrOf S.P t with
    | some (m, e) => m == len && szIs S.P e es && tsh S.P e n
    | none => false)
  | .istr x i, .index t x' i' => mr S G x x' && mr S G i i' && isStr S.P t
  | .lookup ok ty z m key, .lookup t m' key' ok' => ok == ok' && mr S G m m' && mr S G key key' && (match mapOf S.P t with
    | some (k, e) => tzv S.P e z && flatIs S.P k ty
    | none => false)
  | .ment ty z m key, .mapEntry t m' key' => mr S G m m' && mr S G key key' && (match mapOf S.P t with
    | some (k, e) => tzv S.P e z && flatIs S.P k ty
    | none => false)
  | .estore m s v, .entryStore _ m' s' v' => mr S G m m' && mr S G s s' && mr S G v v'
  | .mupd ty m key v, .mapUpdate t m' key' v' => mr S G m m' && mr S G key key' && mr S G v v' && (match mapOf S.P t with
    | some (k, _) => flatIs S.P k ty
    | none => false)
  | .mupd ty m key v, .insert t m' key' v' => mr S G m m' && mr S G key key' && mr S G v v' && (match mapOf S.P t with
    | some (k, _) => flatIs S.P k ty
    | none => false)
  | .ext x i, .extract x' i' => mr S G x x' && i == i'
  | .nilchk x, .nilCheck x' => mr S G x x'
  | o, .call ⟨.builtin b, args, ts⟩ => (match o, b, args.toList, ts.toList with
    | .len k x, .len, [x'], [t] => mr S G x x' && (match k, S.P.underlying t with
      | 0, some .string => true
      | 1, some (.slice _) => true
      | 2, some (.map _ _) => true
      | _, _ => false)
    | .lenArr n, .len, [_], [t] => (match S.P.underlying t with
      | some (.array m _) => n == m
      | some (.pointer p) => (match S.P.underlying p with | some (.array m _) => n == m | _ => false)
      | _ => false)
    | .min x xs, .min, x' :: xs', _ => mr S G x x' && mrs S G xs xs'
    | .max x xs, .max, x' :: xs', _ => mr S G x x' && mrs S G xs xs'
    | .append es x y, .append, [x', y'], [t, t2] => mt S G x x' && mr S G y y' && appTy S.P t t2 es
    | .appendM _ es x y, .append, [x', y'], [t, t2] => mr S G x x' && mr S G y y' && appTy S.P t t2 es
    | _, _, _, _ => false)
  | .call _ f args, .call ⟨.value f', args', _⟩ => mr S G f f' && mrs S G args args'.toList
  | _, _ => false

end
end Go.Pm
