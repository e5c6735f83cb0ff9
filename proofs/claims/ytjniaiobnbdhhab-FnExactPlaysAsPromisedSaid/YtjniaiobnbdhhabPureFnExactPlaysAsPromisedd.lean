/- The plain statement of FnExactPlaysAsPromised (lemmas): the law's function, over numbers and lists, answers true. No conditions beyond the arguments' own kinds. -/
import Derived.Test.YtjniaiobnbdhhabSPlaysAsPromised14
import Derived.Test.YtjniaiobnbdhhabPureFnExactPlaysAsPromisedc
namespace Go.Proofs.Ytjniaiobnbdhhab.PureFnExactPlaysAsPromised
open Go Go.RowKit Go.Proofs.Ytjniaiobnbdhhab.PFnExactPlaysAsPromised Go.Proofs.YtjniaiobnbdhhabW.PrintWords Go.Proofs.YtjniaiobnbdhhabW.PrintLast Go.Proofs.YtjniaiobnbdhhabW.PrintMore Go.Proofs.Ytjniaiobnbdhhab.Lib
set_option linter.unusedVariables false
set_option linter.unusedSimpArgs false
/-! what is played: the model's row of the last starts, and the map of them -/
def lastOk (x : List Int) (la : Int → Option Int) : Prop := x.length = 20 ∧ ∀ t : Nat, t < 20 → (la (t : Int) = none ∧ x.getD t 0 = -40) ∨ (∃ b, la (t : Int) = some b ∧ x.getD t 0 = b)
theorem lastOk.put {x : List Int} {la : Int → Option Int} (h : lastOk x la) {t : Nat} (ht : t < 20) (v : Int) : lastOk (x.set t v) (impl_spoken.upd la (t : Int) v) := by
  refine ⟨by rw [List.length_set]; exact h.1, fun u hu => ?_⟩
  rw [List.getD_eq_getElem?_getD, List.getElem?_set]
  by_cases e : t = u
  · subst e
    right
    refine ⟨v, by unfold impl_spoken.upd; rw [if_pos rfl], ?_⟩
    rw [if_pos rfl]
    (try rw [if_pos (by rw [h.1]; exact ht)])
    rfl
  · rw [if_neg e, ← List.getD_eq_getElem?_getD]
    have hn : impl_spoken.upd la (t : Int) v (u : Int) = la (u : Int) := by
      unfold impl_spoken.upd
      rw [if_neg (by omega)]
    rw [hn]
    exact h.2 u hu
/-- The model's third condition is the map's. -/
theorem lastOk.third {x : List Int} {la : Int → Option Int} (h : lastOk x la) {f0 f1 rep : Int} (h0 : 0 ≤ f0) (h1 : f0 < 20) (h2 : 0 ≤ f1) (h3 : f1 ≤ 2000) (h4 : 0 ≤ rep) (h5 : rep ≤ 20) :
    (wrap64 (f1 - rd x f0) < wrap64 (2 * rep)) ↔ ((la f0).isSome = true ∧ wrap64 (f1 - (la f0).getD 0) < wrap64 (2 * rep)) := by
  have e : f0 = ((f0.toNat : Nat) : Int) := by omega
  have hx : rd x f0 = x.getD f0.toNat 0 := rfl
  rcases h.2 f0.toNat (by omega) with ⟨a, b⟩ | ⟨v, a, b⟩
  · rw [← e] at a
    rw [hx, b, a]
    constructor
    · intro hw
      unfold wrap64 at hw
      omega
    · intro hw
      exact absurd hw.1 (by simp)
  · rw [← e] at a
    rw [hx, b, a]
    simp
theorem spoken_loops (ps : List Int) (rep d rl m : Int) (l : List S80) (hl : l.length ≤ 60) (hk : ∀ x ∈ l, okH x) (hr0 : 0 ≤ rep) (hr1 : rep ≤ 20)
    (hw : ∀ x ∈ l, (Lit.int .i64 x.f0).wf = true ∧ (Lit.int .i64 x.f1).wf = true) :
    ∀ (i : Nat) (s : List S97 × List Int × List Int × (Int → Option Int)), i ≤ l.length → (s.1.length ≤ i ∧ s.2.1.length ≤ i ∧ lastOk s.2.2.1 s.2.2.2) →
      ∃ r : List S97 × List Int, Ev (fun k => spec_pyAll.l1 k s.1 s.2.1 s.2.2.1 l (l.length : Int) (i : Int) ps rep d rl m) r ∧ Ev (fun k => impl_spoken.l0 k ps rep d rl m s.1 s.2.1 s.2.2.2 l (i : Int)) r ∧ r.1.length ≤ 60 ∧ r.2.length ≤ 60 := by
  refine count_up l.length (fun (i : Nat) (s : List S97 × List Int × List Int × (Int → Option Int)) => s.1.length ≤ i ∧ s.2.1.length ≤ i ∧ lastOk s.2.2.1 s.2.2.2) (fun (i : Nat) (s : List S97 × List Int × List Int × (Int → Option Int)) => ∃ r : List S97 × List Int, Ev (fun k => spec_pyAll.l1 k s.1 s.2.1 s.2.2.1 l (l.length : Int) (i : Int) ps rep d rl m) r ∧ Ev (fun k => impl_spoken.l0 k ps rep d rl m s.1 s.2.1 s.2.2.2 l (i : Int)) r ∧ r.1.length ≤ 60 ∧ r.2.length ≤ 60) ?_ ?_
  · rintro ⟨x8, x9, x10, la⟩ ⟨h1, h2, h3⟩
    refine ⟨(x8, x9), Ev.step (f := fun _ => some (x8, x9)) (fun k => ?_) (ev_now rfl), Ev.step (f := fun _ => some (x8, x9)) (fun k => ?_) (ev_now rfl), by show x8.length ≤ 60; exact Nat.le_trans h1 hl, by show x9.length ≤ 60; exact Nat.le_trans h2 hl⟩
    · simp only [spec_pyAll.l1]
      rw [if_neg (by omega)]
    · simp only [impl_spoken.l0]
      rw [if_neg (by omega)]
  · rintro i ⟨x8, x9, x10, la⟩ hi ⟨h1, h2, h3⟩ ih
    dsimp only at h1 h2 h3
    obtain ⟨o1, o2, o3, o4, o5⟩ := hk _ (List.getElem_mem hi)
    obtain ⟨w0, w1⟩ := hw _ (List.getElem_mem hi)
    have e0 : rd_T80 l (i : Int) = l[i] := rd_get hi
    have h10 := h3.1
    have t3 := h3.third o1 o2 o3 (by omega : l[i].f1 ≤ 2000) hr0 hr1
    by_cases hb : impl_spoken.bad ps rep d rl m la l[i]
    · obtain ⟨r, g1, g2, g3⟩ := ih (x8, x9 ++ [(i : Int)], x10, la) ⟨by show x8.length ≤ i + 1; omega, by show (x9 ++ [(i : Int)]).length ≤ i + 1; rw [List.length_append]; simp only [List.length_cons, List.length_nil]; omega, h3⟩
      refine ⟨r, Ev.step (f := fun k => spec_pyAll.l1 k x8 (x9 ++ [(i : Int)]) x10 l (l.length : Int) ((i + 1 : Nat) : Int) ps rep d rl m) (fun k => ?_) g1, Ev.step (f := fun k => impl_spoken.l0 k ps rep d rl m x8 (x9 ++ [(i : Int)]) la l ((i + 1 : Nat) : Int)) (fun k => ?_) g2, g3⟩
      · simp only [spec_pyAll.l1]
        rw [if_pos (by omega), if_pos (by omega), if_pos (by omega), e0, wn hi (by omega)]
        by_cases c1 : l[i].f0 ≥ (ps.length : Int)
        · rw [if_pos c1, if_pos (by omega)]
        · rw [if_neg c1]
          by_cases c2 : wrap64 (l[i].f2 - l[i].f1) < m
          · rw [if_pos c2, if_pos (by omega)]
          · rw [if_neg c2, if_pos o1, if_pos (by omega)]
            by_cases c3 : wrap64 (l[i].f1 - rd x10 l[i].f0) < wrap64 (2 * rep)
            · rw [if_pos c3, if_pos (by omega)]
            · rw [if_neg c3]
              have c4 : wrap64 (l[i].f1 + d) ≥ wrap64 (l[i].f2 + rl) := by
                rcases hb with h | h | h | h
                · exact absurd h c1
                · exact absurd h c2
                · exact absurd (t3.2 h) c3
                · exact h
              rw [if_pos c4, if_pos (by omega)]
      · simp only [impl_spoken.l0]
        rw [if_pos (by omega), if_pos (by omega), e0, if_pos w0, if_pos hb, if_pos (by omega), wn hi (by omega)]
    · have c1 : ¬ l[i].f0 ≥ (ps.length : Int) := fun h => hb (Or.inl h)
      have c2 : ¬ wrap64 (l[i].f2 - l[i].f1) < m := fun h => hb (Or.inr (Or.inl h))
      have c3 : ¬ wrap64 (l[i].f1 - rd x10 l[i].f0) < wrap64 (2 * rep) := fun h => hb (Or.inr (Or.inr (Or.inl (t3.1 h))))
      have c4 : ¬ wrap64 (l[i].f1 + d) ≥ wrap64 (l[i].f2 + rl) := fun h => hb (Or.inr (Or.inr (Or.inr h)))
      have ef : l[i].f0 = ((l[i].f0.toNat : Nat) : Int) := by omega
      obtain ⟨r, g1, g2, g3⟩ := ih (x8 ++ [(⟨rd ps l[i].f0, wrap64 (l[i].f1 + d), wrap64 (l[i].f2 + rl)⟩ : S97)], x9, x10.set l[i].f0.toNat l[i].f1, impl_spoken.upd la l[i].f0 l[i].f1) ⟨by show (x8 ++ [_]).length ≤ i + 1; rw [List.length_append]; simp only [List.length_cons, List.length_nil]; omega, by show x9.length ≤ i + 1; omega, by
        have := h3.put (t := l[i].f0.toNat) (by omega) l[i].f1
        rw [← ef] at this
        exact this⟩
      refine ⟨r, Ev.step (f := fun k => spec_pyAll.l1 k (x8 ++ [(⟨rd ps l[i].f0, wrap64 (l[i].f1 + d), wrap64 (l[i].f2 + rl)⟩ : S97)]) x9 (x10.set l[i].f0.toNat l[i].f1) l (l.length : Int) ((i + 1 : Nat) : Int) ps rep d rl m) (fun k => ?_) g1, Ev.step (f := fun k => impl_spoken.l0 k ps rep d rl m (x8 ++ [(⟨rd ps l[i].f0, wrap64 (l[i].f1 + d), wrap64 (l[i].f2 + rl)⟩ : S97)]) x9 (impl_spoken.upd la l[i].f0 l[i].f1) l ((i + 1 : Nat) : Int)) (fun k => ?_) g2, g3⟩
      · simp only [spec_pyAll.l1]
        rw [if_pos (by omega), if_pos (by omega), if_pos (by omega), e0, wn hi (by omega), if_neg c1, if_neg c2, if_pos o1, if_pos (by omega), if_neg c3, if_neg c4, if_pos (by omega), if_pos (by omega)]
      · simp only [impl_spoken.l0]
        rw [if_pos (by omega), if_pos (by omega), e0, if_pos w0, if_neg hb, if_pos ⟨w1, o1, by omega⟩, wn hi (by omega)]
end Go.Proofs.Ytjniaiobnbdhhab.PureFnExactPlaysAsPromised
