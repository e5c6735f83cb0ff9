/- The plain statement of FnPassesPlays (lemmas): the law's function, over numbers and lists, answers true. No conditions beyond the arguments' own kinds. -/
import Derived.Test.YtdcchnfndhkfaaaSFnPassesPlays20
import Derived.Test.YtdcchnfndhkfaaaPureFnPassesPlaysd
namespace Go.Proofs.Ytdcchnfndhkfaaa.PureFnPassesPlays
open Go Go.RowKit Go.Proofs.Ytdcchnfndhkfaaa.PFnPassesPlays Go.Proofs.YtdcchnfndhkfaaaW.PrintWords Go.Proofs.YtdcchnfndhkfaaaW.PrintLast Go.Proofs.YtdcchnfndhkfaaaW.PrintMore Go.Proofs.Ytdcchnfndhkfaaa.Lib
set_option linter.unusedVariables false
set_option linter.unusedSimpArgs false
def lastOk (x : List Int) (la : Int → Option Int) : Prop := x.length = 20 ∧ ∀ t : Nat, t < 20 → (la (t : Int) = none ∧ x.getD t 0 = -40) ∨ (∃ b, la (t : Int) = some b ∧ x.getD t 0 = b)
theorem lastOk.put {x : List Int} {la : Int → Option Int} (h : lastOk x la) {t : Nat} (ht : t < 20) (v : Int) : lastOk (x.set t v) (impl_spoken.upd la (t : Int) v) := by
  refine ⟨by rw [List.length_set]; exact h.1, fun u hu => ?_⟩
  rw [List.getD_eq_getElem?_getD, List.getElem?_set]
  by_cases e : t = u
  · subst e
    right
    refine ⟨v, by unfold impl_spoken.upd; rw [if_pos rfl], ?_⟩
    rw [if_pos rfl]
    (try rw [if_pos (by rw [h.1]; exact ht)])
    rfl
  · rw [if_neg e, ← List.getD_eq_getElem?_getD]
    have hn : impl_spoken.upd la (t : Int) v (u : Int) = la (u : Int) := by
      unfold impl_spoken.upd
      rw [if_neg (by omega)]
    rw [hn]
    exact h.2 u hu
/-- The model's third condition is the map's. -/
theorem lastOk.third {x : List Int} {la : Int → Option Int} (h : lastOk x la) {f0 f1 rep : Int} (h0 : 0 ≤ f0) (h1 : f0 < 20) (h2 : 0 ≤ f1) (h3 : f1 ≤ 2000) (h4 : 0 ≤ rep) (h5 : rep ≤ 20) :
    (wrap64 (f1 - rd x f0) < wrap64 (2 * rep)) ↔ ((la f0).isSome = true ∧ wrap64 (f1 - (la f0).getD 0) < wrap64 (2 * rep)) := by
  have e : f0 = ((f0.toNat : Nat) : Int) := by omega
  have hx : rd x f0 = x.getD f0.toNat 0 := rfl
  rcases h.2 f0.toNat (by omega) with ⟨a, b⟩ | ⟨v, a, b⟩
  · rw [← e] at a
    rw [hx, b, a]
    constructor
    · intro hw
      unfold wrap64 at hw
      omega
    · intro hw
      exact absurd hw.1 (by simp)
  · rw [← e] at a
    rw [hx, b, a]
    simp
def sp (ps : List Int) (d rl : Int) (x : S60) : S37 := ⟨rd ps x.f0, wrap64 (x.f1 + d), wrap64 (x.f2 + rl)⟩
theorem spoken_loops (ps : List Int) (rep d rl m : Int) (l : List S60) (hl : l.length ≤ 60) (hk : ∀ x ∈ l, okH x) (hr0 : 0 ≤ rep) (hr1 : rep ≤ 20)
    (hw : ∀ x ∈ l, (Lit.int .i64 x.f0).wf = true ∧ (Lit.int .i64 x.f1).wf = true) :
    ∀ (i : Nat) (s : List S37 × List Int × List Int × (Int → Option Int)), i ≤ l.length → (s.1.length ≤ i ∧ incr i s.2.1 ∧ lastOk s.2.2.1 s.2.2.2) →
      ∃ r : List S37 × List Int, Ev (fun k => spec_pyAll.l1 k s.1 s.2.1 s.2.2.1 l (l.length : Int) (i : Int) ps rep d rl m) r ∧ Ev (fun k => impl_spoken.l0 k ps rep d rl m s.1 s.2.1 s.2.2.2 l (i : Int)) r ∧ r.1.length ≤ 60 ∧ incr 60 r.2 ∧ (r.2 = [] → s.2.1 = [] ∧ (s.1 = (l.take i).map (sp ps d rl) → r.1 = l.map (sp ps d rl))) := by
  refine count_up l.length (fun (i : Nat) (s : List S37 × List Int × List Int × (Int → Option Int)) => s.1.length ≤ i ∧ incr i s.2.1 ∧ lastOk s.2.2.1 s.2.2.2) (fun (i : Nat) (s : List S37 × List Int × List Int × (Int → Option Int)) => ∃ r : List S37 × List Int, Ev (fun k => spec_pyAll.l1 k s.1 s.2.1 s.2.2.1 l (l.length : Int) (i : Int) ps rep d rl m) r ∧ Ev (fun k => impl_spoken.l0 k ps rep d rl m s.1 s.2.1 s.2.2.2 l (i : Int)) r ∧ r.1.length ≤ 60 ∧ incr 60 r.2 ∧ (r.2 = [] → s.2.1 = [] ∧ (s.1 = (l.take i).map (sp ps d rl) → r.1 = l.map (sp ps d rl)))) ?_ ?_
  · rintro ⟨x8, x9, x10, la⟩ ⟨h1, h2, h3⟩
    refine ⟨(x8, x9), Ev.step (f := fun _ => some (x8, x9)) (fun k => ?_) (ev_now rfl), Ev.step (f := fun _ => some (x8, x9)) (fun k => ?_) (ev_now rfl), by show x8.length ≤ 60; exact Nat.le_trans h1 hl, h2.up hl, fun h => ⟨h, fun e => by rw [e, List.take_length]⟩⟩
    · simp only [spec_pyAll.l1]
      rw [if_neg (by omega)]
    · simp only [impl_spoken.l0]
      rw [if_neg (by omega)]
  · rintro i ⟨x8, x9, x10, la⟩ hi ⟨h1, h2, h3⟩ ih
    dsimp only at h1 h2 h3
    have h2' := h2.1
    obtain ⟨o1, o2, o3, o4, o5⟩ := hk _ (List.getElem_mem hi)
    obtain ⟨w0, w1⟩ := hw _ (List.getElem_mem hi)
    have e0 : rd_T60 l (i : Int) = l[i] := rd_get hi
    have h10 := h3.1
    have t3 := h3.third o1 o2 o3 (by omega : l[i].f1 ≤ 2000) hr0 hr1
    by_cases hb : impl_spoken.bad ps rep d rl m la l[i]
    · obtain ⟨r, g1, g2, g3, g4, g5⟩ := ih (x8, x9 ++ [(i : Int)], x10, la) ⟨by show x8.length ≤ i + 1; omega, h2.snoc, h3⟩
      refine ⟨r, Ev.step (f := fun k => spec_pyAll.l1 k x8 (x9 ++ [(i : Int)]) x10 l (l.length : Int) ((i + 1 : Nat) : Int) ps rep d rl m) (fun k => ?_) g1, Ev.step (f := fun k => impl_spoken.l0 k ps rep d rl m x8 (x9 ++ [(i : Int)]) la l ((i + 1 : Nat) : Int)) (fun k => ?_) g2, g3, g4, fun h => absurd (g5 h).1 (by simp)⟩
      · simp only [spec_pyAll.l1]
        rw [if_pos (by omega), if_pos (by omega), if_pos (by omega), e0, wn hi (by omega)]
        by_cases c1 : l[i].f0 ≥ (ps.length : Int)
        · rw [if_pos c1, if_pos (by omega)]
        · rw [if_neg c1]
          by_cases c2 : wrap64 (l[i].f2 - l[i].f1) < m
          · rw [if_pos c2, if_pos (by omega)]
          · rw [if_neg c2, if_pos o1, if_pos (by omega)]
            by_cases c3 : wrap64 (l[i].f1 - rd x10 l[i].f0) < wrap64 (2 * rep)
            · rw [if_pos c3, if_pos (by omega)]
            · rw [if_neg c3]
              have c4 : wrap64 (l[i].f1 + d) ≥ wrap64 (l[i].f2 + rl) := by
                rcases hb with h | h | h | h
                · exact absurd h c1
                · exact absurd h c2
                · exact absurd (t3.2 h) c3
                · exact h
              rw [if_pos c4, if_pos (by omega)]
      · simp only [impl_spoken.l0]
        rw [if_pos (by omega), if_pos (by omega), e0, if_pos w0, if_pos hb, if_pos (by omega), wn hi (by omega)]
    · have c1 : ¬ l[i].f0 ≥ (ps.length : Int) := fun h => hb (Or.inl h)
      have c2 : ¬ wrap64 (l[i].f2 - l[i].f1) < m := fun h => hb (Or.inr (Or.inl h))
      have c3 : ¬ wrap64 (l[i].f1 - rd x10 l[i].f0) < wrap64 (2 * rep) := fun h => hb (Or.inr (Or.inr (Or.inl (t3.1 h))))
      have c4 : ¬ wrap64 (l[i].f1 + d) ≥ wrap64 (l[i].f2 + rl) := fun h => hb (Or.inr (Or.inr (Or.inr h)))
      have ef : l[i].f0 = ((l[i].f0.toNat : Nat) : Int) := by omega
      obtain ⟨r, g1, g2, g3, g4, g5⟩ := ih (x8 ++ [(⟨rd ps l[i].f0, wrap64 (l[i].f1 + d), wrap64 (l[i].f2 + rl)⟩ : S37)], x9, x10.set l[i].f0.toNat l[i].f1, impl_spoken.upd la l[i].f0 l[i].f1) ⟨by show (x8 ++ [_]).length ≤ i + 1; rw [List.length_append]; simp only [List.length_cons, List.length_nil]; omega, h2.up (Nat.le_succ i), by
        have := h3.put (t := l[i].f0.toNat) (by omega) l[i].f1
        rw [← ef] at this
        exact this⟩
      refine ⟨r, Ev.step (f := fun k => spec_pyAll.l1 k (x8 ++ [(⟨rd ps l[i].f0, wrap64 (l[i].f1 + d), wrap64 (l[i].f2 + rl)⟩ : S37)]) x9 (x10.set l[i].f0.toNat l[i].f1) l (l.length : Int) ((i + 1 : Nat) : Int) ps rep d rl m) (fun k => ?_) g1, Ev.step (f := fun k => impl_spoken.l0 k ps rep d rl m (x8 ++ [(⟨rd ps l[i].f0, wrap64 (l[i].f1 + d), wrap64 (l[i].f2 + rl)⟩ : S37)]) x9 (impl_spoken.upd la l[i].f0 l[i].f1) l ((i + 1 : Nat) : Int)) (fun k => ?_) g2, g3, g4, fun h => ⟨(g5 h).1, fun e => (g5 h).2 (by show x8 ++ [_] = _; rw [show x8 = (l.take i).map (sp ps d rl) from e, List.take_add_one, List.getElem?_eq_getElem hi, List.map_append]; rfl)⟩⟩
      · simp only [spec_pyAll.l1]
        rw [if_pos (by omega), if_pos (by omega), if_pos (by omega), e0, wn hi (by omega), if_neg c1, if_neg c2, if_pos o1, if_pos (by omega), if_neg c3, if_neg c4, if_pos (by omega), if_pos (by omega)]
      · simp only [impl_spoken.l0]
        rw [if_pos (by omega), if_pos (by omega), e0, if_pos w0, if_neg hb, if_pos ⟨w1, o1, by omega⟩, wn hi (by omega)]

def actOk (a b c : Int) : Prop := (0 ≤ a ∧ a ≤ 40) ∧ (0 ≤ b ∧ b ≤ 40) ∧ (0 ≤ c ∧ c ≤ 40)
instance (a b c : Int) : Decidable (actOk a b c) := by unfold actOk; infer_instance
theorem spec_act (a b c : Int) : spec_pyAction.f a b c = some (decide (actOk a b c)) := by
  unfold spec_pyAction.f
  simp only [l1In_eq, Option.bind_some]
  by_cases h1 : 0 ≤ a ∧ a ≤ 40
  · rw [if_pos (decide_eq_true h1)]
    by_cases h2 : 0 ≤ b ∧ b ≤ 40
    · rw [if_pos (decide_eq_true h2)]
      exact congrArg some (decide_eq_decide.2 ⟨fun h => ⟨h1, h2, h⟩, fun h => h.2.2⟩)
    · rw [if_neg (by simpa using h2)]
      exact congrArg some (decide_eq_false (fun h => h2 h.2.1)).symm
  · rw [if_neg (by simpa using h1)]
    exact congrArg some (decide_eq_false (fun h => h1 h.1)).symm
theorem impl_act (a b c : Int) : impl_IsAction.f a b c = some (decide (actOk a b c)) := by
  unfold impl_IsAction.f actOk
  by_cases h1 : a ≥ 0
  · by_cases h2 : a ≤ 40
    · by_cases h3 : b ≥ 0
      · by_cases h4 : b ≤ 40
        · by_cases h5 : c ≥ 0
          · rw [if_pos h1, if_pos h2, if_pos h3, if_pos h4, if_pos h5]
            exact congrArg some (decide_eq_decide.2 ⟨fun h => by omega, fun h => by omega⟩)
          · rw [if_pos h1, if_pos h2, if_pos h3, if_pos h4, if_neg h5]
            exact congrArg some (decide_eq_false (by omega)).symm
        · rw [if_pos h1, if_pos h2, if_pos h3, if_neg h4]
          exact congrArg some (decide_eq_false (by omega)).symm
      · rw [if_pos h1, if_pos h2, if_neg h3]
        exact congrArg some (decide_eq_false (by omega)).symm
    · rw [if_pos h1, if_neg h2]
      exact congrArg some (decide_eq_false (by omega)).symm
  · rw [if_neg h1]
    exact congrArg some (decide_eq_false (by omega)).symm
theorem spec_most (m : Int) : spec_vfMost.f m = some (decide (0 ≤ m ∧ m ≤ 50)) := by
  unfold spec_vfMost.f
  simp only [l1In_eq, Option.bind_some]
theorem impl_most (m : Int) : impl_isTolerance.f m = some (decide (0 ≤ m ∧ m ≤ 50)) := by
  unfold impl_isTolerance.f
  by_cases h : m ≥ 0
  · rw [if_pos h]
    exact congrArg some (decide_eq_decide.2 ⟨fun h => by omega, fun h => by omega⟩)
  · rw [if_neg h]
    exact congrArg some (decide_eq_false (by omega)).symm
theorem py_both (pi : List Int) (rp : Int) (s : List S60) (d b c : Int) (hi : isIn pi rp) (hs : isSh s) :
    ∃ r : List S37 × List Int, Ev (fun k => spec_pyAll.f k pi rp s d b c) r ∧ Ev (fun k => impl_spoken.f k pi rp s d b c) r ∧ r.1.length ≤ 60 ∧ incr 60 r.2 ∧ (r.2 = [] → r.1 = s.map (sp pi d b)) := by
  have hk : ∀ x ∈ s, okH x := fun x hx => by
    obtain ⟨i, h, e⟩ := List.getElem_of_mem hx
    rw [← e]
    exact isSh_get hs h
  have hw : ∀ x ∈ s, (Lit.int .i64 x.f0).wf = true ∧ (Lit.int .i64 x.f1).wf = true := fun x hx => by
    obtain ⟨h1, h2, h3, h4, h5⟩ := hk x hx
    exact ⟨wmk (by omega) (by omega), wmk (by omega) (by omega)⟩
  have base : ∀ (i : Nat) (x : List Int), i ≤ 20 → (x.length = 20 ∧ ∀ t : Nat, t < i → x.getD t 0 = -40) → ∃ r : List S37 × List Int, Ev (fun k => spec_pyAll.l0 k s x ((20 : Nat) : Int) (i : Int) pi rp d b c) r ∧ (Ev (fun k => impl_spoken.f k pi rp s d b c) r ∧ r.1.length ≤ 60 ∧ incr 60 r.2 ∧ (r.2 = [] → r.1 = s.map (sp pi d b))) := by
    refine ev_for_ex (fun k x i => spec_pyAll.l0 k s x ((20 : Nat) : Int) i pi rp d b c) 20 (fun i x => x.length = 20 ∧ ∀ t : Nat, t < i → x.getD t 0 = -40) (fun r => Ev (fun k => impl_spoken.f k pi rp s d b c) r ∧ r.1.length ≤ 60 ∧ incr 60 r.2 ∧ (r.2 = [] → r.1 = s.map (sp pi d b))) ?_ ?_
    · rintro x ⟨h1, h2⟩
      obtain ⟨r, g1, g2, g3⟩ := spoken_loops pi rp d b c s hs.1 hk (by have := hi.2.2; omega) (by have := hi.2.2.2; omega) hw 0 ([], [], x, fun _ => none) (Nat.zero_le _) ⟨Nat.zero_le _, incr.nil _, h1, fun t ht => Or.inl ⟨rfl, h2 t ht⟩⟩
      refine ⟨r, Ev.step (fun k => ?_) g1, g2, g3.1, g3.2.1, fun h => (g3.2.2 h).2 rfl⟩
      simp only [spec_pyAll.l0]
      rw [if_neg (by omega)]
      rfl
    · rintro i x h ⟨h1, h2⟩ ih
      obtain ⟨r, g1, g2⟩ := ih (x.set i (-40)) ⟨by rw [List.length_set]; exact h1, fun t ht => by
        rw [List.getD_eq_getElem?_getD, List.getElem?_set]
        by_cases e : i = t
        · subst e
          rw [if_pos rfl]
          (try rw [if_pos (by omega)])
          rfl
        · rw [if_neg e, ← List.getD_eq_getElem?_getD]
          exact h2 t (by omega)⟩
      refine ⟨r, Ev.step (fun k => ?_) g1, g2⟩
      simp only [spec_pyAll.l0]
      rw [if_pos (by omega), if_pos (by omega), if_pos (by omega), wn h (by omega), Int.toNat_natCast]
  obtain ⟨r, g1, g2, g3⟩ := base 0 (List.replicate 20 0) (Nat.zero_le _) ⟨List.length_replicate, fun t ht => absurd ht (Nat.not_lt_zero _)⟩
  refine ⟨r, ?_, g2, g3⟩
  unfold spec_pyAll.f
  refine ev_pos (by omega) (ev_call rfl ?_)
  rw [show (((List.replicate 20 (0 : Int)).length : Nat) : Int) = ((20 : Nat) : Int) from by rw [List.length_replicate]]
  exact g1
end Go.Proofs.Ytdcchnfndhkfaaa.PureFnPassesPlays
