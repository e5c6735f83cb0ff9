/- The plain statement of FnExactPlaysAsPromised (lemmas): the law's function, over numbers and lists, answers true. No conditions beyond the arguments' own kinds. -/
import Derived.Test.YtjniaiobnbdhhabSPlaysAsPromised14
import Derived.Test.YtjniaiobnbdhhabPureFnExactPlaysAsPromisede
namespace Go.Proofs.Ytjniaiobnbdhhab.PureFnExactPlaysAsPromised
open Go Go.RowKit Go.Proofs.Ytjniaiobnbdhhab.PFnExactPlaysAsPromised Go.Proofs.YtjniaiobnbdhhabW.PrintWords Go.Proofs.YtjniaiobnbdhhabW.PrintLast Go.Proofs.YtjniaiobnbdhhabW.PrintMore Go.Proofs.Ytjniaiobnbdhhab.Lib
set_option linter.unusedVariables false
set_option linter.unusedSimpArgs false
def seen (u : List Bool) (g : Nat → Int) (v : Int) (i : Nat) (F : Int) : Prop := (F = -1 ∧ ∀ i', i' < i → ¬ (g i' = v ∧ usedAt u i' = false)) ∨ (∃ i0 : Nat, F = (i0 : Int) ∧ i0 < i ∧ firstFit (usedAt u) g v i0)
theorem seen.same {u : List Bool} {g : Nat → Int} {v : Int} {i : Nat} {F : Int} (h : seen u g v i F) (hn : ¬ (g i = v ∧ usedAt u i = false) ∨ 0 ≤ F) : seen u g v (i + 1) F := by
  rcases h with ⟨h1, h2⟩ | ⟨i0, h1, h2, h3⟩
  · left
    refine ⟨h1, fun i' hi' => ?_⟩
    by_cases e : i' = i
    · subst e
      rcases hn with hn | hn
      · exact hn
      · omega
    · exact h2 i' (by omega)
  · exact Or.inr ⟨i0, h1, by omega, h3⟩
theorem seen.found {u : List Bool} {g : Nat → Int} {v : Int} {i : Nat} (h : seen u g v i (-1)) (h1 : g i = v) (h2 : usedAt u i = false) : seen u g v (i + 1) (i : Int) := by
  rcases h with ⟨_, h4⟩ | ⟨i0, h3, _, _⟩
  · exact Or.inr ⟨i, rfl, by omega, h1, h2, h4⟩
  · omega
theorem spec_l1 (l : List S95) (p : List S97) (d most : Int) (u : List Bool) (hl : l.length ≤ 1048576) (hp : p.length ≤ 60) (hu : u.length = p.length) (j : Nat) (hj : j < l.length) (V : Bool × Bool)
    (hnone : (∀ i, i < p.length → ¬ firstFit (usedAt u) (pitchP p) (pitchN l j) i) → V = (false, true))
    (hbad : ∀ i, i < p.length → firstFit (usedAt u) (pitchP p) (pitchN l j) i → ¬ within d most l p j i → V = (false, true))
    (hgood : ∀ i, i < p.length → firstFit (usedAt u) (pitchP p) (pitchN l j) i → within d most l p j i → Ev (fun k => spec_PlaysAsPromised.l0 k l p (timesOf d most l) (u.set i true) l (l.length : Int) ((j + 1 : Nat) : Int)) V) :
    ∀ (i : Nat) (F : Int), i ≤ p.length → seen u (pitchP p) (pitchN l j) i F → Ev (fun k => spec_PlaysAsPromised.l1 k l p (timesOf d most l) u (j : Int) F l (l.length : Int) (j : Int) p (p.length : Int) (i : Int) (rd_T95 l (j : Int)).f0 (rd_T95 l (j : Int)).f1 (rd_T95 l (j : Int)).f2) V := by
  have hT : (timesOf d most l).length = l.length := by unfold timesOf; rw [List.length_map]
  have hR : rd_L6 (timesOf d most l) (j : Int) = [loOf d most (rd_T95 l (j : Int)), hiOf d most (rd_T95 l (j : Int))] := by
    rw [show rd_T95 l (j : Int) = l[j] from rd_get hj]
    show (timesOf d most l).getD (j : Int).toNat [] = _
    rw [Int.toNat_natCast]
    exact timesOf_at d most l hj
  refine ev_for (fun k F i => spec_PlaysAsPromised.l1 k l p (timesOf d most l) u (j : Int) F l (l.length : Int) (j : Int) p (p.length : Int) i (rd_T95 l (j : Int)).f0 (rd_T95 l (j : Int)).f1 (rd_T95 l (j : Int)).f2) p.length (fun i F => seen u (pitchP p) (pitchN l j) i F) (fun _ _ => V) ?_ ?_
  · rintro F (⟨e, h⟩ | ⟨i0, e, h1, h2⟩)
    · subst e
      refine Ev.step (f := fun _ => some (false, true)) (fun k => ?_) (ev_now (hnone fun i hi hf => h i hi ⟨hf.1, hf.2.1⟩).symm)
      simp only [spec_PlaysAsPromised.l1]
      rw [if_neg (by omega), if_pos (by omega)]
    · subst e
      by_cases hw : within d most l p j i0
      · refine Ev.step (f := fun k => spec_PlaysAsPromised.l0 k l p (timesOf d most l) (u.set i0 true) l (l.length : Int) ((j + 1 : Nat) : Int)) (fun k => ?_) (hgood i0 h1 h2 hw)
        simp only [spec_PlaysAsPromised.l1]
        rw [if_neg (by omega), if_neg (by omega), if_pos (by omega), if_pos (by omega), if_pos (by omega), if_pos (by omega), hR, if_pos (by simp), if_pos (by simp), l1In_eq]
        simp only [Option.bind_some]
        rw [if_pos (by rw [decide_eq_true_eq]; exact hw), if_pos (by omega), wn hj (by omega), Int.toNat_natCast]
      · refine Ev.step (f := fun _ => some (false, true)) (fun k => ?_) (ev_now (hbad i0 h1 h2 hw).symm)
        simp only [spec_PlaysAsPromised.l1]
        rw [if_neg (by omega), if_neg (by omega), if_pos (by omega), if_pos (by omega), if_pos (by omega), if_pos (by omega), hR, if_pos (by simp), if_pos (by simp), l1In_eq]
        simp only [Option.bind_some]
        rw [if_neg (by rw [decide_eq_true_eq]; exact hw)]
  · intro i F hi hs ih
    rcases Int.lt_or_le F 0 with hF | hF
    · have eF : F = -1 := by
        rcases hs with h | ⟨i0, h, _, _⟩
        · exact h.1
        · omega
      subst eF
      cases hx : usedAt u i with
      | true =>
        refine Ev.step (fun k => ?_) (ih (-1) (hs.same (Or.inl fun h => by rw [hx] at h; exact absurd h.2 (by simp))))
        simp only [spec_PlaysAsPromised.l1]
        rw [if_pos (by omega), if_pos (by omega), if_pos (by omega), if_pos (by omega), if_pos (by omega), if_pos (by show u.getD (i : Int).toNat false = true; rw [Int.toNat_natCast]; exact hx), wn hi (by omega)]
      | false =>
        by_cases hv : pitchP p i = pitchN l j
        · refine Ev.step (fun k => ?_) (ih (i : Int) (hs.found hv hx))
          simp only [spec_PlaysAsPromised.l1]
          rw [if_pos (by omega), if_pos (by omega), if_pos (by omega), if_pos (by omega), if_pos (by omega), if_neg (by show ¬ u.getD (i : Int).toNat false = true; rw [Int.toNat_natCast, show u.getD i false = false from hx]; simp), if_pos (by exact hv), wn hi (by omega)]
        · refine Ev.step (fun k => ?_) (ih (-1) (hs.same (Or.inl fun h => hv h.1)))
          simp only [spec_PlaysAsPromised.l1]
          rw [if_pos (by omega), if_pos (by omega), if_pos (by omega), if_pos (by omega), if_pos (by omega), if_neg (by show ¬ u.getD (i : Int).toNat false = true; rw [Int.toNat_natCast, show u.getD i false = false from hx]; simp), if_neg (by exact hv), wn hi (by omega)]
    · refine Ev.step (fun k => ?_) (ih F (hs.same (Or.inr hF)))
      simp only [spec_PlaysAsPromised.l1]
      rw [if_pos (by omega), if_pos (by omega), if_pos (by omega), if_neg (by omega), wn hi (by omega)]
/-- Used are those that were given to earlier ones. -/
def givenTo (f g : Nat → Int) (m j : Nat) (u : List Bool) : Prop := u.length = m ∧ ∀ i, i < m → (usedAt u i = true ↔ ∃ j', j' < j ∧ Mt f g j' i)
theorem givenTo.fit {f g : Nat → Int} {m j : Nat} {u : List Bool} (h : givenTo f g m j u) {i : Nat} (hi : i < m) : firstFit (usedAt u) g (f j) i ↔ Mt f g j i := (greedy h.2 hi).symm
theorem givenTo.put {f g : Nat → Int} {m j : Nat} {u : List Bool} (h : givenTo f g m j u) {i : Nat} (hi : i < m) (hm : Mt f g j i) : givenTo f g m (j + 1) (u.set i true) := by
  refine ⟨by rw [List.length_set]; exact h.1, fun q hq => ?_⟩
  unfold usedAt
  rw [List.getD_eq_getElem?_getD, List.getElem?_set]
  by_cases e : i = q
  · subst e
    rw [if_pos rfl]
    (try rw [if_pos (by rw [h.1]; exact hi)])
    exact ⟨fun _ => ⟨j, by omega, hm⟩, fun _ => rfl⟩
  · rw [if_neg e, ← List.getD_eq_getElem?_getD]
    refine (h.2 q hq).trans ⟨fun ⟨a, b, c⟩ => ⟨a, by omega, c⟩, fun ⟨a, b, c⟩ => ⟨a, ?_, c⟩⟩
    by_cases ea : a = j
    · subst ea
      exact absurd (Mt_right hm c) e
    · omega
theorem givenTo.none (f g : Nat → Int) (m : Nat) : givenTo f g m 0 (List.replicate m false) := by
  refine ⟨List.length_replicate, fun i hi => ?_⟩
  unfold usedAt
  rw [List.getD_eq_getElem?_getD, List.getElem?_replicate, if_pos hi]
  exact ⟨fun h => absurd h (by simp), fun ⟨a, b, _⟩ => absurd b (Nat.not_lt_zero _)⟩
theorem spec_l0 (l : List S95) (p : List S97) (d most : Int) (hl : l.length ≤ 1048576) (hp : p.length ≤ 60) (V : Bool) (hV : V = true ↔ kept d most l p) :
    ∀ (j : Nat) (u : List Bool), j ≤ l.length → (givenTo (pitchN l) (pitchP p) p.length j u ∧ ∀ j', j' < j → ∃ i, i < p.length ∧ Mt (pitchN l) (pitchP p) j' i ∧ within d most l p j' i) →
      Ev (fun k => spec_PlaysAsPromised.l0 k l p (timesOf d most l) u l (l.length : Int) (j : Int)) (V, true) := by
  refine ev_for (fun k u j => spec_PlaysAsPromised.l0 k l p (timesOf d most l) u l (l.length : Int) j) l.length (fun j u => givenTo (pitchN l) (pitchP p) p.length j u ∧ ∀ j', j' < j → ∃ i, i < p.length ∧ Mt (pitchN l) (pitchP p) j' i ∧ within d most l p j' i) (fun _ _ => (V, true)) ?_ ?_
  · rintro u ⟨h1, h2⟩
    refine Ev.step (f := fun _ => some (((p.length : Int) == (l.length : Int)), true)) (fun k => ?_) (ev_now ?_)
    · simp only [spec_PlaysAsPromised.l0]
      rw [if_neg (by omega)]
    · congr 1
      rw [Bool.eq_iff_iff, hV, beq_iff_eq]
      exact ⟨fun h => ⟨by omega, h2⟩, fun h => by have := h.1; omega⟩
  · rintro j u hj ⟨h1, h2⟩ ih
    refine Ev.step (f := fun k => spec_PlaysAsPromised.l1 k l p (timesOf d most l) u (j : Int) (-1) l (l.length : Int) (j : Int) p (p.length : Int) ((0 : Nat) : Int) (rd_T95 l (j : Int)).f0 (rd_T95 l (j : Int)).f1 (rd_T95 l (j : Int)).f2) (fun k => ?_)
      (spec_l1 l p d most u hl hp h1.1 j hj (V, true) (fun hn => ?_) (fun i hi hf hw => ?_) (fun i hi hf hw => ?_) 0 (-1) (Nat.zero_le _) (Or.inl ⟨rfl, fun i' h => absurd h (Nat.not_lt_zero _)⟩))
    · simp only [spec_PlaysAsPromised.l0]
      rw [if_pos (by omega), if_pos (by omega), if_pos (by omega)]
      rfl
    · congr 1
      cases hc : V with
      | false => rfl
      | true =>
        obtain ⟨i, hi, hm, _⟩ := (hV.1 hc).2 j hj
        exact absurd ((h1.fit hi).2 hm) (hn i hi)
    · congr 1
      cases hc : V with
      | false => rfl
      | true =>
        obtain ⟨i', hi', hm, hw'⟩ := (hV.1 hc).2 j hj
        have e := Mt_right hm ((h1.fit hi).1 hf)
        subst e
        exact absurd hw' hw
    · refine ih _ ⟨h1.put hi ((h1.fit hi).1 hf), fun j' hj' => ?_⟩
      by_cases e : j' = j
      · subst e
        exact ⟨i, hi, (h1.fit hi).1 hf, hw⟩
      · exact h2 j' (by omega)
theorem impl_l1 (l : List S95) (p : List S97) (d most : Int) (u : List Bool) (hl : l.length ≤ 1048576) (hp : p.length ≤ 60) (hu : u.length = l.length) (i : Nat) (hi : i < p.length) (V : Bool × Bool)
    (hnone : (∀ j, j < l.length → ¬ firstFit (usedAt u) (pitchN l) (pitchP p i) j) → V = (false, true))
    (hbad : ∀ j, j < l.length → firstFit (usedAt u) (pitchN l) (pitchP p i) j → ¬ within d most l p j i → V = (false, true))
    (hgood : ∀ j, j < l.length → firstFit (usedAt u) (pitchN l) (pitchP p i) j → within d most l p j i → Ev (fun k => impl_PlaysAsPromised.l0 k l (timesOf d most l) (u.set j true) p (p.length : Int) ((i + 1 : Nat) : Int)) V) :
    ∀ (j : Nat) (F : Int), j ≤ l.length → seen u (pitchN l) (pitchP p i) j F → Ev (fun k => impl_PlaysAsPromised.l1 k l (timesOf d most l) u F p (p.length : Int) (i : Int) l (l.length : Int) (j : Int) (rd_T97 p (i : Int)).f0 (rd_T97 p (i : Int)).f1 (rd_T97 p (i : Int)).f2) V := by
  have hT : (timesOf d most l).length = l.length := by unfold timesOf; rw [List.length_map]
  have hR : ∀ j : Nat, j < l.length → rd_L6 (timesOf d most l) (j : Int) = [loOf d most (rd_T95 l (j : Int)), hiOf d most (rd_T95 l (j : Int))] := fun j hj => by
    rw [show rd_T95 l (j : Int) = l[j] from rd_get hj]
    show (timesOf d most l).getD (j : Int).toNat [] = _
    rw [Int.toNat_natCast]
    exact timesOf_at d most l hj
  refine ev_for (fun k F j => impl_PlaysAsPromised.l1 k l (timesOf d most l) u F p (p.length : Int) (i : Int) l (l.length : Int) j (rd_T97 p (i : Int)).f0 (rd_T97 p (i : Int)).f1 (rd_T97 p (i : Int)).f2) l.length (fun j F => seen u (pitchN l) (pitchP p i) j F) (fun _ _ => V) ?_ ?_
  · rintro F (⟨e, h⟩ | ⟨i0, e, h1, h2⟩)
    · subst e
      refine Ev.step (f := fun _ => some (false, true)) (fun k => ?_) (ev_now (hnone fun i hi hf => h i hi ⟨hf.1, hf.2.1⟩).symm)
      simp only [impl_PlaysAsPromised.l1]
      rw [if_neg (by omega), if_pos (by omega)]
    · subst e
      by_cases hw : within d most l p i0 i
      · refine Ev.step (f := fun k => impl_PlaysAsPromised.l0 k l (timesOf d most l) (u.set i0 true) p (p.length : Int) ((i + 1 : Nat) : Int)) (fun k => ?_) (hgood i0 h1 h2 hw)
        simp only [impl_PlaysAsPromised.l1]
        rw [if_neg (by omega), if_neg (by omega), if_pos (by omega), if_pos (by omega), hR i0 h1, if_pos (by simp), if_neg (by have := hw.1; exact Int.not_lt.2 this), if_pos (by simp), if_neg (by have := hw.2; exact Int.not_lt.2 this), if_pos (by omega), wn hi (by omega), Int.toNat_natCast]
      · refine Ev.step (f := fun _ => some (false, true)) (fun k => ?_) (ev_now (hbad i0 h1 h2 hw).symm)
        simp only [impl_PlaysAsPromised.l1]
        rw [if_neg (by omega), if_neg (by omega), if_pos (by omega), if_pos (by omega), hR i0 h1, if_pos (by simp)]
        by_cases c : (rd_T97 p (i : Int)).f1 < loOf d most (rd_T95 l (i0 : Int))
        · rw [if_pos (by exact c)]
        · rw [if_neg (by exact c), if_pos (by simp), if_pos (by
            show (rd_T97 p (i : Int)).f1 > hiOf d most (rd_T95 l (i0 : Int))
            unfold within at hw
            omega)]
  · intro j F hj hs ih
    rcases Int.lt_or_le F 0 with hF | hF
    · have eF : F = -1 := by
        rcases hs with h | ⟨i0, h, _, _⟩
        · exact h.1
        · omega
      subst eF
      by_cases hv : pitchN l j = pitchP p i
      · cases hx : usedAt u j with
        | true =>
          refine Ev.step (fun k => ?_) (ih (-1) (hs.same (Or.inl fun h => by rw [hx] at h; exact absurd h.2 (by simp))))
          simp only [impl_PlaysAsPromised.l1]
          rw [if_pos (by omega), if_pos (by omega), if_pos (by omega), if_pos (by omega), if_pos (by exact hv), if_pos (by omega), if_pos (by show u.getD (j : Int).toNat false = true; rw [Int.toNat_natCast]; exact hx), wn hj (by omega)]
        | false =>
          refine Ev.step (fun k => ?_) (ih (j : Int) (hs.found hv hx))
          simp only [impl_PlaysAsPromised.l1]
          rw [if_pos (by omega), if_pos (by omega), if_pos (by omega), if_pos (by omega), if_pos (by exact hv), if_pos (by omega), if_neg (by show ¬ u.getD (j : Int).toNat false = true; rw [Int.toNat_natCast, show u.getD j false = false from hx]; simp), wn hj (by omega)]
      · refine Ev.step (fun k => ?_) (ih (-1) (hs.same (Or.inl fun h => hv h.1)))
        simp only [impl_PlaysAsPromised.l1]
        rw [if_pos (by omega), if_pos (by omega), if_pos (by omega), if_pos (by omega), if_neg (by exact hv), wn hj (by omega)]
    · refine Ev.step (fun k => ?_) (ih F (hs.same (Or.inr hF)))
      simp only [impl_PlaysAsPromised.l1]
      rw [if_pos (by omega), if_pos (by omega), if_pos (by omega), if_neg (by omega), wn hj (by omega)]
theorem impl_l0 (l : List S95) (p : List S97) (d most : Int) (hl : l.length ≤ 1048576) (hp : p.length ≤ 60) (he : p.length = l.length) (V : Bool) (hV : V = true ↔ kept d most l p) :
    ∀ (i : Nat) (u : List Bool), i ≤ p.length → (givenTo (pitchP p) (pitchN l) l.length i u ∧ ∀ i', i' < i → ∃ j, j < l.length ∧ Mt (pitchP p) (pitchN l) i' j ∧ within d most l p j i') →
      Ev (fun k => impl_PlaysAsPromised.l0 k l (timesOf d most l) u p (p.length : Int) (i : Int)) (V, true) := by
  rw [kept_turn he] at hV
  refine ev_for (fun k u i => impl_PlaysAsPromised.l0 k l (timesOf d most l) u p (p.length : Int) i) p.length (fun i u => givenTo (pitchP p) (pitchN l) l.length i u ∧ ∀ i', i' < i → ∃ j, j < l.length ∧ Mt (pitchP p) (pitchN l) i' j ∧ within d most l p j i') (fun _ _ => (V, true)) ?_ ?_
  · rintro u ⟨h1, h2⟩
    refine Ev.step (f := fun _ => some (true, true)) (fun k => ?_) (ev_now ?_)
    · simp only [impl_PlaysAsPromised.l0]
      rw [if_neg (by omega)]
    · rw [hV.2 h2]
  · rintro i u hi ⟨h1, h2⟩ ih
    refine Ev.step (f := fun k => impl_PlaysAsPromised.l1 k l (timesOf d most l) u (-1) p (p.length : Int) (i : Int) l (l.length : Int) ((0 : Nat) : Int) (rd_T97 p (i : Int)).f0 (rd_T97 p (i : Int)).f1 (rd_T97 p (i : Int)).f2) (fun k => ?_)
      (impl_l1 l p d most u hl hp h1.1 i hi (V, true) (fun hn => ?_) (fun j hj hf hw => ?_) (fun j hj hf hw => ?_) 0 (-1) (Nat.zero_le _) (Or.inl ⟨rfl, fun i' h => absurd h (Nat.not_lt_zero _)⟩))
    · simp only [impl_PlaysAsPromised.l0]
      rw [if_pos (by omega), if_pos (by omega), if_pos (by omega)]
      rfl
    · congr 1
      cases hc : V with
      | false => rfl
      | true =>
        obtain ⟨j, hj, hm, _⟩ := (hV.1 hc) i hi
        exact absurd ((h1.fit hj).2 hm) (hn j hj)
    · congr 1
      cases hc : V with
      | false => rfl
      | true =>
        obtain ⟨j', hj', hm, hw'⟩ := (hV.1 hc) i hi
        have e := Mt_right hm ((h1.fit hj).1 hf)
        subst e
        exact absurd hw' hw
    · refine ih _ ⟨h1.put hj ((h1.fit hj).1 hf), fun i' hi' => ?_⟩
      by_cases e : i' = i
      · subst e
        exact ⟨j, hj, (h1.fit hj).1 hf, hw⟩
      · exact h2 i' (by omega)
end Go.Proofs.Ytjniaiobnbdhhab.PureFnExactPlaysAsPromised
