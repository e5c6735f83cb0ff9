/- The plain statement of FnPassesPlays (lemmas): the law's function, over numbers and lists, answers true. No conditions beyond the arguments' own kinds. -/
import Derived.Test.YtdcchnfndhkfaaaSFnPassesPlays20
import Derived.Test.YtdcchnfndhkfaaaPureFnPassesPlayse
namespace Go.Proofs.Ytdcchnfndhkfaaa.PureFnPassesPlays
open Go Go.RowKit Go.Proofs.Ytdcchnfndhkfaaa.PFnPassesPlays Go.Proofs.YtdcchnfndhkfaaaW.PrintWords Go.Proofs.YtdcchnfndhkfaaaW.PrintLast Go.Proofs.YtdcchnfndhkfaaaW.PrintMore Go.Proofs.Ytdcchnfndhkfaaa.Lib
set_option linter.unusedVariables false
set_option linter.unusedSimpArgs false
def timesOf (d most : Int) (l : List S35) : List (List Int) := l.map fun x => [loOf d most x, hiOf d most x]
theorem timesOf_take (d most : Int) (l : List S35) {i : Nat} (hi : i < l.length) : timesOf d most (l.take (i + 1)) = timesOf d most (l.take i) ++ [[loOf d most l[i], hiOf d most l[i]]] := by
  unfold timesOf
  rw [List.take_succ_eq_append_getElem hi, List.map_append]
  rfl
theorem timesOf_len (d most : Int) (l : List S35) (i : Nat) : (timesOf d most (l.take i)).length ≤ l.length := by
  unfold timesOf
  rw [List.length_map, List.length_take]
  omega
theorem impl_times (l : List S35) (d b c most : Int) (hl : l.length ≤ 1048576) : Ev (fun k => impl_promisedTimes.f k l d b c most) (timesOf d most l) := by
  unfold impl_promisedTimes.f
  refine ev_for (fun k x i => impl_promisedTimes.l0 k most x l (l.length : Int) i d b c) l.length (fun i x => x = timesOf d most (l.take i)) (fun _ _ => timesOf d most l) ?_ ?_ 0 [] (Nat.zero_le _) rfl
  · intro x e
    rw [List.take_length] at e
    refine Ev.step (f := fun _ => some x) (fun k => ?_) (ev_now e)
    simp only [impl_promisedTimes.l0]
    rw [if_neg (by omega)]
  · intro i x hi e ih
    subst e
    have hn := timesOf_len d most l i
    have e0 : rd_T35 l (i : Int) = l[i] := rd_get hi
    refine Ev.step (f := fun k => impl_promisedTimes.l0 k most (timesOf d most (l.take (i + 1))) l (l.length : Int) ((i + 1 : Nat) : Int) d b c) (fun k => ?_) (ih _ rfl)
    simp only [impl_promisedTimes.l0]
    rw [if_pos (by omega), if_pos (by omega), if_pos (by omega), if_pos (by omega), e0, wn hi (by omega), timesOf_take d most l hi]
    rfl
theorem timesOf_at (d most : Int) (l : List S35) {i : Nat} (hi : i < l.length) : (timesOf d most l).getD i [] = [loOf d most l[i], hiOf d most l[i]] := by
  unfold timesOf
  rw [List.getD_eq_getElem?_getD, List.getElem?_map, List.getElem?_eq_getElem hi]
  rfl

def seen (u : List Bool) (g : Nat → Int) (v : Int) (i : Nat) (F : Int) : Prop := (F = -1 ∧ ∀ i', i' < i → ¬ (g i' = v ∧ usedAt u i' = false)) ∨ (∃ i0 : Nat, F = (i0 : Int) ∧ i0 < i ∧ firstFit (usedAt u) g v i0)
theorem seen.same {u : List Bool} {g : Nat → Int} {v : Int} {i : Nat} {F : Int} (h : seen u g v i F) (hn : ¬ (g i = v ∧ usedAt u i = false) ∨ 0 ≤ F) : seen u g v (i + 1) F := by
  rcases h with ⟨h1, h2⟩ | ⟨i0, h1, h2, h3⟩
  · left
    refine ⟨h1, fun i' hi' => ?_⟩
    by_cases e : i' = i
    · subst e
      rcases hn with hn | hn
      · exact hn
      · omega
    · exact h2 i' (by omega)
  · exact Or.inr ⟨i0, h1, by omega, h3⟩
theorem seen.found {u : List Bool} {g : Nat → Int} {v : Int} {i : Nat} (h : seen u g v i (-1)) (h1 : g i = v) (h2 : usedAt u i = false) : seen u g v (i + 1) (i : Int) := by
  rcases h with ⟨_, h4⟩ | ⟨i0, h3, _, _⟩
  · exact Or.inr ⟨i, rfl, by omega, h1, h2, h4⟩
  · omega
theorem pa_l1 (l : List S35) (p : List S37) (d most : Int) (u : List Bool) (hl : l.length ≤ 1048576) (hp : p.length ≤ 60) (hu : u.length = l.length) (i : Nat) (hi : i < p.length) (V : Bool × Bool)
    (hnone : (∀ j, j < l.length → ¬ firstFit (usedAt u) (pitchN l) (pitchP p i) j) → V = (false, true))
    (hbad : ∀ j, j < l.length → firstFit (usedAt u) (pitchN l) (pitchP p i) j → ¬ within d most l p j i → V = (false, true))
    (hgood : ∀ j, j < l.length → firstFit (usedAt u) (pitchN l) (pitchP p i) j → within d most l p j i → Ev (fun k => impl_PlaysAsPromised.l0 k l (timesOf d most l) (u.set j true) p (p.length : Int) ((i + 1 : Nat) : Int)) V) :
    ∀ (j : Nat) (F : Int), j ≤ l.length → seen u (pitchN l) (pitchP p i) j F → Ev (fun k => impl_PlaysAsPromised.l1 k l (timesOf d most l) u F p (p.length : Int) (i : Int) l (l.length : Int) (j : Int) (rd_T37 p (i : Int)).f0 (rd_T37 p (i : Int)).f1 (rd_T37 p (i : Int)).f2) V := by
  have hT : (timesOf d most l).length = l.length := by unfold timesOf; rw [List.length_map]
  have hR : ∀ j : Nat, j < l.length → rd_L5 (timesOf d most l) (j : Int) = [loOf d most (rd_T35 l (j : Int)), hiOf d most (rd_T35 l (j : Int))] := fun j hj => by
    rw [show rd_T35 l (j : Int) = l[j] from rd_get hj]
    show (timesOf d most l).getD (j : Int).toNat [] = _
    rw [Int.toNat_natCast]
    exact timesOf_at d most l hj
  refine ev_for (fun k F j => impl_PlaysAsPromised.l1 k l (timesOf d most l) u F p (p.length : Int) (i : Int) l (l.length : Int) j (rd_T37 p (i : Int)).f0 (rd_T37 p (i : Int)).f1 (rd_T37 p (i : Int)).f2) l.length (fun j F => seen u (pitchN l) (pitchP p i) j F) (fun _ _ => V) ?_ ?_
  · rintro F (⟨e, h⟩ | ⟨i0, e, h1, h2⟩)
    · subst e
      refine Ev.step (f := fun _ => some (false, true)) (fun k => ?_) (ev_now (hnone fun i hi hf => h i hi ⟨hf.1, hf.2.1⟩).symm)
      simp only [impl_PlaysAsPromised.l1]
      rw [if_neg (by omega), if_pos (by omega)]
    · subst e
      by_cases hw : within d most l p i0 i
      · refine Ev.step (f := fun k => impl_PlaysAsPromised.l0 k l (timesOf d most l) (u.set i0 true) p (p.length : Int) ((i + 1 : Nat) : Int)) (fun k => ?_) (hgood i0 h1 h2 hw)
        simp only [impl_PlaysAsPromised.l1]
        rw [if_neg (by omega), if_neg (by omega), if_pos (by omega), if_pos (by omega), hR i0 h1, if_pos (by simp), if_neg (by have := hw.1; exact Int.not_lt.2 this), if_pos (by simp), if_neg (by have := hw.2; exact Int.not_lt.2 this), if_pos (by omega), wn hi (by omega), Int.toNat_natCast]
      · refine Ev.step (f := fun _ => some (false, true)) (fun k => ?_) (ev_now (hbad i0 h1 h2 hw).symm)
        simp only [impl_PlaysAsPromised.l1]
        rw [if_neg (by omega), if_neg (by omega), if_pos (by omega), if_pos (by omega), hR i0 h1, if_pos (by simp)]
        by_cases c : (rd_T37 p (i : Int)).f1 < loOf d most (rd_T35 l (i0 : Int))
        · rw [if_pos (by exact c)]
        · rw [if_neg (by exact c), if_pos (by simp), if_pos (by
            show (rd_T37 p (i : Int)).f1 > hiOf d most (rd_T35 l (i0 : Int))
            unfold within at hw
            omega)]
  · intro j F hj hs ih
    rcases Int.lt_or_le F 0 with hF | hF
    · have eF : F = -1 := by
        rcases hs with h | ⟨i0, h, _, _⟩
        · exact h.1
        · omega
      subst eF
      by_cases hv : pitchN l j = pitchP p i
      · cases hx : usedAt u j with
        | true =>
          refine Ev.step (fun k => ?_) (ih (-1) (hs.same (Or.inl fun h => by rw [hx] at h; exact absurd h.2 (by simp))))
          simp only [impl_PlaysAsPromised.l1]
          rw [if_pos (by omega), if_pos (by omega), if_pos (by omega), if_pos (by omega), if_pos (by exact hv), if_pos (by omega), if_pos (by show u.getD (j : Int).toNat false = true; rw [Int.toNat_natCast]; exact hx), wn hj (by omega)]
        | false =>
          refine Ev.step (fun k => ?_) (ih (j : Int) (hs.found hv hx))
          simp only [impl_PlaysAsPromised.l1]
          rw [if_pos (by omega), if_pos (by omega), if_pos (by omega), if_pos (by omega), if_pos (by exact hv), if_pos (by omega), if_neg (by show ¬ u.getD (j : Int).toNat false = true; rw [Int.toNat_natCast, show u.getD j false = false from hx]; simp), wn hj (by omega)]
      · refine Ev.step (fun k => ?_) (ih (-1) (hs.same (Or.inl fun h => hv h.1)))
        simp only [impl_PlaysAsPromised.l1]
        rw [if_pos (by omega), if_pos (by omega), if_pos (by omega), if_pos (by omega), if_neg (by exact hv), wn hj (by omega)]
    · refine Ev.step (fun k => ?_) (ih F (hs.same (Or.inr hF)))
      simp only [impl_PlaysAsPromised.l1]
      rw [if_pos (by omega), if_pos (by omega), if_pos (by omega), if_neg (by omega), wn hj (by omega)]
theorem pa_l0 (l : List S35) (p : List S37) (d most : Int) (hl : l.length ≤ 1048576) (hp : p.length ≤ 60) (he : p.length = l.length) (V : Bool) (hV : V = true ↔ kept d most l p) :
    ∀ (i : Nat) (u : List Bool), i ≤ p.length → (givenTo (pitchP p) (pitchN l) l.length i u ∧ ∀ i', i' < i → ∃ j, j < l.length ∧ Mt (pitchP p) (pitchN l) i' j ∧ within d most l p j i') →
      Ev (fun k => impl_PlaysAsPromised.l0 k l (timesOf d most l) u p (p.length : Int) (i : Int)) (V, true) := by
  rw [kept_turn he] at hV
  refine ev_for (fun k u i => impl_PlaysAsPromised.l0 k l (timesOf d most l) u p (p.length : Int) i) p.length (fun i u => givenTo (pitchP p) (pitchN l) l.length i u ∧ ∀ i', i' < i → ∃ j, j < l.length ∧ Mt (pitchP p) (pitchN l) i' j ∧ within d most l p j i') (fun _ _ => (V, true)) ?_ ?_
  · rintro u ⟨h1, h2⟩
    refine Ev.step (f := fun _ => some (true, true)) (fun k => ?_) (ev_now ?_)
    · simp only [impl_PlaysAsPromised.l0]
      rw [if_neg (by omega)]
    · rw [hV.2 h2]
  · rintro i u hi ⟨h1, h2⟩ ih
    refine Ev.step (f := fun k => impl_PlaysAsPromised.l1 k l (timesOf d most l) u (-1) p (p.length : Int) (i : Int) l (l.length : Int) ((0 : Nat) : Int) (rd_T37 p (i : Int)).f0 (rd_T37 p (i : Int)).f1 (rd_T37 p (i : Int)).f2) (fun k => ?_)
      (pa_l1 l p d most u hl hp h1.1 i hi (V, true) (fun hn => ?_) (fun j hj hf hw => ?_) (fun j hj hf hw => ?_) 0 (-1) (Nat.zero_le _) (Or.inl ⟨rfl, fun i' h => absurd h (Nat.not_lt_zero _)⟩))
    · simp only [impl_PlaysAsPromised.l0]
      rw [if_pos (by omega), if_pos (by omega), if_pos (by omega)]
      rfl
    · congr 1
      cases hc : V with
      | false => rfl
      | true =>
        obtain ⟨j, hj, hm, _⟩ := (hV.1 hc) i hi
        exact absurd ((h1.fit hj).2 hm) (hn j hj)
    · congr 1
      cases hc : V with
      | false => rfl
      | true =>
        obtain ⟨j', hj', hm, hw'⟩ := (hV.1 hc) i hi
        have e := Mt_right hm ((h1.fit hj).1 hf)
        subst e
        exact absurd hw' hw
    · refine ih _ ⟨h1.put hj ((h1.fit hj).1 hf), fun i' hi' => ?_⟩
      by_cases e : i' = i
      · subst e
        exact ⟨j, hj, (h1.fit hj).1 hf, hw⟩
      · exact h2 i' (by omega)
end Go.Proofs.Ytdcchnfndhkfaaa.PureFnPassesPlays
