/- The plain statement of FnExactPlaysAsPromised: the law's function, over numbers and lists, answers true. No conditions beyond the arguments' own kinds. -/
import Derived.Test.YtjniaiobnbdhhabSPlaysAsPromised14
import Derived.Test.YtjniaiobnbdhhabPureFnExactPlaysAsPromisedf
namespace Go.Proofs.Ytjniaiobnbdhhab.PureFnExactPlaysAsPromised
open Go Go.RowKit Go.Proofs.Ytjniaiobnbdhhab.PFnExactPlaysAsPromised Go.Proofs.YtjniaiobnbdhhabW.PrintWords Go.Proofs.YtjniaiobnbdhhabW.PrintLast Go.Proofs.YtjniaiobnbdhhabW.PrintMore Go.Proofs.Ytjniaiobnbdhhab.Lib
set_option linter.unusedVariables false
set_option linter.unusedSimpArgs false
def actOk (a b c : Int) : Prop := (0 ≤ a ∧ a ≤ 40) ∧ (0 ≤ b ∧ b ≤ 40) ∧ (0 ≤ c ∧ c ≤ 40)
instance (a b c : Int) : Decidable (actOk a b c) := by unfold actOk; infer_instance
theorem spec_act (a b c : Int) : spec_pyAction.f a b c = some (decide (actOk a b c)) := by
  unfold spec_pyAction.f
  simp only [l1In_eq, Option.bind_some]
  by_cases h1 : 0 ≤ a ∧ a ≤ 40
  · rw [if_pos (decide_eq_true h1)]
    by_cases h2 : 0 ≤ b ∧ b ≤ 40
    · rw [if_pos (decide_eq_true h2)]
      exact congrArg some (decide_eq_decide.2 ⟨fun h => ⟨h1, h2, h⟩, fun h => h.2.2⟩)
    · rw [if_neg (by simpa using h2)]
      exact congrArg some (decide_eq_false (fun h => h2 h.2.1)).symm
  · rw [if_neg (by simpa using h1)]
    exact congrArg some (decide_eq_false (fun h => h1 h.1)).symm
theorem impl_act (a b c : Int) : impl_IsAction.f a b c = some (decide (actOk a b c)) := by
  unfold impl_IsAction.f actOk
  by_cases h1 : a ≥ 0
  · by_cases h2 : a ≤ 40
    · by_cases h3 : b ≥ 0
      · by_cases h4 : b ≤ 40
        · by_cases h5 : c ≥ 0
          · rw [if_pos h1, if_pos h2, if_pos h3, if_pos h4, if_pos h5]
            exact congrArg some (decide_eq_decide.2 ⟨fun h => by omega, fun h => by omega⟩)
          · rw [if_pos h1, if_pos h2, if_pos h3, if_pos h4, if_neg h5]
            exact congrArg some (decide_eq_false (by omega)).symm
        · rw [if_pos h1, if_pos h2, if_pos h3, if_neg h4]
          exact congrArg some (decide_eq_false (by omega)).symm
      · rw [if_pos h1, if_pos h2, if_neg h3]
        exact congrArg some (decide_eq_false (by omega)).symm
    · rw [if_pos h1, if_neg h2]
      exact congrArg some (decide_eq_false (by omega)).symm
  · rw [if_neg h1]
    exact congrArg some (decide_eq_false (by omega)).symm
theorem spec_most (m : Int) : spec_vfMost.f m = some (decide (0 ≤ m ∧ m ≤ 50)) := by
  unfold spec_vfMost.f
  simp only [l1In_eq, Option.bind_some]
theorem impl_most (m : Int) : impl_isTolerance.f m = some (decide (0 ≤ m ∧ m ≤ 50)) := by
  unfold impl_isTolerance.f
  by_cases h : m ≥ 0
  · rw [if_pos h]
    exact congrArg some (decide_eq_decide.2 ⟨fun h => by omega, fun h => by omega⟩)
  · rw [if_neg h]
    exact congrArg some (decide_eq_false (by omega)).symm
theorem py_both (pi : List Int) (rp : Int) (s : List S80) (d b c : Int) (hi : isIn pi rp) (hs : isSh s) :
    ∃ r : List S97 × List Int, Ev (fun k => spec_pyAll.f k pi rp s d b c) r ∧ Ev (fun k => impl_spoken.f k pi rp s d b c) r ∧ r.1.length ≤ 60 ∧ r.2.length ≤ 60 := by
  have hk : ∀ x ∈ s, okH x := fun x hx => by
    obtain ⟨i, h, e⟩ := List.getElem_of_mem hx
    rw [← e]
    exact isSh_get hs h
  have hw : ∀ x ∈ s, (Lit.int .i64 x.f0).wf = true ∧ (Lit.int .i64 x.f1).wf = true := fun x hx => by
    obtain ⟨h1, h2, h3, h4, h5⟩ := hk x hx
    exact ⟨wmk (by omega) (by omega), wmk (by omega) (by omega)⟩
  have base : ∀ (i : Nat) (x : List Int), i ≤ 20 → (x.length = 20 ∧ ∀ t : Nat, t < i → x.getD t 0 = -40) → ∃ r : List S97 × List Int, Ev (fun k => spec_pyAll.l0 k s x ((20 : Nat) : Int) (i : Int) pi rp d b c) r ∧ (Ev (fun k => impl_spoken.f k pi rp s d b c) r ∧ r.1.length ≤ 60 ∧ r.2.length ≤ 60) := by
    refine ev_for_ex (fun k x i => spec_pyAll.l0 k s x ((20 : Nat) : Int) i pi rp d b c) 20 (fun i x => x.length = 20 ∧ ∀ t : Nat, t < i → x.getD t 0 = -40) (fun r => Ev (fun k => impl_spoken.f k pi rp s d b c) r ∧ r.1.length ≤ 60 ∧ r.2.length ≤ 60) ?_ ?_
    · rintro x ⟨h1, h2⟩
      obtain ⟨r, g1, g2, g3⟩ := spoken_loops pi rp d b c s hs.1 hk (by have := hi.2.2; omega) (by have := hi.2.2.2; omega) hw 0 ([], [], x, fun _ => none) (Nat.zero_le _) ⟨Nat.zero_le _, Nat.zero_le _, h1, fun t ht => Or.inl ⟨rfl, h2 t ht⟩⟩
      refine ⟨r, Ev.step (fun k => ?_) g1, g2, g3⟩
      simp only [spec_pyAll.l0]
      rw [if_neg (by omega)]
      rfl
    · rintro i x h ⟨h1, h2⟩ ih
      obtain ⟨r, g1, g2⟩ := ih (x.set i (-40)) ⟨by rw [List.length_set]; exact h1, fun t ht => by
        rw [List.getD_eq_getElem?_getD, List.getElem?_set]
        by_cases e : i = t
        · subst e
          rw [if_pos rfl]
          (try rw [if_pos (by omega)])
          rfl
        · rw [if_neg e, ← List.getD_eq_getElem?_getD]
          exact h2 t (by omega)⟩
      refine ⟨r, Ev.step (fun k => ?_) g1, g2⟩
      simp only [spec_pyAll.l0]
      rw [if_pos (by omega), if_pos (by omega), if_pos (by omega), wn h (by omega), Int.toNat_natCast]
  obtain ⟨r, g1, g2, g3⟩ := base 0 (List.replicate 20 0) (Nat.zero_le _) ⟨List.length_replicate, fun t ht => absurd ht (Nat.not_lt_zero _)⟩
  refine ⟨r, ?_, g2, g3⟩
  unfold spec_pyAll.f
  refine ev_pos (by omega) (ev_call rfl ?_)
  rw [show (((List.replicate 20 (0 : Int)).length : Nat) : Int) = ((20 : Nat) : Int) from by rw [List.length_replicate]]
  exact g1
theorem j0_true (l : List S95) (s : List S80) (most : Int) (pi : List Int) (rp d b c : Int) : Ev (fun k => impl_PlaysAsPromised.j0 k l s most true pi rp d b c) (false, false) := by
  refine Ev.step (f := fun _ => some (false, false)) (fun k => ?_) (Ev.now _)
  simp only [impl_PlaysAsPromised.j0]
  rw [if_pos trivial]
theorem pp (pi : List Int) (rp : Int) (l : List S95) (s : List S80) (d b c most : Int) (h1 : pi.length ≤ 1048576) (h2 : l.length ≤ 1048576) (h3 : s.length ≤ 1048576) :
    ∃ r : Bool × Bool, Ev (fun k => spec_PlaysAsPromised.f k pi rp l s d b c most) r ∧ Ev (fun k => impl_PlaysAsPromised.f k pi rp l s d b c most) r := by
  have sa := spec_asked pi rp l s h1 h2 h3
  have im := impl_can pi rp l s h1 h2 h3
  unfold spec_PlaysAsPromised.f impl_PlaysAsPromised.f spec_vfAll.f
  by_cases hg : isIn pi rp ∧ isSc l ∧ isSh s
  · by_cases ha : actOk d b c
    · by_cases hm : 0 ≤ most ∧ most ≤ 50
      · obtain ⟨r, g1, g2, g3, _⟩ := py_both pi rp s d b c hg.1 hg.2.2
        have t1 := spec_times l d b c most h2
        have t2 := impl_times l d b c most h2
        obtain ⟨V, hV⟩ : ∃ V : Bool, V = true ↔ kept d most l r.1 := by
          by_cases hc : kept d most l r.1
          · exact ⟨true, fun _ => hc, fun _ => rfl⟩
          · exact ⟨false, fun h => absurd h (by simp), fun h => absurd h hc⟩
        refine ⟨(V, true), Ev.bind (a := true) (Ev.bind sa (ev_pos (decide_eq_true hg) (ev_call (spec_act d b c) (ev_pos (decide_eq_true ha) (ev_call (spec_most most) (ev_now (decide_eq_true hm))))))) (ev_pos rfl (Ev.bind g1 (Ev.bind t1 (ev_pos (by omega) (ev_pos (by omega) ?_))))), Ev.bind im (ev_pos (decide_eq_true hg) (ev_call (impl_act d b c) (ev_pos (decide_eq_true ha) (ev_call (impl_most most) ?_))))⟩
        · rw [Int.toNat_natCast]
          exact spec_l0 l r.1 d most h2 g3 V hV 0 _ (Nat.zero_le _) ⟨givenTo.none _ _ _, fun j' h => absurd h (Nat.not_lt_zero _)⟩
        · rw [decide_eq_true hm]
          refine Ev.step (fun k => by simp only [impl_PlaysAsPromised.j0]; rw [if_neg (by simp)]) (Ev.bind g2 ?_)
          by_cases he : r.1.length = l.length
          · refine ev_pos (by omega) (Ev.bind t2 (ev_pos (by omega) (ev_pos (by omega) ?_)))
            rw [Int.toNat_natCast]
            exact impl_l0 l r.1 d most h2 g3 he V hV 0 _ (Nat.zero_le _) ⟨givenTo.none _ _ _, fun j' h => absurd h (Nat.not_lt_zero _)⟩
          · refine ev_neg (by omega) (ev_now ?_)
            congr 1
            cases hc : V with
            | false => rfl
            | true => exact absurd (hV.1 hc).1 he
      · exact ⟨(false, false), Ev.bind (a := false) (Ev.bind sa (ev_pos (decide_eq_true hg) (ev_call (spec_act d b c) (ev_pos (decide_eq_true ha) (ev_call (spec_most most) (ev_now (decide_eq_false hm))))))) (ev_neg (by simp) (Ev.now _)), Ev.bind im (ev_pos (decide_eq_true hg) (ev_call (impl_act d b c) (ev_pos (decide_eq_true ha) (ev_call (impl_most most) (by rw [decide_eq_false hm]; exact j0_true l s most pi rp d b c)))))⟩
    · exact ⟨(false, false), Ev.bind (a := false) (Ev.bind sa (ev_pos (decide_eq_true hg) (ev_call (spec_act d b c) (ev_neg (by simpa using ha) (Ev.now _))))) (ev_neg (by simp) (Ev.now _)), Ev.bind im (ev_pos (decide_eq_true hg) (ev_call (impl_act d b c) (ev_neg (by simpa using ha) (j0_true l s most pi rp d b c))))⟩
  · exact ⟨(false, false), Ev.bind (a := false) (Ev.bind sa (ev_neg (by simpa using hg) (Ev.now _))) (ev_neg (by simp) (Ev.now _)), Ev.bind im (ev_neg (by simpa using hg) (j0_true l s most pi rp d b c))⟩
theorem FnExactPlaysAsPromised (l0_0 : List (Int)) (a0_1 : Int) (l1 : List (S101)) (l2 : List (S82)) (a3_0 a3_1 a3_2 a4 : Int) (w0_0 : (l0_0.length ≤ maxLen ∧ ∀ y1 ∈ l0_0, (Lit.int .i64 y1).wf = true)) (w0_1 : (Lit.int .i64 a0_1).wf = true) (w1 : (l1.length ≤ maxLen ∧ ∀ y1 ∈ l1, ((Lit.int .i64 y1.f0).wf = true ∧ (Lit.int .i64 y1.f1).wf = true ∧ (Lit.int .i64 y1.f2).wf = true))) (w2 : (l2.length ≤ maxLen ∧ ∀ y1 ∈ l2, ((Lit.int .i64 y1.f0).wf = true ∧ (Lit.int .i64 y1.f1).wf = true ∧ (Lit.int .i64 y1.f2).wf = true))) (w3_0 : (Lit.int .i64 a3_0).wf = true) (w3_1 : (Lit.int .i64 a3_1).wf = true) (w3_2 : (Lit.int .i64 a3_2).wf = true) (w4 : (Lit.int .i64 a4).wf = true) :
    ∃ k, laws_FnExactPlaysAsPromised.f k l0_0 a0_1 l1 l2 a3_0 a3_1 a3_2 a4 = some true := by
  have hm0 := w0_0.1
  have hm1 := w1.1
  have hm2 := w2.1
  unfold maxLen at hm0 hm1 hm2
  refine Ev.rounds (g := fun k => laws_FnExactPlaysAsPromised.f k l0_0 a0_1 l1 l2 a3_0 a3_1 a3_2 a4) ?_
  unfold laws_FnExactPlaysAsPromised.f
  refine ev_call (szInst _ _ (by omega)) (ev_ite (fun _ => Ev.now _) (fun c0 => ?_))
  have hl0 : l0_0.length ≤ 1048576 := by
    split at c0 <;> omega
  rw [if_pos hl0] at c0 ⊢
  refine ev_call (szNoteS _ _ (by omega) (by omega)) (ev_ite (fun _ => Ev.now _) (fun c1 => ?_))
  have hl1 : (l1.length : Int) ≤ 1048576 - (l0_0.length : Int) := by
    split at c1 <;> omega
  rw [if_pos hl1] at c1 ⊢
  refine ev_call (szHoleS _ _ (by omega) (by omega)) (ev_ite (fun _ => Ev.now _) (fun c2 => ?_))
  have hl2 : (l2.length : Int) ≤ 1048576 - (l0_0.length : Int) - l1.length := by
    split at c2 <;> omega
  have i0 := toInst l0_0 a0_1 hl0
  have i1 := toNoteS l1 (by omega)
  have i2 := toHoleS l2 (by omega)
  have i3 : laws_toAction.f a3_0 a3_1 a3_2 = some (a3_0, a3_1, a3_2) := rfl
  have k1 : (l1.map cvN).length ≤ 1048576 := by simp; omega
  have k2 : (l2.map cvH).length ≤ 1048576 := by simp; omega
  obtain ⟨r, g1, g2⟩ := pp l0_0 a0_1 (l1.map cvN) (l2.map cvH) a3_0 a3_1 a3_2 a4 hl0 k1 k2
  refine Ev.bind i0 (Ev.bind i1 (Ev.bind i2 (ev_call i3 (Ev.bind g1 (Ev.bind i0 (Ev.bind i1 (Ev.bind i2 (ev_call i3 (Ev.bind g2 (ev_neg (by simp) ?_))))))))))
  refine Ev.step (fun k => rfl) (ev_neg (by simp) (Ev.bind i0 (Ev.bind (eqInst _ _ hl0) (ev_pos rfl (Ev.bind i1 (Ev.bind (eqNoteS _ k1) (ev_pos rfl (Ev.bind i2 (Ev.bind (eqHoleS _ k2) (ev_pos rfl (Ev.now _)))))))))))
end Go.Proofs.Ytjniaiobnbdhhab.PureFnExactPlaysAsPromised
