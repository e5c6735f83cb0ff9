/- The plain statement of FnExactLeastTurn: the law's function, over numbers and lists, answers true. No conditions beyond the arguments' own kinds. -/
import Derived.Test.YtjniaiobnbdhhabRLeastTurn6
import Derived.Test.YtjniaiobnbdhhabPureFnExactLeastTurnd
namespace Go.Proofs.Ytjniaiobnbdhhab.PureFnExactLeastTurn
open Go Go.RowKit Go.Proofs.Ytjniaiobnbdhhab.PFnExactLeastTurn Go.Proofs.YtjniaiobnbdhhabW.PrintWords Go.Proofs.YtjniaiobnbdhhabW.PrintLast Go.Proofs.YtjniaiobnbdhhabW.PrintMore Go.Proofs.Ytjniaiobnbdhhab.Lib
set_option linter.unusedVariables false
set_option linter.unusedSimpArgs false
theorem lt_loops (p : Nat) (l b : List Int) (q : Int) (hl : l.length ≤ 1048576) (hg : isP p l) : ∃ r : Int × Bool, Ev (fun k => spec_LeastTurn.l0 k 0 (p : Int) l q b) r ∧ Ev (fun k => impl_LeastTurn.l0 k (p : Int) 0 (p : Int) l q b) r := by
  have hp := hg.2.1
  refine count_up p (fun _ (_ : Unit) => True) (fun i _ => ∃ r : Int × Bool, Ev (fun k => spec_LeastTurn.l0 k (i : Int) (p : Int) l q b) r ∧ Ev (fun k => impl_LeastTurn.l0 k (p : Int) (i : Int) (p : Int) l q b) r) (fun _ _ => ?_) (fun i _ hi _ ih => ?_) 0 () (Nat.zero_le _) trivial
  · refine ⟨(0, false), Ev.step (f := fun _ => some (0, false)) (fun k => ?_) (Ev.now _), Ev.step (f := fun _ => some (0, false)) (fun k => ?_) (Ev.now _)⟩
    · simp only [spec_LeastTurn.l0]
      rw [if_neg (by omega)]
    · simp only [impl_LeastTurn.l0]
      rw [if_neg (by omega)]
  · have e1 := wn hi (by omega)
    obtain ⟨t, g1, g2, g3⟩ := turn_both p i l hl hg (by omega)
    have s1 := same_ev t b (by omega)
    have s2 := equal_ev t b (by omega)
    have k1 : ∀ r, Ev (fun k => if decide (t = b) = true then some ((i : Int), true) else spec_LeastTurn.l0 k ((i + 1 : Nat) : Int) (p : Int) l q b) r → Ev (fun k => spec_LeastTurn.l0 k (i : Int) (p : Int) l q b) r := by
      intro r h
      refine Ev.step (f := fun k => (spec_drTurn.f k (p : Int) l (i : Int)).bind fun bt => (spec_l1Same.f k bt.2 b).bind fun t => if t = true then some ((i : Int), true) else spec_LeastTurn.l0 k ((i + 1 : Nat) : Int) (p : Int) l q b) (fun k => ?_) (Ev.bind g1 (Ev.bind s1 h))
      simp only [spec_LeastTurn.l0, e1]
      rw [if_pos (by omega)]
    have k2 : ∀ r, Ev (fun k => if decide (t = b) = true then some ((i : Int), true) else impl_LeastTurn.l0 k (p : Int) ((i + 1 : Nat) : Int) (p : Int) l q b) r → Ev (fun k => impl_LeastTurn.l0 k (p : Int) (i : Int) (p : Int) l q b) r := by
      intro r h
      refine Ev.step (f := fun k => (impl_turnPattern.f k (p : Int) l (i : Int)).bind fun bt => (slices_Equal_int_int.f k bt.2 b).bind fun t => if t = true then some ((i : Int), true) else impl_LeastTurn.l0 k (p : Int) ((i + 1 : Nat) : Int) (p : Int) l q b) (fun k => ?_) (Ev.bind g2 (Ev.bind s2 h))
      simp only [impl_LeastTurn.l0, e1]
      rw [if_pos (by omega)]
    by_cases c : t = b
    · exact ⟨((i : Int), true), k1 _ (ev_pos (decide_eq_true c) (Ev.now _)), k2 _ (ev_pos (decide_eq_true c) (Ev.now _))⟩
    · obtain ⟨r, h1, h2⟩ := ih () trivial
      exact ⟨r, k1 r (ev_neg (by simpa using c) h1), k2 r (ev_neg (by simpa using c) h2)⟩
theorem lt_both (p q : Int) (l b : List Int) (hl : l.length ≤ 1048576) (hb : b.length ≤ 1048576) : ∃ r : Int × Bool, Ev (fun k => spec_LeastTurn.f k p l q b) r ∧ Ev (fun k => impl_LeastTurn.f k p l q b) r := by
  unfold spec_LeastTurn.f impl_LeastTurn.f
  by_cases hg : isP p l
  · by_cases hh : isP q b
    · by_cases e : p = q
      · have h1 := hg.1
        obtain ⟨n, rfl⟩ : ∃ n : Nat, p = n := ⟨p.toNat, by omega⟩
        obtain ⟨r, g1, g2⟩ := lt_loops n l b q hl hg
        exact ⟨r, Ev.bind (spec_isP _ l hl) (ev_pos (decide_eq_true hg) (Ev.bind (spec_isP _ b hb) (ev_pos (decide_eq_true hh) (Ev.step (fun k => rfl) (ev_neg (by simpa using e) g1))))), Ev.bind (impl_isP _ l hl) (ev_pos (decide_eq_true hg) (Ev.bind (impl_isP _ b hb) (ev_pos (decide_eq_true hh) (Ev.step (fun k => rfl) (ev_neg (by simpa using e) g2)))))⟩
      · exact ⟨(0, false), Ev.bind (spec_isP _ l hl) (ev_pos (decide_eq_true hg) (Ev.bind (spec_isP _ b hb) (ev_pos (decide_eq_true hh) (Ev.step (fun k => rfl) (ev_pos (by simpa using e) (Ev.now _)))))), Ev.bind (impl_isP _ l hl) (ev_pos (decide_eq_true hg) (Ev.bind (impl_isP _ b hb) (ev_pos (decide_eq_true hh) (Ev.step (fun k => rfl) (ev_pos (by simpa using e) (Ev.now _))))))⟩
    · exact ⟨(0, false), Ev.bind (spec_isP _ l hl) (ev_pos (decide_eq_true hg) (Ev.bind (spec_isP _ b hb) (ev_neg (by simpa using hh) (Ev.step (f := fun _ => some (0, false)) (fun k => rfl) (Ev.now _))))), Ev.bind (impl_isP _ l hl) (ev_pos (decide_eq_true hg) (Ev.bind (impl_isP _ b hb) (ev_neg (by simpa using hh) (Ev.step (f := fun _ => some (0, false)) (fun k => rfl) (Ev.now _)))))⟩
  · exact ⟨(0, false), Ev.bind (spec_isP _ l hl) (ev_neg (by simpa using hg) (Ev.step (f := fun _ => some (0, false)) (fun k => rfl) (Ev.now _))), Ev.bind (impl_isP _ l hl) (ev_neg (by simpa using hg) (Ev.step (f := fun _ => some (0, false)) (fun k => rfl) (Ev.now _)))⟩
theorem FnExactLeastTurn (a0_0 : Int) (l0_1 : List (Int)) (a1_0 : Int) (l1_1 : List (Int)) (w0_0 : (Lit.int .i64 a0_0).wf = true) (w0_1 : (l0_1.length ≤ maxLen ∧ ∀ y1 ∈ l0_1, (Lit.int .i64 y1).wf = true)) (w1_0 : (Lit.int .i64 a1_0).wf = true) (w1_1 : (l1_1.length ≤ maxLen ∧ ∀ y1 ∈ l1_1, (Lit.int .i64 y1).wf = true)) :
    ∃ k, laws_FnExactLeastTurn.f k a0_0 l0_1 a1_0 l1_1 = some true := by
  obtain ⟨hm, _⟩ := w0_1
  obtain ⟨hm2, _⟩ := w1_1
  unfold maxLen at hm hm2
  refine Ev.rounds (g := fun k => laws_FnExactLeastTurn.f k a0_0 l0_1 a1_0 l1_1) ?_
  unfold laws_FnExactLeastTurn.f
  refine ev_call (szPat2 _ _ _ (by omega) (by omega) (by omega)) ?_
  by_cases hl : (l0_1.length : Int) ≤ 1048576
  · rw [if_pos hl]
    refine ev_neg (by omega) (ev_call (szPat2 _ _ _ (by omega) (by omega) (by omega)) ?_)
    by_cases hb : (l1_1.length : Int) ≤ 1048576 - (l0_1.length : Int)
    · rw [if_pos hb]
      refine ev_neg (by omega) ?_
      have hl1 : l0_1.length ≤ 1048576 := by omega
      have hl2 : l1_1.length ≤ 1048576 := by omega
      have h1 := toPat a0_0 l0_1 hl1
      have h2 := toPat a1_0 l1_1 hl2
      obtain ⟨r, g1, g2⟩ := lt_both a0_0 a1_0 l0_1 l1_1 (by omega) (by omega)
      refine Ev.bind h1 (Ev.bind h2 (Ev.bind g1 (Ev.bind h1 (Ev.bind h2 (Ev.bind g2 (ev_pos rfl (Ev.step (fun k => rfl) (ev_neg (by simp) ?_))))))))
      exact Ev.bind h1 (Ev.bind (eqPat _ _ hl1) (ev_pos rfl (Ev.bind h2 (Ev.bind (eqPat _ _ hl2) (ev_pos rfl (Ev.now _))))))
    · rw [if_neg hb]
      exact ev_pos (by omega) (Ev.now _)
  · rw [if_neg hl]
    exact ev_pos (by omega) (Ev.now _)
end Go.Proofs.Ytjniaiobnbdhhab.PureFnExactLeastTurn
