/- The plain statement of FnExactTurnPattern: the law's function, over numbers and lists, answers true. No conditions beyond the arguments' own kinds. -/
import Derived.Test.YtjniaiobnbdhhabRTurnPattern5
import Derived.Test.YtjniaiobnbdhhabPureFnExactTurnPatternc
namespace Go.Proofs.Ytjniaiobnbdhhab.PureFnExactTurnPattern
open Go Go.RowKit Go.Proofs.Ytjniaiobnbdhhab.PFnExactTurnPattern Go.Proofs.YtjniaiobnbdhhabW.PrintWords Go.Proofs.YtjniaiobnbdhhabW.PrintLast Go.Proofs.YtjniaiobnbdhhabW.PrintMore Go.Proofs.Ytjniaiobnbdhhab.Lib
set_option linter.unusedVariables false
set_option linter.unusedSimpArgs false
theorem turnp_both (p y : Int) (l : List Int) (hl : l.length ≤ 1048576) : ∃ r : Int × List Int × Bool, Ev (fun k => spec_TurnPattern.f k p l y) r ∧ Ev (fun k => impl_TurnPattern.f k p l y) r ∧ r.2.1.length ≤ 1048576 := by
  unfold spec_TurnPattern.f impl_TurnPattern.f
  simp only [l1In_eq, Option.bind_some]
  by_cases hg : isP p l
  · by_cases hy : 0 ≤ y ∧ y ≤ 24
    · obtain ⟨r, g1, g2, g3⟩ := turn_both p y l hl hg hy
      exact ⟨(p, r, true), Ev.bind (spec_isP _ l hl) (ev_pos (decide_eq_true hg) (ev_pos (decide_eq_true hy) (Ev.bind g1 (Ev.now _)))), Ev.bind (impl_isP _ l hl) (ev_pos (decide_eq_true hg) (ev_neg (by omega) (ev_neg (by omega) (Ev.bind g2 (Ev.now _))))), by show r.length ≤ 1048576; omega⟩
    · exact ⟨(0, [], false), Ev.bind (spec_isP _ l hl) (ev_pos (decide_eq_true hg) (ev_neg (by simpa using hy) (Ev.now _))), Ev.bind (impl_isP _ l hl) (ev_pos (decide_eq_true hg) (ev_ite (fun _ => Ev.now _) (fun h => ev_pos (by omega) (Ev.now _)))), Nat.zero_le _⟩
  · exact ⟨(0, [], false), Ev.bind (spec_isP _ l hl) (ev_neg (by simpa using hg) (Ev.now _)), Ev.bind (impl_isP _ l hl) (ev_neg (by simpa using hg) (Ev.now _)), Nat.zero_le _⟩
theorem FnExactTurnPattern (a0_0 : Int) (l0_1 : List (Int)) (a1 : Int) (w0_0 : (Lit.int .i64 a0_0).wf = true) (w0_1 : (l0_1.length ≤ maxLen ∧ ∀ y1 ∈ l0_1, (Lit.int .i64 y1).wf = true)) (w1 : (Lit.int .i64 a1).wf = true) :
    ∃ k, laws_FnExactTurnPattern.f k a0_0 l0_1 a1 = some true := by
  obtain ⟨hm, _⟩ := w0_1
  unfold maxLen at hm
  refine Ev.rounds (g := fun k => laws_FnExactTurnPattern.f k a0_0 l0_1 a1) ?_
  unfold laws_FnExactTurnPattern.f
  refine ev_call (szPat _ _ (by omega)) ?_
  by_cases hl : l0_1.length ≤ 1048576
  · rw [if_pos hl]
    refine ev_neg (by omega) ?_
    have h1 := toPat a0_0 l0_1 hl
    obtain ⟨r, g1, g2, g3⟩ := turnp_both a0_0 a1 l0_1 hl
    refine Ev.bind h1 (Ev.bind g1 (Ev.bind h1 (Ev.bind g2 (Ev.bind (eqPat _ _ g3) (ev_pos rfl (Ev.step (fun k => rfl) (ev_neg (by simp) (Ev.bind h1 (Ev.bind (eqPat _ _ hl) (ev_pos rfl (Ev.bind (markPat _ _ hl) (ev_neg (by omega) (Ev.bind (eqPat _ _ g3) (ev_pos rfl ?_))))))))))))))
    refine Ev.step (fun k => rfl) (ev_neg (by simp) (Ev.bind (markPat _ _ g3) (Ev.bind (heldPat _ _ g3) (ev_neg (by omega) (ev_pos rfl (Ev.bind h1 (Ev.bind g2 (Ev.bind (eqPat _ _ g3) (ev_pos rfl ?_)))))))))
    exact Ev.step (fun k => rfl) (ev_neg (by simp) (Ev.bind (heldPat _ _ g3) (ev_neg (by omega) (ev_pos rfl (Ev.now _)))))
  · rw [if_neg hl]
    exact ev_pos (by omega) (Ev.now _)
end Go.Proofs.Ytjniaiobnbdhhab.PureFnExactTurnPattern
