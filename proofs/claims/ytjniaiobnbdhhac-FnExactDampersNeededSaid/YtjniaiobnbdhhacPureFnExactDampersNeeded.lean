/- The plain statement of FnExactDampersNeeded: the law's function, over numbers and lists, answers true. No conditions beyond the arguments' own kinds. -/
import Derived.Test.YtjniaiobnbdhhacSDampersNeeded10
import Derived.Test.YtjniaiobnbdhhacPureFnExactDampersNeedede
namespace Go.Proofs.Ytjniaiobnbdhhac.PureFnExactDampersNeeded
open Go Go.RowKit Go.Proofs.Ytjniaiobnbdhhac.PFnExactDampersNeeded Go.Proofs.YtjniaiobnbdhhacW.PrintWords Go.Proofs.YtjniaiobnbdhhacW.PrintLast Go.Proofs.YtjniaiobnbdhhacW.PrintMore Go.Proofs.Ytjniaiobnbdhhac.Lib
set_option linter.unusedVariables false
set_option linter.unusedSimpArgs false
theorem FnExactDampersNeeded (l0 : List (S102)) (l1 : List (S104)) (a2 : Int) (a3 : Int) (w0 : (l0.length ≤ maxLen ∧ ∀ y1 ∈ l0, ((Lit.int .i64 y1.f0).wf = true ∧ (Lit.int .i64 y1.f1).wf = true ∧ (Lit.int .i64 y1.f2).wf = true))) (w1 : (l1.length ≤ maxLen ∧ ∀ y1 ∈ l1, ((Lit.int .i64 y1.f0).wf = true ∧ (Lit.int .i64 y1.f1).wf = true))) (w2 : (Lit.int .i64 a2).wf = true) (w3 : (Lit.int .i64 a3).wf = true) :
    ∃ k, laws_FnExactDampersNeeded.f k l0 l1 a2 a3 = some true := by
  obtain ⟨hm, _⟩ := w0
  obtain ⟨hm2, _⟩ := w1
  unfold maxLen at hm hm2
  refine Ev.rounds (g := fun k => laws_FnExactDampersNeeded.f k l0 l1 a2 a3) ?_
  unfold laws_FnExactDampersNeeded.f
  refine ev_call (szToothS _ _ (by omega) (by omega)) ?_
  by_cases c0 : (l0.length : Int) ≤ 1048576
  · rw [if_pos c0]
    refine ev_neg (by omega) (ev_call (szStrikeS _ _ (by omega) (by omega)) ?_)
    by_cases c1 : (l1.length : Int) ≤ 1048576 - (l0.length : Int)
    · rw [if_pos c1]
      refine ev_neg (by omega) ?_
      have hl : l0.length ≤ 1048576 := by omega
      have hs : l1.length ≤ 1048576 := by omega
      have h1 := toToothS l0 hl
      have h2 := toStrikeS l1 hs
      have hl2 : (l0.map cvT).length ≤ 1048576 := by simpa using hl
      have hs2 : (l1.map cvS).length ≤ 1048576 := by simpa using hs
      obtain ⟨r, g1, g2, g3⟩ := dn_both _ _ a2 a3 hl2 hs2
      refine Ev.bind h1 (Ev.bind h2 (Ev.bind g1 (Ev.bind h1 (Ev.bind h2 (Ev.bind g2 (Ev.bind (eqIntS _ g3) (ev_pos rfl (Ev.step (fun k => rfl) (ev_neg (by simp) ?_)))))))))
      refine Ev.bind h1 (Ev.bind (eqToothS _ hl2) (ev_pos rfl (Ev.bind h2 (Ev.bind (eqStrikeS _ hs2) (ev_pos rfl (Ev.bind (markToothS _ 1 (by omega) (by omega) hl2) (Ev.bind (markStrikeS _ _ (by omega) (by omega) hs2) (ev_neg (by omega) (Ev.bind (eqIntS _ g3) (ev_pos rfl ?_))))))))))
      refine Ev.step (fun k => rfl) (ev_neg (by simp) (Ev.bind (markIntS _ 1 (by omega) (by omega) g3) (Ev.bind (heldIntS _ 1 (by omega) (by omega) g3) (ev_neg (by omega) (ev_pos rfl (Ev.bind h1 (Ev.bind h2 (Ev.bind g2 (Ev.bind (eqIntS _ g3) (ev_pos rfl ?_))))))))))
      exact Ev.step (fun k => rfl) (ev_neg (by simp) (Ev.bind (heldIntS _ 1 (by omega) (by omega) g3) (ev_neg (by omega) (ev_pos rfl (Ev.now _)))))
    · rw [if_neg c1]
      exact ev_pos (by omega) (Ev.now _)
  · rw [if_neg c0]
    exact ev_pos (by omega) (Ev.now _)
end Go.Proofs.Ytjniaiobnbdhhac.PureFnExactDampersNeeded
