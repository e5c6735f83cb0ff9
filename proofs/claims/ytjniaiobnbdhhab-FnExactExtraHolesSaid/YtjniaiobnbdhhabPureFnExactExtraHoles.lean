/- The plain statement of FnExactExtraHoles: the law's function, over numbers and lists, answers true. No conditions beyond the arguments' own kinds. -/
import Derived.Test.YtjniaiobnbdhhabSExtraHoles15
import Derived.Test.YtjniaiobnbdhhabPureFnExactExtraHolesc
namespace Go.Proofs.Ytjniaiobnbdhhab.PureFnExactExtraHoles
open Go Go.RowKit Go.Proofs.Ytjniaiobnbdhhab.PFnExactExtraHoles Go.Proofs.YtjniaiobnbdhhabW.PrintWords Go.Proofs.YtjniaiobnbdhhabW.PrintLast Go.Proofs.YtjniaiobnbdhhabW.PrintMore Go.Proofs.Ytjniaiobnbdhhab.Lib
set_option linter.unusedVariables false
set_option linter.unusedSimpArgs false
theorem mh (pi : List Int) (rp : Int) (l : List S95) (s : List S80) (h1 : pi.length ≤ 1048576) (h2 : l.length ≤ 1048576) (h3 : s.length ≤ 1048576) :
    ∃ r : List Int × Bool, Ev (fun k => spec_ExtraHoles.f k pi rp l s) r ∧ Ev (fun k => impl_ExtraHoles.f k pi rp l s) r ∧ r.1.length ≤ 1048576 := by
  unfold spec_ExtraHoles.f impl_ExtraHoles.f
  by_cases hg : isIn pi rp ∧ isSc l ∧ isSh s
  · obtain ⟨r, g1, g2, g3, g4⟩ := matched_ev pi rp l s h1 h2 hg.2.2
    exact ⟨(r.2, true), Ev.bind (spec_asked pi rp l s h1 h2 h3) (ev_pos (decide_eq_true hg) (Ev.bind g1 (Ev.now _))), Ev.bind (impl_can pi rp l s h1 h2 h3) (ev_pos (decide_eq_true hg) (Ev.bind g2 (Ev.now _))), by have := g4.2.2; have := hg.2.2.1; show r.2.length ≤ 1048576; omega⟩
  · exact ⟨([], false), Ev.bind (spec_asked pi rp l s h1 h2 h3) (ev_neg (by simpa using hg) (Ev.now _)), Ev.bind (impl_can pi rp l s h1 h2 h3) (ev_neg (by simpa using hg) (Ev.now _)), Nat.zero_le _⟩
theorem FnExactExtraHoles (l0_0 : List (Int)) (a0_1 : Int) (l1 : List (S101)) (l2 : List (S82)) (w0_0 : (l0_0.length ≤ maxLen ∧ ∀ y1 ∈ l0_0, (Lit.int .i64 y1).wf = true)) (w0_1 : (Lit.int .i64 a0_1).wf = true) (w1 : (l1.length ≤ maxLen ∧ ∀ y1 ∈ l1, ((Lit.int .i64 y1.f0).wf = true ∧ (Lit.int .i64 y1.f1).wf = true ∧ (Lit.int .i64 y1.f2).wf = true))) (w2 : (l2.length ≤ maxLen ∧ ∀ y1 ∈ l2, ((Lit.int .i64 y1.f0).wf = true ∧ (Lit.int .i64 y1.f1).wf = true ∧ (Lit.int .i64 y1.f2).wf = true))) :
    ∃ k, laws_FnExactExtraHoles.f k l0_0 a0_1 l1 l2 = some true := by
  have hm0 := w0_0.1
  have hm1 := w1.1
  have hm2 := w2.1
  unfold maxLen at hm0 hm1 hm2
  refine Ev.rounds (g := fun k => laws_FnExactExtraHoles.f k l0_0 a0_1 l1 l2) ?_
  unfold laws_FnExactExtraHoles.f
  refine ev_call (szInst _ _ (by omega)) (ev_ite (fun _ => Ev.now _) (fun c0 => ?_))
  have hl0 : l0_0.length ≤ 1048576 := by
    split at c0 <;> omega
  rw [if_pos hl0] at c0 ⊢
  refine ev_call (szNoteS _ _ (by omega) (by omega)) (ev_ite (fun _ => Ev.now _) (fun c1 => ?_))
  have hl1 : (l1.length : Int) ≤ 1048576 - (l0_0.length : Int) := by
    split at c1 <;> omega
  rw [if_pos hl1] at c1 ⊢
  refine ev_call (szHoleS _ _ (by omega) (by omega)) (ev_ite (fun _ => Ev.now _) (fun c2 => ?_))
  have hl2 : (l2.length : Int) ≤ 1048576 - (l0_0.length : Int) - l1.length := by
    split at c2 <;> omega
  have i0 := toInst l0_0 a0_1 hl0
  have i1 := toNoteS l1 (by omega)
  have i2 := toHoleS l2 (by omega)
  have k1 : (l1.map cvN).length ≤ 1048576 := by simp; omega
  have k2 : (l2.map cvH).length ≤ 1048576 := by simp; omega
  obtain ⟨r, g1, g2, g3⟩ := mh l0_0 a0_1 (l1.map cvN) (l2.map cvH) hl0 k1 k2
  have m1 := markInst l0_0 a0_1 hl0
  have m2 := markNoteS (l1.map cvN) (1 + l0_0.length) (by omega) (by omega) k1
  have m3 := markHoleS (l2.map cvH) (1 + l0_0.length + (3 : Nat) * ((l1.map cvN).length : Nat)) (by omega) (by omega) k2
  refine Ev.bind i0 (Ev.bind i1 (Ev.bind i2 (Ev.bind g1 (Ev.bind i0 (Ev.bind i1 (Ev.bind i2 (Ev.bind g2 (Ev.bind (eqIntS _ g3) (ev_pos rfl ?_)))))))))
  refine Ev.step (fun k => rfl) (ev_neg (by simp) (Ev.bind i0 (Ev.bind (eqInst _ _ hl0) (ev_pos rfl (Ev.bind i1 (Ev.bind (eqNoteS _ k1) (ev_pos rfl (Ev.bind i2 (Ev.bind (eqHoleS _ k2) (ev_pos rfl (Ev.bind m1 (Ev.bind m2 (Ev.bind m3 (ev_neg (by show ¬ (_ : Int) < 0; omega) (Ev.bind (eqIntS _ g3) (ev_pos rfl ?_))))))))))))))))
  refine Ev.step (fun k => rfl) (ev_neg (by simp) (Ev.bind (markIntS _ 1 (by omega) (by omega) g3) (Ev.bind (heldIntS _ 1 (by omega) (by omega) g3) (ev_neg (by omega) (ev_pos rfl (Ev.bind i0 (Ev.bind i1 (Ev.bind i2 (Ev.bind g2 (Ev.bind (eqIntS _ g3) (ev_pos rfl ?_)))))))))))
  exact Ev.step (fun k => rfl) (ev_neg (by simp) (Ev.bind (heldIntS _ 1 (by omega) (by omega) g3) (ev_neg (by omega) (ev_pos rfl (Ev.now _)))))
end Go.Proofs.Ytjniaiobnbdhhab.PureFnExactExtraHoles
