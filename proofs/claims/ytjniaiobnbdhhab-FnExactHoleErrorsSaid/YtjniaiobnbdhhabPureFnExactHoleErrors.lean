/- The plain statement of FnExactHoleErrors: the law's function, over numbers and lists, answers true. No conditions beyond the arguments' own kinds. -/
import Derived.Test.YtjniaiobnbdhhabSHoleErrorsL
import Derived.Test.YtjniaiobnbdhhabPureFnExactHoleErrorsc
namespace Go.Proofs.Ytjniaiobnbdhhab.PureFnExactHoleErrors
open Go Go.RowKit Go.Proofs.Ytjniaiobnbdhhab.PFnExactHoleErrors Go.Proofs.YtjniaiobnbdhhabW.PrintWords Go.Proofs.YtjniaiobnbdhhabW.PrintLast Go.Proofs.YtjniaiobnbdhhabW.PrintMore Go.Proofs.Ytjniaiobnbdhhab.Lib
set_option linter.unusedVariables false
set_option linter.unusedSimpArgs false
theorem err_eq (a b c : Int) : wrap64 (wrap64 (c - wrap64 (2 * wrap64 (a + b))) + 1) = wrap64 (c - wrap64 (wrap64 (2 * wrap64 (a + b)) - 1)) := by unfold wrap64; omega
/-- The errors of both ends, note by note. -/
theorem err_loops (l : List S95) (s : List S80) (g : List Int) (hl : l.length ≤ 1048576) (hgl : g.length = l.length) (hg : ∀ x ∈ g, -1 ≤ x ∧ x < (s.length : Int)) :
    ∃ r : List (List Int), Ev (fun k => spec_vfErrors.l0 k l s [] g (g.length : Int) 0) r ∧ Ev (fun k => impl_HoleErrors.l0 k l s [] g (g.length : Int) 0) (r, true) ∧ r.length = l.length ∧ ∀ x ∈ r, x.length ≤ 2 := by
  refine count_up g.length (fun i (o : List (List Int)) => o.length = i ∧ ∀ x ∈ o, x.length ≤ 2) (fun i o => ∃ r : List (List Int), Ev (fun k => spec_vfErrors.l0 k l s o g (g.length : Int) (i : Int)) r ∧ Ev (fun k => impl_HoleErrors.l0 k l s o g (g.length : Int) (i : Int)) (r, true) ∧ r.length = l.length ∧ ∀ x ∈ r, x.length ≤ 2) (fun o ho => ?_) (fun i o hi ho ih => ?_) 0 [] (Nat.zero_le _) ⟨rfl, fun x h => by cases h⟩
  · refine ⟨o, Ev.step (f := fun _ => some o) (fun k => ?_) (Ev.now _), Ev.step (f := fun _ => some (o, true)) (fun k => ?_) (Ev.now _), by rw [ho.1, hgl], ho.2⟩
    · simp only [spec_vfErrors.l0]
      rw [if_neg (by omega)]
    · simp only [impl_HoleErrors.l0]
      rw [if_neg (by omega)]
  · have e1 := wn hi (by omega)
    have r1 : rd g (i : Int) = g[i] := rd_get hi
    have hx := hg _ (List.getElem_mem hi)
    by_cases c : g[i] < 0
    · obtain ⟨r, q1, q2, q3⟩ := ih (o ++ [[]]) ⟨by simp [ho.1], fun x hx => by
        rcases List.mem_append.1 hx with h | h
        · exact ho.2 x h
        · rw [List.mem_singleton.1 h]; exact Nat.zero_le _⟩
      refine ⟨r, Ev.step (fun k => ?_) q1, Ev.step (fun k => ?_) q2, q3⟩
      · simp only [spec_vfErrors.l0, e1, r1]
        rw [if_pos (by omega), if_pos (by omega), if_pos (by omega), if_pos c, if_pos (by omega)]
      · simp only [impl_HoleErrors.l0, e1, r1]
        rw [if_pos (by omega), if_pos (by omega), if_pos (by omega), if_neg (by omega), if_pos (by omega)]
    · obtain ⟨r, q1, q2, q3⟩ := ih (o ++ [[wrap64 ((rd_T80 s g[i]).f1 - wrap64 (2 * (rd_T95 l (i : Int)).f1)), wrap64 ((rd_T80 s g[i]).f2 - wrap64 (wrap64 (2 * wrap64 ((rd_T95 l (i : Int)).f1 + (rd_T95 l (i : Int)).f2)) - 1))]]) ⟨by simp [ho.1], fun x hx => by
        rcases List.mem_append.1 hx with h | h
        · exact ho.2 x h
        · rw [List.mem_singleton.1 h]; exact Nat.le_refl _⟩
      refine ⟨r, Ev.step (fun k => ?_) q1, Ev.step (fun k => ?_) q2, q3⟩
      · simp only [spec_vfErrors.l0, e1, r1]
        rw [if_pos (by omega), if_pos (by omega), if_pos (by omega), if_neg c, if_pos (by omega), if_pos (by omega), if_pos (by omega), if_pos (by omega), err_eq]
      · simp only [impl_HoleErrors.l0, e1, r1, impl_holeErrors.f, impl_noteEnd.f, Option.bind_some]
        rw [if_pos (by omega), if_pos (by omega), if_pos (by omega), if_pos (by omega), if_pos (by omega), if_pos (by omega), if_pos (by omega), if_pos (by omega)]

theorem he (pi : List Int) (rp : Int) (l : List S95) (s : List S80) (h1 : pi.length ≤ 1048576) (h2 : l.length ≤ 1048576) (h3 : s.length ≤ 1048576) :
    ∃ r : List (List Int) × Bool, Ev (fun k => spec_HoleErrors.f k pi rp l s) r ∧ Ev (fun k => impl_HoleErrors.f k pi rp l s) r ∧ r.1.length ≤ 1048576 ∧ ∀ x ∈ r.1, x.length ≤ 2 := by
  unfold spec_HoleErrors.f impl_HoleErrors.f spec_vfErrors.f
  by_cases hg : isIn pi rp ∧ isSc l ∧ isSh s
  · obtain ⟨m, g1, g2, g3, g4⟩ := matched_ev pi rp l s h1 h2 hg.2.2
    obtain ⟨r, q1, q2, q3, q4⟩ := err_loops l s m.1 h2 g3 g4.1
    exact ⟨(r, true), Ev.bind (spec_asked pi rp l s h1 h2 h3) (ev_pos (decide_eq_true hg) (Ev.bind (Ev.bind g1 q1) (Ev.now _))), Ev.bind (impl_can pi rp l s h1 h2 h3) (ev_pos (decide_eq_true hg) (Ev.bind g2 q2)), by show r.length ≤ 1048576; omega, q4⟩
  · exact ⟨([], false), Ev.bind (spec_asked pi rp l s h1 h2 h3) (ev_neg (by simpa using hg) (Ev.now _)), Ev.bind (impl_can pi rp l s h1 h2 h3) (ev_neg (by simpa using hg) (Ev.now _)), Nat.zero_le _, fun x h => by cases h⟩
theorem FnExactHoleErrors (l0_0 : List (Int)) (a0_1 : Int) (l1 : List (S101)) (l2 : List (S82)) (w0_0 : (l0_0.length ≤ maxLen ∧ ∀ y1 ∈ l0_0, (Lit.int .i64 y1).wf = true)) (w0_1 : (Lit.int .i64 a0_1).wf = true) (w1 : (l1.length ≤ maxLen ∧ ∀ y1 ∈ l1, ((Lit.int .i64 y1.f0).wf = true ∧ (Lit.int .i64 y1.f1).wf = true ∧ (Lit.int .i64 y1.f2).wf = true))) (w2 : (l2.length ≤ maxLen ∧ ∀ y1 ∈ l2, ((Lit.int .i64 y1.f0).wf = true ∧ (Lit.int .i64 y1.f1).wf = true ∧ (Lit.int .i64 y1.f2).wf = true))) :
    ∃ k, laws_FnExactHoleErrors.f k l0_0 a0_1 l1 l2 = some true := by
  have hm0 := w0_0.1
  have hm1 := w1.1
  have hm2 := w2.1
  unfold maxLen at hm0 hm1 hm2
  refine Ev.rounds (g := fun k => laws_FnExactHoleErrors.f k l0_0 a0_1 l1 l2) ?_
  unfold laws_FnExactHoleErrors.f
  refine ev_call (szInst _ _ (by omega)) (ev_ite (fun _ => Ev.now _) (fun c0 => ?_))
  have hl0 : l0_0.length ≤ 1048576 := by
    split at c0 <;> omega
  rw [if_pos hl0] at c0 ⊢
  refine ev_call (szNoteS _ _ (by omega) (by omega)) (ev_ite (fun _ => Ev.now _) (fun c1 => ?_))
  have hl1 : (l1.length : Int) ≤ 1048576 - (l0_0.length : Int) := by
    split at c1 <;> omega
  rw [if_pos hl1] at c1 ⊢
  refine ev_call (szHoleS _ _ (by omega) (by omega)) (ev_ite (fun _ => Ev.now _) (fun c2 => ?_))
  have hl2 : (l2.length : Int) ≤ 1048576 - (l0_0.length : Int) - l1.length := by
    split at c2 <;> omega
  have i0 := toInst l0_0 a0_1 hl0
  have i1 := toNoteS l1 (by omega)
  have i2 := toHoleS l2 (by omega)
  have k1 : (l1.map cvN).length ≤ 1048576 := by simp; omega
  have k2 : (l2.map cvH).length ≤ 1048576 := by simp; omega
  obtain ⟨r, g1, g2, g3, g4⟩ := he l0_0 a0_1 (l1.map cvN) (l2.map cvH) hl0 k1 k2
  have m1 := markInst l0_0 a0_1 hl0
  have m2 := markNoteS (l1.map cvN) (1 + l0_0.length) (by omega) (by omega) k1
  have m3 := markHoleS (l2.map cvH) (1 + l0_0.length + (3 : Nat) * ((l1.map cvN).length : Nat)) (by omega) (by omega) k2
  have q3 : ∀ x ∈ r.1, x.length ≤ 1048576 := fun x hx => by have := g4 x hx; omega
  have qt : totR r.1 ≤ 1073741824 := by have := totR_le 2 r.1 g4; omega
  have e1 := eqIntSS r.1 (by omega) q3
  have e2 := markIntSS r.1 g3 q3 qt
  have e3 := heldIntSS r.1 g3 q3 qt
  refine Ev.bind i0 (Ev.bind i1 (Ev.bind i2 (Ev.bind g1 (Ev.bind i0 (Ev.bind i1 (Ev.bind i2 (Ev.bind g2 (Ev.bind e1 (ev_pos rfl (ev_pos rfl ?_))))))))))
  refine Ev.bind i0 (Ev.bind (eqInst _ _ hl0) (ev_pos rfl (Ev.bind i1 (Ev.bind (eqNoteS _ k1) (ev_pos rfl (Ev.bind i2 (Ev.bind (eqHoleS _ k2) (ev_pos rfl (Ev.bind m1 (Ev.bind m2 (Ev.bind m3 (ev_neg (by show ¬ (_ : Int) < 0; omega) (Ev.bind e1 (ev_pos rfl ?_))))))))))))))
  exact Ev.bind e2 (Ev.bind e3 (ev_neg (by omega) (ev_pos rfl (Ev.bind i0 (Ev.bind i1 (Ev.bind i2 (Ev.bind g2 (Ev.bind e1 (ev_pos rfl (ev_pos rfl (Ev.bind e3 (ev_neg (by omega) (ev_pos rfl (Ev.now _))))))))))))))
end Go.Proofs.Ytjniaiobnbdhhab.PureFnExactHoleErrors
