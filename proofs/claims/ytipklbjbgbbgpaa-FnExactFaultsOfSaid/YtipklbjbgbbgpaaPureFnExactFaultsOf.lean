/- The plain statement of FnExactFaultsOf: the law's function, over numbers and lists, answers true. No conditions beyond the arguments' own kinds. -/
import Derived.Test.YtipklbjbgbbgpaaSFaultsOfL
import Derived.Test.YtipklbjbgbbgpaaPureFnExactFaultsOfe
namespace Go.Proofs.Ytipklbjbgbbgpaa.PureFnExactFaultsOf
open Go Go.RowKit Go.Proofs.Ytipklbjbgbbgpaa.PFnExactFaultsOf Go.Proofs.YtipklbjbgbbgpaaW.PrintWords Go.Proofs.YtipklbjbgbbgpaaW.PrintLast Go.Proofs.YtipklbjbgbbgpaaW.PrintMore Go.Proofs.Ytipklbjbgbbgpaa.Lib
set_option linter.unusedVariables false
set_option linter.unusedSimpArgs false
theorem faults_both (pi : List Int) (rp : Int) (l : List S62) (s : List S66) (d b c most : Int) (h1 : pi.length ≤ 1048576) (hi : isIn pi rp) (hl : isSc l) (hs : isSh s) :
    ∃ r : List (List Int), Ev (fun k => spec_vfFaults.f k pi rp l s d b c most) r ∧ Ev (fun k => impl_faultsOf.f k pi rp l s d b c most) r ∧ r.length ≤ 180 ∧ ∀ x ∈ r, x.length ≤ 2 := by
  have h2 : l.length ≤ 30 := hl.1
  have h3 : s.length ≤ 60 := hs.1
  obtain ⟨m, g1, g2, g3, g4⟩ := matched_ev pi rp l s h1 (by omega) hs
  obtain ⟨p, q1, q2, q3, q4⟩ := py_both pi rp s d b c hi hs
  have he := spec_errs l s m.1 (by omega) g3 g4.1
  have hpl := parts_len (errs l s m.1 m.1.length) most m.1.length
  have hel := errs_len l s m.1 m.1.length
  have hx := g4.2.1
  have hp := q4.1
  have hsf := sort_faults (errs l s m.1 m.1.length) most g4.2.2.1 q4.2.1
  rw [hel] at hsf
  have hlen := (all_perm (errs l s m.1 m.1.length) most m.2 p.2).length_eq
  rw [hel] at hlen
  have hr1 : (vff.rows 1 m.2).length = m.2.length := List.length_map _
  have hr4 : (vff.rows 4 p.2).length = p.2.length := List.length_map _
  refine ⟨vff.faults (errs l s m.1 m.1.length) m.2 p.2 most, ?_, ?_, ?_, fun x hx' => ?_⟩
  · unfold spec_vfFaults.f spec_vfErrors.f
    refine Ev.bind g1 (Ev.bind q1 (Ev.bind (Ev.bind g1 he) (ev_pos ⟨?_, ?_, ?_, errs_two _ _ _ _⟩ (Ev.now _))))
    · rw [hel]; omega
    · omega
    · omega
  · unfold impl_faultsOf.f
    refine Ev.bind g2 (impl_l0 l s m.1 m.2 most rp d b c pi (by omega) g3 g4.1 _ (impl_l1 s _ m.2 rp d b c pi p.2 _ (by omega) (by omega) p q2 ?_))
    rw [← hsf]
    refine impl_l2 _ p.2 ?_ (by omega) (fun x hx' => ?_)
    · rw [List.length_append, hr1]; omega
    · rcases List.mem_append.1 hx' with h | h
      · exact parts_two _ _ _ x h
      · obtain ⟨i, _, rfl⟩ := List.mem_map.1 h
        exact Nat.le_refl _
  · rw [← hlen, List.length_append, List.length_append, hr1, hr4]; omega
  · have h := (all_perm (errs l s m.1 m.1.length) most m.2 p.2).mem_iff.2 hx'
    rw [hel] at h
    rcases List.mem_append.1 h with h | h
    · rcases List.mem_append.1 h with h | h
      · exact parts_two _ _ _ x h
      · obtain ⟨i, _, rfl⟩ := List.mem_map.1 h
        exact Nat.le_refl _
    · obtain ⟨i, _, rfl⟩ := List.mem_map.1 h
      exact Nat.le_refl _

theorem fo (pi : List Int) (rp : Int) (l : List S62) (s : List S66) (d b c most : Int) (h1 : pi.length ≤ 1048576) (h2 : l.length ≤ 1048576) (h3 : s.length ≤ 1048576) :
    ∃ r : List (List Int) × Bool, Ev (fun k => spec_FaultsOf.f k pi rp l s d b c most) r ∧ Ev (fun k => impl_FaultsOf.f k pi rp l s d b c most) r ∧ r.1.length ≤ 1048576 ∧ ∀ x ∈ r.1, x.length ≤ 2 := by
  have sa := spec_asked pi rp l s h1 h2 h3
  have im := impl_can pi rp l s h1 h2 h3
  have no : ([] : List (List Int)).length ≤ 1048576 ∧ ∀ x ∈ ([] : List (List Int)), x.length ≤ 2 := ⟨Nat.zero_le _, fun x hx => by cases hx⟩
  unfold spec_FaultsOf.f impl_FaultsOf.f spec_vfAll.f
  by_cases hg : isIn pi rp ∧ isSc l ∧ isSh s
  · by_cases ha : actOk d b c
    · by_cases hm : 0 ≤ most ∧ most ≤ 50
      · obtain ⟨r, r1, r2, r3, r4⟩ := faults_both pi rp l s d b c most h1 hg.1 hg.2.1 hg.2.2
        exact ⟨(r, true), Ev.bind (a := true) (Ev.bind sa (ev_pos (decide_eq_true hg) (ev_call (spec_act d b c) (ev_pos (decide_eq_true ha) (ev_call (spec_most most) (ev_now (decide_eq_true hm))))))) (ev_pos rfl (Ev.bind r1 (Ev.now _))), Ev.bind im (ev_pos (decide_eq_true hg) (ev_call (impl_act d b c) (ev_pos (decide_eq_true ha) (ev_call (impl_most most) (ev_pos (decide_eq_true hm) (Ev.bind r2 (Ev.now _))))))), by show r.length ≤ 1048576; omega, r4⟩
      · exact ⟨([], false), Ev.bind (a := false) (Ev.bind sa (ev_pos (decide_eq_true hg) (ev_call (spec_act d b c) (ev_pos (decide_eq_true ha) (ev_call (spec_most most) (ev_now (decide_eq_false hm))))))) (ev_neg (by simp) (Ev.now _)), Ev.bind im (ev_pos (decide_eq_true hg) (ev_call (impl_act d b c) (ev_pos (decide_eq_true ha) (ev_call (impl_most most) (ev_neg (by simpa using hm) (Ev.now _)))))), no⟩
    · exact ⟨([], false), Ev.bind (a := false) (Ev.bind sa (ev_pos (decide_eq_true hg) (ev_call (spec_act d b c) (ev_neg (by simpa using ha) (Ev.now _))))) (ev_neg (by simp) (Ev.now _)), Ev.bind im (ev_pos (decide_eq_true hg) (ev_call (impl_act d b c) (ev_neg (by simpa using ha) (Ev.now _)))), no⟩
  · exact ⟨([], false), Ev.bind (a := false) (Ev.bind sa (ev_neg (by simpa using hg) (Ev.now _))) (ev_neg (by simp) (Ev.now _)), Ev.bind im (ev_neg (by simpa using hg) (Ev.now _)), no⟩
theorem FnExactFaultsOf (l0_0 : List (Int)) (a0_1 : Int) (l1 : List (S64)) (l2 : List (S68)) (a3_0 a3_1 a3_2 a4 : Int) (w0_0 : (l0_0.length ≤ maxLen ∧ ∀ y1 ∈ l0_0, (Lit.int .i64 y1).wf = true)) (w0_1 : (Lit.int .i64 a0_1).wf = true) (w1 : (l1.length ≤ maxLen ∧ ∀ y1 ∈ l1, ((Lit.int .i64 y1.f0).wf = true ∧ (Lit.int .i64 y1.f1).wf = true ∧ (Lit.int .i64 y1.f2).wf = true))) (w2 : (l2.length ≤ maxLen ∧ ∀ y1 ∈ l2, ((Lit.int .i64 y1.f0).wf = true ∧ (Lit.int .i64 y1.f1).wf = true ∧ (Lit.int .i64 y1.f2).wf = true))) (w3_0 : (Lit.int .i64 a3_0).wf = true) (w3_1 : (Lit.int .i64 a3_1).wf = true) (w3_2 : (Lit.int .i64 a3_2).wf = true) (w4 : (Lit.int .i64 a4).wf = true) :
    ∃ k, laws_FnExactFaultsOf.f k l0_0 a0_1 l1 l2 a3_0 a3_1 a3_2 a4 = some true := by
  have hm0 := w0_0.1
  have hm1 := w1.1
  have hm2 := w2.1
  unfold maxLen at hm0 hm1 hm2
  refine Ev.rounds (g := fun k => laws_FnExactFaultsOf.f k l0_0 a0_1 l1 l2 a3_0 a3_1 a3_2 a4) ?_
  unfold laws_FnExactFaultsOf.f
  refine ev_call (szInst _ _ (by omega)) (ev_ite (fun _ => Ev.now _) (fun c0 => ?_))
  have hl0 : l0_0.length ≤ 1048576 := by
    split at c0 <;> omega
  rw [if_pos hl0] at c0 ⊢
  refine ev_call (szNoteS _ _ (by omega) (by omega)) (ev_ite (fun _ => Ev.now _) (fun c1 => ?_))
  have hl1 : (l1.length : Int) ≤ 1048576 - (l0_0.length : Int) := by
    split at c1 <;> omega
  rw [if_pos hl1] at c1 ⊢
  refine ev_call (szHoleS _ _ (by omega) (by omega)) (ev_ite (fun _ => Ev.now _) (fun c2 => ?_))
  have hl2 : (l2.length : Int) ≤ 1048576 - (l0_0.length : Int) - l1.length := by
    split at c2 <;> omega
  have i0 := toInst l0_0 a0_1 hl0
  have i1 := toNoteS l1 (by omega)
  have i2 := toHoleS l2 (by omega)
  have i3 : laws_toAction.f a3_0 a3_1 a3_2 = some (a3_0, a3_1, a3_2) := rfl
  have k1 : (l1.map cvN).length ≤ 1048576 := by simp; omega
  have k2 : (l2.map cvH).length ≤ 1048576 := by simp; omega
  obtain ⟨r, g1, g2, g3, g4⟩ := fo l0_0 a0_1 (l1.map cvN) (l2.map cvH) a3_0 a3_1 a3_2 a4 hl0 k1 k2
  have m1 := markInst l0_0 a0_1 hl0
  have m2 := markNoteS (l1.map cvN) (1 + l0_0.length) (by omega) (by omega) k1
  have m3 := markHoleS (l2.map cvH) (1 + l0_0.length + (3 : Nat) * ((l1.map cvN).length : Nat)) (by omega) (by omega) k2
  have q3 : ∀ x ∈ r.1, x.length ≤ 1048576 := fun x hx => by have := g4 x hx; omega
  have qt : totR r.1 ≤ 1073741824 := by have := totR_le 2 r.1 g4; omega
  have e1 := eqIntSS r.1 (by omega) q3
  have e2 := markIntSS r.1 g3 q3 qt
  have e3 := heldIntSS r.1 g3 q3 qt
  refine Ev.bind i0 (Ev.bind i1 (Ev.bind i2 (ev_call i3 (Ev.bind g1 (Ev.bind i0 (Ev.bind i1 (Ev.bind i2 (ev_call i3 (Ev.bind g2 (Ev.bind e1 (ev_pos rfl (ev_pos rfl ?_))))))))))))
  refine Ev.bind i0 (Ev.bind (eqInst _ _ hl0) (ev_pos rfl (Ev.bind i1 (Ev.bind (eqNoteS _ k1) (ev_pos rfl (Ev.bind i2 (Ev.bind (eqHoleS _ k2) (ev_pos rfl (Ev.bind m1 (Ev.bind m2 (Ev.bind m3 (ev_neg (by show ¬ (_ : Int) < 0; omega) (Ev.bind e1 (ev_pos rfl ?_))))))))))))))
  exact Ev.bind e2 (Ev.bind e3 (ev_neg (by omega) (ev_pos rfl (Ev.bind i0 (Ev.bind i1 (Ev.bind i2 (ev_call i3 (Ev.bind g2 (Ev.bind e1 (ev_pos rfl (ev_pos rfl (Ev.bind e3 (ev_neg (by omega) (ev_pos rfl (Ev.now _)))))))))))))))
end Go.Proofs.Ytipklbjbgbbgpaa.PureFnExactFaultsOf
