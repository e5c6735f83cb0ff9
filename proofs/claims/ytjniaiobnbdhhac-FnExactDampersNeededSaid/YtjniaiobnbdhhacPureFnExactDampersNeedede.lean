/- The plain statement of FnExactDampersNeeded (lemmas): the law's function, over numbers and lists, answers true. No conditions beyond the arguments' own kinds. -/
import Derived.Test.YtjniaiobnbdhhacSDampersNeeded10
import Derived.Test.YtjniaiobnbdhhacPureFnExactDampersNeededd
namespace Go.Proofs.Ytjniaiobnbdhhac.PureFnExactDampersNeeded
open Go Go.RowKit Go.Proofs.Ytjniaiobnbdhhac.PFnExactDampersNeeded Go.Proofs.YtjniaiobnbdhhacW.PrintWords Go.Proofs.YtjniaiobnbdhhacW.PrintLast Go.Proofs.YtjniaiobnbdhhacW.PrintMore Go.Proofs.Ytjniaiobnbdhhac.Lib
set_option linter.unusedVariables false
set_option linter.unusedSimpArgs false
theorem dn_both (l : List S99) (s : List S97) (rest ring : Int) (hl : l.length ≤ 1048576) (hsl : s.length ≤ 1048576) :
    ∃ r : List Int × Bool, Ev (fun k => spec_DampersNeeded.f k l s rest ring) r ∧ Ev (fun k => impl_DampersNeeded.f k l s rest ring) r ∧ r.1.length ≤ 1048576 := by
  unfold spec_DampersNeeded.f impl_DampersNeeded.f
  have hi : ∀ a : Int, impl_isRest.f a = some (decide (1 ≤ a ∧ a ≤ 200)) := by
    intro a
    unfold impl_isRest.f
    by_cases h : a ≥ 1
    · rw [if_pos h]; exact some_dec (fun h' => ⟨by omega, h'⟩) (fun h' => h'.2)
    · rw [if_neg h]; exact some_dec_f (fun h' => h (by omega))
  have ha := spec_asked2 l s rest hl hsl
  have no1 : Ev (fun k => spec_DampersNeeded.j0 k l s rest ring true) (([] : List Int), false) := Ev.step (f := fun _ => some (([] : List Int), false)) (fun k => by simp only [spec_DampersNeeded.j0]; rw [if_pos trivial]) (Ev.now _)
  have no2 : Ev (fun k => impl_DampersNeeded.j0 k l s rest ring true) (([] : List Int), false) := Ev.step (f := fun _ => some (([] : List Int), false)) (fun k => by simp only [impl_DampersNeeded.j0]; rw [if_pos trivial]) (Ev.now _)
  simp only [hi, l1In_eq, Option.bind_some]
  by_cases h1 : isC l
  · by_cases h2 : areS s
    · by_cases h3 : 1 ≤ rest ∧ rest ≤ 200
      · by_cases h4 : 1 ≤ ring ∧ ring ≤ 500
        · obtain ⟨r, g1, g2, g3, g4⟩ := give_both l s rest hl h2.2 h2 h3
          have e1 : (!decide (1 ≤ ring ∧ ring ≤ 500)) = false := by simp [h4]
          have e2 : decide (ring > 500) = false := by simp; omega
          rw [e1, e2]
          cases hr : r.2 with
          | false =>
            refine ⟨([], false), Ev.bind ha (ev_pos (decide_eq_true ⟨h1, h2, h3⟩) (Ev.step (f := fun k => (spec_coGive.f k l s rest).bind fun bt => if bt.2 = true then spec_DampersNeeded.l0 k l s ring bt.1 ([] : List Int) bt.1 (bt.1.length : Int) 0 else some (([] : List Int), false)) (fun k => by simp only [spec_DampersNeeded.j0]; rw [if_neg (by simp)]) (Ev.bind g1 (ev_neg (by rw [hr]; simp) (Ev.now _))))), ?_, Nat.zero_le _⟩
            exact Ev.bind (impl_isC l hl) (ev_pos (decide_eq_true h1) (Ev.bind (impl_areS s hsl) (ev_pos (decide_eq_true h2) (ev_pos (decide_eq_true h3) (ev_neg (by omega) (Ev.step (f := fun k => (impl_giveTeeth.f k l s rest).bind fun bt => if bt.2 = true then impl_DampersNeeded.l0 k l s ring bt.1 ([] : List Int) bt.1 (bt.1.length : Int) 0 else some (([] : List Int), false)) (fun k => by simp only [impl_DampersNeeded.j0]; rw [if_neg (by simp)]) (Ev.bind g2 (ev_neg (by rw [hr]; simp) (Ev.now _)))))))))
          | true =>
            obtain ⟨g5, g6⟩ := g4 hr
            obtain ⟨q, d1, d2, d3⟩ := dn_loops l s ring r.1 g5 h2.2 g6 hl
            refine ⟨q, Ev.bind ha (ev_pos (decide_eq_true ⟨h1, h2, h3⟩) (Ev.step (f := fun k => (spec_coGive.f k l s rest).bind fun bt => if bt.2 = true then spec_DampersNeeded.l0 k l s ring bt.1 ([] : List Int) bt.1 (bt.1.length : Int) 0 else some (([] : List Int), false)) (fun k => by simp only [spec_DampersNeeded.j0]; rw [if_neg (by simp)]) (Ev.bind g1 (ev_pos hr d1)))), ?_, d3⟩
            exact Ev.bind (impl_isC l hl) (ev_pos (decide_eq_true h1) (Ev.bind (impl_areS s hsl) (ev_pos (decide_eq_true h2) (ev_pos (decide_eq_true h3) (ev_neg (by omega) (Ev.step (f := fun k => (impl_giveTeeth.f k l s rest).bind fun bt => if bt.2 = true then impl_DampersNeeded.l0 k l s ring bt.1 ([] : List Int) bt.1 (bt.1.length : Int) 0 else some (([] : List Int), false)) (fun k => by simp only [impl_DampersNeeded.j0]; rw [if_neg (by simp)]) (Ev.bind g2 (ev_pos hr d2))))))))
        · have e1 : (!decide (1 ≤ ring ∧ ring ≤ 500)) = true := by simp only [decide_eq_false h4]; rfl
          rw [e1]
          refine ⟨([], false), Ev.bind ha (ev_pos (decide_eq_true ⟨h1, h2, h3⟩) no1), Ev.bind (impl_isC l hl) (ev_pos (decide_eq_true h1) (Ev.bind (impl_areS s hsl) (ev_pos (decide_eq_true h2) (ev_pos (decide_eq_true h3) ?_)))), Nat.zero_le _⟩
          by_cases h5 : ring < 1
          · exact ev_pos h5 no2
          · have e2 : decide (ring > 500) = true := by simp; omega
            rw [e2]
            exact ev_neg h5 no2
      · exact ⟨([], false), Ev.bind ha (ev_neg (by simp only [decide_eq_true_eq]; exact fun h => h3 h.2.2) no1), Ev.bind (impl_isC l hl) (ev_pos (decide_eq_true h1) (Ev.bind (impl_areS s hsl) (ev_pos (decide_eq_true h2) (ev_neg (by simpa using h3) no2)))), Nat.zero_le _⟩
    · exact ⟨([], false), Ev.bind ha (ev_neg (by simp only [decide_eq_true_eq]; exact fun h => h2 h.2.1) no1), Ev.bind (impl_isC l hl) (ev_pos (decide_eq_true h1) (Ev.bind (impl_areS s hsl) (ev_neg (by simpa using h2) no2))), Nat.zero_le _⟩
  · exact ⟨([], false), Ev.bind ha (ev_neg (by simp only [decide_eq_true_eq]; exact fun h => h1 h.1) no1), Ev.bind (impl_isC l hl) (ev_neg (by simpa using h1) no2), Nat.zero_le _⟩
end Go.Proofs.Ytjniaiobnbdhhac.PureFnExactDampersNeeded
