/- The plain statement of FnExactGiveTeeth (lemmas): the law's function, over numbers and lists, answers true. No conditions beyond the arguments' own kinds. -/
import Derived.Test.YtjniaiobnbdhhaaRGiveTeeth8
import Derived.Test.YtjniaiobnbdhhaaPureFnExactGiveTeethb
namespace Go.Proofs.Ytjniaiobnbdhhaa.PureFnExactGiveTeeth
open Go Go.RowKit Go.Proofs.Ytjniaiobnbdhhaa.PFnExactGiveTeeth Go.Proofs.YtjniaiobnbdhhaaW.PrintWords Go.Proofs.YtjniaiobnbdhhaaW.PrintLast Go.Proofs.YtjniaiobnbdhhaaW.PrintMore Go.Proofs.Ytjniaiobnbdhhaa.Lib
set_option linter.unusedVariables false
set_option linter.unusedSimpArgs false
theorem gt_both (l : List S104) (s : List S108) (rest : Int) (hl : l.length ≤ 1048576) (hsl : s.length ≤ 1048576) :
    ∃ r : List Int × Bool, Ev (fun k => spec_GiveTeeth.f k l s rest) r ∧ Ev (fun k => impl_GiveTeeth.f k l s rest) r ∧ r.1.length ≤ 1048576 := by
  unfold spec_GiveTeeth.f impl_GiveTeeth.f
  have hi : ∀ a : Int, impl_isRest.f a = some (decide (1 ≤ a ∧ a ≤ 200)) := by
    intro a
    unfold impl_isRest.f
    by_cases h : a ≥ 1
    · rw [if_pos h]; exact some_dec (fun h' => ⟨by omega, h'⟩) (fun h' => h'.2)
    · rw [if_neg h]; exact some_dec_f (fun h' => h (by omega))
  have ha := spec_asked2 l s rest hl hsl
  simp only [hi, Option.bind_some]
  by_cases h1 : isC l
  · by_cases h2 : areS s
    · by_cases h3 : 1 ≤ rest ∧ rest ≤ 200
      · obtain ⟨r, g1, g2, g3⟩ := give_both l s rest hl h2.2 h2 h3
        exact ⟨(r.1, r.2), Ev.bind ha (ev_pos (decide_eq_true ⟨h1, h2, h3⟩) (Ev.bind g1 (Ev.now _))), Ev.bind (impl_isC l hl) (ev_pos (decide_eq_true h1) (Ev.bind (impl_areS s hsl) (ev_pos (decide_eq_true h2) (ev_pos (decide_eq_true h3) (Ev.bind g2 (Ev.now _)))))), g3⟩
      · exact ⟨([], false), Ev.bind ha (ev_neg (by simp only [decide_eq_true_eq]; exact fun h => h3 h.2.2) (Ev.now _)), Ev.bind (impl_isC l hl) (ev_pos (decide_eq_true h1) (Ev.bind (impl_areS s hsl) (ev_pos (decide_eq_true h2) (ev_neg (by simpa using h3) (Ev.now _))))), Nat.zero_le _⟩
    · exact ⟨([], false), Ev.bind ha (ev_neg (by simp only [decide_eq_true_eq]; exact fun h => h2 h.2.1) (Ev.now _)), Ev.bind (impl_isC l hl) (ev_pos (decide_eq_true h1) (Ev.bind (impl_areS s hsl) (ev_neg (by simpa using h2) (Ev.now _)))), Nat.zero_le _⟩
  · exact ⟨([], false), Ev.bind ha (ev_neg (by simp only [decide_eq_true_eq]; exact fun h => h1 h.1) (Ev.now _)), Ev.bind (impl_isC l hl) (ev_neg (by simpa using h1) (Ev.now _)), Nat.zero_le _⟩
end Go.Proofs.Ytjniaiobnbdhhaa.PureFnExactGiveTeeth
