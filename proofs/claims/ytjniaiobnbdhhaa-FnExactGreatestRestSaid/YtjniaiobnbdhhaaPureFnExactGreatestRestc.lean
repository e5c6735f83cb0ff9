/- The plain statement of FnExactGreatestRest (lemmas): the law's function, over numbers and lists, answers true. No conditions beyond the arguments' own kinds. -/
import Derived.Test.YtjniaiobnbdhhaaRGreatestRest7
import Derived.Test.YtjniaiobnbdhhaaPureFnExactGreatestRestb
namespace Go.Proofs.Ytjniaiobnbdhhaa.PureFnExactGreatestRest
open Go Go.RowKit Go.Proofs.Ytjniaiobnbdhhaa.PFnExactGreatestRest Go.Proofs.YtjniaiobnbdhhaaW.PrintWords Go.Proofs.YtjniaiobnbdhhaaW.PrintLast Go.Proofs.YtjniaiobnbdhhaaW.PrintMore Go.Proofs.Ytjniaiobnbdhhaa.Lib
set_option linter.unusedVariables false
set_option linter.unusedSimpArgs false
theorem gr_loops (l : List S104) (s : List S108) (hl : l.length ≤ 1048576) (hsl : s.length ≤ 40) (hs : areS s) : ∀ n : Nat, n ≤ 200 → ∃ r : Int × Bool, Ev (fun k => spec_GreatestRest.l0 k l s (n : Int)) r ∧ Ev (fun k => impl_GreatestRest.l0 k l s (n : Int)) r := by
  intro n
  induction n with
  | zero =>
    intro _
    refine ⟨(0, false), Ev.step (f := fun _ => some (0, false)) (fun k => ?_) (Ev.now _), Ev.step (f := fun _ => some (0, false)) (fun k => ?_) (Ev.now _)⟩
    · simp only [spec_GreatestRest.l0]
      rw [if_neg (by omega)]
    · simp only [impl_GreatestRest.l0]
      rw [if_neg (by omega)]
  | succ n ih =>
    intro hn
    have e1 : wrap64 (((n + 1 : Nat) : Int) - 1) = (n : Int) := by unfold wrap64; omega
    obtain ⟨q, g1, g2, _⟩ := give_both l s ((n + 1 : Nat) : Int) hl hsl hs ⟨by omega, by omega⟩
    obtain ⟨r, h1, h2⟩ := ih (by omega)
    by_cases c : q.2 = true
    · refine ⟨(((n + 1 : Nat) : Int), true), Ev.step (f := fun k => (spec_coGive.f k l s ((n + 1 : Nat) : Int)).bind fun bt => if bt.2 = true then some (((n + 1 : Nat) : Int), true) else spec_GreatestRest.l0 k l s (n : Int)) (fun k => ?_) (Ev.bind g1 (ev_pos c (Ev.now _))), Ev.step (f := fun k => (impl_giveTeeth.f k l s ((n + 1 : Nat) : Int)).bind fun bt => if bt.2 = true then some (((n + 1 : Nat) : Int), true) else impl_GreatestRest.l0 k l s (n : Int)) (fun k => ?_) (Ev.bind g2 (ev_pos c (Ev.now _)))⟩
      · simp only [spec_GreatestRest.l0, e1]
        rw [if_pos (by omega)]
      · simp only [impl_GreatestRest.l0, e1]
        rw [if_pos (by omega)]
    · refine ⟨r, Ev.step (f := fun k => (spec_coGive.f k l s ((n + 1 : Nat) : Int)).bind fun bt => if bt.2 = true then some (((n + 1 : Nat) : Int), true) else spec_GreatestRest.l0 k l s (n : Int)) (fun k => ?_) (Ev.bind g1 (ev_neg c h1)), Ev.step (f := fun k => (impl_giveTeeth.f k l s ((n + 1 : Nat) : Int)).bind fun bt => if bt.2 = true then some (((n + 1 : Nat) : Int), true) else impl_GreatestRest.l0 k l s (n : Int)) (fun k => ?_) (Ev.bind g2 (ev_neg c h2))⟩
      · simp only [spec_GreatestRest.l0, e1]
        rw [if_pos (by omega)]
      · simp only [impl_GreatestRest.l0, e1]
        rw [if_pos (by omega)]
theorem gr_both (l : List S104) (s : List S108) (hl : l.length ≤ 1048576) (hsl : s.length ≤ 1048576) :
    ∃ r : Int × Bool, Ev (fun k => spec_GreatestRest.f k l s) r ∧ Ev (fun k => impl_GreatestRest.f k l s) r := by
  unfold spec_GreatestRest.f impl_GreatestRest.f
  have ha := spec_asked2 l s 1 hl hsl
  by_cases h1 : isC l
  · by_cases h2 : areS s
    · obtain ⟨r, g1, g2⟩ := gr_loops l s hl h2.2 h2 200 (Nat.le_refl _)
      exact ⟨r, Ev.bind ha (ev_pos (decide_eq_true ⟨h1, h2, by omega, by omega⟩) g1), Ev.bind (impl_isC l hl) (ev_pos (decide_eq_true h1) (Ev.bind (impl_areS s hsl) (Ev.step (fun k => rfl) (ev_neg (by simpa using h2) g2))))⟩
    · exact ⟨(0, false), Ev.bind ha (ev_neg (by simp only [decide_eq_true_eq]; exact fun h => h2 h.2.1) (Ev.now _)), Ev.bind (impl_isC l hl) (ev_pos (decide_eq_true h1) (Ev.bind (impl_areS s hsl) (Ev.step (fun k => rfl) (ev_pos (by simpa using h2) (Ev.now _)))))⟩
  · exact ⟨(0, false), Ev.bind ha (ev_neg (by simp only [decide_eq_true_eq]; exact fun h => h1 h.1) (Ev.now _)), Ev.bind (impl_isC l hl) (ev_neg (by simpa using h1) (Ev.step (f := fun _ => some (0, false)) (fun k => rfl) (Ev.now _)))⟩
end Go.Proofs.Ytjniaiobnbdhhaa.PureFnExactGreatestRest
