/- The plain statement of FnStrikes (lemmas): the law's function, over numbers and lists, answers true. No conditions beyond the arguments' own kinds. -/
import Derived.Test.YtiekokdlcgpcdaaSFnStrikes13
import Derived.Test.YtiekokdlcgpcdaaPureFnStrikese
namespace Go.Proofs.Ytiekokdlcgpcdaa.PureFnStrikes
open Go Go.RowKit Go.Proofs.Ytiekokdlcgpcdaa.PFnStrikes Go.Proofs.YtiekokdlcgpcdaaW.PrintWords Go.Proofs.YtiekokdlcgpcdaaW.PrintLast Go.Proofs.YtiekokdlcgpcdaaW.PrintMore Go.Proofs.Ytiekokdlcgpcdaa.Lib
set_option linter.unusedVariables false
set_option linter.unusedSimpArgs false
def okG (l : List S41) (s : List S45) (rest : Int) (b : Bool) : Prop := ∃ q : List Int × Bool, Ev (fun k => impl_giveTeeth.f k l s rest) q ∧ q.2 = b
theorem gr_loops3 (l : List S41) (s : List S45) (hl : l.length ≤ 1048576) (hs : areS s) : ∀ n : Nat, n ≤ 200 → ∃ r : Int × Bool, Ev (fun k => spec_GreatestRest.l0 k l s (n : Int)) r ∧ Ev (fun k => impl_GreatestRest.l0 k l s (n : Int)) r ∧ (r.2 = true → 1 ≤ r.1 ∧ r.1 ≤ n ∧ okG l s r.1 true ∧ (r.1 < n → okG l s (r.1 + 1) false)) ∧ (r.2 = false → r.1 = 0 ∧ (1 ≤ n → okG l s 1 false)) := by
  intro n
  induction n with
  | zero =>
    intro _
    refine ⟨(0, false), Ev.step (f := fun _ => some (0, false)) (fun k => ?_) (Ev.now _), Ev.step (f := fun _ => some (0, false)) (fun k => ?_) (Ev.now _), (fun h => by cases h), fun _ => ⟨rfl, fun h => by omega⟩⟩
    · simp only [spec_GreatestRest.l0]
      rw [if_neg (by omega)]
    · simp only [impl_GreatestRest.l0]
      rw [if_neg (by omega)]
  | succ n ih =>
    intro hn
    have e1 : wrap64 (((n + 1 : Nat) : Int) - 1) = (n : Int) := by unfold wrap64; omega
    obtain ⟨q, g1, g2, _⟩ := give_both3 l s ((n + 1 : Nat) : Int) hl hs ⟨by omega, by omega⟩
    obtain ⟨r, h1, h2, h3, h4⟩ := ih (by omega)
    by_cases c : q.2 = true
    · refine ⟨(((n + 1 : Nat) : Int), true), Ev.step (f := fun k => (spec_coGive.f k l s ((n + 1 : Nat) : Int)).bind fun bt => if bt.2 = true then some (((n + 1 : Nat) : Int), true) else spec_GreatestRest.l0 k l s (n : Int)) (fun k => ?_) (Ev.bind g1 (ev_pos c (Ev.now _))), Ev.step (f := fun k => (impl_giveTeeth.f k l s ((n + 1 : Nat) : Int)).bind fun bt => if bt.2 = true then some (((n + 1 : Nat) : Int), true) else impl_GreatestRest.l0 k l s (n : Int)) (fun k => ?_) (Ev.bind g2 (ev_pos c (Ev.now _))), fun _ => ⟨by show (1 : Int) ≤ ((n + 1 : Nat) : Int); omega, Int.le_refl _, ⟨q, g2, c⟩, fun h => absurd h (Int.lt_irrefl _)⟩, fun h => by cases h⟩
      · simp only [spec_GreatestRest.l0, e1]
        rw [if_pos (by omega)]
      · simp only [impl_GreatestRest.l0, e1]
        rw [if_pos (by omega)]
    · have c' : q.2 = false := by
        cases h : q.2 with
        | true => exact absurd h c
        | false => rfl
      refine ⟨r, Ev.step (f := fun k => (spec_coGive.f k l s ((n + 1 : Nat) : Int)).bind fun bt => if bt.2 = true then some (((n + 1 : Nat) : Int), true) else spec_GreatestRest.l0 k l s (n : Int)) (fun k => ?_) (Ev.bind g1 (ev_neg c h1)), Ev.step (f := fun k => (impl_giveTeeth.f k l s ((n + 1 : Nat) : Int)).bind fun bt => if bt.2 = true then some (((n + 1 : Nat) : Int), true) else impl_GreatestRest.l0 k l s (n : Int)) (fun k => ?_) (Ev.bind g2 (ev_neg c h2)), fun h => ?_, fun h => ⟨(h4 h).1, fun _ => ?_⟩⟩
      · simp only [spec_GreatestRest.l0, e1]
        rw [if_pos (by omega)]
      · simp only [impl_GreatestRest.l0, e1]
        rw [if_pos (by omega)]
      · obtain ⟨a1, a2, a3, a4⟩ := h3 h
        refine ⟨a1, by omega, a3, fun hlt => ?_⟩
        by_cases e : r.1 = (n : Int)
        · rw [e]
          exact ⟨q, g2, c'⟩
        · exact a4 (by omega)
      · by_cases e : 1 ≤ n
        · exact (h4 h).2 e
        · have : n = 0 := by omega
          subst this
          exact ⟨q, g2, c'⟩
theorem gr_both3 (l : List S41) (s : List S45) (hl : l.length ≤ 1048576) (hsl : s.length ≤ 1048576) :
    ∃ r : Int × Bool, Ev (fun k => spec_GreatestRest.f k l s) r ∧ Ev (fun k => impl_GreatestRest.f k l s) r ∧ (r.2 = true → isC l ∧ areS s ∧ 1 ≤ r.1 ∧ r.1 ≤ 200 ∧ okG l s r.1 true ∧ (r.1 < 200 → okG l s (r.1 + 1) false)) := by
  unfold spec_GreatestRest.f impl_GreatestRest.f
  have ha := spec_asked2 l s 1 hl hsl
  by_cases h1 : isC l
  · by_cases h2 : areS s
    · obtain ⟨r, g1, g2, g3, _⟩ := gr_loops3 l s hl h2 200 (Nat.le_refl _)
      exact ⟨r, Ev.bind ha (ev_pos (decide_eq_true ⟨h1, h2, by omega, by omega⟩) g1), Ev.bind (impl_isC l hl) (ev_pos (decide_eq_true h1) (Ev.bind (impl_areS s hsl) (Ev.step (fun k => rfl) (ev_neg (by simpa using h2) g2)))), fun h => ⟨h1, h2, g3 h⟩⟩
    · exact ⟨(0, false), Ev.bind ha (ev_neg (by simp only [decide_eq_true_eq]; exact fun h => h2 h.2.1) (Ev.now _)), Ev.bind (impl_isC l hl) (ev_pos (decide_eq_true h1) (Ev.bind (impl_areS s hsl) (Ev.step (fun k => rfl) (ev_pos (by simpa using h2) (Ev.now _))))), fun h => by cases h⟩
  · exact ⟨(0, false), Ev.bind ha (ev_neg (by simp only [decide_eq_true_eq]; exact fun h => h1 h.1) (Ev.now _)), Ev.bind (impl_isC l hl) (ev_neg (by simpa using h1) (Ev.step (f := fun _ => some (0, false)) (fun k => rfl) (Ev.now _))), fun h => by cases h⟩
end Go.Proofs.Ytiekokdlcgpcdaa.PureFnStrikes
