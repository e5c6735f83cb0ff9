/- The plain statement of FnExactLeastTurn (lemmas): the law's function, over numbers and lists, answers true. No conditions beyond the arguments' own kinds. -/
import Derived.Test.YtjniaiobnbdhhabRLeastTurn6
import Derived.Test.YtjniaiobnbdhhabPureFnExactLeastTurnc
namespace Go.Proofs.Ytjniaiobnbdhhab.PureFnExactLeastTurn
open Go Go.RowKit Go.Proofs.Ytjniaiobnbdhhab.PFnExactLeastTurn Go.Proofs.YtjniaiobnbdhhabW.PrintWords Go.Proofs.YtjniaiobnbdhhabW.PrintLast Go.Proofs.YtjniaiobnbdhhabW.PrintMore Go.Proofs.Ytjniaiobnbdhhab.Lib
set_option linter.unusedVariables false
set_option linter.unusedSimpArgs false
theorem szPat2 (p : Int) (l : List Int) (a : Int) (h0 : 0 ≤ a) (h1 : a ≤ 1048576) (hl : l.length ≤ 9223372036854775807) : laws_szPattern.f p l a = some (if (l.length : Int) ≤ a then a - (l.length : Int) else -1) := by
  have e : wrap64 (a - (l.length : Int)) = a - l.length := by unfold wrap64; omega
  simp only [laws_szPattern.f, laws_szIntS.f, e]
  repeat' split
  all_goals (simp; repeat' split)
  all_goals first | rfl | (simp; omega) | omega
theorem list_same {a b : List Int} (h : a.length = b.length) : decide (a = b) = true ↔ (∀ i, i < a.length → rd a (i : Int) = rd b (i : Int)) ∧ true = true := by
  rw [decide_eq_true_iff]
  refine ⟨fun e => ⟨fun i _ => by rw [e], rfl⟩, fun ⟨g, _⟩ => List.ext_getElem h (fun i h1 h2 => ?_)⟩
  have r1 : rd a (i : Int) = a[i] := rd_get h1
  have r2 : rd b (i : Int) = b[i] := rd_get h2
  rw [← r1, ← r2]
  exact g i h1
theorem same_ev (a b : List Int) (hl : a.length ≤ 1048576) : Ev (fun k => spec_l1Same.f k a b) (decide (a = b)) := by
  unfold spec_l1Same.f
  by_cases h : a.length = b.length
  · refine ev_pos (by omega) (all_loop (fun k i => spec_l1Same.l0 k a b (a.length : Int) i) a.length (fun i => rd a (i : Int) = rd b (i : Int)) true _ (list_same h) (fun k => ?_) (fun k i hi => ?_))
    · simp only [spec_l1Same.l0]
      rw [if_neg (by omega)]
    · have e1 : wrap64 ((i : Int) + 1) = i + 1 := by unfold wrap64; omega
      simp only [spec_l1Same.l0, e1]
      rw [if_pos (by omega), if_pos (by omega), if_pos (by omega), if_pos (by omega)]
      exact ⟨fun h => if_pos h, fun h => if_neg h⟩
  · rw [decide_eq_false (show ¬ a = b from fun e => h (by rw [e]))]
    exact ev_neg (by omega) (Ev.now _)
theorem equal_ev (a b : List Int) (hl : a.length ≤ 1048576) : Ev (fun k => slices_Equal_int_int.f k a b) (decide (a = b)) := by
  unfold slices_Equal_int_int.f
  by_cases h : a.length = b.length
  · refine ev_pos (by omega) (all_loop (fun k i => slices_Equal_int_int.l0 k a b (a.length : Int) i) a.length (fun i => rd a (i : Int) = rd b (i : Int)) true _ (list_same h) (fun k => ?_) (fun k i hi => ?_))
    · simp only [slices_Equal_int_int.l0]
      rw [if_neg (by omega)]
    · have e1 : wrap64 ((i : Int) + 1) = i + 1 := by unfold wrap64; omega
      simp only [slices_Equal_int_int.l0, e1]
      rw [if_pos (by omega), if_pos (by omega), if_pos (by omega), if_pos (by omega)]
      exact ⟨fun h => if_pos h, fun h => if_neg h⟩
  · rw [decide_eq_false (show ¬ a = b from fun e => h (by rw [e]))]
    exact ev_neg (by omega) (Ev.now _)
end Go.Proofs.Ytjniaiobnbdhhab.PureFnExactLeastTurn
