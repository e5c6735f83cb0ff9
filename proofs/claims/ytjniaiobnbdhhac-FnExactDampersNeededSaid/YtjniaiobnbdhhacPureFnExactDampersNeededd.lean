/- The plain statement of FnExactDampersNeeded (lemmas): the law's function, over numbers and lists, answers true. No conditions beyond the arguments' own kinds. -/
import Derived.Test.YtjniaiobnbdhhacSDampersNeeded10
import Derived.Test.YtjniaiobnbdhhacPureFnExactDampersNeededc
namespace Go.Proofs.Ytjniaiobnbdhhac.PureFnExactDampersNeeded
open Go Go.RowKit Go.Proofs.Ytjniaiobnbdhhac.PFnExactDampersNeeded Go.Proofs.YtjniaiobnbdhhacW.PrintWords Go.Proofs.YtjniaiobnbdhhacW.PrintLast Go.Proofs.YtjniaiobnbdhhacW.PrintMore Go.Proofs.Ytjniaiobnbdhhac.Lib
set_option linter.unusedVariables false
set_option linter.unusedSimpArgs false
theorem dn_loops (l : List S99) (s : List S97) (ring : Int) (g : List Int) (hgs : g.length = s.length) (hsl : s.length ≤ 40) (hg : ∀ x ∈ g, 0 ≤ x ∧ x < (l.length : Int)) (hl : l.length ≤ 1048576) :
    ∃ r : List Int × Bool, Ev (fun k => spec_DampersNeeded.l0 k l s ring g [] g (g.length : Int) 0) r ∧ Ev (fun k => impl_DampersNeeded.l0 k l s ring g [] g (g.length : Int) 0) r ∧ r.1.length ≤ 1048576 := by
  refine count_up g.length (fun i (st : List Int × List Int) => Sm (i * 40) st.1 st.2) (fun i st => ∃ r : List Int × Bool, Ev (fun k => spec_DampersNeeded.l0 k l s ring g st.1 g (g.length : Int) (i : Int)) r ∧ Ev (fun k => impl_DampersNeeded.l0 k l s ring g st.2 g (g.length : Int) (i : Int)) r ∧ r.1.length ≤ 1048576) (fun st hst => ?_) (fun i st hi hst ih => ?_) 0 ([], []) (Nat.zero_le _) ⟨List.Pairwise.nil, fun y => Iff.rfl, Nat.le_refl _, Nat.le_refl _⟩
  · obtain ⟨z1, z2, z3, z4⟩ := hst
    have hb : st.2.length ≤ 1600 := Nat.le_trans z4 (by omega)
    have hso : (st.2.mergeSort fun x y => decide (x ≤ y)).length = st.2.length := List.length_mergeSort _
    refine ⟨(st.1, true), Ev.step (f := fun _ => some (st.1, true)) (fun k => ?_) (Ev.now _), Ev.step (f := fun _ => some (st.1, true)) (fun k => ?_) (Ev.now _), by show st.1.length ≤ 1048576; omega⟩
    · simp only [spec_DampersNeeded.l0]
      rw [if_neg (by omega)]
    · simp only [impl_DampersNeeded.l0, impl_sortedSet.f, slices_Clone_int_int.f, sort_Ints.f, slices_Sort_int_int.f, slices_Compact_int_int.f]
      rw [if_neg (by omega), if_pos (by omega)]
      simp only [Option.bind_some]
      rw [if_pos (by omega)]
      simp only [Option.bind_some]
      rw [if_pos (by omega)]
      simp only [Option.bind_some]
      rw [sortset_eq st.2 st.1 z1 z2]
  · have r1 : rd g (i : Int) = g[i] := rd_get hi
    have hx := hg _ (List.getElem_mem hi)
    obtain ⟨r, q1, q2, q3⟩ := dn_inner l s ring g i g[i] (i * 40) (by omega) st.1 st.2 hi hgs hsl hx hst (fun S' O' h => by
      have := ih (S', O') ⟨h.1, h.2.1, h.2.2.1, by have := h.2.2.2; show O'.length ≤ (i + 1) * 40; omega⟩
      rw [wn hi (by omega)]
      exact this)
    refine ⟨r, Ev.step (fun k => ?_) q1, Ev.step (fun k => ?_) q2, q3⟩
    · simp only [spec_DampersNeeded.l0, r1, Int.toNat_natCast]
      rw [if_pos (by omega), if_pos (by omega), if_pos (by omega), if_pos (by omega)]
      rw [show ((g.take i).length : Int) = (i : Int) by simp; omega]
    · simp only [impl_DampersNeeded.l0, r1]
      rw [if_pos (by omega), if_pos (by omega), if_pos (by omega)]
end Go.Proofs.Ytjniaiobnbdhhac.PureFnExactDampersNeeded
