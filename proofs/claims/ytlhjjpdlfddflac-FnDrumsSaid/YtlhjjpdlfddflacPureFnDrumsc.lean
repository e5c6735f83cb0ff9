/- The plain statement of FnDrums (lemmas): the law's function, over numbers and lists, answers true. No conditions beyond the arguments' own kinds. -/
import Derived.Test.YtlhjjpdlfddflacSFnDrums11
import Derived.Test.YtlhjjpdlfddflacPureFnDrumsb
namespace Go.Proofs.Ytlhjjpdlfddflac.PureFnDrums
open Go Go.RowKit Go.Proofs.Ytlhjjpdlfddflac.PFnDrums Go.Proofs.YtlhjjpdlfddflacW.PrintWords Go.Proofs.YtlhjjpdlfddflacW.PrintLast Go.Proofs.YtlhjjpdlfddflacW.PrintMore Go.Proofs.Ytlhjjpdlfddflac.Lib
set_option linter.unusedVariables false
set_option linter.unusedSimpArgs false
theorem turn_spec (p y : Int) (l : List Int) (hl : l.length ≤ 1048576) (hg : isP p l) (hy : 0 ≤ y ∧ y ≤ 24) : ∃ r : List Int, Ev (fun k => spec_drTurn.f k p l y) (p, r) ∧ r.Perm (l.map (tb p y)) ∧ r.Pairwise (· < ·) := by
  have hs := rise_get hg
  have hp : 1 ≤ p ∧ p ≤ 24 := ⟨hg.1, hg.2.1⟩
  unfold spec_drTurn.f
  refine count_up l.length (fun i (st : List Int) => st.Perm ((l.take i).map (tb p y)) ∧ st.Pairwise (· < ·)) (fun i st => ∃ r : List Int, Ev (fun k => spec_drTurn.l0 k y l (l.length : Int) (i : Int) p l p st) (p, r) ∧ r.Perm (l.map (tb p y)) ∧ r.Pairwise (· < ·)) (fun st hst => ?_) (fun i st hi hst ih => ?_) 0 [] (Nat.zero_le _) ⟨by simp, List.Pairwise.nil⟩
  · refine ⟨st, Ev.step (f := fun _ => some (p, st)) (fun k => ?_) (Ev.now _), by simpa using hst.1, hst.2⟩
    simp only [spec_drTurn.l0]
    rw [if_neg (by omega)]
  · have e1 := wn hi (by omega)
    have r1 : rd l (i : Int) = l[i] := rd_get hi
    have hb := rise_mem hg (List.getElem_mem hi)
    have hlen : st.length ≤ 1048576 := by rw [hst.1.length_eq]; simp; omega
    have hnot : tb p y l[i] ∉ st := by
      intro hm
      have hm2 := hst.1.mem_iff.1 hm
      obtain ⟨b, hb1, hb2⟩ := List.mem_map.1 hm2
      have hb3 := tb_inj hp.1 hy.1 (rise_mem hg (List.mem_of_mem_take hb1)) hb hb2
      obtain ⟨j, hj, rfl⟩ := List.mem_iff_getElem.1 hb1
      have hj1 : j < i ∧ j < l.length := by simp at hj; omega
      have := List.pairwise_iff_getElem.1 hs j i hj1.2 hi hj1.1
      rw [List.getElem_take] at hb3
      omega
    obtain ⟨q, q1, q2, q3⟩ := put_ev st (tb p y l[i]) hlen hst.2 hnot
    obtain ⟨r, h1, h2, h3⟩ := ih q ⟨by
      refine q2.trans ?_
      rw [List.take_succ_eq_append_getElem hi, List.map_append, List.map_singleton]
      exact (List.Perm.cons _ hst.1).trans (List.perm_append_singleton _ _).symm, q3⟩
    refine ⟨r, Ev.step (f := fun k => (spec_l1Put.f k st (tb p y l[i])).bind fun t => spec_drTurn.l0 k y l (l.length : Int) ((i + 1 : Nat) : Int) p l p t) (fun k => ?_) (Ev.bind q1 h1), h2, h3⟩
    simp only [spec_drTurn.l0, e1, r1, tb_ok hp hy hb]
    rw [if_pos (by omega), if_pos (by omega), if_pos (by omega), if_neg (by omega)]
theorem turn_impl (p y : Int) (l : List Int) (hl : l.length ≤ 1048576) (hg : isP p l) (hy : 0 ≤ y ∧ y ≤ 24) : Ev (fun k => impl_turnPattern.f k p l y) (p, (l.map (tb p y)).mergeSort fun x y => decide (x ≤ y)) := by
  have hp : 1 ≤ p ∧ p ≤ 24 := ⟨hg.1, hg.2.1⟩
  unfold impl_turnPattern.f
  have h := count_up l.length (fun i (st : List Int) => st = (l.take i).map (tb p y)) (fun i st => Ev (fun k => impl_turnPattern.l0 k y l (l.length : Int) (i : Int) p l p st) (p, (l.map (tb p y)).mergeSort fun x y => decide (x ≤ y))) (fun st hst => ?_) (fun i st hi hst ih => ?_) 0 [] (Nat.zero_le _) (by simp)
  · exact h
  · refine Ev.step (f := fun _ => some (p, (l.map (tb p y)).mergeSort fun x y => decide (x ≤ y))) (fun k => ?_) (Ev.now _)
    rw [List.take_length] at hst
    subst hst
    simp only [impl_turnPattern.l0, slices_Sort_int_int.f]
    rw [if_neg (by omega), if_pos (by simp; omega)]
    rfl
  · have e1 := wn hi (by omega)
    have r1 : rd l (i : Int) = l[i] := rd_get hi
    have hb := rise_mem hg (List.getElem_mem hi)
    have hlen : st.length ≤ 1048576 := by rw [hst]; simp; omega
    refine Ev.step (fun k => ?_) (ih (st ++ [tb p y l[i]]) (by rw [hst, List.take_succ_eq_append_getElem hi, List.map_append, List.map_singleton]))
    simp only [impl_turnPattern.l0, e1, r1, tb_ok hp hy hb]
    rw [if_pos (by omega), if_pos (by omega), if_pos (by omega), if_neg (by omega), if_pos (by omega)]
theorem turn_same (p y : Int) (l r : List Int) (h1 : r.Perm (l.map (tb p y))) (h2 : r.Pairwise (· < ·)) : (l.map (tb p y)).mergeSort (fun x y => decide (x ≤ y)) = r := by
  refine List.Perm.eq_of_pairwise (le := fun a b : Int => a ≤ b) (fun a b _ _ h h' => by omega) ?_ (h2.imp (fun h => by omega)) ((List.mergeSort_perm _ _).trans h1.symm)
  have := List.pairwise_mergeSort (le := fun a b : Int => decide (a ≤ b)) (fun a b c h h' => by simp at h h' ⊢; omega) (fun a b => by simp; omega) (l.map (tb p y))
  exact this.imp (fun h => by simpa using h)
/-- Both turns come to one and the same. -/
theorem turn_both (p y : Int) (l : List Int) (hl : l.length ≤ 1048576) (hg : isP p l) (hy : 0 ≤ y ∧ y ≤ 24) : ∃ r : List Int, Ev (fun k => spec_drTurn.f k p l y) (p, r) ∧ Ev (fun k => impl_turnPattern.f k p l y) (p, r) ∧ r.length = l.length := by
  obtain ⟨r, g1, g2, g3⟩ := turn_spec p y l hl hg hy
  refine ⟨r, g1, ?_, by rw [g2.length_eq, List.length_map]⟩
  have := turn_impl p y l hl hg hy
  rwa [turn_same p y l r g2 g3] at this
end Go.Proofs.Ytlhjjpdlfddflac.PureFnDrums
