/- The plain statement of FnDrums (lemmas): the law's function, over numbers and lists, answers true. No conditions beyond the arguments' own kinds. -/
import Derived.Test.YtlhjjpdlfddflacSFnDrums11
import Derived.Test.YtlhjjpdlfddflacPureFnDrumsa
namespace Go.Proofs.Ytlhjjpdlfddflac.PureFnDrums
open Go Go.RowKit Go.Proofs.Ytlhjjpdlfddflac.PFnDrums Go.Proofs.YtlhjjpdlfddflacW.PrintWords Go.Proofs.YtlhjjpdlfddflacW.PrintLast Go.Proofs.YtlhjjpdlfddflacW.PrintMore Go.Proofs.Ytlhjjpdlfddflac.Lib
set_option linter.unusedVariables false
set_option linter.unusedSimpArgs false
theorem put_ev (l : List Int) (x : Int) (hl : l.length ≤ 1048576) (hs : l.Pairwise (· < ·)) (hx : x ∉ l) : ∃ r : List Int, Ev (fun k => spec_l1Put.f k l x) r ∧ r.Perm (x :: l) ∧ r.Pairwise (· < ·) := by
  have hget := List.pairwise_iff_getElem.1 hs
  have key : ∃ i, i ≤ l.length ∧ (∀ j, j < i → rd l (j : Int) < x) ∧ (∀ j, i ≤ j → j < l.length → x < rd l (j : Int)) := by
    rcases first_or_none (fun j => ¬ rd l (j : Int) < x) l.length with h | ⟨i, hi, hc, hlt⟩
    · exact ⟨l.length, Nat.le_refl _, fun j hj => Decidable.of_not_not (h j hj), fun j h1 h2 => absurd h2 (by omega)⟩
    · refine ⟨i, by omega, fun j hj => Decidable.of_not_not (hlt j hj), fun j h1 h2 => ?_⟩
      have r1 : rd l (i : Int) = l[i] := rd_get hi
      have r2 : rd l (j : Int) = l[j] := rd_get h2
      have hne : l[i] ≠ x := fun e => hx (e ▸ List.getElem_mem hi)
      rw [r1] at hc
      rw [r2]
      by_cases e : i = j
      · subst e; omega
      · have := hget i j hi h2 (by omega)
        omega
  obtain ⟨i, hi, h1, h2⟩ := key
  refine ⟨[] ++ l.take i ++ [x] ++ l.drop i, ?_, ?_, ?_⟩
  · unfold spec_l1Put.f
    refine skip_loop (fun k j => spec_l1Put.l0 k l x j) _ 0 i (Nat.zero_le _) (fun j _ hj h => ?_) ?_
    · refine Ev.step (fun k => ?_) h
      have hj2 : j < l.length := by omega
      simp only [spec_l1Put.l0, wn hj2 (by omega)]
      rw [if_pos (by omega), if_pos (by omega), if_pos (h1 j hj)]
    · refine Ev.step (f := fun _ => some ([] ++ l.take i ++ [x] ++ l.drop i)) (fun k => ?_) (Ev.now _)
      have e1 : (l.take i).length ≤ l.length := by simp; omega
      have e2 : (l.drop i).length ≤ l.length := by simp
      simp only [spec_l1Put.l0, Option.bind_some, Int.toNat_natCast]
      by_cases c : i < l.length
      · have h3 := h2 i (Nat.le_refl _) c
        rw [if_pos (by omega), if_pos (by omega), if_neg (by omega), if_neg (by omega), if_pos (by omega), if_pos (by simp only [List.length_nil]; omega), if_pos (by simp only [List.length_append, List.length_nil]; omega), if_pos (by simp only [List.length_append, List.length_nil, List.length_singleton]; omega)]
      · rw [if_neg (by omega), if_pos (by omega), if_pos (by omega), if_pos (by simp only [List.length_nil]; omega), if_pos (by simp only [List.length_append, List.length_nil]; omega), if_pos (by simp only [List.length_append, List.length_nil, List.length_singleton]; omega)]
  · rw [List.nil_append, List.append_assoc, List.singleton_append]
    refine List.perm_middle.trans ?_
    rw [List.take_append_drop]
  · rw [List.nil_append, List.append_assoc, List.singleton_append, List.pairwise_append]
    have ht : ∀ a ∈ l.take i, a < x := by
      intro a ha
      obtain ⟨j, hj, rfl⟩ := List.mem_iff_getElem.1 ha
      have hj1 : j < i ∧ j < l.length := by simp at hj; omega
      have r2 : rd l (j : Int) = l[j] := rd_get hj1.2
      have := h1 j hj1.1
      rw [r2] at this
      simpa using this
    have hd : ∀ b ∈ l.drop i, x < b := by
      intro b hb
      obtain ⟨j, hj, rfl⟩ := List.mem_iff_getElem.1 hb
      have hj1 : i + j < l.length := by simp at hj; omega
      have r2 : rd l ((i + j : Nat) : Int) = l[i + j] := rd_get hj1
      have := h2 (i + j) (by omega) hj1
      rw [r2] at this
      simpa using this
    refine ⟨hs.sublist (List.take_sublist _ _), List.pairwise_cons.2 ⟨hd, hs.sublist (List.drop_sublist _ _)⟩, fun a ha b hb => ?_⟩
    rcases List.mem_cons.1 hb with rfl | hb
    · exact ht a ha
    · exact Int.lt_trans (ht a ha) (hd b hb)
end Go.Proofs.Ytlhjjpdlfddflac.PureFnDrums
