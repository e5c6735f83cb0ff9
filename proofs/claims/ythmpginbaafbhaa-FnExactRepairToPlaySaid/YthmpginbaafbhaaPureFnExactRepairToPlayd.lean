/- The plain statement of FnExactRepairToPlay (lemmas): the law's function, over numbers and lists, answers true. No conditions beyond the arguments' own kinds. -/
import Derived.Test.YthmpginbaafbhaaSRepairToPlay22
import Derived.Test.YthmpginbaafbhaaPureFnExactRepairToPlayc
namespace Go.Proofs.Ythmpginbaafbhaa.PureFnExactRepairToPlay
open Go Go.RowKit Go.Proofs.Ythmpginbaafbhaa.PFnExactRepairToPlay Go.Proofs.YthmpginbaafbhaaW.PrintWords Go.Proofs.YthmpginbaafbhaaW.PrintLast Go.Proofs.YthmpginbaafbhaaW.PrintMore Go.Proofs.Ythmpginbaafbhaa.Lib
set_option linter.unusedVariables false
set_option linter.unusedSimpArgs false
theorem down_gt (x : S51) (out : List S51) : ∀ n i, sho.downTo x out n ≤ i → i < n → stab.ltH x (out.getD i z51) = true
  | 0, i, _, h => absurd h (Nat.not_lt_zero _)
  | n + 1, i, h1, h2 => by
    unfold sho.downTo at h1
    by_cases c : stab.ltH x (out.getD n z51) = true
    · rw [if_pos c] at h1
      by_cases e : i = n
      · rw [e]; exact c
      · exact down_gt x out n i h1 (by omega)
    · rw [if_neg c] at h1; omega
theorem down_le (x : S51) (out : List S51) : ∀ n, 0 < sho.downTo x out n → stab.ltH x (out.getD (sho.downTo x out n - 1) z51) = false
  | 0, h => absurd h (by simp [sho.downTo])
  | n + 1, h => by
    unfold sho.downTo at h ⊢
    by_cases c : stab.ltH x (out.getD n z51) = true
    · rw [if_pos c] at h ⊢
      exact down_le x out n h
    · rw [if_neg c]
      simpa using c
theorem insAt_eq (x : S51) (out : List S51) : sho.insAt x out = out.take (sho.downTo x out out.length) ++ x :: out.drop (sho.downTo x out out.length) := by
  unfold sho.insAt
  rw [List.nil_append, List.append_assoc]
  rfl
theorem insAt_perm (x : S51) (out : List S51) : (sho.insAt x out).Perm (out ++ [x]) := by
  rw [insAt_eq]
  refine List.perm_middle.trans ((List.Perm.cons x ?_).trans (List.perm_append_singleton x out).symm)
  rw [List.take_append_drop]
theorem insAt_sorted (x : S51) (out : List S51) (hs : out.Pairwise fun a b => stab.ltH b a = false) : (sho.insAt x out).Pairwise fun a b => stab.ltH b a = false := by
  obtain ⟨k, hk⟩ : ∃ k, k = sho.downTo x out out.length := ⟨_, rfl⟩
  have hkl : k ≤ out.length := hk ▸ sho.downTo_le x out out.length
  have hg : ∀ i (h : i < out.length), k ≤ i → stab.ltH x out[i] = true := fun i h h1 => by
    have := down_gt x out out.length i (hk ▸ h1) h
    rw [List.getD_eq_getElem?_getD, List.getElem?_eq_getElem h] at this
    exact this
  have hl : ∀ i (h : i < out.length), i < k → stab.ltH x out[i] = false := fun i h h1 => by
    have h2 := down_le x out out.length (hk ▸ (by omega))
    rw [← hk, List.getD_eq_getElem?_getD, List.getElem?_eq_getElem (by omega)] at h2
    by_cases e : i = k - 1
    · subst e; exact h2
    · exact stab.swoH.ntrans _ _ _ h2 (List.pairwise_iff_getElem.1 hs i (k - 1) h (by omega) (by omega))
  rw [insAt_eq, ← hk]
  refine List.pairwise_append.2 ⟨hs.sublist (List.take_sublist _ _), List.pairwise_cons.2 ⟨fun z hz => ?_, hs.sublist (List.drop_sublist _ _)⟩, fun a ha b hb => ?_⟩
  · obtain ⟨i, hi, rfl⟩ := List.getElem_of_mem hz
    rw [List.getElem_drop]
    exact stab.swoH.asymmA (hg _ (by rw [List.length_drop] at hi; omega) (by omega))
  · obtain ⟨i, hi, rfl⟩ := List.getElem_of_mem ha
    rw [List.length_take] at hi
    rw [List.getElem_take]
    rcases List.mem_cons.1 hb with rfl | hb
    · exact hl i (by omega) (by omega)
    · obtain ⟨j, hj, rfl⟩ := List.getElem_of_mem hb
      rw [List.length_drop] at hj
      rw [List.getElem_drop]
      exact List.pairwise_iff_getElem.1 hs i (k + j) (by omega) (by omega) (by omega)
theorem insAll_ok (l : List S51) : (sho.insAll l).Perm l ∧ (sho.insAll l).Pairwise fun a b => stab.ltH b a = false := by
  have key : ∀ (l o : List S51), o.Pairwise (fun a b => stab.ltH b a = false) → (l.foldl (fun out x => sho.insAt x out) o).Perm (o ++ l) ∧ (l.foldl (fun out x => sho.insAt x out) o).Pairwise fun a b => stab.ltH b a = false := by
    intro l
    induction l with
    | nil => intro o h; exact ⟨by rw [List.append_nil]; exact List.Perm.refl _, h⟩
    | cons x xs ih =>
      intro o h
      obtain ⟨h1, h2⟩ := ih (sho.insAt x o) (insAt_sorted x o h)
      refine ⟨h1.trans ?_, h2⟩
      have := (insAt_perm x o).append_right xs
      rwa [List.append_assoc] at this
  exact key l [] List.Pairwise.nil
theorem insAll_sortH (l : List S51) (hk : (l.map shs.keyH).Nodup) : sho.insAll l = shs.sortH l := shs.sortH_eq (insAll_ok l).1 hk (insAll_ok l).2
end Go.Proofs.Ythmpginbaafbhaa.PureFnExactRepairToPlay
