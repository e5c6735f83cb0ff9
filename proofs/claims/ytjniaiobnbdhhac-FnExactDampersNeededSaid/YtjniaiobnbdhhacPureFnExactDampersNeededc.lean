/- The plain statement of FnExactDampersNeeded (lemmas): the law's function, over numbers and lists, answers true. No conditions beyond the arguments' own kinds. -/
import Derived.Test.YtjniaiobnbdhhacSDampersNeeded10
import Derived.Test.YtjniaiobnbdhhacPureFnExactDampersNeededb
namespace Go.Proofs.Ytjniaiobnbdhhac.PureFnExactDampersNeeded
open Go Go.RowKit Go.Proofs.Ytjniaiobnbdhhac.PFnExactDampersNeeded Go.Proofs.YtjniaiobnbdhhacW.PrintWords Go.Proofs.YtjniaiobnbdhhacW.PrintLast Go.Proofs.YtjniaiobnbdhhacW.PrintMore Go.Proofs.Ytjniaiobnbdhhac.Lib
set_option linter.unusedVariables false
set_option linter.unusedSimpArgs false
/-- spec.l1Put: one more member of a strictly ascending list. -/
theorem put_set (l : List Int) (x : Int) (hl : l.length ≤ 1048576) (hs : l.Pairwise (· < ·)) : ∃ r : List Int, Ev (fun k => spec_l1Put.f k l x) r ∧ r.Pairwise (· < ·) ∧ (∀ y, y ∈ r ↔ (y = x ∨ y ∈ l)) ∧ r.length ≤ l.length + 1 := by
  have hget := List.pairwise_iff_getElem.1 hs
  have key : ∃ i, i ≤ l.length ∧ (∀ j, j < i → rd l (j : Int) < x) ∧ (∀ j, i ≤ j → j < l.length → x ≤ rd l (j : Int)) := by
    rcases first_or_none (fun j => ¬ rd l (j : Int) < x) l.length with h | ⟨i, hi, hc, hlt⟩
    · exact ⟨l.length, Nat.le_refl _, fun j hj => Decidable.of_not_not (h j hj), fun j h1 h2 => absurd h2 (by omega)⟩
    · refine ⟨i, by omega, fun j hj => Decidable.of_not_not (hlt j hj), fun j h1 h2 => ?_⟩
      have r1 : rd l (i : Int) = l[i] := rd_get hi
      have r2 : rd l (j : Int) = l[j] := rd_get h2
      rw [r1] at hc
      rw [r2]
      by_cases e : i = j
      · subst e; omega
      · have := hget i j hi h2 (by omega)
        omega
  obtain ⟨i, hi, h1, h2⟩ := key
  have hskip : ∀ r, Ev (fun k => spec_l1Put.l0 k l x (i : Int)) r → Ev (fun k => spec_l1Put.f k l x) r := by
    intro r hr
    unfold spec_l1Put.f
    refine skip_loop (fun k j => spec_l1Put.l0 k l x j) _ 0 i (Nat.zero_le _) (fun j _ hj h => ?_) hr
    refine Ev.step (fun k => ?_) h
    have hj2 : j < l.length := by omega
    simp only [spec_l1Put.l0, wn hj2 (by omega)]
    rw [if_pos (by omega), if_pos (by omega), if_pos (h1 j hj)]
  by_cases hx : i < l.length ∧ rd l (i : Int) = x
  · refine ⟨l, hskip _ (Ev.step (f := fun _ => some l) (fun k => ?_) (Ev.now _)), hs, fun y => ?_, by omega⟩
    · simp only [spec_l1Put.l0]
      rw [if_pos (by omega), if_pos (by omega), if_neg (by omega), if_pos hx.2]
    · have r1 : rd l (i : Int) = l[i]'hx.1 := rd_get hx.1
      have hm : x ∈ l := by rw [← hx.2, r1]; exact List.getElem_mem hx.1
      exact ⟨fun h => .inr h, fun h => h.elim (fun e => e ▸ hm) id⟩
  · have h3 : ∀ j, i ≤ j → j < l.length → x < rd l (j : Int) := by
      intro j hj hjl
      have h4 := h2 j hj hjl
      by_cases e : i = j
      · subst e
        have : rd l (i : Int) ≠ x := fun e => hx ⟨hjl, e⟩
        omega
      · have h5 := h2 i (Nat.le_refl _) (by omega)
        have r1 : rd l (i : Int) = l[i]'(by omega) := rd_get (by omega)
        have r2 : rd l (j : Int) = l[j] := rd_get hjl
        have := hget i j (by omega) hjl (by omega)
        omega
    refine ⟨[] ++ l.take i ++ [x] ++ l.drop i, hskip _ (Ev.step (f := fun _ => some ([] ++ l.take i ++ [x] ++ l.drop i)) (fun k => ?_) (Ev.now _)), ?_, fun y => ?_, by simp; omega⟩
    · have e1 : (l.take i).length ≤ l.length := by simp; omega
      have e2 : (l.drop i).length ≤ l.length := by simp
      simp only [spec_l1Put.l0, Option.bind_some, Int.toNat_natCast]
      by_cases c : i < l.length
      · have h4 := h3 i (Nat.le_refl _) c
        rw [if_pos (by omega), if_pos (by omega), if_neg (by omega), if_neg (by omega), if_pos (by omega), if_pos (by simp only [List.length_nil]; omega), if_pos (by simp only [List.length_append, List.length_nil]; omega), if_pos (by simp only [List.length_append, List.length_nil, List.length_singleton]; omega)]
      · rw [if_neg (by omega), if_pos (by omega), if_pos (by omega), if_pos (by simp only [List.length_nil]; omega), if_pos (by simp only [List.length_append, List.length_nil]; omega), if_pos (by simp only [List.length_append, List.length_nil, List.length_singleton]; omega)]
    · rw [List.nil_append, List.append_assoc, List.singleton_append, List.pairwise_append]
      have ht : ∀ a ∈ l.take i, a < x := by
        intro a ha
        obtain ⟨j, hj, rfl⟩ := List.mem_iff_getElem.1 ha
        have hj1 : j < i ∧ j < l.length := by simp at hj; omega
        have r2 : rd l (j : Int) = l[j] := rd_get hj1.2
        have := h1 j hj1.1
        rw [r2] at this
        simpa using this
      have hd : ∀ b ∈ l.drop i, x < b := by
        intro b hb
        obtain ⟨j, hj, rfl⟩ := List.mem_iff_getElem.1 hb
        have hj1 : i + j < l.length := by simp at hj; omega
        have r2 : rd l ((i + j : Nat) : Int) = l[i + j] := rd_get hj1
        have := h3 (i + j) (by omega) hj1
        rw [r2] at this
        simpa using this
      refine ⟨hs.sublist (List.take_sublist _ _), List.pairwise_cons.2 ⟨hd, hs.sublist (List.drop_sublist _ _)⟩, fun a ha b hb => ?_⟩
      rcases List.mem_cons.1 hb with rfl | hb
      · exact ht a ha
      · exact Int.lt_trans (ht a ha) (hd b hb)
    · have : y ∈ l ↔ (y ∈ l.take i ∨ y ∈ l.drop i) := by
        conv => lhs; rw [← List.take_append_drop i l]
        exact List.mem_append
      rw [this]
      simp only [List.nil_append, List.mem_append, List.mem_singleton]
      constructor
      · rintro ((h | h) | h)
        · exact .inr (.inl h)
        · exact .inl h
        · exact .inr (.inr h)
      · rintro (h | h | h)
        · exact .inl (.inr h)
        · exact .inl (.inl h)
        · exact .inr h

/-- Two strictly ascending lists of the same members are one. -/
theorem strict_ext {a b : List Int} (ha : a.Pairwise (· < ·)) (hb : b.Pairwise (· < ·)) (h : ∀ x, x ∈ a ↔ x ∈ b) : a = b := by
  have na : a.Nodup := ha.imp (fun h e => by subst e; exact Int.lt_irrefl _ h)
  have nb : b.Nodup := hb.imp (fun h e => by subst e; exact Int.lt_irrefl _ h)
  have hp : a.Perm b := (List.perm_ext_iff_of_nodup na nb).2 h
  exact List.Perm.eq_of_pairwise (le := fun a b : Int => a ≤ b) (fun a b _ _ h h' => by omega) (ha.imp (fun h => by omega)) (hb.imp (fun h => by omega)) hp
theorem compact_upto (d : Array Int) (hd : ∀ i j, i < j → j < d.size → d[i]! ≤ d[j]!) : ∀ m, m ≤ d.size → (Go.Lib.compactUpTo d m).Pairwise (· < ·) ∧ (∀ x, x ∈ Go.Lib.compactUpTo d m ↔ ∃ j, j < m ∧ d[j]! = x) ∧ ∀ x ∈ Go.Lib.compactUpTo d m, ∀ j, m ≤ j → j < d.size → x ≤ d[j]! := by
  intro m
  induction m with
  | zero => intro _; exact ⟨List.Pairwise.nil, fun x => ⟨fun h => absurd h (by simp [Go.Lib.compactUpTo]), fun h => by obtain ⟨j, hj, _⟩ := h; exact absurd hj (by omega)⟩, fun x h => absurd h (by simp [Go.Lib.compactUpTo])⟩
  | succ m ih =>
    intro hm
    obtain ⟨h1, h2, h3⟩ := ih (by omega)
    rw [Go.Lib.compactUpTo_succ]
    by_cases hk : Go.Lib.keeps d m = true
    · rw [if_pos hk]
      have hlt : ∀ x ∈ Go.Lib.compactUpTo d m, x < d[m]! := by
        intro x hx
        have hle := h3 x hx m (Nat.le_refl _) hm
        rcases Nat.eq_zero_or_pos m with e | e
        · subst e; exact absurd hx (by simp [Go.Lib.compactUpTo])
        · obtain ⟨j, hj, rfl⟩ := (h2 x).1 hx
          have hne : d[m]! ≠ d[m - 1]! := by
            simp only [Go.Lib.keeps, decide_eq_true_eq] at hk
            rcases hk with hk | hk
            · omega
            · exact hk
          have hj2 : d[j]! ≤ d[m - 1]! := by
            by_cases e2 : j = m - 1
            · rw [e2]; exact Int.le_refl _
            · exact hd j (m - 1) (by omega) (by omega)
          have := hd (m - 1) m (by omega) hm
          omega
      refine ⟨List.pairwise_append.2 ⟨h1, List.pairwise_singleton _ _, fun a ha b hb => by rw [List.mem_singleton.1 hb]; exact hlt a ha⟩, fun x => ?_, fun x hx j hj hj2 => ?_⟩
      · rw [List.mem_append, List.mem_singleton, h2]
        constructor
        · rintro (⟨j, hj, e⟩ | rfl)
          · exact ⟨j, by omega, e⟩
          · exact ⟨m, by omega, rfl⟩
        · rintro ⟨j, hj, e⟩
          by_cases e2 : j = m
          · subst e2; exact .inr e.symm
          · exact .inl ⟨j, by omega, e⟩
      · rcases List.mem_append.1 hx with hx | hx
        · exact h3 x hx j (by omega) hj2
        · rw [List.mem_singleton.1 hx]; exact hd m j (by omega) hj2
    · rw [if_neg hk, List.append_nil]
      have he : 0 < m ∧ d[m]! = d[m - 1]! := by
        rcases Nat.eq_zero_or_pos m with e | e
        · subst e; exact absurd (Go.Lib.keeps_lt_one d 0 (by omega)) hk
        · exact ⟨e, Classical.byContradiction fun hne => hk (Go.Lib.keeps_pos hne)⟩
      refine ⟨h1, fun x => ?_, fun x hx j hj hj2 => h3 x hx j (by omega) hj2⟩
      rw [h2]
      constructor
      · rintro ⟨j, hj, e⟩; exact ⟨j, by omega, e⟩
      · rintro ⟨j, hj, e⟩
        by_cases e2 : j = m
        · subst e2; exact ⟨j - 1, by omega, by rw [← he.2]; exact e⟩
        · exact ⟨j, by omega, e⟩
theorem compact_sorted (l : List Int) (h : l.Pairwise (· ≤ ·)) : (Go.Lib.compact l).Pairwise (· < ·) ∧ ∀ x, x ∈ Go.Lib.compact l ↔ x ∈ l := by
  have hd : ∀ i j, i < j → j < l.toArray.size → l.toArray[i]! ≤ l.toArray[j]! := by
    intro i j hij hj
    have hj' : j < l.length := by simpa using hj
    have hi' : i < l.length := by omega
    have := List.pairwise_iff_getElem.1 h i j hi' hj' hij
    simpa [hi', hj'] using this
  obtain ⟨h1, h2, _⟩ := compact_upto l.toArray hd l.length (by simp)
  refine ⟨h1, fun x => (h2 x).trans ⟨fun hx => ?_, fun hx => ?_⟩⟩
  · obtain ⟨j, hj, e⟩ := hx
    have : l.toArray[j]! = l[j] := by simp [hj]
    rw [← e, this]
    exact List.getElem_mem hj
  · obtain ⟨j, hj, e⟩ := List.mem_iff_getElem.1 hx
    exact ⟨j, hj, by simp [hj, e]⟩
/-- Sorted and without repeats: the one strictly ascending list of these members. -/
theorem sortset_eq (l r : List Int) (h1 : r.Pairwise (· < ·)) (h2 : ∀ x, x ∈ r ↔ x ∈ l) : Go.Lib.compact (l.mergeSort fun x y => decide (x ≤ y)) = r := by
  have hs := List.pairwise_mergeSort (le := fun a b : Int => decide (a ≤ b)) (fun a b c h h' => by simp at h h' ⊢; omega) (fun a b => by simp; omega) l
  obtain ⟨c1, c2⟩ := compact_sorted _ (hs.imp (fun h => by simpa using h))
  refine strict_ext c1 h1 (fun x => ?_)
  rw [c2, (List.mergeSort_perm l _).mem_iff, h2]

def Sm (n : Nat) (S O : List Int) : Prop := S.Pairwise (· < ·) ∧ (∀ y, y ∈ S ↔ y ∈ O) ∧ S.length ≤ O.length ∧ O.length ≤ n
theorem dn_inner (l : List S99) (s : List S97) (ring : Int) (g : List Int) (i : Nat) (x : Int) (n : Nat) (hn : n ≤ 1600) (S O : List Int) (hi : i < g.length) (hgs : g.length = s.length) (hsl : s.length ≤ 40) (hx : 0 ≤ x ∧ x < l.length) (h0 : Sm n S O)
    (hnext : ∀ S' O', Sm (n + i) S' O' → ∃ r : List Int × Bool, Ev (fun k => spec_DampersNeeded.l0 k l s ring g S' g (g.length : Int) (wrap64 ((i : Int) + 1))) r ∧ Ev (fun k => impl_DampersNeeded.l0 k l s ring g O' g (g.length : Int) (wrap64 ((i : Int) + 1))) r ∧ r.1.length ≤ 1048576) :
    ∃ r : List Int × Bool, Ev (fun k => spec_DampersNeeded.l1 k l s ring g S (i : Int) x g (g.length : Int) (i : Int) (i : Int) 0) r ∧ Ev (fun k => impl_DampersNeeded.l1 k l s ring g O (i : Int) x g (g.length : Int) (i : Int) (i : Int) 0) r ∧ r.1.length ≤ 1048576 := by
  refine count_up i (fun j (st : List Int × List Int) => Sm (n + j) st.1 st.2) (fun j st => ∃ r : List Int × Bool, Ev (fun k => spec_DampersNeeded.l1 k l s ring g st.1 (i : Int) x g (g.length : Int) (i : Int) (i : Int) (j : Int)) r ∧ Ev (fun k => impl_DampersNeeded.l1 k l s ring g st.2 (i : Int) x g (g.length : Int) (i : Int) (i : Int) (j : Int)) r ∧ r.1.length ≤ 1048576) (fun st hst => ?_) (fun j st hj hst ih => ?_) 0 (S, O) (Nat.zero_le _) h0
  · obtain ⟨r, q1, q2, q3⟩ := hnext st.1 st.2 hst
    refine ⟨r, Ev.step (fun k => ?_) q1, Ev.step (fun k => ?_) q2, q3⟩
    · simp only [spec_DampersNeeded.l1]
      rw [if_neg (by omega)]
    · simp only [impl_DampersNeeded.l1]
      rw [if_neg (by omega)]
  · have e1 := wn hj (by omega)
    obtain ⟨z1, z2, z3, z4⟩ := hst
    obtain ⟨q, p1, p2, p3, p4⟩ := put_set st.1 x (by omega) z1
    have hput : Sm (n + (j + 1)) q (st.2 ++ [x]) := ⟨p2, fun y => by rw [p3, z2, List.mem_append, List.mem_singleton, or_comm], by simp; omega, by simp; omega⟩
    have hkeep : Sm (n + (j + 1)) st.1 st.2 := ⟨z1, z2, z3, by omega⟩
    by_cases c1 : rd g (j : Int) = x
    · by_cases c2 : (rd_T99 l x).f2 = 0
      · by_cases c3 : wrap64 ((rd_T97 s (i : Int)).f1 - (rd_T97 s (j : Int)).f1) < ring
        · obtain ⟨r, q1, q2, q3⟩ := ih (q, st.2 ++ [x]) hput
          refine ⟨r, Ev.step (f := fun k => (spec_l1Put.f k st.1 x).bind fun t => spec_DampersNeeded.l1 k l s ring g t (i : Int) x g (g.length : Int) (i : Int) (i : Int) ((j + 1 : Nat) : Int)) (fun k => ?_) (Ev.bind p1 q1), Ev.step (fun k => ?_) q2, q3⟩
          · simp only [spec_DampersNeeded.l1, e1]
            rw [if_pos (by omega), if_pos (by omega), if_pos (by omega), if_pos c1, if_pos (by omega), if_pos (by omega), if_pos (by omega), if_pos c3, if_pos hx.1, if_pos hx.2, if_pos c2]
          · simp only [impl_DampersNeeded.l1, e1]
            rw [if_pos (by omega), if_pos (by omega), if_pos (by omega), if_pos c1, if_pos hx.1, if_pos hx.2, if_pos c2, if_pos (by omega), if_pos (by omega), if_pos (by omega), if_pos c3, if_pos (by omega)]
        · obtain ⟨r, q1, q2, q3⟩ := ih st hkeep
          refine ⟨r, Ev.step (fun k => ?_) q1, Ev.step (fun k => ?_) q2, q3⟩
          · simp only [spec_DampersNeeded.l1, e1]
            rw [if_pos (by omega), if_pos (by omega), if_pos (by omega), if_pos c1, if_pos (by omega), if_pos (by omega), if_pos (by omega), if_neg c3]
          · simp only [impl_DampersNeeded.l1, e1]
            rw [if_pos (by omega), if_pos (by omega), if_pos (by omega), if_pos c1, if_pos hx.1, if_pos hx.2, if_pos c2, if_pos (by omega), if_pos (by omega), if_pos (by omega), if_neg c3]
      · obtain ⟨r, q1, q2, q3⟩ := ih st hkeep
        refine ⟨r, Ev.step (fun k => ?_) q1, Ev.step (fun k => ?_) q2, q3⟩
        · simp only [spec_DampersNeeded.l1, e1]
          rw [if_pos (by omega), if_pos (by omega), if_pos (by omega), if_pos c1, if_pos (by omega), if_pos (by omega), if_pos (by omega)]
          by_cases c3 : wrap64 ((rd_T97 s (i : Int)).f1 - (rd_T97 s (j : Int)).f1) < ring
          · rw [if_pos c3, if_pos hx.1, if_pos hx.2, if_neg c2]
          · rw [if_neg c3]
        · simp only [impl_DampersNeeded.l1, e1]
          rw [if_pos (by omega), if_pos (by omega), if_pos (by omega), if_pos c1, if_pos hx.1, if_pos hx.2, if_neg c2]
    · obtain ⟨r, q1, q2, q3⟩ := ih st hkeep
      refine ⟨r, Ev.step (fun k => ?_) q1, Ev.step (fun k => ?_) q2, q3⟩
      · simp only [spec_DampersNeeded.l1, e1]
        rw [if_pos (by omega), if_pos (by omega), if_pos (by omega), if_neg c1]
      · simp only [impl_DampersNeeded.l1, e1]
        rw [if_pos (by omega), if_pos (by omega), if_pos (by omega), if_neg c1]
end Go.Proofs.Ytjniaiobnbdhhac.PureFnExactDampersNeeded
