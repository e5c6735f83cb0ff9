/- The plain statement of FnStrikes (lemmas): the law's function, over numbers and lists, answers true. No conditions beyond the arguments' own kinds. -/
import Derived.Test.YtiekokdlcgpcdaaSFnStrikes13
import Derived.Test.YtiekokdlcgpcdaaPureFnStrikesd
namespace Go.Proofs.Ytiekokdlcgpcdaa.PureFnStrikes
open Go Go.RowKit Go.Proofs.Ytiekokdlcgpcdaa.PFnStrikes Go.Proofs.YtiekokdlcgpcdaaW.PrintWords Go.Proofs.YtiekokdlcgpcdaaW.PrintLast Go.Proofs.YtiekokdlcgpcdaaW.PrintMore Go.Proofs.Ytiekokdlcgpcdaa.Lib
set_option linter.unusedVariables false
set_option linter.unusedSimpArgs false
theorem isCents_eq (a : Int) : impl_isCents.f a = some (decide (-50 ≤ a ∧ a ≤ 50)) := by
  unfold impl_isCents.f
  split <;> simp <;> omega
theorem impl_isC (l : List S41) (hl : l.length ≤ 1048576) : Ev (fun k => impl_IsComb.f k l) (decide (isC l)) := by
  unfold impl_IsComb.f
  by_cases h : 1 ≤ l.length ∧ l.length ≤ 40
  · refine ev_neg (by omega) (Ev.step (f := fun k => impl_IsComb.l0 k l l (l.length : Int) 0) (fun k => ?_) ?_)
    · simp only [impl_IsComb.j0]
      rw [if_neg (by simp; omega)]
    · refine all_loop (fun k i => impl_IsComb.l0 k l l (l.length : Int) i) l.length (combAt l) true _ (by simp [isC, h]) (fun k => ?_) (fun k i hi => ?_)
      · simp only [impl_IsComb.l0]
        rw [if_neg (by omega)]
      · have e1 : wrap64 ((i : Int) + 1) = i + 1 := by unfold wrap64; omega
        have e2 : wrap64 ((i : Int) - 1) = i - 1 := by unfold wrap64; omega
        have e4 : wrap64 ((i : Int) - 4) = i - 4 := by unfold wrap64; omega
        simp only [impl_IsComb.l0, isPitch_eq, isCents_eq, Option.bind_some, decide_eq_true_eq, e1, e2, e4]
        unfold combAt combOwn
        rw [if_pos (show (i : Int) < l.length by omega), if_pos (show (0 : Int) ≤ i by omega), if_pos (show (i : Int) < l.length by omega)]
        generalize rd_T41 l (i : Int) = p
        generalize rd_T41 l ((i : Int) - 1) = q1
        generalize rd_T41 l ((i : Int) - 4) = q4
        by_cases z1 : (i : Int) > 0
        · simp only [if_pos z1, if_pos (show (0 : Int) ≤ i - 1 by omega), if_pos (show (i : Int) - 1 < l.length by omega)]
          by_cases z4 : (i : Int) ≥ 4
          · simp only [if_pos z4, if_pos (show (0 : Int) ≤ i - 4 by omega), if_pos (show (i : Int) - 4 < l.length by omega)]
            constructor <;> intro h <;> (repeat' split) <;> first | rfl | (exfalso; omega)
          · simp only [if_neg z4]
            constructor <;> intro h <;> (repeat' split) <;> first | rfl | (exfalso; omega)
        · simp only [if_neg z1, if_neg (show ¬ (i : Int) ≥ 4 by omega)]
          constructor <;> intro h <;> (repeat' split) <;> first | rfl | (exfalso; omega)
  · have e : decide (isC l) = false := decide_eq_false (fun hp => h ⟨hp.1, hp.2.1⟩)
    rw [e]
    refine ev_ite (fun hc => Ev.step (f := fun _ => some false) (fun k => rfl) (Ev.now _)) (fun hc => Ev.step (f := fun _ => some false) (fun k => ?_) (Ev.now _))
    simp only [impl_IsComb.j0]
    rw [if_pos (by simp; omega)]

theorem coOwn_eq (x : S41) {r : Bool} {f : Nat → Bool → Option Bool} (h : Ev (fun k => f k (!decide (combOwn x))) r) :
    Ev (fun k => (spec_ntPitch.f x.f0).bind fun t121 => (if t121 = true then ((spec_l1In.f x.f1 (-50) 50).bind fun t122 => (if t122 = true then ((spec_l1In.f x.f2 0 1).bind fun t123 => f k (!t123)) else f k true)) else f k true)) r := by
  refine Ev.congr (fun k => ?_) h
  simp only [ntPitch_eq, l1In_eq, Option.bind_some, decide_eq_true_eq]
  by_cases c1 : 24 ≤ x.f0 ∧ x.f0 ≤ 96
  · rw [if_pos c1]
    by_cases c2 : -50 ≤ x.f1 ∧ x.f1 ≤ 50
    · rw [if_pos c2]
      congr 2
      exact decide_eq_decide.2 (by unfold combOwn; omega)
    · rw [if_neg c2, decide_eq_false (show ¬ combOwn x by unfold combOwn; omega)]; rfl
  · rw [if_neg c1, decide_eq_false (show ¬ combOwn x by unfold combOwn; omega)]; rfl
theorem spec_isC (l : List S41) (hl : l.length ≤ 1048576) : Ev (fun k => spec_coGood.f k l) (decide (isC l)) := by
  unfold spec_coGood.f
  refine all_loop_g (fun k i => spec_coGood.l0 k l l (l.length : Int) i) l.length (combAt l) (decide (1 ≤ (l.length : Int) ∧ (l.length : Int) ≤ 40)) _ ?_ (fun _ => ?_) (fun i hi _ => ?_)
  · simp only [decide_eq_true_eq]
    unfold isC
    exact ⟨fun h => ⟨h.2.2, by omega, by omega⟩, fun h => ⟨by omega, by omega, h.1⟩⟩
  · refine Ev.step (f := fun k => (spec_l1In.f (l.length : Int) 1 40).bind fun t118 => (some t118)) (fun k => ?_) (ev_call (l1In_eq _ _ _) (Ev.now _))
    simp only [spec_coGood.l0]
    rw [if_neg (by omega)]
  · have e1 := wn hi (by omega)
    have e2 : wrap64 ((i : Int) - 1) = i - 1 := by unfold wrap64; omega
    have e4 : wrap64 ((i : Int) - 4) = i - 4 := by unfold wrap64; omega
    have hs : ∀ q, Ev (fun k => spec_coGood.j1 k l (i : Int) l (l.length : Int) (i : Int) (!decide (combOwn (rd_T41 l i))) ((rd_T41 l i).f0) ((rd_T41 l i).f1) ((rd_T41 l i).f2)) q → Ev (fun k => spec_coGood.l0 k l l (l.length : Int) (i : Int)) q := by
      intro q h
      refine Ev.step (fun k => ?_) (coOwn_eq (rd_T41 l i) (f := fun k t => spec_coGood.j1 k l (i : Int) l (l.length : Int) (i : Int) t ((rd_T41 l i).f0) ((rd_T41 l i).f1) ((rd_T41 l i).f2)) h)
      simp only [spec_coGood.l0]
      rw [if_pos (by omega), if_pos (by omega), if_pos (by omega)]
    constructor
    · intro hP q hq
      refine hs q ?_
      rw [decide_eq_true hP.1]
      refine Ev.step (fun k => ?_) hq
      have h2 := hP.2.1
      have h3 := hP.2.2
      simp only [spec_coGood.j1, e1, e2, e4, Bool.not_true, Bool.false_eq_true, ↓reduceIte]
      repeat' split
      all_goals first | rfl | (exfalso; omega)
    · intro hP
      refine hs false ?_
      by_cases hc : combOwn (rd_T41 l i)
      · rw [decide_eq_true hc]
        have hn : ¬ ((i > 0 → (rd_T41 l ((i : Int) - 1)).f0 ≤ (rd_T41 l i).f0) ∧ (i < 4 ∨ (rd_T41 l ((i : Int) - 4)).f0 < (rd_T41 l i).f0 ∨ (rd_T41 l i).f0 < (rd_T41 l ((i : Int) - 4)).f0)) := fun h => hP ⟨hc, h⟩
        refine Ev.step (f := fun _ => some false) (fun k => ?_) (Ev.now _)
        simp only [spec_coGood.j1, e1, e2, e4, Bool.not_true, Bool.false_eq_true, ↓reduceIte]
        repeat' split
        all_goals first | rfl | (exfalso; omega)
      · rw [decide_eq_false hc]
        exact Ev.step (f := fun _ => some false) (fun k => rfl) (Ev.now _)

theorem spec_asked2 (l : List S41) (s : List S45) (rest : Int) (hl : l.length ≤ 1048576) (hsl : s.length ≤ 1048576) : Ev (fun k => spec_coAsked.f k l s rest) (decide (isC l ∧ areS s ∧ 1 ≤ rest ∧ rest ≤ 200)) := by
  unfold spec_coAsked.f
  simp only [l1In_eq, Option.bind_some]
  by_cases h1 : isC l
  · by_cases h2 : areS s
    · by_cases h3 : 1 ≤ rest ∧ rest ≤ 200
      · rw [decide_eq_true (show isC l ∧ areS s ∧ 1 ≤ rest ∧ rest ≤ 200 from ⟨h1, h2, h3⟩)]
        exact Ev.bind (spec_isC l hl) (ev_pos (decide_eq_true h1) (Ev.bind (spec_areS s hsl) (ev_pos (decide_eq_true h2) (ev_now (decide_eq_true h3)))))
      · rw [decide_eq_false (show ¬ (isC l ∧ areS s ∧ 1 ≤ rest ∧ rest ≤ 200) from fun h => h3 h.2.2)]
        exact Ev.bind (spec_isC l hl) (ev_pos (decide_eq_true h1) (Ev.bind (spec_areS s hsl) (ev_pos (decide_eq_true h2) (ev_now (decide_eq_false h3)))))
    · rw [decide_eq_false (show ¬ (isC l ∧ areS s ∧ 1 ≤ rest ∧ rest ≤ 200) from fun h => h2 h.2.1)]
      exact Ev.bind (spec_isC l hl) (ev_pos (decide_eq_true h1) (Ev.bind (spec_areS s hsl) (ev_neg (by simpa using h2) (Ev.now _))))
  · rw [decide_eq_false (show ¬ (isC l ∧ areS s ∧ 1 ≤ rest ∧ rest ≤ 200) from fun h => h1 h.1)]
    exact Ev.bind (spec_isC l hl) (ev_neg (by simpa using h1) (Ev.now _))

/-- spec.l1Put: one more member of a strictly ascending list. -/
theorem put_set (l : List Int) (x : Int) (hl : l.length ≤ 1048576) (hs : l.Pairwise (· < ·)) : ∃ r : List Int, Ev (fun k => spec_l1Put.f k l x) r ∧ r.Pairwise (· < ·) ∧ (∀ y, y ∈ r ↔ (y = x ∨ y ∈ l)) ∧ r.length ≤ l.length + 1 := by
  have hget := List.pairwise_iff_getElem.1 hs
  have key : ∃ i, i ≤ l.length ∧ (∀ j, j < i → rd l (j : Int) < x) ∧ (∀ j, i ≤ j → j < l.length → x ≤ rd l (j : Int)) := by
    rcases first_or_none (fun j => ¬ rd l (j : Int) < x) l.length with h | ⟨i, hi, hc, hlt⟩
    · exact ⟨l.length, Nat.le_refl _, fun j hj => Decidable.of_not_not (h j hj), fun j h1 h2 => absurd h2 (by omega)⟩
    · refine ⟨i, by omega, fun j hj => Decidable.of_not_not (hlt j hj), fun j h1 h2 => ?_⟩
      have r1 : rd l (i : Int) = l[i] := rd_get hi
      have r2 : rd l (j : Int) = l[j] := rd_get h2
      rw [r1] at hc
      rw [r2]
      by_cases e : i = j
      · subst e; omega
      · have := hget i j hi h2 (by omega)
        omega
  obtain ⟨i, hi, h1, h2⟩ := key
  have hskip : ∀ r, Ev (fun k => spec_l1Put.l0 k l x (i : Int)) r → Ev (fun k => spec_l1Put.f k l x) r := by
    intro r hr
    unfold spec_l1Put.f
    refine skip_loop (fun k j => spec_l1Put.l0 k l x j) _ 0 i (Nat.zero_le _) (fun j _ hj h => ?_) hr
    refine Ev.step (fun k => ?_) h
    have hj2 : j < l.length := by omega
    simp only [spec_l1Put.l0, wn hj2 (by omega)]
    rw [if_pos (by omega), if_pos (by omega), if_pos (h1 j hj)]
  by_cases hx : i < l.length ∧ rd l (i : Int) = x
  · refine ⟨l, hskip _ (Ev.step (f := fun _ => some l) (fun k => ?_) (Ev.now _)), hs, fun y => ?_, by omega⟩
    · simp only [spec_l1Put.l0]
      rw [if_pos (by omega), if_pos (by omega), if_neg (by omega), if_pos hx.2]
    · have r1 : rd l (i : Int) = l[i]'hx.1 := rd_get hx.1
      have hm : x ∈ l := by rw [← hx.2, r1]; exact List.getElem_mem hx.1
      exact ⟨fun h => .inr h, fun h => h.elim (fun e => e ▸ hm) id⟩
  · have h3 : ∀ j, i ≤ j → j < l.length → x < rd l (j : Int) := by
      intro j hj hjl
      have h4 := h2 j hj hjl
      by_cases e : i = j
      · subst e
        have : rd l (i : Int) ≠ x := fun e => hx ⟨hjl, e⟩
        omega
      · have h5 := h2 i (Nat.le_refl _) (by omega)
        have r1 : rd l (i : Int) = l[i]'(by omega) := rd_get (by omega)
        have r2 : rd l (j : Int) = l[j] := rd_get hjl
        have := hget i j (by omega) hjl (by omega)
        omega
    refine ⟨[] ++ l.take i ++ [x] ++ l.drop i, hskip _ (Ev.step (f := fun _ => some ([] ++ l.take i ++ [x] ++ l.drop i)) (fun k => ?_) (Ev.now _)), ?_, fun y => ?_, by simp; omega⟩
    · have e1 : (l.take i).length ≤ l.length := by simp; omega
      have e2 : (l.drop i).length ≤ l.length := by simp
      simp only [spec_l1Put.l0, Option.bind_some, Int.toNat_natCast]
      by_cases c : i < l.length
      · have h4 := h3 i (Nat.le_refl _) c
        rw [if_pos (by omega), if_pos (by omega), if_neg (by omega), if_neg (by omega), if_pos (by omega), if_pos (by simp only [List.length_nil]; omega), if_pos (by simp only [List.length_append, List.length_nil]; omega), if_pos (by simp only [List.length_append, List.length_nil, List.length_singleton]; omega)]
      · rw [if_neg (by omega), if_pos (by omega), if_pos (by omega), if_pos (by simp only [List.length_nil]; omega), if_pos (by simp only [List.length_append, List.length_nil]; omega), if_pos (by simp only [List.length_append, List.length_nil, List.length_singleton]; omega)]
    · rw [List.nil_append, List.append_assoc, List.singleton_append, List.pairwise_append]
      have ht : ∀ a ∈ l.take i, a < x := by
        intro a ha
        obtain ⟨j, hj, rfl⟩ := List.mem_iff_getElem.1 ha
        have hj1 : j < i ∧ j < l.length := by simp at hj; omega
        have r2 : rd l (j : Int) = l[j] := rd_get hj1.2
        have := h1 j hj1.1
        rw [r2] at this
        simpa using this
      have hd : ∀ b ∈ l.drop i, x < b := by
        intro b hb
        obtain ⟨j, hj, rfl⟩ := List.mem_iff_getElem.1 hb
        have hj1 : i + j < l.length := by simp at hj; omega
        have r2 : rd l ((i + j : Nat) : Int) = l[i + j] := rd_get hj1
        have := h3 (i + j) (by omega) hj1
        rw [r2] at this
        simpa using this
      refine ⟨hs.sublist (List.take_sublist _ _), List.pairwise_cons.2 ⟨hd, hs.sublist (List.drop_sublist _ _)⟩, fun a ha b hb => ?_⟩
      rcases List.mem_cons.1 hb with rfl | hb
      · exact ht a ha
      · exact Int.lt_trans (ht a ha) (hd b hb)
    · have : y ∈ l ↔ (y ∈ l.take i ∨ y ∈ l.drop i) := by
        conv => lhs; rw [← List.take_append_drop i l]
        exact List.mem_append
      rw [this]
      simp only [List.nil_append, List.mem_append, List.mem_singleton]
      constructor
      · rintro ((h | h) | h)
        · exact .inr (.inl h)
        · exact .inl h
        · exact .inr (.inr h)
      · rintro (h | h | h)
        · exact .inl (.inr h)
        · exact .inl (.inl h)
        · exact .inr h

/-- Two strictly ascending lists of the same members are one. -/
theorem strict_ext {a b : List Int} (ha : a.Pairwise (· < ·)) (hb : b.Pairwise (· < ·)) (h : ∀ x, x ∈ a ↔ x ∈ b) : a = b := by
  have na : a.Nodup := ha.imp (fun h e => by subst e; exact Int.lt_irrefl _ h)
  have nb : b.Nodup := hb.imp (fun h e => by subst e; exact Int.lt_irrefl _ h)
  have hp : a.Perm b := (List.perm_ext_iff_of_nodup na nb).2 h
  exact List.Perm.eq_of_pairwise (le := fun a b : Int => a ≤ b) (fun a b _ _ h h' => by omega) (ha.imp (fun h => by omega)) (hb.imp (fun h => by omega)) hp

theorem compact_upto (d : Array Int) (hd : ∀ i j, i < j → j < d.size → d[i]! ≤ d[j]!) : ∀ m, m ≤ d.size → (Go.Lib.compactUpTo d m).Pairwise (· < ·) ∧ (∀ x, x ∈ Go.Lib.compactUpTo d m ↔ ∃ j, j < m ∧ d[j]! = x) ∧ ∀ x ∈ Go.Lib.compactUpTo d m, ∀ j, m ≤ j → j < d.size → x ≤ d[j]! := by
  intro m
  induction m with
  | zero => intro _; exact ⟨List.Pairwise.nil, fun x => ⟨fun h => absurd h (by simp [Go.Lib.compactUpTo]), fun h => by obtain ⟨j, hj, _⟩ := h; exact absurd hj (by omega)⟩, fun x h => absurd h (by simp [Go.Lib.compactUpTo])⟩
  | succ m ih =>
    intro hm
    obtain ⟨h1, h2, h3⟩ := ih (by omega)
    rw [Go.Lib.compactUpTo_succ]
    by_cases hk : Go.Lib.keeps d m = true
    · rw [if_pos hk]
      have hlt : ∀ x ∈ Go.Lib.compactUpTo d m, x < d[m]! := by
        intro x hx
        have hle := h3 x hx m (Nat.le_refl _) hm
        rcases Nat.eq_zero_or_pos m with e | e
        · subst e; exact absurd hx (by simp [Go.Lib.compactUpTo])
        · obtain ⟨j, hj, rfl⟩ := (h2 x).1 hx
          have hne : d[m]! ≠ d[m - 1]! := by
            simp only [Go.Lib.keeps, decide_eq_true_eq] at hk
            rcases hk with hk | hk
            · omega
            · exact hk
          have hj2 : d[j]! ≤ d[m - 1]! := by
            by_cases e2 : j = m - 1
            · rw [e2]; exact Int.le_refl _
            · exact hd j (m - 1) (by omega) (by omega)
          have := hd (m - 1) m (by omega) hm
          omega
      refine ⟨List.pairwise_append.2 ⟨h1, List.pairwise_singleton _ _, fun a ha b hb => by rw [List.mem_singleton.1 hb]; exact hlt a ha⟩, fun x => ?_, fun x hx j hj hj2 => ?_⟩
      · rw [List.mem_append, List.mem_singleton, h2]
        constructor
        · rintro (⟨j, hj, e⟩ | rfl)
          · exact ⟨j, by omega, e⟩
          · exact ⟨m, by omega, rfl⟩
        · rintro ⟨j, hj, e⟩
          by_cases e2 : j = m
          · subst e2; exact .inr e.symm
          · exact .inl ⟨j, by omega, e⟩
      · rcases List.mem_append.1 hx with hx | hx
        · exact h3 x hx j (by omega) hj2
        · rw [List.mem_singleton.1 hx]; exact hd m j (by omega) hj2
    · rw [if_neg hk, List.append_nil]
      have he : 0 < m ∧ d[m]! = d[m - 1]! := by
        rcases Nat.eq_zero_or_pos m with e | e
        · subst e; exact absurd (Go.Lib.keeps_lt_one d 0 (by omega)) hk
        · exact ⟨e, Classical.byContradiction fun hne => hk (Go.Lib.keeps_pos hne)⟩
      refine ⟨h1, fun x => ?_, fun x hx j hj hj2 => h3 x hx j (by omega) hj2⟩
      rw [h2]
      constructor
      · rintro ⟨j, hj, e⟩; exact ⟨j, by omega, e⟩
      · rintro ⟨j, hj, e⟩
        by_cases e2 : j = m
        · subst e2; exact ⟨j - 1, by omega, by rw [← he.2]; exact e⟩
        · exact ⟨j, by omega, e⟩
theorem compact_sorted (l : List Int) (h : l.Pairwise (· ≤ ·)) : (Go.Lib.compact l).Pairwise (· < ·) ∧ ∀ x, x ∈ Go.Lib.compact l ↔ x ∈ l := by
  have hd : ∀ i j, i < j → j < l.toArray.size → l.toArray[i]! ≤ l.toArray[j]! := by
    intro i j hij hj
    have hj' : j < l.length := by simpa using hj
    have hi' : i < l.length := by omega
    have := List.pairwise_iff_getElem.1 h i j hi' hj' hij
    simpa [hi', hj'] using this
  obtain ⟨h1, h2, _⟩ := compact_upto l.toArray hd l.length (by simp)
  refine ⟨h1, fun x => (h2 x).trans ⟨fun hx => ?_, fun hx => ?_⟩⟩
  · obtain ⟨j, hj, e⟩ := hx
    have : l.toArray[j]! = l[j] := by simp [hj]
    rw [← e, this]
    exact List.getElem_mem hj
  · obtain ⟨j, hj, e⟩ := List.mem_iff_getElem.1 hx
    exact ⟨j, hj, by simp [hj, e]⟩
/-- Sorted and without repeats: the one strictly ascending list of these members. -/
theorem sortset_eq (l r : List Int) (h1 : r.Pairwise (· < ·)) (h2 : ∀ x, x ∈ r ↔ x ∈ l) : Go.Lib.compact (l.mergeSort fun x y => decide (x ≤ y)) = r := by
  have hs := List.pairwise_mergeSort (le := fun a b : Int => decide (a ≤ b)) (fun a b c h h' => by simp at h h' ⊢; omega) (fun a b => by simp; omega) l
  obtain ⟨c1, c2⟩ := compact_sorted _ (hs.imp (fun h => by simpa using h))
  refine strict_ext c1 h1 (fun x => ?_)
  rw [c2, (List.mergeSort_perm l _).mem_iff, h2]

def Dm (l : List S41) (y : Int) : Prop := 0 ≤ y ∧ y < l.length ∧ (rd_T41 l y).f2 = 0
def Dp (l : List S41) (r : List Int × Bool) : Prop := r.1.length ≤ 1048576 ∧ ∀ y ∈ r.1, Dm l y
def Sm (l : List S41) (n : Nat) (S O : List Int) : Prop := S.Pairwise (· < ·) ∧ (∀ y, y ∈ S ↔ y ∈ O) ∧ S.length ≤ O.length ∧ O.length ≤ n ∧ ∀ y ∈ O, Dm l y
theorem dn_inner (l : List S41) (s : List S45) (ring : Int) (g : List Int) (i : Nat) (x : Int) (n : Nat) (hn : n ≤ 1600) (S O : List Int) (hi : i < g.length) (hgs : g.length = s.length) (hsl : s.length ≤ 40) (hx : 0 ≤ x ∧ x < l.length) (h0 : Sm l n S O)
    (hnext : ∀ S' O', Sm l (n + i) S' O' → ∃ r : List Int × Bool, Ev (fun k => spec_DampersNeeded.l0 k l s ring g S' g (g.length : Int) (wrap64 ((i : Int) + 1))) r ∧ Ev (fun k => impl_DampersNeeded.l0 k l s ring g O' g (g.length : Int) (wrap64 ((i : Int) + 1))) r ∧ Dp l r) :
    ∃ r : List Int × Bool, Ev (fun k => spec_DampersNeeded.l1 k l s ring g S (i : Int) x g (g.length : Int) (i : Int) (i : Int) 0) r ∧ Ev (fun k => impl_DampersNeeded.l1 k l s ring g O (i : Int) x g (g.length : Int) (i : Int) (i : Int) 0) r ∧ Dp l r := by
  refine count_up i (fun j (st : List Int × List Int) => Sm l (n + j) st.1 st.2) (fun j st => ∃ r : List Int × Bool, Ev (fun k => spec_DampersNeeded.l1 k l s ring g st.1 (i : Int) x g (g.length : Int) (i : Int) (i : Int) (j : Int)) r ∧ Ev (fun k => impl_DampersNeeded.l1 k l s ring g st.2 (i : Int) x g (g.length : Int) (i : Int) (i : Int) (j : Int)) r ∧ Dp l r) (fun st hst => ?_) (fun j st hj hst ih => ?_) 0 (S, O) (Nat.zero_le _) h0
  · obtain ⟨r, q1, q2, q3⟩ := hnext st.1 st.2 hst
    refine ⟨r, Ev.step (fun k => ?_) q1, Ev.step (fun k => ?_) q2, q3⟩
    · simp only [spec_DampersNeeded.l1]
      rw [if_neg (by omega)]
    · simp only [impl_DampersNeeded.l1]
      rw [if_neg (by omega)]
  · have e1 := wn hj (by omega)
    obtain ⟨z1, z2, z3, z4, z5⟩ := hst
    obtain ⟨q, p1, p2, p3, p4⟩ := put_set st.1 x (by omega) z1
    have hput : Dm l x → Sm l (n + (j + 1)) q (st.2 ++ [x]) := fun hd => ⟨p2, fun y => by rw [p3, z2, List.mem_append, List.mem_singleton, or_comm], by simp; omega, by simp; omega, fun y hy => by
      rcases List.mem_append.1 hy with hy | hy
      · exact z5 y hy
      · rw [List.mem_singleton.1 hy]; exact hd⟩
    have hkeep : Sm l (n + (j + 1)) st.1 st.2 := ⟨z1, z2, z3, by omega, z5⟩
    by_cases c1 : rd g (j : Int) = x
    · by_cases c2 : (rd_T41 l x).f2 = 0
      · by_cases c3 : wrap64 ((rd_T45 s (i : Int)).f1 - (rd_T45 s (j : Int)).f1) < ring
        · obtain ⟨r, q1, q2, q3⟩ := ih (q, st.2 ++ [x]) (hput ⟨hx.1, hx.2, c2⟩)
          refine ⟨r, Ev.step (f := fun k => (spec_l1Put.f k st.1 x).bind fun t => spec_DampersNeeded.l1 k l s ring g t (i : Int) x g (g.length : Int) (i : Int) (i : Int) ((j + 1 : Nat) : Int)) (fun k => ?_) (Ev.bind p1 q1), Ev.step (fun k => ?_) q2, q3⟩
          · simp only [spec_DampersNeeded.l1, e1]
            rw [if_pos (by omega), if_pos (by omega), if_pos (by omega), if_pos c1, if_pos (by omega), if_pos (by omega), if_pos (by omega), if_pos c3, if_pos hx.1, if_pos hx.2, if_pos c2]
          · simp only [impl_DampersNeeded.l1, e1]
            rw [if_pos (by omega), if_pos (by omega), if_pos (by omega), if_pos c1, if_pos hx.1, if_pos hx.2, if_pos c2, if_pos (by omega), if_pos (by omega), if_pos (by omega), if_pos c3, if_pos (by omega)]
        · obtain ⟨r, q1, q2, q3⟩ := ih st hkeep
          refine ⟨r, Ev.step (fun k => ?_) q1, Ev.step (fun k => ?_) q2, q3⟩
          · simp only [spec_DampersNeeded.l1, e1]
            rw [if_pos (by omega), if_pos (by omega), if_pos (by omega), if_pos c1, if_pos (by omega), if_pos (by omega), if_pos (by omega), if_neg c3]
          · simp only [impl_DampersNeeded.l1, e1]
            rw [if_pos (by omega), if_pos (by omega), if_pos (by omega), if_pos c1, if_pos hx.1, if_pos hx.2, if_pos c2, if_pos (by omega), if_pos (by omega), if_pos (by omega), if_neg c3]
      · obtain ⟨r, q1, q2, q3⟩ := ih st hkeep
        refine ⟨r, Ev.step (fun k => ?_) q1, Ev.step (fun k => ?_) q2, q3⟩
        · simp only [spec_DampersNeeded.l1, e1]
          rw [if_pos (by omega), if_pos (by omega), if_pos (by omega), if_pos c1, if_pos (by omega), if_pos (by omega), if_pos (by omega)]
          by_cases c3 : wrap64 ((rd_T45 s (i : Int)).f1 - (rd_T45 s (j : Int)).f1) < ring
          · rw [if_pos c3, if_pos hx.1, if_pos hx.2, if_neg c2]
          · rw [if_neg c3]
        · simp only [impl_DampersNeeded.l1, e1]
          rw [if_pos (by omega), if_pos (by omega), if_pos (by omega), if_pos c1, if_pos hx.1, if_pos hx.2, if_neg c2]
    · obtain ⟨r, q1, q2, q3⟩ := ih st hkeep
      refine ⟨r, Ev.step (fun k => ?_) q1, Ev.step (fun k => ?_) q2, q3⟩
      · simp only [spec_DampersNeeded.l1, e1]
        rw [if_pos (by omega), if_pos (by omega), if_pos (by omega), if_neg c1]
      · simp only [impl_DampersNeeded.l1, e1]
        rw [if_pos (by omega), if_pos (by omega), if_pos (by omega), if_neg c1]
theorem dn_loops (l : List S41) (s : List S45) (ring : Int) (g : List Int) (hgs : g.length = s.length) (hsl : s.length ≤ 40) (hg : ∀ x ∈ g, 0 ≤ x ∧ x < (l.length : Int)) (hl : l.length ≤ 1048576) :
    ∃ r : List Int × Bool, Ev (fun k => spec_DampersNeeded.l0 k l s ring g [] g (g.length : Int) 0) r ∧ Ev (fun k => impl_DampersNeeded.l0 k l s ring g [] g (g.length : Int) 0) r ∧ Dp l r := by
  refine count_up g.length (fun i (st : List Int × List Int) => Sm l (i * 40) st.1 st.2) (fun i st => ∃ r : List Int × Bool, Ev (fun k => spec_DampersNeeded.l0 k l s ring g st.1 g (g.length : Int) (i : Int)) r ∧ Ev (fun k => impl_DampersNeeded.l0 k l s ring g st.2 g (g.length : Int) (i : Int)) r ∧ Dp l r) (fun st hst => ?_) (fun i st hi hst ih => ?_) 0 ([], []) (Nat.zero_le _) ⟨List.Pairwise.nil, fun y => Iff.rfl, Nat.le_refl _, Nat.le_refl _, fun y hy => by cases hy⟩
  · obtain ⟨z1, z2, z3, z4, z5⟩ := hst
    have hb : st.2.length ≤ 1600 := Nat.le_trans z4 (by omega)
    have hso : (st.2.mergeSort fun x y => decide (x ≤ y)).length = st.2.length := List.length_mergeSort _
    refine ⟨(st.1, true), Ev.step (f := fun _ => some (st.1, true)) (fun k => ?_) (Ev.now _), Ev.step (f := fun _ => some (st.1, true)) (fun k => ?_) (Ev.now _), ⟨by show st.1.length ≤ 1048576; omega, fun y hy => z5 y ((z2 y).1 hy)⟩⟩
    · simp only [spec_DampersNeeded.l0]
      rw [if_neg (by omega)]
    · simp only [impl_DampersNeeded.l0, impl_sortedSet.f, slices_Clone_int_int.f, sort_Ints.f, slices_Sort_int_int.f, slices_Compact_int_int.f]
      rw [if_neg (by omega), if_pos (by omega)]
      simp only [Option.bind_some]
      rw [if_pos (by omega)]
      simp only [Option.bind_some]
      rw [if_pos (by omega)]
      simp only [Option.bind_some]
      rw [sortset_eq st.2 st.1 z1 z2]
  · have r1 : rd g (i : Int) = g[i] := rd_get hi
    have hx := hg _ (List.getElem_mem hi)
    obtain ⟨r, q1, q2, q3⟩ := dn_inner l s ring g i g[i] (i * 40) (by omega) st.1 st.2 hi hgs hsl hx hst (fun S' O' h => by
      have := ih (S', O') ⟨h.1, h.2.1, h.2.2.1, by have := h.2.2.2.1; show O'.length ≤ (i + 1) * 40; omega, h.2.2.2.2⟩
      rw [wn hi (by omega)]
      exact this)
    refine ⟨r, Ev.step (fun k => ?_) q1, Ev.step (fun k => ?_) q2, q3⟩
    · simp only [spec_DampersNeeded.l0, r1, Int.toNat_natCast]
      rw [if_pos (by omega), if_pos (by omega), if_pos (by omega), if_pos (by omega)]
      rw [show ((g.take i).length : Int) = (i : Int) by simp; omega]
    · simp only [impl_DampersNeeded.l0, r1]
      rw [if_pos (by omega), if_pos (by omega), if_pos (by omega)]
theorem dn_both (l : List S41) (s : List S45) (rest ring : Int) (hl : l.length ≤ 1048576) (hsl : s.length ≤ 1048576) :
    ∃ r : List Int × Bool, Ev (fun k => spec_DampersNeeded.f k l s rest ring) r ∧ Ev (fun k => impl_DampersNeeded.f k l s rest ring) r ∧ Dp l r ∧ (r.2 = true → isC l ∧ areS s ∧ (1 ≤ rest ∧ rest ≤ 200) ∧ ∃ q, Ev (fun k => impl_giveTeeth.f k l s rest) q ∧ q.2 = true) := by
  unfold spec_DampersNeeded.f impl_DampersNeeded.f
  have hi : ∀ a : Int, impl_isRest.f a = some (decide (1 ≤ a ∧ a ≤ 200)) := by
    intro a
    unfold impl_isRest.f
    by_cases h : a ≥ 1
    · rw [if_pos h]; exact some_dec (fun h' => ⟨by omega, h'⟩) (fun h' => h'.2)
    · rw [if_neg h]; exact some_dec_f (fun h' => h (by omega))
  have ha := spec_asked2 l s rest hl hsl
  have no1 : Ev (fun k => spec_DampersNeeded.j0 k l s rest ring true) (([] : List Int), false) := Ev.step (f := fun _ => some (([] : List Int), false)) (fun k => by simp only [spec_DampersNeeded.j0]; rw [if_pos trivial]) (Ev.now _)
  have no2 : Ev (fun k => impl_DampersNeeded.j0 k l s rest ring true) (([] : List Int), false) := Ev.step (f := fun _ => some (([] : List Int), false)) (fun k => by simp only [impl_DampersNeeded.j0]; rw [if_pos trivial]) (Ev.now _)
  simp only [hi, l1In_eq, Option.bind_some]
  by_cases h1 : isC l
  · by_cases h2 : areS s
    · by_cases h3 : 1 ≤ rest ∧ rest ≤ 200
      · by_cases h4 : 1 ≤ ring ∧ ring ≤ 500
        · obtain ⟨r, g1, g2, g3, g4, _⟩ := give_both3 l s rest hl h2 h3
          have e1 : (!decide (1 ≤ ring ∧ ring ≤ 500)) = false := by simp [h4]
          have e2 : decide (ring > 500) = false := by simp; omega
          rw [e1, e2]
          cases hr : r.2 with
          | false =>
            refine ⟨([], false), Ev.bind ha (ev_pos (decide_eq_true ⟨h1, h2, h3⟩) (Ev.step (f := fun k => (spec_coGive.f k l s rest).bind fun bt => if bt.2 = true then spec_DampersNeeded.l0 k l s ring bt.1 ([] : List Int) bt.1 (bt.1.length : Int) 0 else some (([] : List Int), false)) (fun k => by simp only [spec_DampersNeeded.j0]; rw [if_neg (by simp)]) (Ev.bind g1 (ev_neg (by rw [hr]; simp) (Ev.now _))))), ?_, ⟨Nat.zero_le _, (fun y hy => by cases hy)⟩, (fun h => by cases h)⟩
            exact Ev.bind (impl_isC l hl) (ev_pos (decide_eq_true h1) (Ev.bind (impl_areS s hsl) (ev_pos (decide_eq_true h2) (ev_pos (decide_eq_true h3) (ev_neg (by omega) (Ev.step (f := fun k => (impl_giveTeeth.f k l s rest).bind fun bt => if bt.2 = true then impl_DampersNeeded.l0 k l s ring bt.1 ([] : List Int) bt.1 (bt.1.length : Int) 0 else some (([] : List Int), false)) (fun k => by simp only [impl_DampersNeeded.j0]; rw [if_neg (by simp)]) (Ev.bind g2 (ev_neg (by rw [hr]; simp) (Ev.now _)))))))))
          | true =>
            obtain ⟨g5, g6⟩ := g4 hr
            obtain ⟨q, d1, d2, d3⟩ := dn_loops l s ring r.1 g5 h2.2 (fun x hx => by
              obtain ⟨m, hm, e⟩ := List.getElem_of_mem hx
              have h := g6.1 m (by omega)
              obtain ⟨n, h5, h6, _⟩ := mem_teethL.1 h
              have h7 : rd r.1 (m : Int) = x := by rw [← e]; exact rd_get hm
              have h6' : rd r.1 (m : Int) = (n : Int) := h6
              rw [h7] at h6'
              omega) hl
            refine ⟨q, Ev.bind ha (ev_pos (decide_eq_true ⟨h1, h2, h3⟩) (Ev.step (f := fun k => (spec_coGive.f k l s rest).bind fun bt => if bt.2 = true then spec_DampersNeeded.l0 k l s ring bt.1 ([] : List Int) bt.1 (bt.1.length : Int) 0 else some (([] : List Int), false)) (fun k => by simp only [spec_DampersNeeded.j0]; rw [if_neg (by simp)]) (Ev.bind g1 (ev_pos hr d1)))), ?_, d3, fun _ => ⟨h1, h2, h3, r, g2, hr⟩⟩
            exact Ev.bind (impl_isC l hl) (ev_pos (decide_eq_true h1) (Ev.bind (impl_areS s hsl) (ev_pos (decide_eq_true h2) (ev_pos (decide_eq_true h3) (ev_neg (by omega) (Ev.step (f := fun k => (impl_giveTeeth.f k l s rest).bind fun bt => if bt.2 = true then impl_DampersNeeded.l0 k l s ring bt.1 ([] : List Int) bt.1 (bt.1.length : Int) 0 else some (([] : List Int), false)) (fun k => by simp only [impl_DampersNeeded.j0]; rw [if_neg (by simp)]) (Ev.bind g2 (ev_pos hr d2))))))))
        · have e1 : (!decide (1 ≤ ring ∧ ring ≤ 500)) = true := by simp only [decide_eq_false h4]; rfl
          rw [e1]
          refine ⟨([], false), Ev.bind ha (ev_pos (decide_eq_true ⟨h1, h2, h3⟩) no1), Ev.bind (impl_isC l hl) (ev_pos (decide_eq_true h1) (Ev.bind (impl_areS s hsl) (ev_pos (decide_eq_true h2) (ev_pos (decide_eq_true h3) ?_)))), ⟨Nat.zero_le _, (fun y hy => by cases hy)⟩, (fun h => by cases h)⟩
          by_cases h5 : ring < 1
          · exact ev_pos h5 no2
          · have e2 : decide (ring > 500) = true := by simp; omega
            rw [e2]
            exact ev_neg h5 no2
      · exact ⟨([], false), Ev.bind ha (ev_neg (by simp only [decide_eq_true_eq]; exact fun h => h3 h.2.2) no1), Ev.bind (impl_isC l hl) (ev_pos (decide_eq_true h1) (Ev.bind (impl_areS s hsl) (ev_pos (decide_eq_true h2) (ev_neg (by simpa using h3) no2)))), ⟨Nat.zero_le _, (fun y hy => by cases hy)⟩, (fun h => by cases h)⟩
    · exact ⟨([], false), Ev.bind ha (ev_neg (by simp only [decide_eq_true_eq]; exact fun h => h2 h.2.1) no1), Ev.bind (impl_isC l hl) (ev_pos (decide_eq_true h1) (Ev.bind (impl_areS s hsl) (ev_neg (by simpa using h2) no2))), ⟨Nat.zero_le _, (fun y hy => by cases hy)⟩, (fun h => by cases h)⟩
  · exact ⟨([], false), Ev.bind ha (ev_neg (by simp only [decide_eq_true_eq]; exact fun h => h1 h.1) no1), Ev.bind (impl_isC l hl) (ev_neg (by simpa using h1) no2), ⟨Nat.zero_le _, (fun y hy => by cases hy)⟩, (fun h => by cases h)⟩
end Go.Proofs.Ytiekokdlcgpcdaa.PureFnStrikes
