/- The plain statement of FnExactRepairToPlay: the law's function, over numbers and lists, answers true. No conditions beyond the arguments' own kinds. -/
import Derived.Test.YthmpginbaafbhaaSRepairToPlay22
import Derived.Test.YthmpginbaafbhaaPureFnExactRepairToPlayd
namespace Go.Proofs.Ythmpginbaafbhaa.PureFnExactRepairToPlay
open Go Go.RowKit Go.Proofs.Ythmpginbaafbhaa.PFnExactRepairToPlay Go.Proofs.YthmpginbaafbhaaW.PrintWords Go.Proofs.YthmpginbaafbhaaW.PrintLast Go.Proofs.YthmpginbaafbhaaW.PrintMore Go.Proofs.Ythmpginbaafbhaa.Lib
set_option linter.unusedVariables false
set_option linter.unusedSimpArgs false
/-- spec.l1Put: one more member of a strictly ascending list. -/
theorem put_set (l : List Int) (x : Int) (hl : l.length ≤ 1048576) (hs : l.Pairwise (· < ·)) : ∃ r : List Int, Ev (fun k => spec_l1Put.f k l x) r ∧ r.Pairwise (· < ·) ∧ (∀ y, y ∈ r ↔ (y = x ∨ y ∈ l)) ∧ r.length ≤ l.length + 1 := by
  have hget := List.pairwise_iff_getElem.1 hs
  have key : ∃ i, i ≤ l.length ∧ (∀ j, j < i → rd l (j : Int) < x) ∧ (∀ j, i ≤ j → j < l.length → x ≤ rd l (j : Int)) := by
    rcases first_or_none (fun j => ¬ rd l (j : Int) < x) l.length with h | ⟨i, hi, hc, hlt⟩
    · exact ⟨l.length, Nat.le_refl _, fun j hj => Decidable.of_not_not (h j hj), fun j h1 h2 => absurd h2 (by omega)⟩
    · refine ⟨i, by omega, fun j hj => Decidable.of_not_not (hlt j hj), fun j h1 h2 => ?_⟩
      have r1 : rd l (i : Int) = l[i] := rd_get hi
      have r2 : rd l (j : Int) = l[j] := rd_get h2
      rw [r1] at hc
      rw [r2]
      by_cases e : i = j
      · subst e; omega
      · have := hget i j hi h2 (by omega)
        omega
  obtain ⟨i, hi, h1, h2⟩ := key
  have hskip : ∀ r, Ev (fun k => spec_l1Put.l0 k l x (i : Int)) r → Ev (fun k => spec_l1Put.f k l x) r := by
    intro r hr
    unfold spec_l1Put.f
    refine skip_loop (fun k j => spec_l1Put.l0 k l x j) _ 0 i (Nat.zero_le _) (fun j _ hj h => ?_) hr
    refine Ev.step (fun k => ?_) h
    have hj2 : j < l.length := by omega
    simp only [spec_l1Put.l0, wn hj2 (by omega)]
    rw [if_pos (by omega), if_pos (by omega), if_pos (h1 j hj)]
  by_cases hx : i < l.length ∧ rd l (i : Int) = x
  · refine ⟨l, hskip _ (Ev.step (f := fun _ => some l) (fun k => ?_) (Ev.now _)), hs, fun y => ?_, by omega⟩
    · simp only [spec_l1Put.l0]
      rw [if_pos (by omega), if_pos (by omega), if_neg (by omega), if_pos hx.2]
    · have r1 : rd l (i : Int) = l[i]'hx.1 := rd_get hx.1
      have hm : x ∈ l := by rw [← hx.2, r1]; exact List.getElem_mem hx.1
      exact ⟨fun h => .inr h, fun h => h.elim (fun e => e ▸ hm) id⟩
  · have h3 : ∀ j, i ≤ j → j < l.length → x < rd l (j : Int) := by
      intro j hj hjl
      have h4 := h2 j hj hjl
      by_cases e : i = j
      · subst e
        have : rd l (i : Int) ≠ x := fun e => hx ⟨hjl, e⟩
        omega
      · have h5 := h2 i (Nat.le_refl _) (by omega)
        have r1 : rd l (i : Int) = l[i]'(by omega) := rd_get (by omega)
        have r2 : rd l (j : Int) = l[j] := rd_get hjl
        have := hget i j (by omega) hjl (by omega)
        omega
    refine ⟨[] ++ l.take i ++ [x] ++ l.drop i, hskip _ (Ev.step (f := fun _ => some ([] ++ l.take i ++ [x] ++ l.drop i)) (fun k => ?_) (Ev.now _)), ?_, fun y => ?_, by simp; omega⟩
    · have e1 : (l.take i).length ≤ l.length := by simp; omega
      have e2 : (l.drop i).length ≤ l.length := by simp
      simp only [spec_l1Put.l0, Option.bind_some, Int.toNat_natCast]
      by_cases c : i < l.length
      · have h4 := h3 i (Nat.le_refl _) c
        rw [if_pos (by omega), if_pos (by omega), if_neg (by omega), if_neg (by omega), if_pos (by omega), if_pos (by simp only [List.length_nil]; omega), if_pos (by simp only [List.length_append, List.length_nil]; omega), if_pos (by simp only [List.length_append, List.length_nil, List.length_singleton]; omega)]
      · rw [if_neg (by omega), if_pos (by omega), if_pos (by omega), if_pos (by simp only [List.length_nil]; omega), if_pos (by simp only [List.length_append, List.length_nil]; omega), if_pos (by simp only [List.length_append, List.length_nil, List.length_singleton]; omega)]
    · rw [List.nil_append, List.append_assoc, List.singleton_append, List.pairwise_append]
      have ht : ∀ a ∈ l.take i, a < x := by
        intro a ha
        obtain ⟨j, hj, rfl⟩ := List.mem_iff_getElem.1 ha
        have hj1 : j < i ∧ j < l.length := by simp at hj; omega
        have r2 : rd l (j : Int) = l[j] := rd_get hj1.2
        have := h1 j hj1.1
        rw [r2] at this
        simpa using this
      have hd : ∀ b ∈ l.drop i, x < b := by
        intro b hb
        obtain ⟨j, hj, rfl⟩ := List.mem_iff_getElem.1 hb
        have hj1 : i + j < l.length := by simp at hj; omega
        have r2 : rd l ((i + j : Nat) : Int) = l[i + j] := rd_get hj1
        have := h3 (i + j) (by omega) hj1
        rw [r2] at this
        simpa using this
      refine ⟨hs.sublist (List.take_sublist _ _), List.pairwise_cons.2 ⟨hd, hs.sublist (List.drop_sublist _ _)⟩, fun a ha b hb => ?_⟩
      rcases List.mem_cons.1 hb with rfl | hb
      · exact ht a ha
      · exact Int.lt_trans (ht a ha) (hd b hb)
    · have : y ∈ l ↔ (y ∈ l.take i ∨ y ∈ l.drop i) := by
        conv => lhs; rw [← List.take_append_drop i l]
        exact List.mem_append
      rw [this]
      simp only [List.nil_append, List.mem_append, List.mem_singleton]
      constructor
      · rintro ((h | h) | h)
        · exact .inr (.inl h)
        · exact .inl h
        · exact .inr (.inr h)
      · rintro (h | h | h)
        · exact .inl (.inr h)
        · exact .inl (.inl h)
        · exact .inr h

/-- The first place of a number, as both find it. -/
theorem index_at (l : List Int) (x : Int) (hl : l.length ≤ 1048576) : ∃ t : Int, Ev (fun k => slices_Index_int_int.f k l x) t ∧ (∀ rp, Ev (fun k => spec_inTrack.f k l rp x) t) ∧ -1 ≤ t ∧ t < 1048576 ∧ (0 ≤ t → t < l.length ∧ rd l t = x) ∧ (t < 0 ↔ x ∉ l) := by
  have key := count_up l.length (fun _ (_ : Unit) => True) (fun i _ => ∃ t : Int, Ev (fun k => slices_Index_int_int.l0 k l x (l.length : Int) (i : Int)) t ∧ Ev (fun k => spec_inTrack.l0 k x l (l.length : Int) (i : Int)) t ∧ -1 ≤ t ∧ t < 1048576 ∧ (0 ≤ t → t < l.length ∧ rd l t = x) ∧ (t < 0 ↔ x ∉ l.drop i)) (fun _ _ => ?_) (fun i _ hi _ ih => ?_) 0 () (Nat.zero_le _) trivial
  · obtain ⟨t, h1, h2, h3⟩ := key
    exact ⟨t, h1, fun _ => h2, h3⟩
  · refine ⟨-1, Ev.step (f := fun _ => some (-1)) (fun k => ?_) (Ev.now _), Ev.step (f := fun _ => some (-1)) (fun k => ?_) (Ev.now _), by omega, by omega, fun h => absurd h (by omega), by simp⟩
    · simp only [slices_Index_int_int.l0]
      rw [if_neg (by omega)]
    · simp only [spec_inTrack.l0]
      rw [if_neg (by omega)]
  · have e1 := wn hi (by omega)
    have er : rd l (i : Int) = l[i] := by unfold rd; rw [rd_get hi]
    rw [List.drop_eq_getElem_cons hi, List.mem_cons]
    by_cases c : rd l (i : Int) = x
    · refine ⟨(i : Int), Ev.step (f := fun _ => some (i : Int)) (fun k => ?_) (Ev.now _), Ev.step (f := fun _ => some (i : Int)) (fun k => ?_) (Ev.now _), by omega, by omega, fun _ => ⟨by omega, c⟩, ⟨fun h => absurd h (by omega), fun h => absurd (.inl (er ▸ c).symm) h⟩⟩
      · simp only [slices_Index_int_int.l0]
        rw [if_pos (by omega), if_pos (by omega), if_pos (by omega), if_pos c.symm]
      · simp only [spec_inTrack.l0]
        rw [if_pos (by omega), if_pos (by omega), if_pos (by omega), if_pos c]
    · obtain ⟨t, h1, h2, h3, h4, h5, h6⟩ := ih () trivial
      refine ⟨t, Ev.step (fun k => ?_) h1, Ev.step (fun k => ?_) h2, h3, h4, h5, h6.trans ⟨fun h q => q.elim (fun q => c (er.trans q.symm)) h, fun h q => h (.inr q)⟩⟩
      · simp only [slices_Index_int_int.l0, e1]
        rw [if_pos (by omega), if_pos (by omega), if_pos (by omega), if_neg (fun h => c h.symm)]
      · simp only [spec_inTrack.l0, e1]
        rw [if_pos (by omega), if_pos (by omega), if_pos (by omega), if_neg c]

theorem contains (l : List Int) (x : Int) (hl : l.length ≤ 1048576) : Ev (fun k => slices_Contains_int_int.f k l x) (decide (x ∈ l)) := by
  have key : ∀ (d i : Nat), l.length - i = d → i ≤ l.length → ∃ r : Int, Ev (fun k => slices_Index_int_int.l0 k l x (l.length : Int) (i : Int)) r ∧ (r ≥ 0 ↔ x ∈ l.drop i) := by
    intro d
    induction d with
    | zero =>
      intro i hd hi
      obtain rfl : i = l.length := by omega
      refine ⟨-1, Ev.step (f := fun _ => some (-1)) (fun k => ?_) (Ev.now _), by simp⟩
      simp only [slices_Index_int_int.l0]
      rw [if_neg (by omega)]
    | succ d ih =>
      intro i hd hi
      have hlt : i < l.length := by omega
      have e1 := wn hlt (by omega)
      have er : rd l (i : Int) = l[i] := by unfold rd; rw [rd_get hlt]
      rw [List.drop_eq_getElem_cons hlt, List.mem_cons]
      by_cases c : x = l[i]
      · refine ⟨(i : Int), Ev.step (f := fun _ => some (i : Int)) (fun k => ?_) (Ev.now _), ⟨fun _ => .inl c, fun _ => by omega⟩⟩
        simp only [slices_Index_int_int.l0, er]
        rw [if_pos (by omega), if_pos (by omega), if_pos (by omega), if_pos c]
      · obtain ⟨r, h1, h2⟩ := ih (i + 1) (by omega) (by omega)
        refine ⟨r, Ev.step (fun k => ?_) h1, by rw [h2]; exact ⟨.inr, fun h => h.resolve_left c⟩⟩
        simp only [slices_Index_int_int.l0, er, e1]
        rw [if_pos (by omega), if_pos (by omega), if_pos (by omega), if_neg c]
  obtain ⟨r, h1, h2⟩ := key l.length 0 rfl (by omega)
  rw [List.drop_zero] at h2
  unfold slices_Contains_int_int.f
  exact Ev.bind (g := fun k => slices_Index_int_int.f k l x) h1 (ev_now (decide_eq_decide.2 h2))

/-- The last note of a pitch before one, as both find it. -/
theorem last_ev (l : List S55) (rp : Int) (i : Nat) (hi : i < l.length) (hl : l.length ≤ 1048576) (D : List (List Int)) (hD : D.length ≤ 1048576) : ∀ q : Nat, q ≤ i → ∃ m : Int, Ev (fun k => spec_inLast.l0 k l (i : Int) ((q : Int) - 1)) m ∧ m < (i : Int) ∧
    ∀ r : List (List Int), (m ≥ 0 ∧ wrap64 ((rd_T55 l (i : Int)).f1 - (rd_T55 l m).f1) < rp → Ev (fun k => impl_fastRepeats.l0 k l rp (D ++ [[m, (i : Int)]]) l (l.length : Int) ((i + 1 : Nat) : Int)) r) →
      (¬ (m ≥ 0 ∧ wrap64 ((rd_T55 l (i : Int)).f1 - (rd_T55 l m).f1) < rp) → Ev (fun k => impl_fastRepeats.l0 k l rp D l (l.length : Int) ((i + 1 : Nat) : Int)) r) →
      Ev (fun k => impl_fastRepeats.l1 k l rp D (i : Int) ((q : Int) - 1) l (l.length : Int) (i : Int) (rd_T55 l (i : Int)).f0 (rd_T55 l (i : Int)).f1 (rd_T55 l (i : Int)).f2) r := by
  have e1 := wn hi (by omega)
  intro q
  induction q with
  | zero =>
    intro _
    refine ⟨-1, Ev.step (f := fun _ => some (-1)) (fun k => ?_) (Ev.now _), by omega, fun r _ hr => Ev.step (fun k => ?_) (hr (by omega))⟩
    · simp only [spec_inLast.l0]
      rw [if_neg (by omega)]
    · simp only [impl_fastRepeats.l1, e1]
      rw [if_neg (by omega)]
  | succ q ih =>
    intro hq
    have e2 : ((q + 1 : Nat) : Int) - 1 = (q : Int) := by omega
    have e3 : wrap64 ((q : Int) - 1) = (q : Int) - 1 := by unfold wrap64; omega
    rw [e2]
    by_cases c : (rd_T55 l (q : Int)).f0 = (rd_T55 l (i : Int)).f0
    · refine ⟨(q : Int), Ev.step (f := fun _ => some (q : Int)) (fun k => ?_) (Ev.now _), by omega, fun r hr hr2 => ?_⟩
      · simp only [spec_inLast.l0]
        rw [if_pos (by omega), if_pos (by omega), if_pos (by omega), if_pos (by omega), if_pos (by omega), if_pos c]
      · by_cases cc : wrap64 ((rd_T55 l (i : Int)).f1 - (rd_T55 l (q : Int)).f1) < rp
        · refine Ev.step (fun k => ?_) (hr ⟨by omega, cc⟩)
          simp only [impl_fastRepeats.l1, e1]
          rw [if_pos (by omega), if_pos (by omega), if_pos (by omega), if_pos c, if_pos cc, if_pos (by omega)]
        · refine Ev.step (fun k => ?_) (hr2 (fun h => cc h.2))
          simp only [impl_fastRepeats.l1, e1]
          rw [if_pos (by omega), if_pos (by omega), if_pos (by omega), if_pos c, if_neg cc]
    · obtain ⟨m, g1, g2, g3⟩ := ih (by omega)
      refine ⟨m, Ev.step (fun k => ?_) g1, g2, fun r hr hr2 => Ev.step (fun k => ?_) (g3 r hr hr2)⟩
      · simp only [spec_inLast.l0, e3]
        rw [if_pos (by omega), if_pos (by omega), if_pos (by omega), if_pos (by omega), if_pos (by omega), if_neg c]
      · simp only [impl_fastRepeats.l1, e3]
        rw [if_pos (by omega), if_pos (by omega), if_pos (by omega), if_neg c]
theorem fast_ev (l : List S55) (rp : Int) (hl : l.length ≤ 1048576) : ∃ r : List (List Int), Ev (fun k => impl_fastRepeats.f k l rp) r ∧ Ev (fun k => spec_inFast.f k l rp) r := by
  unfold impl_fastRepeats.f spec_inFast.f
  refine count_up l.length (fun i (D : List (List Int)) => D.length ≤ i) (fun i D => ∃ r : List (List Int), Ev (fun k => impl_fastRepeats.l0 k l rp D l (l.length : Int) (i : Int)) r ∧ Ev (fun k => spec_inFast.l0 k l rp D l (l.length : Int) (i : Int)) r) (fun D _ => ?_) (fun i D hi hD ih => ?_) 0 [] (Nat.zero_le _) (Nat.zero_le _)
  · refine ⟨D, Ev.step (f := fun _ => some D) (fun k => ?_) (Ev.now _), Ev.step (f := fun _ => some D) (fun k => ?_) (Ev.now _)⟩
    · simp only [impl_fastRepeats.l0]
      rw [if_neg (by omega)]
    · simp only [spec_inFast.l0]
      rw [if_neg (by omega)]
  · have e1 := wn hi (by omega)
    have e2 : wrap64 ((i : Int) - 1) = (i : Int) - 1 := by unfold wrap64; omega
    obtain ⟨m, g1, g2, g3⟩ := last_ev l rp i hi hl D (by omega) i (Nat.le_refl _)
    have hf : Ev (fun k => spec_inLast.f k l (i : Int)) m := by
      unfold spec_inLast.f
      rw [e2]
      exact g1
    have him : ∀ r, Ev (fun k => impl_fastRepeats.l1 k l rp D (i : Int) ((i : Int) - 1) l (l.length : Int) (i : Int) (rd_T55 l (i : Int)).f0 (rd_T55 l (i : Int)).f1 (rd_T55 l (i : Int)).f2) r → Ev (fun k => impl_fastRepeats.l0 k l rp D l (l.length : Int) (i : Int)) r := fun r h => by
      refine Ev.step (fun k => ?_) h
      simp only [impl_fastRepeats.l0, e2]
      rw [if_pos (by omega), if_pos (by omega), if_pos (by omega)]
    have hsp : ∀ r, (if m ≥ 0 ∧ wrap64 ((rd_T55 l (i : Int)).f1 - (rd_T55 l m).f1) < rp then Ev (fun k => spec_inFast.l0 k l rp (D ++ [[m, (i : Int)]]) l (l.length : Int) ((i + 1 : Nat) : Int)) r else Ev (fun k => spec_inFast.l0 k l rp D l (l.length : Int) ((i + 1 : Nat) : Int)) r) → Ev (fun k => spec_inFast.l0 k l rp D l (l.length : Int) (i : Int)) r := fun r h => by
      refine Ev.step (f := fun k => (spec_inLast.f k l (i : Int)).bind fun t208 => (if t208 ≥ 0 then (if 0 ≤ t208 then (if t208 < (l.length : Int) then (if (wrap64 (((rd_T55 l (i : Int)).f1) - ((rd_T55 l t208).f1))) < rp then (if D.length < 5864062014805 then (spec_inFast.l0 k l rp (D ++ [(([t208, (i : Int)] : List Int))]) l (l.length : Int) ((i + 1 : Nat) : Int)) else (none)) else (spec_inFast.l0 k l rp D l (l.length : Int) ((i + 1 : Nat) : Int))) else (none)) else (none)) else (spec_inFast.l0 k l rp D l (l.length : Int) ((i + 1 : Nat) : Int)))) (fun k => ?_) (Ev.bind hf ?_)
      · simp only [spec_inFast.l0, e1]
        rw [if_pos (by omega), if_pos (by omega), if_pos (by omega)]
      · by_cases cm : m ≥ 0
        · by_cases cc : wrap64 ((rd_T55 l (i : Int)).f1 - (rd_T55 l m).f1) < rp
          · rw [if_pos ⟨cm, cc⟩] at h
            exact ev_pos cm (ev_pos cm (ev_pos (by omega) (ev_pos cc (ev_pos (by omega) h))))
          · rw [if_neg (fun q => cc q.2)] at h
            exact ev_pos cm (ev_pos cm (ev_pos (by omega) (ev_neg cc h)))
        · rw [if_neg (fun q => cm q.1)] at h
          exact ev_neg cm h
    by_cases c : m ≥ 0 ∧ wrap64 ((rd_T55 l (i : Int)).f1 - (rd_T55 l m).f1) < rp
    · obtain ⟨r, h1, h2⟩ := ih (D ++ [[m, (i : Int)]]) (by simp; omega)
      exact ⟨r, him r (g3 r (fun _ => h1) (fun h => absurd c h)), hsp r (by rw [if_pos c]; exact h2)⟩
    · obtain ⟨r, h1, h2⟩ := ih D (by omega)
      exact ⟨r, him r (g3 r (fun h => absurd h c) (fun _ => h1)), hsp r (by rw [if_neg c]; exact h2)⟩
theorem missing_ev (pi : List Int) (rp : Int) (l : List S55) (h1 : pi.length ≤ 1048576) (hl : l.length ≤ 1048576) : ∃ r : List Int, Ev (fun k => spec_inMissing.f k pi rp l) r ∧ ((r.length : Int) = 0 ↔ ∀ j : Nat, j < l.length → (rd_T55 l (j : Int)).f0 ∈ pi) := by
  unfold spec_inMissing.f
  refine ev_for_ex (fun k D i => spec_inMissing.l0 k D l (l.length : Int) i pi rp) l.length (fun i D => D.Pairwise (· < ·) ∧ D.length ≤ i ∧ (D.length = 0 ↔ ∀ j : Nat, j < i → (rd_T55 l (j : Int)).f0 ∈ pi)) (fun r => (r.length : Int) = 0 ↔ ∀ j : Nat, j < l.length → (rd_T55 l (j : Int)).f0 ∈ pi) (fun D hD => ?_) (fun i D hi hD ih => ?_) 0 [] (Nat.zero_le _) ⟨List.Pairwise.nil, Nat.zero_le _, by simp⟩
  · refine ⟨D, Ev.step (f := fun _ => some D) (fun k => ?_) (Ev.now _), by rw [← hD.2.2]; omega⟩
    simp only [spec_inMissing.l0]
    rw [if_neg (by omega)]
  · obtain ⟨d1, d2, d3⟩ := hD
    have e1 := wn hi (by omega)
    obtain ⟨t, t1, t2, t3, t4, t5, t6⟩ := index_at pi (rd_T55 l (i : Int)).f0 h1
    have hb : ∀ r, Ev (fun k => if t < 0 then ((spec_l1Put.f k D (rd_T55 l (i : Int)).f0).bind fun t201 => (spec_inMissing.l0 k t201 l (l.length : Int) ((i + 1 : Nat) : Int) pi rp)) else (spec_inMissing.l0 k D l (l.length : Int) ((i + 1 : Nat) : Int) pi rp)) r → Ev (fun k => spec_inMissing.l0 k D l (l.length : Int) (i : Int) pi rp) r := fun r h => by
      refine Ev.step (f := fun k => (spec_inTrack.f k pi rp (rd_T55 l (i : Int)).f0).bind fun t200 => (if t200 < 0 then ((spec_l1Put.f k D ((rd_T55 l (i : Int)).f0)).bind fun t201 => (spec_inMissing.l0 k t201 l (l.length : Int) ((i + 1 : Nat) : Int) pi rp)) else (spec_inMissing.l0 k D l (l.length : Int) ((i + 1 : Nat) : Int) pi rp))) (fun k => ?_) (Ev.bind (t2 rp) h)
      simp only [spec_inMissing.l0, e1]
      rw [if_pos (by omega), if_pos (by omega), if_pos (by omega)]
    have hj : ∀ j : Nat, j < i + 1 ↔ j < i ∨ j = i := fun j => by omega
    by_cases c : t < 0
    · obtain ⟨r, p1, p2, p3, p4⟩ := put_set D (rd_T55 l (i : Int)).f0 (by omega) d1
      have hne : r.length ≠ 0 := fun e => by
        have := List.eq_nil_of_length_eq_zero e
        have q := (p3 (rd_T55 l (i : Int)).f0).2 (.inl rfl)
        rw [this] at q
        cases q
      obtain ⟨z, z1, z2⟩ := ih r ⟨p2, by omega, ⟨fun e => absurd e hne, fun h => absurd (h i (Nat.lt_succ_self i)) (t6.1 c)⟩⟩
      exact ⟨z, hb z (ev_pos c (Ev.bind p1 z1)), z2⟩
    · obtain ⟨z, z1, z2⟩ := ih D ⟨d1, by omega, d3.trans ⟨fun h j q => by
        rcases (hj j).1 q with q | rfl
        · exact h j q
        · exact Decidable.of_not_not (fun e => c (t6.2 e)), fun h j q => h j (by omega)⟩⟩
      exact ⟨z, hb z (ev_neg c z1), z2⟩
theorem play_ev (pi : List Int) (rp : Int) (l : List S55) (h1 : pi.length ≤ 1048576) (hl : l.length ≤ 1048576) : ∃ b : Bool, Ev (fun k => impl_canPlay.f k pi rp l) b ∧ Ev (fun k => spec_inPlays.f k pi rp l) b := by
  obtain ⟨r, f1, f2⟩ := fast_ev l rp hl
  obtain ⟨m, m1, m2⟩ := missing_ev pi rp l h1 hl
  by_cases hA : ∀ j : Nat, j < l.length → (rd_T55 l (j : Int)).f0 ∈ pi
  · refine ⟨((r.length : Int) == 0), ?_, ?_⟩
    · unfold impl_canPlay.f
      refine all_loop_g (fun k i => impl_canPlay.l0 k l l (l.length : Int) i pi rp) l.length (fun j => (rd_T55 l (j : Int)).f0 ∈ pi) ((r.length : Int) == 0) _ (by simp only [and_iff_right hA]) (fun _ => ?_) (fun i hi _ => ?_)
      · refine Ev.step (f := fun k => (impl_fastRepeats.f k l rp).bind fun t420 => (some ((t420.length : Int) == 0))) (fun k => ?_) (Ev.bind f1 (Ev.now _))
        simp only [impl_canPlay.l0]
        rw [if_neg (by omega)]
      · have e1 := wn hi (by omega)
        refine ⟨fun _ q hq => ?_, fun h => absurd (hA i hi) h⟩
        refine Ev.step (f := fun k => (slices_Contains_int_int.f k pi ((rd_T55 l (i : Int)).f0)).bind fun t419 => (if t419 = true then (impl_canPlay.l0 k l l (l.length : Int) ((i + 1 : Nat) : Int) pi rp) else (some false))) (fun k => ?_) (Ev.bind (contains pi _ h1) (ev_pos (decide_eq_true (hA i hi)) hq))
        simp only [impl_canPlay.l0, e1]
        rw [if_pos (by omega), if_pos (by omega), if_pos (by omega)]
    · unfold spec_inPlays.f
      exact Ev.bind m1 (ev_pos (m2.2 hA) (Ev.bind f2 (Ev.now _)))
  · refine ⟨false, ?_, ?_⟩
    · unfold impl_canPlay.f
      refine all_loop_g (fun k i => impl_canPlay.l0 k l l (l.length : Int) i pi rp) l.length (fun j => (rd_T55 l (j : Int)).f0 ∈ pi) false _ (by simp) (fun h => absurd h hA) (fun i hi _ => ?_)
      have e1 := wn hi (by omega)
      have hst : ∀ q b, decide ((rd_T55 l (i : Int)).f0 ∈ pi) = b → Ev (fun k => if b = true then (impl_canPlay.l0 k l l (l.length : Int) ((i + 1 : Nat) : Int) pi rp) else (some false)) q → Ev (fun k => impl_canPlay.l0 k l l (l.length : Int) (i : Int) pi rp) q := fun q b hb h => by
        refine Ev.step (f := fun k => (slices_Contains_int_int.f k pi ((rd_T55 l (i : Int)).f0)).bind fun t419 => (if t419 = true then (impl_canPlay.l0 k l l (l.length : Int) ((i + 1 : Nat) : Int) pi rp) else (some false))) (fun k => ?_) (Ev.bind (contains pi _ h1) (by rw [hb]; exact h))
        simp only [impl_canPlay.l0, e1]
        rw [if_pos (by omega), if_pos (by omega), if_pos (by omega)]
      exact ⟨fun h q hq => hst q true (decide_eq_true h) (ev_pos rfl hq), fun h => hst false false (decide_eq_false h) (ev_neg (by simp) (Ev.now _))⟩
    · unfold spec_inPlays.f
      exact Ev.bind m1 (ev_neg (fun h => hA (m2.1 h)) (Ev.now _))

/-- The hole of a note, as both make it. -/
theorem hole_ev (pi : List Int) (rp : Int) (x : S55) (hx : okN x) (h1 : pi.length ≤ 1048576) : ∃ q : Int × Int × Int × Bool, Ev (fun k => impl_holeFor.f k pi rp x.f0 x.f1 x.f2) q ∧ Ev (fun k => spec_laHole.f k pi rp x.f0 x.f1 x.f2) q ∧
    (q.2.2.2 = true → rd pi q.1 = x.f0 ∧ q.2.1 = 2 * x.f1 ∧ 0 ≤ q.1 ∧ q.1 < 20 ∧ 0 ≤ q.2.1 ∧ q.2.1 < q.2.2.1 ∧ q.2.2.1 ≤ 2000) := by
  obtain ⟨t, t1, t2, t3, t4, t5, t6⟩ := index_at pi x.f0 h1
  obtain ⟨a1, a2, a3, a4, a5, a6⟩ := hx
  have e1 : wrap64 (x.f1 + x.f2) = x.f1 + x.f2 := by unfold wrap64; omega
  have e2 : wrap64 (2 * x.f1) = 2 * x.f1 := by unfold wrap64; omega
  have e3 : wrap64 (2 * (x.f1 + x.f2)) = 2 * (x.f1 + x.f2) := by unfold wrap64; omega
  have e4 : wrap64 (2 * (x.f1 + x.f2) - 1) = 2 * (x.f1 + x.f2) - 1 := by unfold wrap64; omega
  unfold impl_holeFor.f spec_laHole.f
  simp only [impl_noteEnd.f, isHole_eq, shHole_eq, Option.bind_some, e1, e2, e3, e4]
  by_cases c : 0 ≤ t ∧ t < 20 ∧ 0 ≤ 2 * x.f1 ∧ 2 * x.f1 < 2 * (x.f1 + x.f2) - 1 ∧ 2 * (x.f1 + x.f2) - 1 ≤ 2000
  · exact ⟨(t, 2 * x.f1, 2 * (x.f1 + x.f2) - 1, true), Ev.bind t1 (ev_neg (by omega) (ev_pos (decide_eq_true c) (Ev.now _))), Ev.bind (t2 rp) (ev_pos (decide_eq_true c) (Ev.now _)), fun _ => ⟨(t5 c.1).2, rfl, c⟩⟩
  · refine ⟨(0, 0, 0, false), Ev.bind t1 (ev_ite (fun _ => Ev.now _) (fun _ => ev_neg (by simpa using c) (Ev.now _))), Ev.bind (t2 rp) (ev_neg (by simpa using c) (Ev.now _)), fun h => absurd h (by simp)⟩
/-- The holes that were made so far: those of the notes. -/
def laidAt (pi : List Int) (l : List S55) (D : List S51) (i : Nat) : Prop := D.length = i ∧ ∀ j : Nat, j < i → rd pi (rd_T51 D (j : Int)).f0 = (rd_T55 l (j : Int)).f0 ∧ (rd_T51 D (j : Int)).f1 = 2 * (rd_T55 l (j : Int)).f1
theorem laid_nodup {pi : List Int} {l : List S55} {D : List S51} (h : laidAt pi l D l.length) (hs : isSc l) : (D.map shs.keyH).Nodup := by
  refine List.pairwise_map.2 (List.pairwise_iff_getElem.2 (fun i j hi hj hij e => ?_))
  have hD := h.1
  have g1 := h.2 i (by omega)
  have g2 := h.2 j (by omega)
  have r1 : rd_T51 D (i : Int) = D[i] := rd_get hi
  have r2 : rd_T51 D (j : Int) = D[j] := rd_get hj
  rw [r1] at g1
  rw [r2] at g2
  have e' : (D[i].f1, D[i].f0) = (D[j].f1, D[j].f0) := e
  have q1 : D[i].f1 = D[j].f1 := congrArg Prod.fst e'
  have q2 : D[i].f0 = D[j].f0 := congrArg Prod.snd e'
  have s1 := (hs.2 j (by omega)).2.2 i hij (by rw [← g1.1, ← g2.1, q2])
  have s2 := (hs.2 i (by omega)).1
  unfold okN at s2
  omega
theorem lay_ev (pi : List Int) (rp : Int) (l : List S55) (hs : isSc l) (h1 : pi.length ≤ 1048576) : ∃ r : List S51 × Bool, Ev (fun k => impl_layOut.f k pi rp l) r ∧ Ev (fun k => spec_laHoles.f k pi rp l 0) r ∧ (r.2 = true → isSh r.1) := by
  have hl : l.length ≤ 30 := hs.1
  obtain ⟨b, b1, b2⟩ := play_ev pi rp l h1 (by omega)
  unfold impl_layOut.f spec_laHoles.f
  cases b with
  | false => exact ⟨([], false), Ev.bind b1 (ev_neg (by simp) (Ev.now _)), Ev.bind b2 (ev_neg (by simp) (Ev.now _)), fun h => absurd h (by simp)⟩
  | true =>
    have key := count_up l.length (fun i D => laidAt pi l D i) (fun i D => ∃ r : List S51 × Bool, Ev (fun k => impl_layOut.l0 k D l (l.length : Int) (i : Int) pi rp) r ∧ Ev (fun k => spec_laHoles.l0 k 0 D l (l.length : Int) (i : Int) pi rp) r ∧ (r.2 = true → isSh r.1)) (fun D hD => ?_) (fun i D hi hD ih => ?_) 0 [] (Nat.zero_le _) ⟨rfl, fun j hj => absurd hj (Nat.not_lt_zero _)⟩
    · obtain ⟨r, r1, r2, r3⟩ := key
      exact ⟨r, Ev.bind b1 (ev_pos rfl r1), Ev.bind b2 (ev_pos rfl r2), r3⟩
    · have hk := laid_nodup hD hs
      have hL : (shs.sortH D).length ≤ 1048576 := by rw [shs.sortH_len, hD.1]; omega
      have g1 : Ev (fun k => impl_sheetOf.f k D) (if decide (isSh (shs.sortH D)) = true then (shs.sortH D, true) else ([], false)) := by
        unfold impl_sheetOf.f
        exact ev_neg (by rw [hD.1]; omega) (ev_pos hk (Ev.bind (impl_isSh _ hL) (Ev.now _)))
      have g2 : Ev (fun k => spec_shSorted.f k D) (if decide (isSh (shs.sortH D)) = true then (shs.sortH D, true) else ([], false)) := by
        unfold spec_shSorted.f
        rw [insAll_sortH D hk]
        exact ev_pos (by rw [hD.1]; omega) (Ev.bind (spec_isSh _ hL) (Ev.now _))
      refine ⟨_, Ev.step (f := fun k => (impl_sheetOf.f k D).bind fun bt445 => (some (bt445.1, bt445.2))) (fun k => ?_) (Ev.bind g1 (Ev.now _)), Ev.step (f := fun k => (spec_shSorted.f k D).bind fun bt241 => (some (bt241.1, bt241.2))) (fun k => ?_) (Ev.bind g2 (Ev.now _)), fun h => ?_⟩
      · simp only [impl_layOut.l0]
        rw [if_neg (by omega)]
      · simp only [spec_laHoles.l0]
        rw [if_neg (by omega)]
      · by_cases c : isSh (shs.sortH D)
        · rw [if_pos (decide_eq_true c)]
          exact c
        · rw [if_neg (by simpa using c)] at h
          cases h
    · have e1 := wn hi (by omega)
      have hx : okN (rd_T55 l (i : Int)) := (hs.2 i hi).1
      obtain ⟨q, q1, q2, q3⟩ := hole_ev pi rp (rd_T55 l (i : Int)) hx h1
      have him : ∀ r, Ev (fun k => if q.2.2.2 = true then (if D.length < 5864062014805 then (impl_layOut.l0 k (D ++ [(⟨q.1, q.2.1, q.2.2.1⟩ : S51)]) l (l.length : Int) ((i + 1 : Nat) : Int) pi rp) else none) else (some (([] : List S51), false))) r → Ev (fun k => impl_layOut.l0 k D l (l.length : Int) (i : Int) pi rp) r := fun r h => by
        refine Ev.step (f := fun k => (impl_holeFor.f k pi rp (rd_T55 l (i : Int)).f0 (rd_T55 l (i : Int)).f1 (rd_T55 l (i : Int)).f2).bind fun bt437 => (if bt437.2.2.2 = true then (if D.length < 5864062014805 then (impl_layOut.l0 k (D ++ [(⟨bt437.1, bt437.2.1, bt437.2.2.1⟩ : S51)]) l (l.length : Int) ((i + 1 : Nat) : Int) pi rp) else (none)) else (some (([] : List S51), false)))) (fun k => ?_) (Ev.bind q1 h)
        simp only [impl_layOut.l0, e1]
        rw [if_pos (by omega), if_pos (by omega), if_pos (by omega)]
      have hsp : ∀ r, Ev (fun k => if q.2.2.2 = true then (if D.length < 5864062014805 then (spec_laHoles.l0 k 0 (D ++ [(⟨q.1, wrap64 (q.2.1 + 0), wrap64 (q.2.2.1 + 0)⟩ : S51)]) l (l.length : Int) ((i + 1 : Nat) : Int) pi rp) else none) else (some (([] : List S51), false))) r → Ev (fun k => spec_laHoles.l0 k 0 D l (l.length : Int) (i : Int) pi rp) r := fun r h => by
        refine Ev.step (f := fun k => (spec_laHole.f k pi rp (rd_T55 l (i : Int)).f0 (rd_T55 l (i : Int)).f1 (rd_T55 l (i : Int)).f2).bind fun bt233 => (if bt233.2.2.2 = true then (if D.length < 5864062014805 then (spec_laHoles.l0 k 0 (D ++ [(⟨bt233.1, wrap64 (bt233.2.1 + 0), wrap64 (bt233.2.2.1 + 0)⟩ : S51)]) l (l.length : Int) ((i + 1 : Nat) : Int) pi rp) else (none)) else (some (([] : List S51), false)))) (fun k => ?_) (Ev.bind q2 h)
        simp only [spec_laHoles.l0, e1]
        rw [if_pos (by omega), if_pos (by omega), if_pos (by omega)]
      by_cases c : q.2.2.2 = true
      · obtain ⟨z1, z2, z3, z4, z5, z6, z7⟩ := q3 c
        have w1 : wrap64 (q.2.1 + 0) = q.2.1 := by unfold wrap64; omega
        have w2 : wrap64 (q.2.2.1 + 0) = q.2.2.1 := by unfold wrap64; omega
        rw [w1, w2] at hsp
        obtain ⟨r, r1, r2, r3⟩ := ih (D ++ [⟨q.1, q.2.1, q.2.2.1⟩]) ⟨by rw [List.length_append, hD.1]; rfl, fun j hj => by
          by_cases e : j < i
          · have := hD.2 j e
            have ec : rd_T51 (D ++ [(⟨q.1, q.2.1, q.2.2.1⟩ : S51)]) (j : Int) = rd_T51 D (j : Int) := by
              unfold rd_T51
              rw [Int.toNat_natCast, List.getD_eq_getElem?_getD, List.getD_eq_getElem?_getD, List.getElem?_append_left (by rw [hD.1]; exact e)]
            rw [ec]
            exact this
          · obtain rfl : j = i := by omega
            have ec : rd_T51 (D ++ [(⟨q.1, q.2.1, q.2.2.1⟩ : S51)]) (j : Int) = ⟨q.1, q.2.1, q.2.2.1⟩ := by
              unfold rd_T51
              rw [Int.toNat_natCast, List.getD_eq_getElem?_getD, ← hD.1, List.getElem?_append_right (Nat.le_refl _), Nat.sub_self]
              rfl
            rw [ec]
            exact ⟨z1, z2⟩⟩
        have hd : D.length < 5864062014805 := by rw [hD.1]; omega
        exact ⟨r, him r (ev_pos c (ev_pos hd r1)), hsp r (ev_pos c (ev_pos hd r2)), r3⟩
      · exact ⟨([], false), him _ (ev_neg c (Ev.now _)), hsp _ (ev_neg c (Ev.now _)), fun h => absurd h (by simp)⟩

theorem spec_in (pi : List Int) (rp : Int) (s : List S51) (h1 : pi.length ≤ 1048576) (h3 : s.length ≤ 1048576) : Ev (fun k => spec_laAsked.f k pi rp s) (decide (isIn pi rp ∧ isSh s)) := by
  unfold spec_laAsked.f
  refine Ev.bind (spec_isIn pi rp h1) (ev_ite (fun c1 => Ev.bind (spec_isSh s h3) (ev_now ?_)) (fun c1 => ev_now ?_))
  · exact decide_eq_decide.2 ⟨fun c3 => ⟨of_decide_eq_true c1, c3⟩, fun c => c.2⟩
  · exact (decide_eq_false (fun c => c1 (decide_eq_true c.1))).symm
theorem sh_nil : isSh ([] : List S51) := by
  refine ⟨Nat.zero_le _, fun i hi => absurd hi (Nat.not_lt_zero _)⟩
theorem rtp (pi : List Int) (rp : Int) (a : List S51) (l : List S55) (x y : Int) (h1 : pi.length ≤ 1048576) (h2 : a.length ≤ 1048576) (h3 : l.length ≤ 1048576) :
    ∃ r : Int × Bool, Ev (fun k => spec_RepairToPlay.f k pi rp a l x y) r ∧ Ev (fun k => impl_RepairToPlay.f k pi rp a l x y) r := by
  have hn : ([] : List S51).length ≤ 1048576 := Nat.zero_le _
  have sf : ∀ k, spec_RepairToPlay.j0 (k + 1) a l x y true pi rp = some (0, false) := fun k => by
    simp only [spec_RepairToPlay.j0]
    rw [if_pos trivial]
  have mf : ∀ k, impl_RepairToPlay.j0 (k + 1) a l x y true pi rp = some (0, false) := fun k => by
    simp only [impl_RepairToPlay.j0]
    rw [if_pos trivial]
  have sF : Ev (fun k => spec_RepairToPlay.j0 k a l x y true pi rp) (0, false) := Ev.step (f := fun _ => some (0, false)) (fun k => sf k) (Ev.now _)
  have mF : Ev (fun k => impl_RepairToPlay.j0 k a l x y true pi rp) (0, false) := Ev.step (f := fun _ => some (0, false)) (fun k => mf k) (Ev.now _)
  have hc := impl_can a [] h2 hn x y
  unfold spec_RepairToPlay.f impl_RepairToPlay.f
  by_cases hi : isIn pi rp
  · by_cases ha : isSh a
    · by_cases hs : isSc l
      · rw [decide_eq_true (⟨ha, sh_nil⟩ : isSh a ∧ isSh ([] : List S51)), Bool.true_and] at hc
        cases hq : (cst x && cst y) with
        | true =>
          rw [hq] at hc
          obtain ⟨r, r1, r2, r3⟩ := lay_ev pi rp l hs h1
          have key : ∃ z : Int × Bool, Ev (fun k => if r.2 = true then ((spec_rpCost.f k a r.1 x y).bind fun t328 => (some (t328, true))) else (some (0, false))) z ∧ Ev (fun k => if r.2 = true then ((impl_repairCost.f k a r.1 x y).bind fun t467 => (some (t467, true))) else (some (0, false))) z := by
            by_cases hr : r.2 = true
            · have hb := r3 hr
              obtain ⟨c, c1, c2⟩ := rcost a r.1 h2 (by have := hb.1; omega) x y ha hb hq
              exact ⟨(c, true), ev_pos hr (Ev.bind c1 (Ev.now _)), ev_pos hr (Ev.bind c2 (Ev.now _))⟩
            · exact ⟨(0, false), ev_neg hr (Ev.now _), ev_neg hr (Ev.now _)⟩
          obtain ⟨z, z1, z2⟩ := key
          refine ⟨z, Ev.bind (spec_in pi rp a h1 h2) (ev_pos (decide_eq_true ⟨hi, ha⟩) (Ev.bind (spec_isSc l h3) (ev_pos (decide_eq_true hs) (ev_call (spec_costs x y) ?_)))), Ev.bind (impl_isIn pi rp h1) (ev_pos (decide_eq_true hi) (Ev.bind (impl_isSc l h3) (ev_pos (decide_eq_true hs) (Ev.bind hc ?_))))⟩
          · rw [hq]
            refine Ev.step (f := fun k => (spec_laHoles.f k pi rp l 0).bind fun bt324 => (if bt324.2 = true then ((spec_rpCost.f k a bt324.1 x y).bind fun t328 => (some (t328, true))) else (some (0, false)))) (fun k => ?_) (Ev.bind r2 z1)
            simp only [spec_RepairToPlay.j0]
            rw [if_neg (by simp)]
          · refine Ev.step (f := fun k => (impl_layOut.f k pi rp l).bind fun bt463 => (if bt463.2 = true then ((impl_repairCost.f k a bt463.1 x y).bind fun t467 => (some (t467, true))) else (some (0, false)))) (fun k => ?_) (Ev.bind r1 z2)
            simp only [impl_RepairToPlay.j0]
            rw [if_neg (by simp)]
        | false =>
          rw [hq] at hc
          exact ⟨(0, false), Ev.bind (spec_in pi rp a h1 h2) (ev_pos (decide_eq_true ⟨hi, ha⟩) (Ev.bind (spec_isSc l h3) (ev_pos (decide_eq_true hs) (ev_call (spec_costs x y) (by rw [hq]; exact sF))))), Ev.bind (impl_isIn pi rp h1) (ev_pos (decide_eq_true hi) (Ev.bind (impl_isSc l h3) (ev_pos (decide_eq_true hs) (Ev.bind hc mF))))⟩
      · exact ⟨(0, false), Ev.bind (spec_in pi rp a h1 h2) (ev_pos (decide_eq_true ⟨hi, ha⟩) (Ev.bind (spec_isSc l h3) (ev_neg (by simpa using hs) sF))), Ev.bind (impl_isIn pi rp h1) (ev_pos (decide_eq_true hi) (Ev.bind (impl_isSc l h3) (ev_neg (by simpa using hs) mF)))⟩
    · rw [decide_eq_false (fun h : isSh a ∧ isSh ([] : List S51) => ha h.1), Bool.false_and] at hc
      refine ⟨(0, false), Ev.bind (spec_in pi rp a h1 h2) (ev_neg (by simpa using fun _ => ha) sF), Ev.bind (impl_isIn pi rp h1) (ev_pos (decide_eq_true hi) (Ev.bind (impl_isSc l h3) (ev_ite (fun _ => Ev.bind hc mF) (fun _ => mF))))⟩
  · exact ⟨(0, false), Ev.bind (spec_in pi rp a h1 h2) (ev_neg (by simpa using fun h => absurd h hi) sF), Ev.bind (impl_isIn pi rp h1) (ev_neg (by simpa using hi) mF)⟩
theorem FnExactRepairToPlay (l0_0 : List (Int)) (a0_1 : Int) (l1 : List (S53)) (l2 : List (S57)) (a3 a4 : Int) (w0_0 : (l0_0.length ≤ maxLen ∧ ∀ y1 ∈ l0_0, (Lit.int .i64 y1).wf = true)) (w0_1 : (Lit.int .i64 a0_1).wf = true) (w1 : (l1.length ≤ maxLen ∧ ∀ y1 ∈ l1, ((Lit.int .i64 y1.f0).wf = true ∧ (Lit.int .i64 y1.f1).wf = true ∧ (Lit.int .i64 y1.f2).wf = true))) (w2 : (l2.length ≤ maxLen ∧ ∀ y1 ∈ l2, ((Lit.int .i64 y1.f0).wf = true ∧ (Lit.int .i64 y1.f1).wf = true ∧ (Lit.int .i64 y1.f2).wf = true))) (w3 : (Lit.int .i64 a3).wf = true) (w4 : (Lit.int .i64 a4).wf = true) :
    ∃ k, laws_FnExactRepairToPlay.f k l0_0 a0_1 l1 l2 a3 a4 = some true := by
  have hm0 := w0_0.1
  have hm1 := w1.1
  have hm2 := w2.1
  unfold maxLen at hm0 hm1 hm2
  refine Ev.rounds (g := fun k => laws_FnExactRepairToPlay.f k l0_0 a0_1 l1 l2 a3 a4) ?_
  unfold laws_FnExactRepairToPlay.f
  refine ev_call (szInst _ _ (by omega)) (ev_ite (fun _ => Ev.now _) (fun c0 => ?_))
  have hl0 : l0_0.length ≤ 1048576 := by
    split at c0 <;> omega
  rw [if_pos hl0] at c0 ⊢
  refine ev_call (szHoleS _ _ (by omega) (by omega)) (ev_ite (fun _ => Ev.now _) (fun c1 => ?_))
  have hl1 : (l1.length : Int) ≤ 1048576 - (l0_0.length : Int) := by
    split at c1 <;> omega
  rw [if_pos hl1] at c1 ⊢
  refine ev_call (szNoteS _ _ (by omega) (by omega)) (ev_ite (fun _ => Ev.now _) (fun c2 => ?_))
  have hl2 : (l2.length : Int) ≤ 1048576 - (l0_0.length : Int) - l1.length := by
    split at c2 <;> omega
  have i0 := toInst l0_0 a0_1 hl0
  have i1 := toHoleS l1 (by omega)
  have i2 := toNoteS l2 (by omega)
  have k1 : (l1.map cvH).length ≤ 1048576 := by simp; omega
  have k2 : (l2.map cvN).length ≤ 1048576 := by simp; omega
  obtain ⟨r, g1, g2⟩ := rtp l0_0 a0_1 (l1.map cvH) (l2.map cvN) a3 a4 hl0 k1 k2
  refine Ev.bind i0 (Ev.bind i1 (Ev.bind i2 (Ev.bind g1 (Ev.bind i0 (Ev.bind i1 (Ev.bind i2 (Ev.bind g2 (ev_pos rfl ?_))))))))
  exact Ev.step (fun k => rfl) (ev_neg (by simp) (Ev.bind i0 (Ev.bind (eqInst _ _ hl0) (ev_pos rfl (Ev.bind i1 (Ev.bind (eqHoleS _ k1) (ev_pos rfl (Ev.bind i2 (Ev.bind (eqNoteS _ k2) (ev_pos rfl (Ev.now _)))))))))))
end Go.Proofs.Ythmpginbaafbhaa.PureFnExactRepairToPlay
