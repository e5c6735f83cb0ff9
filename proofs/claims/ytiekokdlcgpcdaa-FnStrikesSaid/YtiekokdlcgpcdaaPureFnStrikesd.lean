/- The plain statement of FnStrikes (lemmas): the law's function, over numbers and lists, answers true. No conditions beyond the arguments' own kinds. -/
import Derived.Test.YtiekokdlcgpcdaaSFnStrikes13
import Derived.Test.YtiekokdlcgpcdaaPureFnStrikesc
namespace Go.Proofs.Ytiekokdlcgpcdaa.PureFnStrikes
open Go Go.RowKit Go.Proofs.Ytiekokdlcgpcdaa.PFnStrikes Go.Proofs.YtiekokdlcgpcdaaW.PrintWords Go.Proofs.YtiekokdlcgpcdaaW.PrintLast Go.Proofs.YtiekokdlcgpcdaaW.PrintMore Go.Proofs.Ytiekokdlcgpcdaa.Lib
set_option linter.unusedVariables false
set_option linter.unusedSimpArgs false
theorem l1Most_eq (a b : Int) : spec_l1Most.f a b = some (mx a b) := by
  unfold spec_l1Most.f mx
  repeat' split
  all_goals first | rfl | (congr 1; omega)
theorem tn_same (l : List S45) (rest : Int) : ∀ k, (∀ out xs n i, impl_TeethNeeded.l0 k l rest out xs n i = spec_TeethNeeded.l0 k l rest out xs n i) ∧
    (∀ out c xs n i ys m j p s, impl_TeethNeeded.l1 k l rest out c xs n i ys m j p s = spec_TeethNeeded.l1 k l rest out c xs n i ys m j p s) := by
  intro k
  induction k with
  | zero => exact ⟨fun _ _ _ _ => rfl, fun _ _ _ _ _ _ _ _ _ _ => rfl⟩
  | succ k ih =>
    refine ⟨fun _ _ _ _ => ?_, fun _ _ _ _ _ _ _ _ _ _ => ?_⟩
    · simp only [impl_TeethNeeded.l0, spec_TeethNeeded.l0, ih.2]
    · simp only [impl_TeethNeeded.l1, spec_TeethNeeded.l1, ih.1, ih.2, l1Most_eq, Option.bind_some]
def nearTo (P S : Nat → Int) (rest : Int) (i j : Nat) : Nat := ((List.range j).filter fun j => decide (P j = P i ∧ S i - S j < rest)).length
theorem nearTo_succ (P S : Nat → Int) (rest : Int) (i j : Nat) : nearTo P S rest i (j + 1) = nearTo P S rest i j + (if P j = P i ∧ S i - S j < rest then 1 else 0) := by
  unfold nearTo
  rw [List.range_succ, List.filter_append, List.length_append]
  congr 1
  show List.length (match decide (P j = P i ∧ S i - S j < rest) with | true => j :: [] | false => []) = _
  by_cases c : P j = P i ∧ S i - S j < rest
  · rw [decide_eq_true c, if_pos c]
    rfl
  · rw [decide_eq_false c, if_neg c]
    rfl
theorem nearTo_le (P S : Nat → Int) (rest : Int) (i j : Nat) : nearTo P S rest i j ≤ j := by
  unfold nearTo
  have := List.length_filter_le (fun j => decide (P j = P i ∧ S i - S j < rest)) (List.range j)
  rwa [List.length_range] at this
def Needs (s : List S45) (rest : Int) (i : Nat) (out : List Int) : Prop :=
  out.length = 73 ∧ ∀ k : Nat, k < 73 → (∀ i', i' < i → pS s i' = 24 + (k : Int) → ((near (pS s) (sS s) rest i').length : Int) ≤ rd out (k : Int)) ∧ (rd out (k : Int) = 0 ∨ ∃ i', i' < i ∧ pS s i' = 24 + (k : Int) ∧ rd out (k : Int) = ((near (pS s) (sS s) rest i').length : Int))
theorem needs_set {s : List S45} {rest : Int} {i : Nat} {out : List Int} (h : Needs s rest i out) (hp : 24 ≤ pS s i ∧ pS s i ≤ 96) : Needs s rest (i + 1) (out.set (pS s i - 24).toNat (mx (rd out (pS s i - 24)) ((near (pS s) (sS s) rest i).length : Int))) := by
  obtain ⟨q, hq⟩ : ∃ q : Nat, pS s i - 24 = (q : Int) := ⟨(pS s i - 24).toNat, by omega⟩
  have hq73 : q < 73 := by omega
  rw [hq, Int.toNat_natCast]
  refine ⟨by rw [List.length_set]; exact h.1, fun k hk => ?_⟩
  have hkl : k < (out.set q (mx (rd out (q : Int)) ((near (pS s) (sS s) rest i).length : Int))).length := by rw [List.length_set, h.1]; exact hk
  have r1 : rd (out.set q (mx (rd out (q : Int)) ((near (pS s) (sS s) rest i).length : Int))) (k : Int) = (out.set q (mx (rd out (q : Int)) ((near (pS s) (sS s) rest i).length : Int)))[k] := rd_get hkl
  rw [r1, List.getElem_set]
  by_cases e : q = k
  · subst e
    rw [if_pos rfl]
    have hm : mx (rd out (q : Int)) ((near (pS s) (sS s) rest i).length : Int) = rd out (q : Int) ∧ ((near (pS s) (sS s) rest i).length : Int) ≤ rd out (q : Int) ∨ mx (rd out (q : Int)) ((near (pS s) (sS s) rest i).length : Int) = ((near (pS s) (sS s) rest i).length : Int) ∧ rd out (q : Int) ≤ ((near (pS s) (sS s) rest i).length : Int) := by
      unfold mx
      split <;> omega
    obtain ⟨h1, h2⟩ := h.2 q hk
    refine ⟨fun i' hi' hp' => ?_, ?_⟩
    · by_cases c : i' = i
      · subst c
        rcases hm with ⟨e1, e2⟩ | ⟨e1, e2⟩ <;> rw [e1] <;> omega
      · have := h1 i' (by omega) hp'
        rcases hm with ⟨e1, e2⟩ | ⟨e1, e2⟩ <;> rw [e1] <;> omega
    · rcases hm with ⟨e1, e2⟩ | ⟨e1, e2⟩
      · rw [e1]
        rcases h2 with h2 | ⟨i', a, b, c⟩
        · exact .inl h2
        · exact .inr ⟨i', by omega, b, c⟩
      · exact .inr ⟨i, by omega, by omega, e1⟩
  · rw [if_neg e]
    have r2 : rd out (k : Int) = out[k]'(by rw [h.1]; exact hk) := rd_get (by rw [h.1]; exact hk)
    rw [← r2]
    obtain ⟨h1, h2⟩ := h.2 k hk
    refine ⟨fun i' hi' hp' => ?_, ?_⟩
    · by_cases c : i' = i
      · subst c; omega
      · exact h1 i' (by omega) hp'
    · rcases h2 with h2 | ⟨i', a, b, c⟩
      · exact .inl h2
      · exact .inr ⟨i', by omega, b, c⟩
theorem tn_total3 (l : List S45) (rest : Int) (hg : areS l) : ∃ r, Ev (fun k => spec_TeethNeeded.l0 k l rest (List.replicate 73 0) l (l.length : Int) 0) r ∧ r.2 = true ∧ Needs l rest l.length r.1 := by
  have h40 := hg.2
  refine ev_for_ex (fun k (out : List Int) i => spec_TeethNeeded.l0 k l rest out l (l.length : Int) i) l.length (fun i out => Needs l rest i out) (fun r => r.2 = true ∧ Needs l rest l.length r.1) (fun out ho => ?_) (fun i out hi ho ih => ?_) 0 (List.replicate 73 0) (Nat.zero_le _) ⟨by simp, fun k hk => ⟨fun i' h => absurd h (Nat.not_lt_zero _), .inl ?_⟩⟩
  · refine ⟨(out, true), Ev.step (f := fun _ => some (out, true)) (fun k => ?_) (Ev.now _), rfl, ho⟩
    simp only [spec_TeethNeeded.l0]
    rw [if_neg (by omega)]
  · have e1 := wn hi (by omega)
    have hol := ho.1
    have hb := hg.1 i hi
    have hp : 24 ≤ pS l i ∧ pS l i ≤ 96 := ⟨hb.1, hb.2.1⟩
    have htl : (l.take (i + 1)).length = i + 1 := by rw [List.length_take]; omega
    have e2 : wrap64 (pS l i - 24) = pS l i - 24 := by unfold wrap64; omega
    have hrd : ∀ j : Nat, j < i + 1 → rd_T45 (l.take (i + 1)) (j : Int) = rd_T45 l (j : Int) := fun j hj => by
      unfold rd_T45
      rw [Int.toNat_natCast, List.getD_eq_getElem?_getD, List.getD_eq_getElem?_getD, List.getElem?_take_of_lt hj]
    obtain ⟨r, h1, h2⟩ := ev_for_ex (fun k (c : Int) j => spec_TeethNeeded.l1 k l rest out c l (l.length : Int) (i : Int) (l.take (i + 1)) ((l.take (i + 1)).length : Int) j (pS l i) (sS l i)) (l.take (i + 1)).length (fun j c => c = (nearTo (pS l) (sS l) rest i j : Int)) (fun r => r.2 = true ∧ Needs l rest l.length r.1)
      (fun c hc => by
        rw [htl] at hc
        subst hc
        obtain ⟨r, h1, h2⟩ := ih _ (needs_set ho hp)
        refine ⟨r, Ev.step (fun k => ?_) h1, h2⟩
        simp only [spec_TeethNeeded.l1, l1Most_eq, Option.bind_some, e1, e2]
        rw [if_neg (by omega), if_pos (by omega), if_pos (by omega)]
        rfl)
      (fun j c hj hc ihj => by
        subst hc
        have e3 := wn hj (by omega)
        have hji : j < i + 1 := by omega
        have hle := nearTo_le (pS l) (sS l) rest i j
        have es := nearTo_succ (pS l) (sS l) rest i j
        have b1 := (hg.1 j (by omega)).2.2
        have b2 := hb.2.2
        have w : wrap64 (sS l i - sS l j) = sS l i - sS l j := by
          have a1 : 0 ≤ sS l j := b1.1
          have a2 : sS l j ≤ 2000 := b1.2.1
          have a3 : 0 ≤ sS l i := b2.1
          have a4 : sS l i ≤ 2000 := b2.2.1
          unfold wrap64; omega
        by_cases c1 : pS l j = pS l i
        · by_cases c2 : sS l i - sS l j < rest
          · rw [if_pos ⟨c1, c2⟩] at es
            obtain ⟨r, h1, h2⟩ := ihj (((nearTo (pS l) (sS l) rest i j + 1 : Nat)) : Int) (by rw [es])
            have e4 : wrap64 ((nearTo (pS l) (sS l) rest i j : Int) + 1) = ((nearTo (pS l) (sS l) rest i j + 1 : Nat) : Int) := by unfold wrap64; omega
            refine ⟨r, Ev.step (fun k => ?_) h1, h2⟩
            simp only [spec_TeethNeeded.l1, e3, hrd j hji, e4]
            rw [if_pos (by omega), if_pos (by omega), if_pos (by omega), if_pos (show (rd_T45 l (j : Int)).f0 = pS l i from c1)]
            rw [if_pos (show wrap64 (sS l i - (rd_T45 l (j : Int)).f1) < rest from by rw [show (rd_T45 l (j : Int)).f1 = sS l j from rfl, w]; exact c2)]
          · replace es := es.trans (show _ = nearTo (pS l) (sS l) rest i j by rw [if_neg (fun h => c2 h.2)] <;> exact Nat.add_zero _)
            obtain ⟨r, h1, h2⟩ := ihj _ (by rw [es])
            refine ⟨r, Ev.step (fun k => ?_) h1, h2⟩
            simp only [spec_TeethNeeded.l1, e3, hrd j hji]
            rw [if_pos (by omega), if_pos (by omega), if_pos (by omega), if_pos (show (rd_T45 l (j : Int)).f0 = pS l i from c1)]
            rw [if_neg (show ¬ wrap64 (sS l i - (rd_T45 l (j : Int)).f1) < rest from by rw [show (rd_T45 l (j : Int)).f1 = sS l j from rfl, w]; exact c2)]
        · replace es := es.trans (show _ = nearTo (pS l) (sS l) rest i j by rw [if_neg (fun h => c1 h.1)] <;> exact Nat.add_zero _)
          obtain ⟨r, h1, h2⟩ := ihj _ (by rw [es])
          refine ⟨r, Ev.step (fun k => ?_) h1, h2⟩
          simp only [spec_TeethNeeded.l1, e3, hrd j hji]
          rw [if_pos (by omega), if_pos (by omega), if_pos (by omega), if_neg (show ¬ (rd_T45 l (j : Int)).f0 = pS l i from c1)]) 0 0 (Nat.zero_le _) rfl
    refine ⟨r, Ev.step (fun k => ?_) h1, h2⟩
    simp only [spec_TeethNeeded.l0, e1, Option.bind_some, Int.toNat_natCast]
    rw [if_pos (by omega), if_pos (by omega), if_pos (by omega), if_pos (by omega), if_pos (by omega)]
    rfl
  · have r1 : rd (List.replicate 73 (0 : Int)) (k : Int) = (List.replicate 73 (0 : Int))[k]'(by simpa using hk) := rd_get (by simpa using hk)
    rw [r1, List.getElem_replicate]
theorem impl_isRest_eq (rest : Int) : impl_isRest.f rest = some (decide (1 ≤ rest ∧ rest ≤ 200)) := by
  unfold impl_isRest.f
  split <;> simp <;> omega
theorem tn3 (l : List S45) (rest : Int) (hl : l.length ≤ 1048576) : ∃ r, Ev (fun k => spec_TeethNeeded.f k l rest) r ∧ Ev (fun k => impl_TeethNeeded.f k l rest) r ∧ r.1.length ≤ 1048576 ∧ (r.2 = true → areS l ∧ (1 ≤ rest ∧ rest ≤ 200) ∧ Needs l rest l.length r.1) ∧ (areS l ∧ 1 ≤ rest ∧ rest ≤ 200 → r.2 = true) := by
  unfold spec_TeethNeeded.f impl_TeethNeeded.f
  simp only [l1In_eq, impl_isRest_eq, Option.bind_some]
  by_cases hg : areS l ∧ 1 ≤ rest ∧ rest ≤ 200
  · obtain ⟨r, h1, h2, h3⟩ := tn_total3 l rest hg.1
    refine ⟨r, Ev.bind (spec_areS l hl) (ev_pos (decide_eq_true hg.1) (Ev.step (f := fun k => spec_TeethNeeded.l0 k l rest (List.replicate 73 0) l (l.length : Int) 0) (fun k => ?_) h1)),
      Ev.bind (impl_areS l hl) (ev_pos (decide_eq_true hg.1) (Ev.step (f := fun k => impl_TeethNeeded.l0 k l rest (List.replicate 73 0) l (l.length : Int) 0) (fun k => ?_) (Ev.congr (fun k => (tn_same l rest k).1 _ _ _ _) h1))), by have := h3.1; omega, fun _ => ⟨hg.1, hg.2, h3⟩, fun _ => h2⟩
    · simp only [spec_TeethNeeded.j0]
      rw [if_neg (by simp; omega), if_pos (by omega)]
    · simp only [impl_TeethNeeded.j0]
      rw [if_neg (by simp; omega), if_pos (by omega)]
  · refine ⟨([], false), Ev.bind (spec_areS l hl) (ev_ite (fun h => Ev.step (f := fun _ => some ([], false)) (fun k => ?_) (Ev.now _)) (fun h => Ev.step (f := fun _ => some ([], false)) (fun k => rfl) (Ev.now _))),
      Ev.bind (impl_areS l hl) (ev_ite (fun h => Ev.step (f := fun _ => some ([], false)) (fun k => ?_) (Ev.now _)) (fun h => Ev.step (f := fun _ => some ([], false)) (fun k => rfl) (Ev.now _))), Nat.zero_le _, (fun h => by cases h), fun h => absurd h hg⟩
    · have h' := of_decide_eq_true h
      have : ¬ (1 ≤ rest ∧ rest ≤ 200) := fun hh => hg ⟨h', hh⟩
      simp only [spec_TeethNeeded.j0]
      rw [if_pos (by simp; omega)]
    · have h' := of_decide_eq_true h
      have : ¬ (1 ≤ rest ∧ rest ≤ 200) := fun hh => hg ⟨h', hh⟩
      simp only [impl_TeethNeeded.j0]
      rw [if_pos (by simp; omega)]
end Go.Proofs.Ytiekokdlcgpcdaa.PureFnStrikes
