/- The plain statement of FnPatterns (lemmas): the law's function, over numbers and lists, answers true. No conditions beyond the arguments' own kinds. -/
import Derived.Test.YtlhjjpdlfddflabSFnPatterns9
import Derived.Test.YtlhjjpdlfddflabPureFnPatternsb
namespace Go.Proofs.Ytlhjjpdlfddflab.PureFnPatterns
open Go Go.RowKit Go.Proofs.Ytlhjjpdlfddflab.PFnPatterns Go.Proofs.YtlhjjpdlfddflabW.PrintWords Go.Proofs.YtlhjjpdlfddflabW.PrintLast Go.Proofs.YtlhjjpdlfddflabW.PrintMore Go.Proofs.Ytlhjjpdlfddflab.Lib
set_option linter.unusedVariables false
set_option linter.unusedSimpArgs false
theorem even_not (b s : Int) (h : ¬ (1 ≤ s ∧ s ≤ 24 ∧ 0 ≤ b ∧ b ≤ s)) : Ev (fun k => impl_EvenPattern.f k b s) (0, [], false) := by
  unfold impl_EvenPattern.f
  refine ev_ite (fun hc => Ev.step (f := fun _ => some (0, [], false)) (fun k => rfl) (Ev.now _)) (fun hc => ev_ite (fun hc => Ev.step (f := fun _ => some (0, [], false)) (fun k => rfl) (Ev.now _)) (fun hc => ev_ite (fun hc => Ev.step (f := fun _ => some (0, [], false)) (fun k => rfl) (Ev.now _)) (fun hc => Ev.step (f := fun _ => some (0, [], false)) (fun k => ?_) (Ev.now _))))
  simp only [impl_EvenPattern.j0]
  rw [if_pos (by simp; omega)]
/-- The last part: a drawn text is read alike. -/
theorem last_part {s : List Int} (hs : Bytes8 s) : Ev (fun k => laws_FnPatterns.j8 k s) true := by
  obtain ⟨t, e1, ht⟩ := drawtext_ok hs
  obtain ⟨r, h1, h2, h3⟩ := spec_parse t ht
  exact Ev.step (fun k => rfl) (Ev.bind e1 (Ev.bind h2 (Ev.bind h1 (ev_pos (by simp) (Ev.bind (samePat _ _ h3) (Ev.now _))))))
theorem way_cases {q1 q2 q3 : Nat} (h1 : q1 ≤ 1000) (h3 : q3 ≤ 24) (hw : q1 = q2 + q3 ∨ q1 = q2 + q3 + 1) {α : Type} (a b : α) : (if wrap64 ((q1 : Int) - (q2 : Int)) = wrap64 (q3 : Int) then a else (if wrap64 ((q1 : Int) - (q2 : Int)) = wrap64 (wrap64 (q3 : Int) + 1) then a else b)) = a := by
  have e1 : wrap64 ((q1 : Int) - (q2 : Int)) = (q1 : Int) - q2 := by unfold wrap64; omega
  have e3 : wrap64 (q3 : Int) = q3 := by unfold wrap64; omega
  have e4 : wrap64 ((q3 : Int) + 1) = (q3 : Int) + 1 := by unfold wrap64; omega
  rw [e1, e3, e4]
  rcases hw with hw | hw
  · rw [if_pos (by omega)]
  · rw [if_neg (by omega), if_pos (by omega)]
theorem even_loop {s : List Int} (hs : Bytes8 s) (b m : Nat) (h1 : 1 ≤ m) (h2 : m ≤ 24) (hb : b ≤ m) (p : Int) : Ev (fun k => laws_FnPatterns.l1 k s (b : Int) (m : Int) 1 p (evenL b m)) true := by
  have hl := evenL_length b m
  by_cases h0 : b = 0
  · subst h0
    refine Ev.step (f := fun k => laws_FnPatterns.j8 k s) (fun k => ?_) (last_part hs)
    simp only [laws_FnPatterns.l1]
    rw [if_neg (by rw [hl]; omega)]
  · have go := ev_for (fun k (_ : Unit) i => laws_FnPatterns.l1 k s (b : Int) (m : Int) i p (evenL b m)) b (fun i _ => 1 ≤ i) (fun _ _ => true) (fun st _ => ?_) (fun i st hi hst ih => ?_) 1 () (by omega) (by show 1 ≤ 1; omega)
    · exact go
    · refine Ev.step (f := fun k => laws_FnPatterns.j8 k s) (fun k => ?_) (last_part hs)
      simp only [laws_FnPatterns.l1]
      rw [if_neg (by rw [hl]; omega)]
    · have e1 := wn hi (by omega)
      have hst : 1 ≤ i := hst
      have e2 : wrap64 ((i : Int) - 1) = ((i - 1 : Nat) : Int) := by unfold wrap64; omega
      have g1 := evenL_get (b := b) (s := m) (i := i) hi
      have g2 := evenL_get (b := b) (s := m) (i := i - 1) (by omega)
      have hw := even_way (b := b) (s := m) (by omega) (i - 1)
      rw [show i - 1 + 1 = i by omega] at hw
      have hd : Int.tdiv (m : Int) (b : Int) = ((m / b : Nat) : Int) := rfl
      have hq1 : i * m / b ≤ 1000 := Nat.le_trans (Nat.div_le_self _ _) (Nat.le_trans (Nat.mul_le_mul (show i ≤ 24 by omega) h2) (by decide))
      have hq3 : m / b ≤ 24 := Nat.le_trans (Nat.div_le_self _ _) h2
      have hlen : (i : Int) < ((evenL b m).length : Int) := by rw [hl]; omega
      have hlen2 : ((i - 1 : Nat) : Int) < ((evenL b m).length : Int) := by rw [hl]; omega
      have hp0 : (0 : Int) ≤ (i : Int) := by omega
      have hp1 : (0 : Int) ≤ ((i - 1 : Nat) : Int) := by omega
      have hb0 : ¬ (b : Int) = 0 := by omega
      refine Ev.step (fun k => ?_) (ih () (by show 1 ≤ i + 1; omega))
      simp only [laws_FnPatterns.l1, e1, e2, g1, g2, hd, if_pos hlen, if_pos hlen2, if_pos hp0, if_pos hp1, if_neg hb0]
      exact way_cases hq1 hq3 hw _ _
/-- The middle part: counts, beats and even patterns are alike; an even one has as many beats as asked, as evenly as can be. -/
theorem mid_part {s : List Int} (hs : Bytes8 s) : Ev (fun k => laws_FnPatterns.j4 k s) true := by
  obtain ⟨p, l, n, e1, hl⟩ := drawcb_ok hs
  obtain ⟨⟨b, m⟩, e2⟩ := draweven_ok hs
  obtain ⟨r, h1, h2, h3⟩ := spec_even b m
  refine Ev.step (fun k => rfl) (Ev.bind e1 (Ev.bind (impl_cb p l n hl) (Ev.bind (spec_cb p l n hl) (Ev.bind (impl_ba p l n hl) (Ev.bind (spec_ba p l n hl) (ev_call e2 (Ev.bind h2 (Ev.bind h1 ?_))))))))
  refine ev_neg (by simp) (ev_pos rfl (ev_neg (by simp) (ev_neg (by simp) (ev_neg (show ¬ (r.2.2 != r.2.2) = true by simp) (Ev.bind (samePat _ _ h3) ?_)))))
  by_cases h : 1 ≤ m ∧ m ≤ 24 ∧ 0 ≤ b ∧ b ≤ m
  · obtain ⟨b', rfl⟩ : ∃ b' : Nat, b = b' := ⟨b.toNat, by omega⟩
    obtain ⟨m', rfl⟩ : ∃ m' : Nat, m = m' := ⟨m.toNat, by omega⟩
    have hr := ev_one h1 (even_told b' m' (by omega) (by omega) (by omega))
    subst hr
    have hP : isP (m' : Int) (evenL b' m') := even_isP (by omega) (by omega) (by omega)
    have hI := impl_isP (m' : Int) (evenL b' m') h3
    rw [decide_eq_true hP] at hI
    refine Ev.step (fun k => rfl) (ev_pos (show ((evenL b' m').length : Int) = (b' : Int) by rw [evenL_length]) (Ev.bind hI ?_))
    exact Ev.step (f := fun k => laws_FnPatterns.l1 k s (b' : Int) (m' : Int) 1 (m' : Int) (evenL b' m')) (fun k => rfl) (even_loop hs b' m' (by omega) (by omega) (by omega) _)
  · have hr := ev_one h2 (even_not b m h)
    subst hr
    exact Ev.step (f := fun k => laws_FnPatterns.j8 k s) (fun k => rfl) (last_part hs)
theorem cnt_told {p : Nat} {l : List Int} (h : isP (p : Int) l) (n : Nat) (hn : n ≤ 48) : cntR (p : Int) l (n : Int) = ((beaten p l n : Int), true) := by
  have hp := h.1
  have hl := len_le h
  have hp2 := h.2.1
  unfold cntR
  rw [if_pos ⟨h, by omega, by omega⟩]
  have e1 : Int.tdiv (n : Int) (p : Int) = ((n / p : Nat) : Int) := rfl
  have e2 : Int.tmod (n : Int) (p : Int) = ((n % p : Nat) : Int) := rfl
  rw [e1, e2]
  have hq : n / p ≤ n := Nat.div_le_self _ _
  have hm : n / p * l.length ≤ 48 * 24 := Nat.mul_le_mul (by omega) (by omega)
  have e3 : wrap64 ((n / p : Nat) : Int) = ((n / p : Nat) : Int) := by generalize n / p = q at hq ⊢; unfold wrap64; omega
  have e4 : wrap64 (((n / p : Nat) : Int) * (l.length : Int)) = ((n / p * l.length : Nat) : Int) := by
    rw [show ((n / p : Nat) : Int) * (l.length : Int) = ((n / p * l.length : Nat) : Int) by simp]
    generalize n / p * l.length = q at hm ⊢
    unfold wrap64; omega
  rw [e3, e4]
  unfold beaten
  generalize n / p * l.length = q at hm ⊢
  generalize n % p = x
  have key : ∀ (l : List Int) (a : Nat), a + l.length ≤ 100000 → l.foldl (fun s y => if y < (x : Int) then wrap64 (s + 1) else s) (a : Int) = ((a + l.countP (fun y => decide (y < (x : Int))) : Nat) : Int) := by
    intro l
    induction l with
    | nil => intro a _; rfl
    | cons y l ih =>
      intro a ha
      rw [List.length_cons] at ha
      rw [List.foldl_cons, List.countP_cons]
      by_cases c : y < (x : Int)
      · rw [if_pos c, show wrap64 ((a : Int) + 1) = ((a + 1 : Nat) : Int) by unfold wrap64; omega, ih (a + 1) (by omega), if_pos (by simpa using c)]
        congr 1
        omega
      · rw [if_neg c, ih a (by omega), if_neg (by simpa using c)]
        rfl
  rw [key l q (by omega)]
end Go.Proofs.Ytlhjjpdlfddflab.PureFnPatterns
