/- The plain statement of FnPatterns: the law's function, over numbers and lists, answers true. No conditions beyond the arguments' own kinds. -/
import Derived.Test.YtlhjjpdlfddflabSFnPatterns9
import Derived.Test.YtlhjjpdlfddflabPureFnPatternsc
namespace Go.Proofs.Ytlhjjpdlfddflab.PureFnPatterns
open Go Go.RowKit Go.Proofs.Ytlhjjpdlfddflab.PFnPatterns Go.Proofs.YtlhjjpdlfddflabW.PrintWords Go.Proofs.YtlhjjpdlfddflabW.PrintLast Go.Proofs.YtlhjjpdlfddflabW.PrintMore Go.Proofs.Ytlhjjpdlfddflab.Lib
set_option linter.unusedVariables false
set_option linter.unusedSimpArgs false
theorem beats_told {p : Int} {l : List Int} (h : isP p l) (n : Nat) (hn : n ≤ 48) : beatsR p l (n : Int) = (decide (Int.tmod n p ∈ l), true) := by
  unfold beatsR
  rw [if_pos ⟨h, by omega, by omega⟩]
/-- The steps of a pattern twice over: what is counted, what beats, and that the others beat where it does not. -/
theorem steps_part {s : List Int} (hs : Bytes8 s) (p : Nat) (l : List Int) (h : isP (p : Int) l) (hl : l.length ≤ 1048576) : Ev (fun k => laws_FnPatterns.l0 k s 0 0 (p : Int) l (p : Int) (other p l)) true := by
  have hp := h.1
  have hp2 := h.2.1
  have ho : isP (p : Int) (other p l) := other_isP h
  have hol : (other p l).length ≤ 1048576 := by have := len_le ho; omega
  have e0 : wrap64 (2 * (p : Int)) = ((2 * p : Nat) : Int) := by unfold wrap64; omega
  have go := ev_for (fun k (st : Int) i => laws_FnPatterns.l0 k s st i (p : Int) l (p : Int) (other p l)) (2 * p) (fun i st => st = (beaten p l i : Int)) (fun _ _ => true) (fun st hst => ?_) (fun i st hi hst ih => ?_) 0 0 (Nat.zero_le _) (by rw [beaten_zero h]; rfl)
  · exact go
  · refine Ev.step (f := fun k => laws_FnPatterns.j4 k s) (fun k => ?_) (mid_part hs)
    simp only [laws_FnPatterns.l0, e0]
    rw [if_neg (by omega)]
  · have e1 := wn hi (by omega)
    have c1 := impl_cb (p : Int) l (i : Int) hl
    rw [cnt_told h i (by omega)] at c1
    have b1 := impl_ba (p : Int) l (i : Int) hl
    rw [beats_told h i (by omega)] at b1
    have b2 := impl_ba (p : Int) (other p l) (i : Int) hol
    rw [beats_told ho i (by omega)] at b2
    have et : Int.tmod (i : Int) (p : Int) = ((i % p : Nat) : Int) := rfl
    have hlt : i % p < p := Nat.mod_lt _ (by omega)
    have hx : decide (Int.tmod (i : Int) (p : Int) ∈ other p l) = !decide (Int.tmod (i : Int) (p : Int) ∈ l) := by
      rw [et, Bool.eq_iff_iff]
      simp only [decide_eq_true_eq, Bool.not_eq_true', decide_eq_false_iff_not]
      rw [mem_other]
      exact ⟨fun h => h.2, fun h => ⟨⟨by omega, by omega⟩, h⟩⟩
    have hs2 := beaten_step h i
    have hbl := beaten_le h i
    refine Ev.step (fun k => by simp only [laws_FnPatterns.l0, e0, e1]; rw [if_pos (show (i : Int) < ((2 * p : Nat) : Int) by omega)]) (Ev.bind c1 (Ev.bind b1 (Ev.bind b2 ?_)))
    refine ev_pos rfl (ev_pos hst.symm (ev_pos rfl (ev_pos rfl (ev_neg (by rw [hx]; cases decide (Int.tmod (i : Int) (p : Int) ∈ l) <;> simp) (ev_neg (by omega) (Ev.bind (pIn l _ hl) ?_))))))
    refine Ev.step (fun k => rfl) (ev_neg (by simp) ?_)
    by_cases c : Int.tmod (i : Int) (p : Int) ∈ l
    · refine ev_pos (decide_eq_true c) ?_
      rw [e1]
      rw [et] at c
      rw [if_pos c] at hs2
      rw [show wrap64 (st + 1) = (beaten p l (i + 1) : Int) by rw [hst, hs2]; unfold wrap64; omega]
      exact ih _ rfl
    · refine ev_neg (by simpa using c) ?_
      rw [e1]
      rw [et] at c
      rw [if_neg c] at hs2
      exact ih st (by rw [hst, hs2]; rfl)
theorem FnPatterns (l0 : List (Int)) (l1 : List (Int)) (w0 : (l0.length ≤ maxLen ∧ ∀ y1 ∈ l0, (Lit.int .u8 y1).wf = true)) (w1 : (l1.length ≤ maxLen ∧ ∀ y1 ∈ l1, (Lit.int .u8 y1).wf = true)) :
    ∃ k, laws_FnPatterns.f k l0 l1 = some true := by
  have b8 : ∀ x : Int, (Lit.int .u8 x).wf = true → 0 ≤ x ∧ x ≤ 255 := fun x h => by
    simp [Lit.wf, IntKind.min, IntKind.max, IntKind.signed, IntKind.bits] at h
    omega
  have hs0 : Bytes8 l0 := fun x hx => b8 x (w0.2 x hx)
  have hs1 : Bytes8 l1 := fun x hx => b8 x (w1.2 x hx)
  refine Ev.rounds (g := fun k => laws_FnPatterns.f k l0 l1) ?_
  unfold laws_FnPatterns.f
  obtain ⟨b, hb⟩ : ∃ b, laws_big.f l0 l1 = some b := by unfold laws_big.f; split <;> exact ⟨_, rfl⟩
  refine ev_call hb ?_
  cases b with
  | true => exact ev_pos rfl (Ev.now _)
  | false =>
    refine ev_neg (by simp) ?_
    obtain ⟨p, l, e1, hl⟩ := drawpt_ok hs0
    refine Ev.bind e1 (Ev.bind (impl_text p l hl) (Ev.bind (spec_text p l hl) ?_))
    by_cases hg : isP p l
    · have h1 := hg.1
      have h2 := hg.2.1
      obtain ⟨n, rfl⟩ : ∃ n : Nat, p = n := ⟨p.toNat, by omega⟩
      obtain ⟨o1, o2⟩ := ob_told n l hg hl
      have ho : isP (n : Int) (other n l) := other_isP hg
      have hol : (other n l).length ≤ 1048576 := by have := len_le ho; omega
      have hpt : ptR (n : Int) l = (textOf n l, true) := by unfold ptR; rw [if_pos hg]; simp
      rw [hpt]
      have hI := impl_isP (n : Int) l hl
      rw [decide_eq_true hg] at hI
      refine Ev.bind o2 (Ev.bind o1 (ev_neg (by simp) (ev_pos rfl (ev_neg (by simp) (Ev.bind (samePat _ _ hol) (ev_pos rfl (ev_neg (by simp) (Ev.bind hI ?_))))))))
      obtain ⟨r, q1, q2, q3⟩ := spec_parse (textOf n l) (by rw [text_size]; omega)
      have hr := ev_one q1 (parse_told n l hg)
      subst hr
      obtain ⟨_, oo⟩ := ob_told n (other n l) ho hol
      rw [other_other hg] at oo
      have hlen := other_len hg
      have hw : (wrap64 ((l.length : Int) + ((other n l).length : Int)) != (n : Int)) = false := by
        have : wrap64 ((l.length : Int) + ((other n l).length : Int)) = (n : Int) := by unfold wrap64; omega
        simp [this]
      refine Ev.step (fun k => rfl) (Ev.bind q2 (Ev.bind oo (ev_pos rfl (Ev.bind (samePat _ _ hl) (ev_pos rfl (ev_pos rfl (Ev.bind (samePat _ _ hl) (ev_pos rfl ?_))))))))
      rw [hw]
      exact Ev.step (f := fun k => laws_FnPatterns.l0 k l1 0 0 (n : Int) l (n : Int) (other n l)) (fun k => rfl) (steps_part hs1 n l hg hl)
    · obtain ⟨o1, o2⟩ := ob_not p l hg hl
      have hpt : ptR p l = (⟨#[]⟩, false) := by unfold ptR; rw [if_neg hg]
      rw [hpt]
      have hI := impl_isP p l hl
      rw [decide_eq_false hg] at hI
      refine Ev.bind o2 (Ev.bind o1 (ev_neg (by simp) (ev_pos rfl (ev_neg (by simp) (Ev.bind (samePat _ _ (Nat.zero_le _)) (ev_pos rfl (ev_neg (by simp) (Ev.bind hI ?_))))))))
      exact Ev.step (f := fun k => laws_FnPatterns.j4 k l1) (fun k => rfl) (mid_part hs1)
end Go.Proofs.Ytlhjjpdlfddflab.PureFnPatterns
