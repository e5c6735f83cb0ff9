/- The plain statement of FnExactCountBeats: the law's function, over numbers and lists, answers true. No conditions beyond the arguments' own kinds. -/
import Derived.Test.YtidnfnnnfppefaaPFnExactCountBeatsx3
import Derived.Test.YtidnfnnnfppefaaLib
namespace Go.Proofs.Ytidnfnnnfppefaa.PureFnExactCountBeats
open Go Go.RowKit Go.Proofs.Ytidnfnnnfppefaa.PFnExactCountBeats Go.Proofs.YtidnfnnnfppefaaW.PrintWords Go.Proofs.YtidnfnnnfppefaaW.PrintLast Go.Proofs.YtidnfnnnfppefaaW.PrintMore Go.Proofs.Ytidnfnnnfppefaa.Lib
set_option linter.unusedVariables false
set_option linter.unusedSimpArgs false
/-! ints: to, eq -/
theorem toIntS (l : List Int) (hl : l.length ≤ 1048576) : Ev (fun k => laws_toIntS.f k l) l := by
  unfold laws_toIntS.f
  refine ev_pos (by omega) (ev_pos (by omega) ?_)
  have h := map_loop (fun k ys i => laws_toIntS.l0 k l ys i) l (0 : Int) (0 : Int) (fun k x => some x) (fun b => b) (fun x => x) (fun k ys i => rfl) (fun x _ => ev_const rfl) (by omega)
  simpa using h

theorem eqIntS (l : List Int) (hl : l.length ≤ 1048576) : Ev (fun k => laws_eqIntS.f k l l) true := by
  unfold laws_eqIntS.f
  refine ev_pos rfl ?_
  refine same_loop (fun k i => laws_eqIntS.l0 k l l i) l (0 : Int) (fun k x => some true) (fun k i => ?_) (fun x _ => ev_const rfl) (by omega)
  simp only [laws_eqIntS.l0, Option.bind_some, ↓reduceIte]

theorem toPat (p : Int) (l : List Int) (hl : l.length ≤ 1048576) : Ev (fun k => laws_toPattern.f k p l) (p, l) := by
  unfold laws_toPattern.f
  exact Ev.bind (toIntS l hl) (Ev.now _)
theorem szPat (p : Int) (l : List Int) (hl : l.length ≤ 9223372036854775807) : laws_szPattern.f p l 1048576 = some (if l.length ≤ 1048576 then 1048576 - (l.length : Int) else -1) := by
  have e : wrap64 (1048576 - (l.length : Int)) = 1048576 - l.length := by unfold wrap64; omega
  simp only [laws_szPattern.f, laws_szIntS.f, e]
  repeat' split
  all_goals (simp; repeat' split)
  all_goals first | rfl | (simp; omega) | omega

theorem eqPat (p : Int) (l : List Int) (hl : l.length ≤ 1048576) : Ev (fun k => laws_eqPattern.f k p l p l) true := by
  unfold laws_eqPattern.f
  exact ev_pos rfl (Ev.bind (eqIntS l hl) (ev_pos rfl (Ev.now _)))

theorem l1In_eq (a b c : Int) : spec_l1In.f a b c = some (decide (b ≤ a ∧ a ≤ c)) := by
  unfold spec_l1In.f
  split <;> simp <;> omega

def okP (p : Int) (l : List Int) (i : Nat) : Prop := 0 ≤ rd l i ∧ rd l i < p ∧ (i > 0 → rd l ((i : Int) - 1) < rd l i)
instance (p : Int) (l : List Int) (i : Nat) : Decidable (okP p l i) := by unfold okP; infer_instance
/-- A pattern: its number of steps, and its beats. -/
def isP (p : Int) (l : List Int) : Prop := 1 ≤ p ∧ p ≤ 24 ∧ ∀ i, i < l.length → okP p l i
instance (p : Int) (l : List Int) : Decidable (isP p l) := by unfold isP; infer_instance
theorem impl_isP (p : Int) (l : List Int) (hl : l.length ≤ 1048576) : Ev (fun k => impl_IsPattern.f k p l) (decide (isP p l)) := by
  unfold impl_IsPattern.f
  by_cases h : 1 ≤ p ∧ p ≤ 24
  · refine ev_neg (by omega) (Ev.step (f := fun k => impl_IsPattern.l0 k l (l.length : Int) 0 p l) (fun k => ?_) ?_)
    · simp only [impl_IsPattern.j0]
      rw [if_neg (by simp; omega)]
    · refine all_loop (fun k i => impl_IsPattern.l0 k l (l.length : Int) i p l) l.length (okP p l) true _ (by simp [isP, h]) (fun k => ?_) (fun k i hi => ?_)
      · simp only [impl_IsPattern.l0]
        rw [if_neg (by omega)]
      · have e1 : wrap64 ((i : Int) + 1) = i + 1 := by unfold wrap64; omega
        simp only [impl_IsPattern.l0, e1]
        unfold okP
        by_cases hz : (i : Int) > 0
        · have e2 : wrap64 ((i : Int) - 1) = i - 1 := by unfold wrap64; omega
          simp only [e2]
          constructor <;> intro h <;> (repeat' split) <;> first | rfl | (exfalso; omega)
        · constructor <;> intro h <;> (repeat' split) <;> first | rfl | (exfalso; omega)
  · have e : decide (isP p l) = false := decide_eq_false (fun hp => h ⟨hp.1, hp.2.1⟩)
    rw [e]
    refine ev_ite (fun hc => Ev.step (f := fun _ => some false) (fun k => rfl) (Ev.now _)) (fun hc => Ev.step (f := fun _ => some false) (fun k => ?_) (Ev.now _))
    simp only [impl_IsPattern.j0]
    rw [if_pos (by simp; omega)]
theorem spec_isP (p : Int) (l : List Int) (hl : l.length ≤ 1048576) : Ev (fun k => spec_drGood.f k p l) (decide (isP p l)) := by
  unfold spec_drGood.f
  refine ev_call (l1In_eq _ _ _) ?_
  by_cases h : 1 ≤ p ∧ p ≤ 24
  · refine ev_pos (by simp; omega) (Ev.bind (f := fun k t => some t) ?_ (Ev.now _))
    unfold spec_l1Rising.f
    have e3 : wrap64 (p - 1) = p - 1 := by unfold wrap64; omega
    rw [e3]
    refine all_loop (fun k i => spec_l1Rising.l0 k l 0 (p - 1) l (l.length : Int) i) l.length (okP p l) true _ (by simp [isP, h]) (fun k => ?_) (fun k i hi => ?_)
    · simp only [spec_l1Rising.l0]
      rw [if_neg (by omega)]
    · have e1 : wrap64 ((i : Int) + 1) = i + 1 := by unfold wrap64; omega
      simp only [spec_l1Rising.l0, l1In_eq, Option.bind_some, decide_eq_true_eq, e1]
      unfold okP
      by_cases hz : (i : Int) > 0
      · have e2 : wrap64 ((i : Int) - 1) = i - 1 := by unfold wrap64; omega
        simp only [e2]
        constructor <;> intro h <;> (repeat' split) <;> first | rfl | (exfalso; omega)
      · constructor <;> intro h <;> (repeat' split) <;> first | rfl | (exfalso; omega)
  · have e : decide (isP p l) = false := decide_eq_false (fun hp => h ⟨hp.1, hp.2.1⟩)
    rw [e]
    exact ev_neg (by simp; omega) (Ev.now _)

/-- A loop that counts up to n, and what is known of its answer. -/
theorem ev_for_ex {σ ρ : Type} (L : Nat → σ → Int → Option ρ) (n : Nat) (Inv : Nat → σ → Prop) (Post : ρ → Prop) (hstop : ∀ s, Inv n s → ∃ r, Ev (fun k => L k s (n : Int)) r ∧ Post r)
    (hgo : ∀ i s, i < n → Inv i s → (∀ s', Inv (i + 1) s' → ∃ r, Ev (fun k => L k s' ((i + 1 : Nat) : Int)) r ∧ Post r) → ∃ r, Ev (fun k => L k s (i : Int)) r ∧ Post r) :
    ∀ i s, i ≤ n → Inv i s → ∃ r, Ev (fun k => L k s (i : Int)) r ∧ Post r := by
  have key : ∀ d i : Nat, n - i = d → i ≤ n → ∀ s, Inv i s → ∃ r, Ev (fun k => L k s (i : Int)) r ∧ Post r := by
    intro d
    induction d with
    | zero =>
      intro i hd hi s hs
      obtain rfl : i = n := by omega
      exact hstop s hs
    | succ d ih =>
      intro i hd hi s hs
      exact hgo i s (by omega) hs (fun s' hs' => ih (i + 1) (by omega) (by omega) s' hs')
  intro i s hi hs
  exact key (n - i) i rfl hi s hs
theorem wn {i n : Nat} (h : i < n) (hn : n ≤ 9223372036854775807) : wrap64 ((i : Int) + 1) = ((i + 1 : Nat) : Int) := by unfold wrap64; omega

/-- How many of the beats lie below a bound, counted as the machine does. -/
def cntR (p : Int) (l : List Int) (n : Int) : Int × Bool :=
  if isP p l ∧ 0 ≤ n ∧ n ≤ 1000000000 then (l.foldl (fun s x => if x < Int.tmod n p then wrap64 (s + 1) else s) (wrap64 (wrap64 (Int.tdiv n p) * (l.length : Int))), true) else (0, false)
theorem impl_cb (p : Int) (l : List Int) (s : Int) (hl : l.length ≤ 1048576) : Ev (fun k => impl_CountBeats.f k p l s) (cntR p l s) := by
  unfold impl_CountBeats.f cntR
  refine Ev.bind (impl_isP p l hl) ?_
  by_cases hg : isP p l
  · refine ev_pos (decide_eq_true hg) ?_
    by_cases c : 0 ≤ s ∧ s ≤ 1000000000
    · rw [if_pos ⟨hg, c⟩]
      have h1 := hg.1
      refine ev_neg (by omega) (Ev.step (f := fun k => impl_CountBeats.l0 k s (wrap64 ((wrap64 (Int.tdiv s p)) * (l.length : Int))) l (l.length : Int) 0 p l) (fun k => ?_) ?_)
      · simp only [impl_CountBeats.j0]
        rw [if_neg (by simp; omega), if_neg (by omega)]
      · refine fold_loop (fun k a i => impl_CountBeats.l0 k s a l (l.length : Int) i p l) l (fun a x => if x < Int.tmod s p then wrap64 (a + 1) else a) (fun a => (a, true)) (fun k a => ?_) (fun k a i hi => ?_) _
        · simp only [impl_CountBeats.l0]
          rw [if_neg (by omega)]
        · have e1 : wrap64 ((i : Int) + 1) = i + 1 := by unfold wrap64; omega
          have er : rd l (i : Int) = l[i] := by unfold rd; rw [rd_get hi]
          simp only [impl_CountBeats.l0, e1, er]
          rw [if_pos (by omega), if_pos (by omega), if_pos (by omega), if_neg (by omega)]
          split <;> rfl
    · rw [if_neg (fun hh => c hh.2)]
      refine ev_ite (fun _ => Ev.step (f := fun _ => some (0, false)) (fun k => rfl) (Ev.now _)) (fun h1 => Ev.step (f := fun _ => some (0, false)) (fun k => ?_) (Ev.now _))
      simp only [impl_CountBeats.j0]
      rw [if_pos (by simp; omega)]
  · rw [if_neg (fun hh => hg hh.1)]
    exact ev_neg (by simpa using hg) (Ev.step (f := fun _ => some (0, false)) (fun k => rfl) (Ev.now _))

theorem spec_cb (p : Int) (l : List Int) (s : Int) (hl : l.length ≤ 1048576) : Ev (fun k => spec_CountBeats.f k p l s) (cntR p l s) := by
  unfold spec_CountBeats.f spec_drStep.f cntR
  refine Ev.bind (spec_isP p l hl) ?_
  by_cases hg : isP p l
  · refine ev_pos (decide_eq_true hg) (ev_call (a := decide (0 ≤ s ∧ s ≤ 1000000000)) (by rw [l1In_eq]; rfl) ?_)
    by_cases c : 0 ≤ s ∧ s ≤ 1000000000
    · rw [if_pos ⟨hg, c⟩]
      have h1 := hg.1
      refine (Ev.step (f := fun k => spec_CountBeats.l0 k s (wrap64 ((wrap64 (Int.tdiv s p)) * (l.length : Int))) l (l.length : Int) 0 p l) (fun k => ?_) ?_)
      · simp only [spec_CountBeats.j0]
        rw [if_neg (by simp; omega), if_neg (by omega)]
      · refine fold_loop (fun k a i => spec_CountBeats.l0 k s a l (l.length : Int) i p l) l (fun a x => if x < Int.tmod s p then wrap64 (a + 1) else a) (fun a => (a, true)) (fun k a => ?_) (fun k a i hi => ?_) _
        · simp only [spec_CountBeats.l0]
          rw [if_neg (by omega)]
        · have e1 : wrap64 ((i : Int) + 1) = i + 1 := by unfold wrap64; omega
          have er : rd l (i : Int) = l[i] := by unfold rd; rw [rd_get hi]
          simp only [spec_CountBeats.l0, e1, er]
          rw [if_pos (by omega), if_pos (by omega), if_pos (by omega), if_neg (by omega)]
          split <;> rfl
    · rw [if_neg (fun hh => c hh.2)]
      refine Ev.step (f := fun _ => some (0, false)) (fun k => ?_) (Ev.now _)
      simp only [spec_CountBeats.j0]
      rw [if_pos (by simp; omega)]
  · rw [if_neg (fun hh => hg hh.1)]
    exact ev_neg (by simpa using hg) (Ev.step (f := fun _ => some (0, false)) (fun k => rfl) (Ev.now _))
theorem FnExactCountBeats (a0_0 : Int) (l0_1 : List (Int)) (a1 : Int) (w0_0 : (Lit.int .i64 a0_0).wf = true) (w0_1 : (l0_1.length ≤ maxLen ∧ ∀ y1 ∈ l0_1, (Lit.int .i64 y1).wf = true)) (w1 : (Lit.int .i64 a1).wf = true) :
    ∃ k, laws_FnExactCountBeats.f k a0_0 l0_1 a1 = some true := by
  obtain ⟨hm, _⟩ := w0_1
  unfold maxLen at hm
  refine Ev.rounds (g := fun k => laws_FnExactCountBeats.f k a0_0 l0_1 a1) ?_
  unfold laws_FnExactCountBeats.f
  refine ev_call (szPat _ _ (by omega)) ?_
  by_cases hl : l0_1.length ≤ 1048576
  · rw [if_pos hl]
    refine ev_neg (by omega) ?_
    have h1 := toPat a0_0 l0_1 hl
    refine Ev.bind h1 (Ev.bind (spec_cb _ _ a1 hl) (Ev.bind h1 (Ev.bind (impl_cb _ _ a1 hl) (ev_pos rfl (Ev.step (fun k => rfl) (ev_neg (by simp) (Ev.bind h1 (Ev.bind (eqPat a0_0 l0_1 hl) (ev_pos rfl (Ev.now _))))))))))
  · rw [if_neg hl]
    exact ev_pos (by omega) (Ev.now _)

end Go.Proofs.Ytidnfnnnfppefaa.PureFnExactCountBeats
