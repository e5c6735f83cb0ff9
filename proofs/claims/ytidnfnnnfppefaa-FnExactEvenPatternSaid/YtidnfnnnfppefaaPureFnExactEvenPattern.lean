/- The plain statement of FnExactEvenPattern: the law's function, over numbers and lists, answers true. No conditions beyond the arguments' own kinds. -/
import Derived.Test.YtidnfnnnfppefaaPFnExactEvenPatternx3
import Derived.Test.YtidnfnnnfppefaaLib
namespace Go.Proofs.Ytidnfnnnfppefaa.PureFnExactEvenPattern
open Go Go.RowKit Go.Proofs.Ytidnfnnnfppefaa.PFnExactEvenPattern Go.Proofs.YtidnfnnnfppefaaW.PrintWords Go.Proofs.YtidnfnnnfppefaaW.PrintLast Go.Proofs.YtidnfnnnfppefaaW.PrintMore Go.Proofs.Ytidnfnnnfppefaa.Lib
set_option linter.unusedVariables false
set_option linter.unusedSimpArgs false
/-- A loop that counts up to n, and what is known of its answer. -/
theorem ev_for_ex {σ ρ : Type} (L : Nat → σ → Int → Option ρ) (n : Nat) (Inv : Nat → σ → Prop) (Post : ρ → Prop) (hstop : ∀ s, Inv n s → ∃ r, Ev (fun k => L k s (n : Int)) r ∧ Post r)
    (hgo : ∀ i s, i < n → Inv i s → (∀ s', Inv (i + 1) s' → ∃ r, Ev (fun k => L k s' ((i + 1 : Nat) : Int)) r ∧ Post r) → ∃ r, Ev (fun k => L k s (i : Int)) r ∧ Post r) :
    ∀ i s, i ≤ n → Inv i s → ∃ r, Ev (fun k => L k s (i : Int)) r ∧ Post r := by
  have key : ∀ d i : Nat, n - i = d → i ≤ n → ∀ s, Inv i s → ∃ r, Ev (fun k => L k s (i : Int)) r ∧ Post r := by
    intro d
    induction d with
    | zero =>
      intro i hd hi s hs
      obtain rfl : i = n := by omega
      exact hstop s hs
    | succ d ih =>
      intro i hd hi s hs
      exact hgo i s (by omega) hs (fun s' hs' => ih (i + 1) (by omega) (by omega) s' hs')
  intro i s hi hs
  exact key (n - i) i rfl hi s hs
theorem wn {i n : Nat} (h : i < n) (hn : n ≤ 9223372036854775807) : wrap64 ((i : Int) + 1) = ((i + 1 : Nat) : Int) := by unfold wrap64; omega

theorem l1In_eq (a b c : Int) : spec_l1In.f a b c = some (decide (b ≤ a ∧ a ≤ c)) := by
  unfold spec_l1In.f
  split <;> simp <;> omega

theorem eqIntS (l : List Int) (hl : l.length ≤ 1048576) : Ev (fun k => laws_eqIntS.f k l l) true := by
  unfold laws_eqIntS.f
  refine ev_pos rfl ?_
  refine same_loop (fun k i => laws_eqIntS.l0 k l l i) l (0 : Int) (fun k x => some true) (fun k i => ?_) (fun x _ => ev_const rfl) (by omega)
  simp only [laws_eqIntS.l0, Option.bind_some, ↓reduceIte]

theorem eqPat (p : Int) (l : List Int) (hl : l.length ≤ 1048576) : Ev (fun k => laws_eqPattern.f k p l p l) true := by
  unfold laws_eqPattern.f
  exact ev_pos rfl (Ev.bind (eqIntS l hl) (ev_pos rfl (Ev.now _)))

theorem markIntS (l : List Int) (a : Int) (h0 : 0 ≤ a) (h1 : a ≤ 1099511627776) (hl : l.length ≤ 1048576) : Ev (fun k => laws_markIntS.f k l a) (a + l.length, (List.range l.length).map fun j : Nat => a + (j : Int)) := by
  unfold laws_markIntS.f
  have key : ∀ (d i : Nat) (ys : List Int), l.length - i = d → i ≤ l.length → ys.length = l.length → (∀ j, j < i → ys[j]? = some (a + (j : Int))) →
      Ev (fun k => laws_markIntS.l0 k ys (a + (i : Int)) (i : Int)) (a + l.length, (List.range l.length).map fun j : Nat => a + (j : Int)) := by
    intro d
    induction d with
    | zero =>
      intro i ys hd hi hy hp
      obtain rfl : i = l.length := by omega
      refine Ev.step (f := fun _ => some (a + (l.length : Int), ys)) (fun k => ?_) (ev_now ?_)
      · simp only [laws_markIntS.l0]
        rw [if_neg (by omega)]
      · congr 1
        refine List.ext_getElem? fun j => ?_
        by_cases hj : j < l.length
        · rw [hp j hj]; simp [hj]
        · rw [List.getElem?_eq_none (by omega), List.getElem?_eq_none (by simp; omega)]
    | succ d ih =>
      intro i ys hd hi hy hp
      have e1 : wrap64 ((i : Int) + 1) = ((i + 1 : Nat) : Int) := by unfold wrap64; omega
      have e2 : wrap64 (a + (i : Int) + 1) = a + ((i + 1 : Nat) : Int) := by unfold wrap64; omega
      refine Ev.step (f := fun k => laws_markIntS.l0 k (ys.set i (a + (i : Int))) (a + ((i + 1 : Nat) : Int)) ((i + 1 : Nat) : Int)) (fun k => ?_) (ih (i + 1) _ (by omega) (by omega) (by rw [List.length_set]; exact hy) (fun j hj => ?_))
      · simp only [laws_markIntS.l0, e1, e2, Int.toNat_natCast]
        rw [if_pos (by omega), if_pos (by omega)]
      · by_cases e : j = i
        · subst e
          rw [List.getElem?_set_self (by omega)]
        · rw [List.getElem?_set_ne (by omega)]
          exact hp j (by omega)
  have := key l.length 0 l (by omega) (by omega) rfl (fun j hj => absurd hj (by omega))
  simpa using this
theorem heldIntS (n : Nat) (a : Int) (h0 : 0 ≤ a) (h1 : a ≤ 1099511627776) (hl : n ≤ 1048576) : Ev (fun k => laws_heldIntS.f k ((List.range n).map fun j : Nat => a + (j : Int)) a) (a + n) := by
  unfold laws_heldIntS.f
  have key : ∀ (d i : Nat), n - i = d → i ≤ n → Ev (fun k => laws_heldIntS.l0 k ((List.range n).map fun j : Nat => a + (j : Int)) (a + (i : Int)) (i : Int)) (a + n) := by
    intro d
    induction d with
    | zero =>
      intro i hd hi
      obtain rfl : i = n := by omega
      refine Ev.step (f := fun _ => some (a + (i : Int))) (fun k => ?_) (ev_now rfl)
      simp only [laws_heldIntS.l0]
      rw [if_neg (by simp)]
    | succ d ih =>
      intro i hd hi
      have e1 : wrap64 ((i : Int) + 1) = ((i + 1 : Nat) : Int) := by unfold wrap64; omega
      have e2 : wrap64 (a + (i : Int) + 1) = a + ((i + 1 : Nat) : Int) := by unfold wrap64; omega
      refine Ev.step (fun k => ?_) (ih (i + 1) (by omega) (by omega))
      simp only [laws_heldIntS.l0, e1, e2]
      rw [if_pos (by simp; omega), if_pos (by omega), if_pos]
      unfold rd
      rw [rd_get (by simp; omega)]
      simp
  have := key n 0 (by omega) (by omega)
  simpa using this

theorem markPat (p : Int) (l : List Int) (hl : l.length ≤ 1048576) : Ev (fun k => laws_markPattern.f k p l 1) (1 + l.length, (List.range l.length).map fun j : Nat => 1 + (j : Int)) := by
  unfold laws_markPattern.f
  exact Ev.bind (markIntS l 1 (by omega) (by omega) hl) (Ev.now _)
theorem heldPat (p : Int) (n : Nat) (hl : n ≤ 1048576) : Ev (fun k => laws_heldPattern.f k p ((List.range n).map fun j : Nat => 1 + (j : Int)) 1) (1 + n) := by
  unfold laws_heldPattern.f
  exact Ev.bind (heldIntS n 1 (by omega) (by omega) hl) (ev_neg (by omega) (Ev.now _))

theorem even_same (b s : Int) : ∀ (k : Nat) (i p : Int) (l : List Int), impl_EvenPattern.l0 k b s b i p l = spec_EvenPattern.l0 k b s i p l := by
  intro k
  induction k with
  | zero => intro i p l; rfl
  | succ k ih =>
    intro i p l
    simp only [impl_EvenPattern.l0, spec_EvenPattern.l0, ih]
theorem spec_even (b s : Int) : ∃ r, Ev (fun k => spec_EvenPattern.f k b s) r ∧ Ev (fun k => impl_EvenPattern.f k b s) r ∧ r.2.1.length ≤ 1048576 := by
  unfold spec_EvenPattern.f impl_EvenPattern.f
  simp only [l1In_eq]
  by_cases h : 1 ≤ s ∧ s ≤ 24 ∧ 0 ≤ b ∧ b ≤ s
  · obtain ⟨n, rfl⟩ : ∃ n : Nat, b = n := ⟨b.toNat, by omega⟩
    obtain ⟨r, h1, h2⟩ := ev_for_ex (fun k (st : List Int) i => spec_EvenPattern.l0 k (n : Int) s i s st) n (fun i st => st.length ≤ i) (fun r => r.2.1.length ≤ 24)
      (fun st hst => ⟨(s, st, true), Ev.step (f := fun _ => some (s, st, true)) (fun k => by simp only [spec_EvenPattern.l0]; rw [if_neg (by omega)]) (Ev.now _), by show st.length ≤ 24; omega⟩)
      (fun i st hi hst ih => by
        have e1 := wn hi (by omega)
        obtain ⟨r, h1, h2⟩ := ih (st ++ [wrap64 (Int.tdiv (wrap64 ((i : Int) * s)) n)]) (by simp; omega)
        refine ⟨r, Ev.step (fun k => ?_) h1, h2⟩
        simp only [spec_EvenPattern.l0, e1]
        rw [if_pos (by omega), if_neg (by omega), if_pos (by omega)]) 0 [] (Nat.zero_le _) (Nat.zero_le _)
    refine ⟨r, ?_, ?_, by omega⟩
    · refine ev_call rfl (ev_pos (by simp; omega) (ev_call rfl (Ev.step (f := fun k => spec_EvenPattern.l0 k n s 0 s []) (fun k => ?_) h1)))
      simp only [spec_EvenPattern.j0]
      rw [if_neg (by simp; omega)]
    · refine ev_neg (by omega) (ev_neg (by omega) (ev_neg (by omega) (Ev.step (f := fun k => impl_EvenPattern.l0 k n s n 0 s []) (fun k => ?_) (Ev.congr (fun k => even_same _ _ k _ _ _) h1))))
      simp only [impl_EvenPattern.j0]
      rw [if_neg (by simp; omega)]
  · refine ⟨(0, [], false), ev_call rfl (ev_ite (fun hc => ev_call rfl (Ev.step (f := fun _ => some (0, [], false)) (fun k => ?_) (Ev.now _))) (fun hc => Ev.step (f := fun _ => some (0, [], false)) (fun k => rfl) (Ev.now _))), ?_, Nat.zero_le _⟩
    · have hc' := of_decide_eq_true hc
      simp only [spec_EvenPattern.j0]
      rw [if_pos (by simp; omega)]
    · refine ev_ite (fun hc => Ev.step (f := fun _ => some (0, [], false)) (fun k => rfl) (Ev.now _)) (fun hc => ev_ite (fun hc => Ev.step (f := fun _ => some (0, [], false)) (fun k => rfl) (Ev.now _)) (fun hc => ev_ite (fun hc => Ev.step (f := fun _ => some (0, [], false)) (fun k => rfl) (Ev.now _)) (fun hc => Ev.step (f := fun _ => some (0, [], false)) (fun k => ?_) (Ev.now _))))
      simp only [impl_EvenPattern.j0]
      rw [if_pos (by simp; omega)]
theorem FnExactEvenPattern (a0 : Int) (a1 : Int) (w0 : (Lit.int .i64 a0).wf = true) (w1 : (Lit.int .i64 a1).wf = true) :
    ∃ k, laws_FnExactEvenPattern.f k a0 a1 = some true := by
  refine Ev.rounds (g := fun k => laws_FnExactEvenPattern.f k a0 a1) ?_
  unfold laws_FnExactEvenPattern.f
  obtain ⟨r, h1, h2, h3⟩ := spec_even a0 a1
  refine Ev.bind h1 (Ev.bind h2 (Ev.bind (eqPat _ _ h3) (ev_pos rfl ?_)))
  refine Ev.step (fun k => rfl) (ev_neg (by simp) (Ev.bind (markPat _ _ h3) (Ev.bind (heldPat _ _ h3) (ev_neg (by omega) (ev_pos rfl (Ev.bind h2 (Ev.bind (eqPat _ _ h3) (ev_pos rfl ?_))))))))
  exact Ev.step (fun k => rfl) (ev_neg (by simp) (Ev.bind (heldPat _ _ h3) (ev_neg (by omega) (ev_pos rfl (Ev.now _)))))

end Go.Proofs.Ytidnfnnnfppefaa.PureFnExactEvenPattern
