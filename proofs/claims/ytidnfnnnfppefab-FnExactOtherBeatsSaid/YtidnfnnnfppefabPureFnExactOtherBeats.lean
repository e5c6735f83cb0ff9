/- The plain statement of FnExactOtherBeats: the law's function, over numbers and lists, answers true. No conditions beyond the arguments' own kinds. -/
import Derived.Test.YtidnfnnnfppefabPFnExactOtherBeatsx4
import Derived.Test.YtidnfnnnfppefabLib
namespace Go.Proofs.Ytidnfnnnfppefab.PureFnExactOtherBeats
open Go Go.RowKit Go.Proofs.Ytidnfnnnfppefab.PFnExactOtherBeats Go.Proofs.YtidnfnnnfppefabW.PrintWords Go.Proofs.YtidnfnnnfppefabW.PrintLast Go.Proofs.YtidnfnnnfppefabW.PrintMore Go.Proofs.Ytidnfnnnfppefab.Lib
set_option linter.unusedVariables false
set_option linter.unusedSimpArgs false
/-- A loop that counts up to n, and what is known of its answer. -/
theorem ev_for_ex {σ ρ : Type} (L : Nat → σ → Int → Option ρ) (n : Nat) (Inv : Nat → σ → Prop) (Post : ρ → Prop) (hstop : ∀ s, Inv n s → ∃ r, Ev (fun k => L k s (n : Int)) r ∧ Post r)
    (hgo : ∀ i s, i < n → Inv i s → (∀ s', Inv (i + 1) s' → ∃ r, Ev (fun k => L k s' ((i + 1 : Nat) : Int)) r ∧ Post r) → ∃ r, Ev (fun k => L k s (i : Int)) r ∧ Post r) :
    ∀ i s, i ≤ n → Inv i s → ∃ r, Ev (fun k => L k s (i : Int)) r ∧ Post r := by
  have key : ∀ d i : Nat, n - i = d → i ≤ n → ∀ s, Inv i s → ∃ r, Ev (fun k => L k s (i : Int)) r ∧ Post r := by
    intro d
    induction d with
    | zero =>
      intro i hd hi s hs
      obtain rfl : i = n := by omega
      exact hstop s hs
    | succ d ih =>
      intro i hd hi s hs
      exact hgo i s (by omega) hs (fun s' hs' => ih (i + 1) (by omega) (by omega) s' hs')
  intro i s hi hs
  exact key (n - i) i rfl hi s hs
theorem wn {i n : Nat} (h : i < n) (hn : n ≤ 9223372036854775807) : wrap64 ((i : Int) + 1) = ((i + 1 : Nat) : Int) := by unfold wrap64; omega
/-- Whatever holds at the end of a count, and at i if it holds at i + 1, holds from everywhere. -/
theorem count_up {σ : Type} (n : Nat) (Inv Q : Nat → σ → Prop) (hstop : ∀ s, Inv n s → Q n s) (hgo : ∀ i s, i < n → Inv i s → (∀ s', Inv (i + 1) s' → Q (i + 1) s') → Q i s) : ∀ i s, i ≤ n → Inv i s → Q i s := by
  have key : ∀ d i : Nat, n - i = d → i ≤ n → ∀ s, Inv i s → Q i s := by
    intro d
    induction d with
    | zero =>
      intro i hd hi s hs
      obtain rfl : i = n := by omega
      exact hstop s hs
    | succ d ih =>
      intro i hd hi s hs
      exact hgo i s (by omega) hs (fun s' hs' => ih (i + 1) (by omega) (by omega) s' hs')
  intro i s hi hs
  exact key (n - i) i rfl hi s hs

/-! ints: to, eq -/
theorem toIntS (l : List Int) (hl : l.length ≤ 1048576) : Ev (fun k => laws_toIntS.f k l) l := by
  unfold laws_toIntS.f
  refine ev_pos (by omega) (ev_pos (by omega) ?_)
  have h := map_loop (fun k ys i => laws_toIntS.l0 k l ys i) l (0 : Int) (0 : Int) (fun k x => some x) (fun b => b) (fun x => x) (fun k ys i => rfl) (fun x _ => ev_const rfl) (by omega)
  simpa using h

theorem eqIntS (l : List Int) (hl : l.length ≤ 1048576) : Ev (fun k => laws_eqIntS.f k l l) true := by
  unfold laws_eqIntS.f
  refine ev_pos rfl ?_
  refine same_loop (fun k i => laws_eqIntS.l0 k l l i) l (0 : Int) (fun k x => some true) (fun k i => ?_) (fun x _ => ev_const rfl) (by omega)
  simp only [laws_eqIntS.l0, Option.bind_some, ↓reduceIte]

theorem toPat (p : Int) (l : List Int) (hl : l.length ≤ 1048576) : Ev (fun k => laws_toPattern.f k p l) (p, l) := by
  unfold laws_toPattern.f
  exact Ev.bind (toIntS l hl) (Ev.now _)
theorem szPat (p : Int) (l : List Int) (hl : l.length ≤ 9223372036854775807) : laws_szPattern.f p l 1048576 = some (if l.length ≤ 1048576 then 1048576 - (l.length : Int) else -1) := by
  have e : wrap64 (1048576 - (l.length : Int)) = 1048576 - l.length := by unfold wrap64; omega
  simp only [laws_szPattern.f, laws_szIntS.f, e]
  repeat' split
  all_goals (simp; repeat' split)
  all_goals first | rfl | (simp; omega) | omega

theorem eqPat (p : Int) (l : List Int) (hl : l.length ≤ 1048576) : Ev (fun k => laws_eqPattern.f k p l p l) true := by
  unfold laws_eqPattern.f
  exact ev_pos rfl (Ev.bind (eqIntS l hl) (ev_pos rfl (Ev.now _)))

theorem l1In_eq (a b c : Int) : spec_l1In.f a b c = some (decide (b ≤ a ∧ a ≤ c)) := by
  unfold spec_l1In.f
  split <;> simp <;> omega

def okP (p : Int) (l : List Int) (i : Nat) : Prop := 0 ≤ rd l i ∧ rd l i < p ∧ (i > 0 → rd l ((i : Int) - 1) < rd l i)
instance (p : Int) (l : List Int) (i : Nat) : Decidable (okP p l i) := by unfold okP; infer_instance
/-- A pattern: its number of steps, and its beats. -/
def isP (p : Int) (l : List Int) : Prop := 1 ≤ p ∧ p ≤ 24 ∧ ∀ i, i < l.length → okP p l i
instance (p : Int) (l : List Int) : Decidable (isP p l) := by unfold isP; infer_instance
theorem impl_isP (p : Int) (l : List Int) (hl : l.length ≤ 1048576) : Ev (fun k => impl_IsPattern.f k p l) (decide (isP p l)) := by
  unfold impl_IsPattern.f
  by_cases h : 1 ≤ p ∧ p ≤ 24
  · refine ev_neg (by omega) (Ev.step (f := fun k => impl_IsPattern.l0 k l (l.length : Int) 0 p l) (fun k => ?_) ?_)
    · simp only [impl_IsPattern.j0]
      rw [if_neg (by simp; omega)]
    · refine all_loop (fun k i => impl_IsPattern.l0 k l (l.length : Int) i p l) l.length (okP p l) true _ (by simp [isP, h]) (fun k => ?_) (fun k i hi => ?_)
      · simp only [impl_IsPattern.l0]
        rw [if_neg (by omega)]
      · have e1 : wrap64 ((i : Int) + 1) = i + 1 := by unfold wrap64; omega
        simp only [impl_IsPattern.l0, e1]
        unfold okP
        by_cases hz : (i : Int) > 0
        · have e2 : wrap64 ((i : Int) - 1) = i - 1 := by unfold wrap64; omega
          simp only [e2]
          constructor <;> intro h <;> (repeat' split) <;> first | rfl | (exfalso; omega)
        · constructor <;> intro h <;> (repeat' split) <;> first | rfl | (exfalso; omega)
  · have e : decide (isP p l) = false := decide_eq_false (fun hp => h ⟨hp.1, hp.2.1⟩)
    rw [e]
    refine ev_ite (fun hc => Ev.step (f := fun _ => some false) (fun k => rfl) (Ev.now _)) (fun hc => Ev.step (f := fun _ => some false) (fun k => ?_) (Ev.now _))
    simp only [impl_IsPattern.j0]
    rw [if_pos (by simp; omega)]
theorem spec_isP (p : Int) (l : List Int) (hl : l.length ≤ 1048576) : Ev (fun k => spec_drGood.f k p l) (decide (isP p l)) := by
  unfold spec_drGood.f
  refine ev_call (l1In_eq _ _ _) ?_
  by_cases h : 1 ≤ p ∧ p ≤ 24
  · refine ev_pos (by simp; omega) (Ev.bind (f := fun k t => some t) ?_ (Ev.now _))
    unfold spec_l1Rising.f
    have e3 : wrap64 (p - 1) = p - 1 := by unfold wrap64; omega
    rw [e3]
    refine all_loop (fun k i => spec_l1Rising.l0 k l 0 (p - 1) l (l.length : Int) i) l.length (okP p l) true _ (by simp [isP, h]) (fun k => ?_) (fun k i hi => ?_)
    · simp only [spec_l1Rising.l0]
      rw [if_neg (by omega)]
    · have e1 : wrap64 ((i : Int) + 1) = i + 1 := by unfold wrap64; omega
      simp only [spec_l1Rising.l0, l1In_eq, Option.bind_some, decide_eq_true_eq, e1]
      unfold okP
      by_cases hz : (i : Int) > 0
      · have e2 : wrap64 ((i : Int) - 1) = i - 1 := by unfold wrap64; omega
        simp only [e2]
        constructor <;> intro h <;> (repeat' split) <;> first | rfl | (exfalso; omega)
      · constructor <;> intro h <;> (repeat' split) <;> first | rfl | (exfalso; omega)
  · have e : decide (isP p l) = false := decide_eq_false (fun hp => h ⟨hp.1, hp.2.1⟩)
    rw [e]
    exact ev_neg (by simp; omega) (Ev.now _)

theorem spec_has (l : List Int) (x : Int) (hl : l.length ≤ 1048576) : Ev (fun k => spec_l1Has.f k l x) (decide (x ∈ l)) := by
  unfold spec_l1Has.f
  have h := ev_for (fun k (_ : Unit) i => spec_l1Has.l0 k x l (l.length : Int) i) l.length (fun _ _ => True) (fun i _ => decide (x ∈ l.drop i)) (fun s _ => ?_) (fun i s hi _ ih => ?_) 0 () (Nat.zero_le _) trivial
  · simpa using h
  · rw [List.drop_length]
    refine Ev.step (f := fun _ => some false) (fun k => ?_) (ev_now (by simp))
    simp only [spec_l1Has.l0]
    rw [if_neg (by omega)]
  · have e1 := wn hi (by omega)
    have er : rd l (i : Int) = l[i] := by unfold rd; rw [rd_get hi]
    rw [List.drop_eq_getElem_cons hi]
    by_cases c : l[i] = x
    · refine Ev.step (f := fun _ => some true) (fun k => ?_) (ev_now (by simp [c]))
      simp only [spec_l1Has.l0, er]
      rw [if_pos (by omega), if_pos (by omega), if_pos (by omega), if_pos c]
    · have e : decide (x ∈ l[i] :: l.drop (i + 1)) = decide (x ∈ l.drop (i + 1)) := decide_eq_decide.2 (by rw [List.mem_cons]; exact ⟨fun h => h.resolve_left (fun e => c e.symm), .inr⟩)
      rw [e]
      refine Ev.step (fun k => ?_) (ih () trivial)
      simp only [spec_l1Has.l0, er, e1]
      rw [if_pos (by omega), if_pos (by omega), if_pos (by omega), if_neg c]

theorem contains (l : List Int) (x : Int) (hl : l.length ≤ 1048576) : Ev (fun k => slices_Contains_int_int.f k l x) (decide (x ∈ l)) := by
  have key : ∀ (d i : Nat), l.length - i = d → i ≤ l.length → ∃ r : Int, Ev (fun k => slices_Index_int_int.l0 k l x (l.length : Int) (i : Int)) r ∧ (r ≥ 0 ↔ x ∈ l.drop i) := by
    intro d
    induction d with
    | zero =>
      intro i hd hi
      obtain rfl : i = l.length := by omega
      refine ⟨-1, Ev.step (f := fun _ => some (-1)) (fun k => ?_) (Ev.now _), by simp⟩
      simp only [slices_Index_int_int.l0]
      rw [if_neg (by omega)]
    | succ d ih =>
      intro i hd hi
      have hlt : i < l.length := by omega
      have e1 := wn hlt (by omega)
      have er : rd l (i : Int) = l[i] := by unfold rd; rw [rd_get hlt]
      rw [List.drop_eq_getElem_cons hlt, List.mem_cons]
      by_cases c : x = l[i]
      · refine ⟨(i : Int), Ev.step (f := fun _ => some (i : Int)) (fun k => ?_) (Ev.now _), ⟨fun _ => .inl c, fun _ => by omega⟩⟩
        simp only [slices_Index_int_int.l0, er]
        rw [if_pos (by omega), if_pos (by omega), if_pos (by omega), if_pos c]
      · obtain ⟨r, h1, h2⟩ := ih (i + 1) (by omega) (by omega)
        refine ⟨r, Ev.step (fun k => ?_) h1, by rw [h2]; exact ⟨.inr, fun h => h.resolve_left c⟩⟩
        simp only [slices_Index_int_int.l0, er, e1]
        rw [if_pos (by omega), if_pos (by omega), if_pos (by omega), if_neg c]
  obtain ⟨r, h1, h2⟩ := key l.length 0 rfl (by omega)
  rw [List.drop_zero] at h2
  unfold slices_Contains_int_int.f
  exact Ev.bind (g := fun k => slices_Index_int_int.f k l x) h1 (ev_now (decide_eq_decide.2 h2))

theorem markIntS (l : List Int) (a : Int) (h0 : 0 ≤ a) (h1 : a ≤ 1099511627776) (hl : l.length ≤ 1048576) : Ev (fun k => laws_markIntS.f k l a) (a + l.length, (List.range l.length).map fun j : Nat => a + (j : Int)) := by
  unfold laws_markIntS.f
  have key : ∀ (d i : Nat) (ys : List Int), l.length - i = d → i ≤ l.length → ys.length = l.length → (∀ j, j < i → ys[j]? = some (a + (j : Int))) →
      Ev (fun k => laws_markIntS.l0 k ys (a + (i : Int)) (i : Int)) (a + l.length, (List.range l.length).map fun j : Nat => a + (j : Int)) := by
    intro d
    induction d with
    | zero =>
      intro i ys hd hi hy hp
      obtain rfl : i = l.length := by omega
      refine Ev.step (f := fun _ => some (a + (l.length : Int), ys)) (fun k => ?_) (ev_now ?_)
      · simp only [laws_markIntS.l0]
        rw [if_neg (by omega)]
      · congr 1
        refine List.ext_getElem? fun j => ?_
        by_cases hj : j < l.length
        · rw [hp j hj]; simp [hj]
        · rw [List.getElem?_eq_none (by omega), List.getElem?_eq_none (by simp; omega)]
    | succ d ih =>
      intro i ys hd hi hy hp
      have e1 : wrap64 ((i : Int) + 1) = ((i + 1 : Nat) : Int) := by unfold wrap64; omega
      have e2 : wrap64 (a + (i : Int) + 1) = a + ((i + 1 : Nat) : Int) := by unfold wrap64; omega
      refine Ev.step (f := fun k => laws_markIntS.l0 k (ys.set i (a + (i : Int))) (a + ((i + 1 : Nat) : Int)) ((i + 1 : Nat) : Int)) (fun k => ?_) (ih (i + 1) _ (by omega) (by omega) (by rw [List.length_set]; exact hy) (fun j hj => ?_))
      · simp only [laws_markIntS.l0, e1, e2, Int.toNat_natCast]
        rw [if_pos (by omega), if_pos (by omega)]
      · by_cases e : j = i
        · subst e
          rw [List.getElem?_set_self (by omega)]
        · rw [List.getElem?_set_ne (by omega)]
          exact hp j (by omega)
  have := key l.length 0 l (by omega) (by omega) rfl (fun j hj => absurd hj (by omega))
  simpa using this
theorem heldIntS (n : Nat) (a : Int) (h0 : 0 ≤ a) (h1 : a ≤ 1099511627776) (hl : n ≤ 1048576) : Ev (fun k => laws_heldIntS.f k ((List.range n).map fun j : Nat => a + (j : Int)) a) (a + n) := by
  unfold laws_heldIntS.f
  have key : ∀ (d i : Nat), n - i = d → i ≤ n → Ev (fun k => laws_heldIntS.l0 k ((List.range n).map fun j : Nat => a + (j : Int)) (a + (i : Int)) (i : Int)) (a + n) := by
    intro d
    induction d with
    | zero =>
      intro i hd hi
      obtain rfl : i = n := by omega
      refine Ev.step (f := fun _ => some (a + (i : Int))) (fun k => ?_) (ev_now rfl)
      simp only [laws_heldIntS.l0]
      rw [if_neg (by simp)]
    | succ d ih =>
      intro i hd hi
      have e1 : wrap64 ((i : Int) + 1) = ((i + 1 : Nat) : Int) := by unfold wrap64; omega
      have e2 : wrap64 (a + (i : Int) + 1) = a + ((i + 1 : Nat) : Int) := by unfold wrap64; omega
      refine Ev.step (fun k => ?_) (ih (i + 1) (by omega) (by omega))
      simp only [laws_heldIntS.l0, e1, e2]
      rw [if_pos (by simp; omega), if_pos (by omega), if_pos]
      unfold rd
      rw [rd_get (by simp; omega)]
      simp
  have := key n 0 (by omega) (by omega)
  simpa using this

theorem markPat (p : Int) (l : List Int) (hl : l.length ≤ 1048576) : Ev (fun k => laws_markPattern.f k p l 1) (1 + l.length, (List.range l.length).map fun j : Nat => 1 + (j : Int)) := by
  unfold laws_markPattern.f
  exact Ev.bind (markIntS l 1 (by omega) (by omega) hl) (Ev.now _)
theorem heldPat (p : Int) (n : Nat) (hl : n ≤ 1048576) : Ev (fun k => laws_heldPattern.f k p ((List.range n).map fun j : Nat => 1 + (j : Int)) 1) (1 + n) := by
  unfold laws_heldPattern.f
  exact Ev.bind (heldIntS n 1 (by omega) (by omega) hl) (ev_neg (by omega) (Ev.now _))

theorem ob_loops (p : Nat) (l : List Int) (hp : 1 ≤ p ∧ p ≤ 24) (hl : l.length ≤ 1048576) : ∃ r : Int × List Int × Bool, Ev (fun k => spec_OtherBeats.l0 k 0 (p : Int) l (p : Int) []) r ∧ Ev (fun k => impl_OtherBeats.l0 k (p : Int) 0 (p : Int) l (p : Int) []) r ∧ r.2.1.length ≤ 1048576 := by
  refine count_up p (fun i (st : List Int) => st.length ≤ i) (fun i st => ∃ r : Int × List Int × Bool, Ev (fun k => spec_OtherBeats.l0 k (i : Int) (p : Int) l (p : Int) st) r ∧ Ev (fun k => impl_OtherBeats.l0 k (p : Int) (i : Int) (p : Int) l (p : Int) st) r ∧ r.2.1.length ≤ 1048576) (fun st hst => ?_) (fun i st hi hst ih => ?_) 0 [] (Nat.zero_le _) (Nat.zero_le _)
  · refine ⟨((p : Int), st, true), Ev.step (f := fun _ => some ((p : Int), st, true)) (fun k => ?_) (Ev.now _), Ev.step (f := fun _ => some ((p : Int), st, true)) (fun k => ?_) (Ev.now _), by show st.length ≤ 1048576; omega⟩
    · simp only [spec_OtherBeats.l0]
      rw [if_neg (by omega)]
    · simp only [impl_OtherBeats.l0]
      rw [if_neg (by omega)]
  · have e1 := wn hi (by omega)
    have hb : Ev (fun k => impl_beatsAt.f k (p : Int) l (i : Int)) (decide ((i : Int) ∈ l)) := by
      unfold impl_beatsAt.f
      have et : Int.tmod (i : Int) (p : Int) = i := Int.tmod_eq_of_lt (by omega) (by omega)
      rw [et]
      exact ev_neg (by omega) (Ev.bind (contains l _ hl) (Ev.now _))
    have hs : ∀ r, Ev (fun k => if decide ((i : Int) ∈ l) = true then spec_OtherBeats.l0 k ((i + 1 : Nat) : Int) (p : Int) l (p : Int) st else spec_OtherBeats.l0 k ((i + 1 : Nat) : Int) (p : Int) l (p : Int) (st ++ [(i : Int)])) r → Ev (fun k => spec_OtherBeats.l0 k (i : Int) (p : Int) l (p : Int) st) r := by
      intro r h
      refine Ev.step (f := fun k => (spec_l1Has.f k l (i : Int)).bind fun t => if t = true then spec_OtherBeats.l0 k ((i + 1 : Nat) : Int) (p : Int) l (p : Int) st else spec_OtherBeats.l0 k ((i + 1 : Nat) : Int) (p : Int) l (p : Int) (st ++ [(i : Int)])) (fun k => ?_) (Ev.bind (spec_has l _ hl) h)
      simp only [spec_OtherBeats.l0, e1]
      rw [if_pos (by omega)]
      congr 1
      funext t
      rw [if_pos (show st.length < 17592186044416 by omega)]
    have hi2 : ∀ r, Ev (fun k => if decide ((i : Int) ∈ l) = true then impl_OtherBeats.l0 k (p : Int) ((i + 1 : Nat) : Int) (p : Int) l (p : Int) st else impl_OtherBeats.l0 k (p : Int) ((i + 1 : Nat) : Int) (p : Int) l (p : Int) (st ++ [(i : Int)])) r → Ev (fun k => impl_OtherBeats.l0 k (p : Int) (i : Int) (p : Int) l (p : Int) st) r := by
      intro r h
      refine Ev.step (f := fun k => (impl_beatsAt.f k (p : Int) l (i : Int)).bind fun t => if t = true then impl_OtherBeats.l0 k (p : Int) ((i + 1 : Nat) : Int) (p : Int) l (p : Int) st else impl_OtherBeats.l0 k (p : Int) ((i + 1 : Nat) : Int) (p : Int) l (p : Int) (st ++ [(i : Int)])) (fun k => ?_) (Ev.bind hb h)
      simp only [impl_OtherBeats.l0, e1]
      rw [if_pos (by omega)]
      congr 1
      funext t
      rw [if_pos (show st.length < 17592186044416 by omega)]
    by_cases c : (i : Int) ∈ l
    · obtain ⟨r, h1, h2, h3⟩ := ih st (by omega)
      exact ⟨r, hs r (ev_pos (decide_eq_true c) h1), hi2 r (ev_pos (decide_eq_true c) h2), h3⟩
    · obtain ⟨r, h1, h2, h3⟩ := ih (st ++ [(i : Int)]) (by simp; omega)
      exact ⟨r, hs r (ev_neg (by simpa using c) h1), hi2 r (ev_neg (by simpa using c) h2), h3⟩
theorem ob (p : Int) (l : List Int) (hl : l.length ≤ 1048576) : ∃ r : Int × List Int × Bool, Ev (fun k => spec_OtherBeats.f k p l) r ∧ Ev (fun k => impl_OtherBeats.f k p l) r ∧ r.2.1.length ≤ 1048576 := by
  unfold spec_OtherBeats.f impl_OtherBeats.f
  by_cases hg : isP p l
  · have h1 := hg.1
    have h2 := hg.2.1
    obtain ⟨n, rfl⟩ : ∃ n : Nat, p = n := ⟨p.toNat, by omega⟩
    obtain ⟨r, g1, g2, g3⟩ := ob_loops n l ⟨by omega, by omega⟩ hl
    exact ⟨r, Ev.bind (spec_isP _ l hl) (ev_pos (decide_eq_true hg) g1), Ev.bind (impl_isP _ l hl) (ev_pos (decide_eq_true hg) g2), g3⟩
  · exact ⟨(0, [], false), Ev.bind (spec_isP _ l hl) (ev_neg (by simpa using hg) (Ev.now _)), Ev.bind (impl_isP _ l hl) (ev_neg (by simpa using hg) (Ev.now _)), Nat.zero_le _⟩
theorem FnExactOtherBeats (a0_0 : Int) (l0_1 : List (Int)) (w0_0 : (Lit.int .i64 a0_0).wf = true) (w0_1 : (l0_1.length ≤ maxLen ∧ ∀ y1 ∈ l0_1, (Lit.int .i64 y1).wf = true)) :
    ∃ k, laws_FnExactOtherBeats.f k a0_0 l0_1 = some true := by
  obtain ⟨hm, _⟩ := w0_1
  unfold maxLen at hm
  refine Ev.rounds (g := fun k => laws_FnExactOtherBeats.f k a0_0 l0_1) ?_
  unfold laws_FnExactOtherBeats.f
  refine ev_call (szPat _ _ (by omega)) ?_
  by_cases hl : l0_1.length ≤ 1048576
  · rw [if_pos hl]
    refine ev_neg (by omega) ?_
    have h1 := toPat a0_0 l0_1 hl
    obtain ⟨r, g1, g2, g3⟩ := ob a0_0 l0_1 hl
    refine Ev.bind h1 (Ev.bind g1 (Ev.bind h1 (Ev.bind g2 (Ev.bind (eqPat _ _ g3) (ev_pos rfl (Ev.step (fun k => rfl) (ev_neg (by simp) (Ev.bind h1 (Ev.bind (eqPat _ _ hl) (ev_pos rfl (Ev.bind (markPat _ _ hl) (ev_neg (by omega) (Ev.bind (eqPat _ _ g3) (ev_pos rfl ?_))))))))))))))
    refine Ev.step (fun k => rfl) (ev_neg (by simp) (Ev.bind (markPat _ _ g3) (Ev.bind (heldPat _ _ g3) (ev_neg (by omega) (ev_pos rfl (Ev.bind h1 (Ev.bind g2 (Ev.bind (eqPat _ _ g3) (ev_pos rfl ?_)))))))))
    exact Ev.step (fun k => rfl) (ev_neg (by simp) (Ev.bind (heldPat _ _ g3) (ev_neg (by omega) (ev_pos rfl (Ev.now _)))))
  · rw [if_neg hl]
    exact ev_pos (by omega) (Ev.now _)

end Go.Proofs.Ytidnfnnnfppefab.PureFnExactOtherBeats
