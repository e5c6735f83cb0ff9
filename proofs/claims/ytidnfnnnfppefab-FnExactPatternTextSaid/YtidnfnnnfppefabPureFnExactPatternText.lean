/- The plain statement of FnExactPatternText: the law's function, over numbers and lists, answers true. No conditions beyond the arguments' own kinds. -/
import Derived.Test.YtidnfnnnfppefabQPatternText3
import Derived.Test.YtidnfnnnfppefabLib
namespace Go.Proofs.Ytidnfnnnfppefab.PureFnExactPatternText
open Go Go.RowKit Go.Proofs.Ytidnfnnnfppefab.PFnExactPatternText Go.Proofs.YtidnfnnnfppefabW.PrintWords Go.Proofs.YtidnfnnnfppefabW.PrintLast Go.Proofs.YtidnfnnnfppefabW.PrintMore Go.Proofs.Ytidnfnnnfppefab.Lib
set_option linter.unusedVariables false
set_option linter.unusedSimpArgs false
/-- A loop that counts up to n, and what is known of its answer. -/
theorem ev_for_ex {σ ρ : Type} (L : Nat → σ → Int → Option ρ) (n : Nat) (Inv : Nat → σ → Prop) (Post : ρ → Prop) (hstop : ∀ s, Inv n s → ∃ r, Ev (fun k => L k s (n : Int)) r ∧ Post r)
    (hgo : ∀ i s, i < n → Inv i s → (∀ s', Inv (i + 1) s' → ∃ r, Ev (fun k => L k s' ((i + 1 : Nat) : Int)) r ∧ Post r) → ∃ r, Ev (fun k => L k s (i : Int)) r ∧ Post r) :
    ∀ i s, i ≤ n → Inv i s → ∃ r, Ev (fun k => L k s (i : Int)) r ∧ Post r := by
  have key : ∀ d i : Nat, n - i = d → i ≤ n → ∀ s, Inv i s → ∃ r, Ev (fun k => L k s (i : Int)) r ∧ Post r := by
    intro d
    induction d with
    | zero =>
      intro i hd hi s hs
      obtain rfl : i = n := by omega
      exact hstop s hs
    | succ d ih =>
      intro i hd hi s hs
      exact hgo i s (by omega) hs (fun s' hs' => ih (i + 1) (by omega) (by omega) s' hs')
  intro i s hi hs
  exact key (n - i) i rfl hi s hs
theorem wn {i n : Nat} (h : i < n) (hn : n ≤ 9223372036854775807) : wrap64 ((i : Int) + 1) = ((i + 1 : Nat) : Int) := by unfold wrap64; omega
/-- Whatever holds at the end of a count, and at i if it holds at i + 1, holds from everywhere. -/
theorem count_up {σ : Type} (n : Nat) (Inv Q : Nat → σ → Prop) (hstop : ∀ s, Inv n s → Q n s) (hgo : ∀ i s, i < n → Inv i s → (∀ s', Inv (i + 1) s' → Q (i + 1) s') → Q i s) : ∀ i s, i ≤ n → Inv i s → Q i s := by
  have key : ∀ d i : Nat, n - i = d → i ≤ n → ∀ s, Inv i s → Q i s := by
    intro d
    induction d with
    | zero =>
      intro i hd hi s hs
      obtain rfl : i = n := by omega
      exact hstop s hs
    | succ d ih =>
      intro i hd hi s hs
      exact hgo i s (by omega) hs (fun s' hs' => ih (i + 1) (by omega) (by omega) s' hs')
  intro i s hi hs
  exact key (n - i) i rfl hi s hs

/-! ints: to, eq -/
theorem toIntS (l : List Int) (hl : l.length ≤ 1048576) : Ev (fun k => laws_toIntS.f k l) l := by
  unfold laws_toIntS.f
  refine ev_pos (by omega) (ev_pos (by omega) ?_)
  have h := map_loop (fun k ys i => laws_toIntS.l0 k l ys i) l (0 : Int) (0 : Int) (fun k x => some x) (fun b => b) (fun x => x) (fun k ys i => rfl) (fun x _ => ev_const rfl) (by omega)
  simpa using h

theorem eqIntS (l : List Int) (hl : l.length ≤ 1048576) : Ev (fun k => laws_eqIntS.f k l l) true := by
  unfold laws_eqIntS.f
  refine ev_pos rfl ?_
  refine same_loop (fun k i => laws_eqIntS.l0 k l l i) l (0 : Int) (fun k x => some true) (fun k i => ?_) (fun x _ => ev_const rfl) (by omega)
  simp only [laws_eqIntS.l0, Option.bind_some, ↓reduceIte]

theorem toPat (p : Int) (l : List Int) (hl : l.length ≤ 1048576) : Ev (fun k => laws_toPattern.f k p l) (p, l) := by
  unfold laws_toPattern.f
  exact Ev.bind (toIntS l hl) (Ev.now _)
theorem szPat (p : Int) (l : List Int) (hl : l.length ≤ 9223372036854775807) : laws_szPattern.f p l 1048576 = some (if l.length ≤ 1048576 then 1048576 - (l.length : Int) else -1) := by
  have e : wrap64 (1048576 - (l.length : Int)) = 1048576 - l.length := by unfold wrap64; omega
  simp only [laws_szPattern.f, laws_szIntS.f, e]
  repeat' split
  all_goals (simp; repeat' split)
  all_goals first | rfl | (simp; omega) | omega

theorem eqPat (p : Int) (l : List Int) (hl : l.length ≤ 1048576) : Ev (fun k => laws_eqPattern.f k p l p l) true := by
  unfold laws_eqPattern.f
  exact ev_pos rfl (Ev.bind (eqIntS l hl) (ev_pos rfl (Ev.now _)))

theorem l1In_eq (a b c : Int) : spec_l1In.f a b c = some (decide (b ≤ a ∧ a ≤ c)) := by
  unfold spec_l1In.f
  split <;> simp <;> omega

def okP (p : Int) (l : List Int) (i : Nat) : Prop := 0 ≤ rd l i ∧ rd l i < p ∧ (i > 0 → rd l ((i : Int) - 1) < rd l i)
instance (p : Int) (l : List Int) (i : Nat) : Decidable (okP p l i) := by unfold okP; infer_instance
/-- A pattern: its number of steps, and its beats. -/
def isP (p : Int) (l : List Int) : Prop := 1 ≤ p ∧ p ≤ 24 ∧ ∀ i, i < l.length → okP p l i
instance (p : Int) (l : List Int) : Decidable (isP p l) := by unfold isP; infer_instance
theorem impl_isP (p : Int) (l : List Int) (hl : l.length ≤ 1048576) : Ev (fun k => impl_IsPattern.f k p l) (decide (isP p l)) := by
  unfold impl_IsPattern.f
  by_cases h : 1 ≤ p ∧ p ≤ 24
  · refine ev_neg (by omega) (Ev.step (f := fun k => impl_IsPattern.l0 k l (l.length : Int) 0 p l) (fun k => ?_) ?_)
    · simp only [impl_IsPattern.j0]
      rw [if_neg (by simp; omega)]
    · refine all_loop (fun k i => impl_IsPattern.l0 k l (l.length : Int) i p l) l.length (okP p l) true _ (by simp [isP, h]) (fun k => ?_) (fun k i hi => ?_)
      · simp only [impl_IsPattern.l0]
        rw [if_neg (by omega)]
      · have e1 : wrap64 ((i : Int) + 1) = i + 1 := by unfold wrap64; omega
        simp only [impl_IsPattern.l0, e1]
        unfold okP
        by_cases hz : (i : Int) > 0
        · have e2 : wrap64 ((i : Int) - 1) = i - 1 := by unfold wrap64; omega
          simp only [e2]
          constructor <;> intro h <;> (repeat' split) <;> first | rfl | (exfalso; omega)
        · constructor <;> intro h <;> (repeat' split) <;> first | rfl | (exfalso; omega)
  · have e : decide (isP p l) = false := decide_eq_false (fun hp => h ⟨hp.1, hp.2.1⟩)
    rw [e]
    refine ev_ite (fun hc => Ev.step (f := fun _ => some false) (fun k => rfl) (Ev.now _)) (fun hc => Ev.step (f := fun _ => some false) (fun k => ?_) (Ev.now _))
    simp only [impl_IsPattern.j0]
    rw [if_pos (by simp; omega)]
theorem spec_isP (p : Int) (l : List Int) (hl : l.length ≤ 1048576) : Ev (fun k => spec_drGood.f k p l) (decide (isP p l)) := by
  unfold spec_drGood.f
  refine ev_call (l1In_eq _ _ _) ?_
  by_cases h : 1 ≤ p ∧ p ≤ 24
  · refine ev_pos (by simp; omega) (Ev.bind (f := fun k t => some t) ?_ (Ev.now _))
    unfold spec_l1Rising.f
    have e3 : wrap64 (p - 1) = p - 1 := by unfold wrap64; omega
    rw [e3]
    refine all_loop (fun k i => spec_l1Rising.l0 k l 0 (p - 1) l (l.length : Int) i) l.length (okP p l) true _ (by simp [isP, h]) (fun k => ?_) (fun k i hi => ?_)
    · simp only [spec_l1Rising.l0]
      rw [if_neg (by omega)]
    · have e1 : wrap64 ((i : Int) + 1) = i + 1 := by unfold wrap64; omega
      simp only [spec_l1Rising.l0, l1In_eq, Option.bind_some, decide_eq_true_eq, e1]
      unfold okP
      by_cases hz : (i : Int) > 0
      · have e2 : wrap64 ((i : Int) - 1) = i - 1 := by unfold wrap64; omega
        simp only [e2]
        constructor <;> intro h <;> (repeat' split) <;> first | rfl | (exfalso; omega)
      · constructor <;> intro h <;> (repeat' split) <;> first | rfl | (exfalso; omega)
  · have e : decide (isP p l) = false := decide_eq_false (fun hp => h ⟨hp.1, hp.2.1⟩)
    rw [e]
    exact ev_neg (by simp; omega) (Ev.now _)

theorem spec_has (l : List Int) (x : Int) (hl : l.length ≤ 1048576) : Ev (fun k => spec_l1Has.f k l x) (decide (x ∈ l)) := by
  unfold spec_l1Has.f
  have h := ev_for (fun k (_ : Unit) i => spec_l1Has.l0 k x l (l.length : Int) i) l.length (fun _ _ => True) (fun i _ => decide (x ∈ l.drop i)) (fun s _ => ?_) (fun i s hi _ ih => ?_) 0 () (Nat.zero_le _) trivial
  · simpa using h
  · rw [List.drop_length]
    refine Ev.step (f := fun _ => some false) (fun k => ?_) (ev_now (by simp))
    simp only [spec_l1Has.l0]
    rw [if_neg (by omega)]
  · have e1 := wn hi (by omega)
    have er : rd l (i : Int) = l[i] := by unfold rd; rw [rd_get hi]
    rw [List.drop_eq_getElem_cons hi]
    by_cases c : l[i] = x
    · refine Ev.step (f := fun _ => some true) (fun k => ?_) (ev_now (by simp [c]))
      simp only [spec_l1Has.l0, er]
      rw [if_pos (by omega), if_pos (by omega), if_pos (by omega), if_pos c]
    · have e : decide (x ∈ l[i] :: l.drop (i + 1)) = decide (x ∈ l.drop (i + 1)) := decide_eq_decide.2 (by rw [List.mem_cons]; exact ⟨fun h => h.resolve_left (fun e => c e.symm), .inr⟩)
      rw [e]
      refine Ev.step (fun k => ?_) (ih () trivial)
      simp only [spec_l1Has.l0, er, e1]
      rw [if_pos (by omega), if_pos (by omega), if_pos (by omega), if_neg c]

theorem contains (l : List Int) (x : Int) (hl : l.length ≤ 1048576) : Ev (fun k => slices_Contains_int_int.f k l x) (decide (x ∈ l)) := by
  have key : ∀ (d i : Nat), l.length - i = d → i ≤ l.length → ∃ r : Int, Ev (fun k => slices_Index_int_int.l0 k l x (l.length : Int) (i : Int)) r ∧ (r ≥ 0 ↔ x ∈ l.drop i) := by
    intro d
    induction d with
    | zero =>
      intro i hd hi
      obtain rfl : i = l.length := by omega
      refine ⟨-1, Ev.step (f := fun _ => some (-1)) (fun k => ?_) (Ev.now _), by simp⟩
      simp only [slices_Index_int_int.l0]
      rw [if_neg (by omega)]
    | succ d ih =>
      intro i hd hi
      have hlt : i < l.length := by omega
      have e1 := wn hlt (by omega)
      have er : rd l (i : Int) = l[i] := by unfold rd; rw [rd_get hlt]
      rw [List.drop_eq_getElem_cons hlt, List.mem_cons]
      by_cases c : x = l[i]
      · refine ⟨(i : Int), Ev.step (f := fun _ => some (i : Int)) (fun k => ?_) (Ev.now _), ⟨fun _ => .inl c, fun _ => by omega⟩⟩
        simp only [slices_Index_int_int.l0, er]
        rw [if_pos (by omega), if_pos (by omega), if_pos (by omega), if_pos c]
      · obtain ⟨r, h1, h2⟩ := ih (i + 1) (by omega) (by omega)
        refine ⟨r, Ev.step (fun k => ?_) h1, by rw [h2]; exact ⟨.inr, fun h => h.resolve_left c⟩⟩
        simp only [slices_Index_int_int.l0, er, e1]
        rw [if_pos (by omega), if_pos (by omega), if_pos (by omega), if_neg c]
  obtain ⟨r, h1, h2⟩ := key l.length 0 rfl (by omega)
  rw [List.drop_zero] at h2
  unfold slices_Contains_int_int.f
  exact Ev.bind (g := fun k => slices_Index_int_int.f k l x) h1 (ev_now (decide_eq_decide.2 h2))

theorem list_set_fill {α : Type} (f : Nat → α) (z : α) (p i : Nat) (h : i < p) (v : α) (hv : v = f i) : (((List.range i).map f) ++ List.replicate (p - i) z).set i v = ((List.range (i + 1)).map f) ++ List.replicate (p - (i + 1)) z := by
  refine List.ext_getElem? fun j => ?_
  rw [List.getElem?_set]
  rcases Nat.lt_trichotomy j i with h1 | h1 | h1
  · rw [if_neg (by omega), List.getElem?_append_left (by simpa using h1), List.getElem?_append_left (by simp; omega)]
    simp [h1, show j < i + 1 by omega]
  · subst h1
    rw [if_pos rfl, if_pos (by simp; omega), List.getElem?_append_left (by simp)]
    simp [hv]
  · rw [if_neg (by omega), List.getElem?_append_right (by simp; omega), List.getElem?_append_right (by simp; omega)]
    simp only [List.length_map, List.length_range, List.getElem?_replicate]
    repeat' split
    all_goals first | rfl | (exfalso; omega)
/-- The sign of a step. -/
def sgn (l : List Int) (j : Nat) : Int := if (j : Int) ∈ l then 120 else 46
theorem strOfNums_snoc (xs : List Int) (b : UInt8) : strOfNums xs ++ (⟨#[b]⟩ : ByteArray) = strOfNums (xs ++ [(b.toNat : Int)]) := by
  apply ByteArray.ext
  simp [strOfNums]
def textOf (p : Nat) (l : List Int) : ByteArray := strOfNums ((List.range p).map (sgn l))
theorem impl_pt (p : Nat) (l : List Int) (hp : 1 ≤ p ∧ p ≤ 24) (hl : l.length ≤ 1048576) : Ev (fun k => impl_PatternText.l0 k (List.replicate p 0) (p : Int) 0 (p : Int) l) (textOf p l, true) := by
  refine ev_for (fun k st i => impl_PatternText.l0 k st (p : Int) i (p : Int) l) p (fun i st => st = ((List.range i).map (sgn l)) ++ List.replicate (p - i) 0) (fun _ _ => (textOf p l, true)) (fun st hst => ?_) (fun i st hi hst ih => ?_) 0 (List.replicate p 0) (Nat.zero_le _) (by simp)
  · refine Ev.step (f := fun _ => some (strOfNums st, true)) (fun k => ?_) (ev_now ?_)
    · simp only [impl_PatternText.l0]
      rw [if_neg (by omega)]
    · rw [hst]; simp [textOf]
  · have e1 := wn hi (by omega)
    have hlen : st.length = p := by rw [hst]; simp; omega
    have hb : Ev (fun k => impl_beatsAt.f k (p : Int) l (i : Int)) (decide ((i : Int) ∈ l)) := by
      unfold impl_beatsAt.f
      have et : Int.tmod (i : Int) (p : Int) = i := Int.tmod_eq_of_lt (by omega) (by omega)
      rw [et]
      exact ev_neg (by omega) (Ev.bind (contains l _ hl) (Ev.now _))
    refine Ev.step (f := fun k => (impl_beatsAt.f k (p : Int) l (i : Int)).bind fun t => if t = true then impl_PatternText.l0 k ((st.set i 46).set i 120) (p : Int) ((i + 1 : Nat) : Int) (p : Int) l else impl_PatternText.l0 k (st.set i 46) (p : Int) ((i + 1 : Nat) : Int) (p : Int) l) (fun k => ?_) (Ev.bind hb ?_)
    · simp only [impl_PatternText.l0, e1, Option.bind_some, Int.toNat_natCast]
      rw [if_pos (by omega), if_pos (by omega), if_pos (by omega)]
    · by_cases c : (i : Int) ∈ l
      · refine ev_pos (decide_eq_true c) (ih _ ?_)
        rw [List.set_set, hst]
        exact list_set_fill (sgn l) 0 p i hi 120 (by simp [sgn, c])
      · refine ev_neg (by simpa using c) (ih _ ?_)
        rw [hst]
        exact list_set_fill (sgn l) 0 p i hi 46 (by simp [sgn, c])
theorem spec_pt (p : Nat) (l : List Int) (hp : 1 ≤ p ∧ p ≤ 24) (hl : l.length ≤ 1048576) : Ev (fun k => spec_drText.l0 k (⟨#[]⟩ : ByteArray) 0 (p : Int) l) (textOf p l) := by
  refine ev_for (fun k st i => spec_drText.l0 k st i (p : Int) l) p (fun i st => st = strOfNums ((List.range i).map (sgn l))) (fun _ _ => textOf p l) (fun st hst => ?_) (fun i st hi hst ih => ?_) 0 ⟨#[]⟩ (Nat.zero_le _) rfl
  · refine Ev.step (f := fun _ => some st) (fun k => ?_) (ev_now hst)
    simp only [spec_drText.l0]
    rw [if_neg (by omega)]
  · have e1 := wn hi (by omega)
    have hsz : st.size ≤ 24 := by
      have : st.size = i := by rw [hst]; simp [strOfNums, ByteArray.size]
      omega
    refine Ev.step (f := fun k => (spec_l1Has.f k l (i : Int)).bind fun t => if t = true then spec_drText.l0 k (st ++ (⟨#[120]⟩ : ByteArray)) ((i + 1 : Nat) : Int) (p : Int) l else spec_drText.l0 k (st ++ (⟨#[46]⟩ : ByteArray)) ((i + 1 : Nat) : Int) (p : Int) l) (fun k => ?_) (Ev.bind (spec_has l _ hl) ?_)
    · simp only [spec_drText.l0, e1]
      rw [if_pos (by omega)]
      simp only [if_pos (show st.size + 1 ≤ 9223372036854775807 by omega)]
    · by_cases c : (i : Int) ∈ l
      · refine ev_pos (decide_eq_true c) (ih _ ?_)
        rw [hst, strOfNums_snoc, List.range_succ, List.map_append]
        simp [sgn, c]
      · refine ev_neg (by simpa using c) (ih _ ?_)
        rw [hst, strOfNums_snoc, List.range_succ, List.map_append]
        simp [sgn, c]
def ptR (p : Int) (l : List Int) : ByteArray × Bool := if isP p l then (textOf p.toNat l, true) else (⟨#[]⟩, false)
theorem impl_text (p : Int) (l : List Int) (hl : l.length ≤ 1048576) : Ev (fun k => impl_PatternText.f k p l) (ptR p l) := by
  unfold impl_PatternText.f ptR
  refine Ev.bind (impl_isP p l hl) ?_
  by_cases hg : isP p l
  · have h1 := hg.1
    have h2 := hg.2.1
    obtain ⟨n, rfl⟩ : ∃ n : Nat, p = n := ⟨p.toNat, by omega⟩
    rw [if_pos hg]
    refine ev_pos (decide_eq_true hg) (ev_pos (by omega) (ev_pos (by omega) ?_))
    have := impl_pt n l ⟨by omega, by omega⟩ hl
    simpa using this
  · rw [if_neg hg]
    exact ev_neg (by simpa using hg) (Ev.now _)
theorem spec_text (p : Int) (l : List Int) (hl : l.length ≤ 1048576) : Ev (fun k => spec_PatternText.f k p l) (ptR p l) := by
  unfold spec_PatternText.f ptR
  refine Ev.bind (spec_isP p l hl) ?_
  by_cases hg : isP p l
  · have h1 := hg.1
    have h2 := hg.2.1
    obtain ⟨n, rfl⟩ : ∃ n : Nat, p = n := ⟨p.toNat, by omega⟩
    rw [if_pos hg]
    exact ev_pos (decide_eq_true hg) (Ev.bind (g := fun k => spec_drText.f k (n : Int) l) (spec_pt n l ⟨by omega, by omega⟩ hl) (Ev.now _))
  · rw [if_neg hg]
    exact ev_neg (by simpa using hg) (Ev.now _)
theorem FnExactPatternText (a0_0 : Int) (l0_1 : List (Int)) (w0_0 : (Lit.int .i64 a0_0).wf = true) (w0_1 : (l0_1.length ≤ maxLen ∧ ∀ y1 ∈ l0_1, (Lit.int .i64 y1).wf = true)) :
    ∃ k, laws_FnExactPatternText.f k a0_0 l0_1 = some true := by
  obtain ⟨hm, _⟩ := w0_1
  unfold maxLen at hm
  refine Ev.rounds (g := fun k => laws_FnExactPatternText.f k a0_0 l0_1) ?_
  unfold laws_FnExactPatternText.f
  refine ev_call (szPat _ _ (by omega)) ?_
  by_cases hl : l0_1.length ≤ 1048576
  · rw [if_pos hl]
    refine ev_neg (by omega) ?_
    have h1 := toPat a0_0 l0_1 hl
    refine Ev.bind h1 (Ev.bind (spec_text _ _ hl) (Ev.bind h1 (Ev.bind (impl_text _ _ hl) (ev_pos rfl (Ev.step (fun k => rfl) (ev_neg (by simp) (Ev.bind h1 (Ev.bind (eqPat a0_0 l0_1 hl) (ev_pos rfl (Ev.now _))))))))))
  · rw [if_neg hl]
    exact ev_pos (by omega) (Ev.now _)

end Go.Proofs.Ytidnfnnnfppefab.PureFnExactPatternText
