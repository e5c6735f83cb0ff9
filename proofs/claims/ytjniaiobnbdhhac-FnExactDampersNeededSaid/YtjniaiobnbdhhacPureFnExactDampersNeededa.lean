/- The plain statement of FnExactDampersNeeded (lemmas): the law's function, over numbers and lists, answers true. No conditions beyond the arguments' own kinds. -/
import Derived.Test.YtjniaiobnbdhhacSDampersNeeded10
import Derived.Test.YtjniaiobnbdhhacVDampersNeeded
namespace Go.Proofs.Ytjniaiobnbdhhac.PureFnExactDampersNeeded
open Go Go.RowKit Go.Proofs.Ytjniaiobnbdhhac.PFnExactDampersNeeded Go.Proofs.YtjniaiobnbdhhacW.PrintWords Go.Proofs.YtjniaiobnbdhhacW.PrintLast Go.Proofs.YtjniaiobnbdhhacW.PrintMore Go.Proofs.Ytjniaiobnbdhhac.Lib
set_option linter.unusedVariables false
set_option linter.unusedSimpArgs false
/-- A loop that writes marks into every field of a list's elements: c a step. -/
theorem mark_ev {β : Type} (L : Nat → List β → Int → Int → Option (Int × List β)) (mk : Int → β) (c : Nat) (hc : c ≤ 8) (n : Nat) (hn : n ≤ 1048576) (hstop : ∀ k ys a, ys.length = n → L (k + 1) ys a (n : Int) = some (a, ys))
    (hgo : ∀ k ys a (i : Nat), ys.length = n → i < n → 0 ≤ a → a ≤ 2199023255552 → L (k + 1) ys a (i : Int) = L k (ys.set i (mk a)) (a + c) ((i : Int) + 1)) (l : List β) (hl : l.length = n) (a : Int) (h0 : 0 ≤ a) (h1 : a ≤ 1099511627776) :
    Ev (fun k => L k l a 0) (a + c * n, (List.range n).map fun j : Nat => mk (a + c * j)) := by
  have key : ∀ (d i : Nat) (ys : List β), n - i = d → i ≤ n → ys.length = n → (∀ j, j < i → ys[j]? = some (mk (a + c * (j : Int)))) →
      Ev (fun k => L k ys (a + c * (i : Int)) (i : Int)) (a + c * n, (List.range n).map fun j : Nat => mk (a + c * j)) := by
    intro d
    induction d with
    | zero =>
      intro i ys hd hi hy hp
      obtain rfl : i = n := by omega
      refine Ev.step (f := fun _ => some (a + c * (i : Int), ys)) (fun k => hstop k ys _ hy) (ev_now ?_)
      congr 1
      refine List.ext_getElem? fun j => ?_
      by_cases hj : j < i
      · rw [hp j hj]; simp [hj]
      · rw [List.getElem?_eq_none (by omega), List.getElem?_eq_none (by simp; omega)]
    | succ d ih =>
      intro i ys hd hi hy hp
      have hb : (c : Int) * i ≤ 8 * 1048576 := Int.mul_le_mul (by omega) (by omega) (by omega) (by omega)
      have hb0 : 0 ≤ (c : Int) * i := Int.mul_nonneg (by omega) (by omega)
      have e2 : a + (c : Int) * (i : Int) + c = a + c * ((i + 1 : Nat) : Int) := by rw [Int.natCast_add, Int.mul_add]; simp; omega
      refine Ev.step (fun k => hgo k ys _ i hy (by omega) (by omega) (by omega)) ?_
      rw [e2]
      refine ih (i + 1) _ (by omega) (by omega) (by rw [List.length_set]; exact hy) (fun j hj => ?_)
      by_cases e : j = i
      · subst e
        rw [List.getElem?_set_self (by omega)]
      · rw [List.getElem?_set_ne (by omega)]
        exact hp j (by omega)
  have := key n 0 l (by omega) (by omega) hl (fun j hj => absurd hj (by omega))
  simpa using this
/-- A loop that finds the marks again. -/
theorem held_ev {β : Type} (M : Nat → Int → Int → Option Int) (mk : Int → β) (c : Nat) (hc : c ≤ 8) (n : Nat) (hn : n ≤ 1048576) (a : Int) (h0 : 0 ≤ a) (h1 : a ≤ 1099511627776) (hstop : ∀ k a, M (k + 1) a (n : Int) = some a)
    (hgo : ∀ k b (i : Nat) (hi : i < ((List.range n).map fun j : Nat => mk (a + c * j)).length), ((List.range n).map fun j : Nat => mk (a + c * j))[i] = mk b → 0 ≤ b → b ≤ 2199023255552 → M (k + 1) b (i : Int) = M k (b + c) ((i : Int) + 1)) :
    Ev (fun k => M k a 0) (a + c * n) := by
  have key : ∀ (d i : Nat), n - i = d → i ≤ n → Ev (fun k => M k (a + c * (i : Int)) (i : Int)) (a + c * n) := by
    intro d
    induction d with
    | zero =>
      intro i hd hi
      obtain rfl : i = n := by omega
      exact Ev.step (f := fun _ => some (a + c * (i : Int))) (fun k => hstop k _) (ev_now rfl)
    | succ d ih =>
      intro i hd hi
      have hb : (c : Int) * i ≤ 8 * 1048576 := Int.mul_le_mul (by omega) (by omega) (by omega) (by omega)
      have hb0 : 0 ≤ (c : Int) * i := Int.mul_nonneg (by omega) (by omega)
      have e2 : a + (c : Int) * (i : Int) + c = a + c * ((i + 1 : Nat) : Int) := by rw [Int.natCast_add, Int.mul_add]; simp; omega
      refine Ev.step (fun k => hgo k _ i (by simp; omega) (by simp) (by omega) (by omega)) ?_
      rw [e2]
      exact ih (i + 1) (by omega) (by omega)
  have := key n 0 (by omega) (by omega)
  simpa using this
theorem rd_set {α : Type} {xs : List α} {z v : α} {i : Nat} (h : i < xs.length) : (xs.set i v).getD (i : Int).toNat z = v := by
  rw [Int.toNat_natCast, List.getD_eq_getElem?_getD, List.getElem?_set_self h]; rfl

def cvT (x : S102) : S99 := ⟨x.f0, x.f1, x.f2⟩
theorem toToothS (l : List S102) (hl : l.length ≤ 1048576) : Ev (fun k => laws_toToothS.f k l) (l.map cvT) := by
  unfold laws_toToothS.f
  refine ev_pos (by omega) (ev_pos (by omega) ?_)
  exact map_loop (fun k ys i => laws_toToothS.l0 k l ys i) l z102 z99 (fun k x => laws_toTooth.f x.f0 x.f1 x.f2) (fun bt => ⟨bt.1, bt.2.1, bt.2.2⟩) (fun x => (x.f0, x.f1, x.f2)) (fun k ys i => rfl) (fun x _ => ev_const rfl) (by omega)
theorem eqToothS (l : List S99) (hl : l.length ≤ 1048576) : Ev (fun k => laws_eqToothS.f k l l) true := by
  unfold laws_eqToothS.f
  refine ev_pos rfl ?_
  exact same_loop (fun k i => laws_eqToothS.l0 k l l i) l z99 (fun k x => laws_eqTooth.f x.f0 x.f1 x.f2 x.f0 x.f1 x.f2) (fun k i => rfl) (fun x _ => ev_const (by simp [laws_eqTooth.f])) (by omega)
theorem szToothS (l : List S102) (a : Int) (ha : 0 ≤ a ∧ a ≤ 1048576) (hl : l.length ≤ 9223372036854775807) : laws_szToothS.f l a = some (if (l.length : Int) ≤ a then a - (l.length : Int) else -1) := by
  have e : wrap64 (a - (l.length : Int)) = a - l.length := by unfold wrap64; omega
  simp only [laws_szToothS.f, e]
  repeat' split
  all_goals first | rfl | (exfalso; omega)

/-- A loop that counts up to n, and what is known of its answer. -/
theorem ev_for_ex {σ ρ : Type} (L : Nat → σ → Int → Option ρ) (n : Nat) (Inv : Nat → σ → Prop) (Post : ρ → Prop) (hstop : ∀ s, Inv n s → ∃ r, Ev (fun k => L k s (n : Int)) r ∧ Post r)
    (hgo : ∀ i s, i < n → Inv i s → (∀ s', Inv (i + 1) s' → ∃ r, Ev (fun k => L k s' ((i + 1 : Nat) : Int)) r ∧ Post r) → ∃ r, Ev (fun k => L k s (i : Int)) r ∧ Post r) :
    ∀ i s, i ≤ n → Inv i s → ∃ r, Ev (fun k => L k s (i : Int)) r ∧ Post r := by
  have key : ∀ d i : Nat, n - i = d → i ≤ n → ∀ s, Inv i s → ∃ r, Ev (fun k => L k s (i : Int)) r ∧ Post r := by
    intro d
    induction d with
    | zero =>
      intro i hd hi s hs
      obtain rfl : i = n := by omega
      exact hstop s hs
    | succ d ih =>
      intro i hd hi s hs
      exact hgo i s (by omega) hs (fun s' hs' => ih (i + 1) (by omega) (by omega) s' hs')
  intro i s hi hs
  exact key (n - i) i rfl hi s hs
theorem wn {i n : Nat} (h : i < n) (hn : n ≤ 9223372036854775807) : wrap64 ((i : Int) + 1) = ((i + 1 : Nat) : Int) := by unfold wrap64; omega
/-- Whatever holds at the end of a count, and at i if it holds at i + 1, holds from everywhere. -/
theorem count_up {σ : Type} (n : Nat) (Inv Q : Nat → σ → Prop) (hstop : ∀ s, Inv n s → Q n s) (hgo : ∀ i s, i < n → Inv i s → (∀ s', Inv (i + 1) s' → Q (i + 1) s') → Q i s) : ∀ i s, i ≤ n → Inv i s → Q i s := by
  have key : ∀ d i : Nat, n - i = d → i ≤ n → ∀ s, Inv i s → Q i s := by
    intro d
    induction d with
    | zero =>
      intro i hd hi s hs
      obtain rfl : i = n := by omega
      exact hstop s hs
    | succ d ih =>
      intro i hd hi s hs
      exact hgo i s (by omega) hs (fun s' hs' => ih (i + 1) (by omega) (by omega) s' hs')
  intro i s hi hs
  exact key (n - i) i rfl hi s hs

/-- A loop of checks whose rounds may call: what is known of the places before may be used. -/
theorem all_loop_g (L : Nat → Int → Option Bool) (n : Nat) (P : Nat → Prop) (fin r : Bool) (hr : r = true ↔ (∀ i, i < n → P i) ∧ fin = true) (hstop : (∀ i, i < n → P i) → Ev (fun k => L k (n : Int)) fin)
    (hgo : ∀ i : Nat, i < n → (∀ j, j < i → P j) → (P i → ∀ q, Ev (fun k => L k ((i + 1 : Nat) : Int)) q → Ev (fun k => L k (i : Int)) q) ∧ (¬ P i → Ev (fun k => L k (i : Int)) false)) : Ev (fun k => L k 0) r := by
  have key : ∀ d i : Nat, n - i = d → i ≤ n → (∀ j, j < i → P j) → Ev (fun k => L k (i : Int)) r := by
    intro d
    induction d with
    | zero =>
      intro i hd hi hp
      obtain rfl : i = n := by omega
      refine ev_eq (hstop hp) ?_
      rw [Bool.eq_iff_iff, hr]
      exact ⟨fun h => ⟨hp, h⟩, fun h => h.2⟩
    | succ d ih =>
      intro i hd hi hp
      have hlt : i < n := by omega
      by_cases hc : P i
      · refine (hgo i hlt hp).1 hc r (ih (i + 1) (by omega) (by omega) (fun j hj => ?_))
        by_cases e : j = i
        · exact e ▸ hc
        · exact hp j (by omega)
      · refine ev_eq ((hgo i hlt hp).2 hc) ?_
        cases hrr : r with
        | false => rfl
        | true => exact absurd ((hr.1 hrr).1 i hlt) hc
  exact key n 0 (by omega) (by omega) (fun j hj => absurd hj (by omega))
/-- A loop that leaves with 'bad' at the first place that is not as it should be, and else goes on behind the last. -/
theorem scan_loop {α : Type} (L : Nat → Int → Option α) (n : Nat) (C : Nat → Prop) (q bad : α) (hstop : (∀ j, j < n → C j) → Ev (fun k => L k (n : Int)) q) (hbad : ¬ (∀ j, j < n → C j) → q = bad)
    (hgo : ∀ k (j : Nat), j < n → (C j → L (k + 1) (j : Int) = L k ((j + 1 : Nat) : Int)) ∧ (¬ C j → L (k + 1) (j : Int) = some bad)) : Ev (fun k => L k 0) q := by
  have key : ∀ d i : Nat, n - i = d → i ≤ n → (∀ j, j < i → C j) → Ev (fun k => L k (i : Int)) q := by
    intro d
    induction d with
    | zero =>
      intro i hd hi hp
      obtain rfl : i = n := by omega
      exact hstop hp
    | succ d ih =>
      intro i hd hi hp
      have hlt : i < n := by omega
      by_cases hc : C i
      · refine Ev.step (fun k => (hgo k i hlt).1 hc) (ih (i + 1) (by omega) (by omega) (fun j hj => ?_))
        by_cases e : j = i
        · exact e ▸ hc
        · exact hp j (by omega)
      · exact Ev.step (fun k => (hgo k i hlt).2 hc) (ev_now (hbad (fun h => hc (h i hlt))).symm)
  exact key n 0 (by omega) (by omega) (fun j hj => absurd hj (by omega))
/-- Rounds that only go on. -/
theorem skip_loop {α : Type} (L : Nat → Int → Option α) (r : α) (a b : Nat) (hab : a ≤ b) (h : ∀ j : Nat, a ≤ j → j < b → Ev (fun k => L k ((j + 1 : Nat) : Int)) r → Ev (fun k => L k (j : Int)) r) (hb : Ev (fun k => L k (b : Int)) r) : Ev (fun k => L k (a : Int)) r := by
  have key : ∀ d i : Nat, b - i = d → a ≤ i → i ≤ b → Ev (fun k => L k (i : Int)) r := by
    intro d
    induction d with
    | zero =>
      intro i hd hi hi2
      obtain rfl : i = b := by omega
      exact hb
    | succ d ih =>
      intro i hd hi hi2
      exact h i hi (by omega) (ih (i + 1) (by omega) (by omega) (by omega))
  exact key (b - a) a rfl (Nat.le_refl _) hab
theorem first_or_none (C : Nat → Prop) (n : Nat) : (∀ j, j < n → ¬ C j) ∨ ∃ i, i < n ∧ C i ∧ ∀ j, j < i → ¬ C j := by
  induction n with
  | zero => exact .inl (fun j hj => absurd hj (by omega))
  | succ n ih =>
    rcases ih with h | ⟨i, hi, hc, h⟩
    · by_cases c : C n
      · exact .inr ⟨n, by omega, c, h⟩
      · refine .inl (fun j hj => ?_)
        by_cases e : j = n
        · exact e ▸ c
        · exact h j (by omega)
    · exact .inr ⟨i, by omega, hc, h⟩

/-! combs -/
def combOwn (x : S99) : Prop := 24 ≤ x.f0 ∧ x.f0 ≤ 96 ∧ -50 ≤ x.f1 ∧ x.f1 ≤ 50 ∧ 0 ≤ x.f2 ∧ x.f2 ≤ 1
instance (x : S99) : Decidable (combOwn x) := by unfold combOwn; infer_instance
def combAt (l : List S99) (i : Nat) : Prop := combOwn (rd_T99 l i) ∧ (i > 0 → (rd_T99 l ((i : Int) - 1)).f0 ≤ (rd_T99 l i).f0) ∧ (i < 4 ∨ (rd_T99 l ((i : Int) - 4)).f0 < (rd_T99 l i).f0 ∨ (rd_T99 l i).f0 < (rd_T99 l ((i : Int) - 4)).f0)
instance (l : List S99) (i : Nat) : Decidable (combAt l i) := by unfold combAt; infer_instance
def isC (l : List S99) : Prop := 1 ≤ l.length ∧ l.length ≤ 40 ∧ ∀ i, i < l.length → combAt l i
instance (l : List S99) : Decidable (isC l) := by unfold isC; infer_instance
theorem isC_get {l : List S99} (h : isC l) {i : Nat} (hi : i < l.length) : combOwn l[i] := by
  have := (h.2.2 i hi).1
  unfold rd_T99 at this
  rwa [rd_get hi] at this

theorem isPitch_eq (a : Int) : impl_isPitch.f a = some (decide (24 ≤ a ∧ a ≤ 96)) := by
  unfold impl_isPitch.f
  split <;> simp <;> omega

theorem isCents_eq (a : Int) : impl_isCents.f a = some (decide (-50 ≤ a ∧ a ≤ 50)) := by
  unfold impl_isCents.f
  split <;> simp <;> omega
theorem impl_isC (l : List S99) (hl : l.length ≤ 1048576) : Ev (fun k => impl_IsComb.f k l) (decide (isC l)) := by
  unfold impl_IsComb.f
  by_cases h : 1 ≤ l.length ∧ l.length ≤ 40
  · refine ev_neg (by omega) (Ev.step (f := fun k => impl_IsComb.l0 k l l (l.length : Int) 0) (fun k => ?_) ?_)
    · simp only [impl_IsComb.j0]
      rw [if_neg (by simp; omega)]
    · refine all_loop (fun k i => impl_IsComb.l0 k l l (l.length : Int) i) l.length (combAt l) true _ (by simp [isC, h]) (fun k => ?_) (fun k i hi => ?_)
      · simp only [impl_IsComb.l0]
        rw [if_neg (by omega)]
      · have e1 : wrap64 ((i : Int) + 1) = i + 1 := by unfold wrap64; omega
        have e2 : wrap64 ((i : Int) - 1) = i - 1 := by unfold wrap64; omega
        have e4 : wrap64 ((i : Int) - 4) = i - 4 := by unfold wrap64; omega
        simp only [impl_IsComb.l0, isPitch_eq, isCents_eq, Option.bind_some, decide_eq_true_eq, e1, e2, e4]
        unfold combAt combOwn
        rw [if_pos (show (i : Int) < l.length by omega), if_pos (show (0 : Int) ≤ i by omega), if_pos (show (i : Int) < l.length by omega)]
        generalize rd_T99 l (i : Int) = p
        generalize rd_T99 l ((i : Int) - 1) = q1
        generalize rd_T99 l ((i : Int) - 4) = q4
        by_cases z1 : (i : Int) > 0
        · simp only [if_pos z1, if_pos (show (0 : Int) ≤ i - 1 by omega), if_pos (show (i : Int) - 1 < l.length by omega)]
          by_cases z4 : (i : Int) ≥ 4
          · simp only [if_pos z4, if_pos (show (0 : Int) ≤ i - 4 by omega), if_pos (show (i : Int) - 4 < l.length by omega)]
            constructor <;> intro h <;> (repeat' split) <;> first | rfl | (exfalso; omega)
          · simp only [if_neg z4]
            constructor <;> intro h <;> (repeat' split) <;> first | rfl | (exfalso; omega)
        · simp only [if_neg z1, if_neg (show ¬ (i : Int) ≥ 4 by omega)]
          constructor <;> intro h <;> (repeat' split) <;> first | rfl | (exfalso; omega)
  · have e : decide (isC l) = false := decide_eq_false (fun hp => h ⟨hp.1, hp.2.1⟩)
    rw [e]
    refine ev_ite (fun hc => Ev.step (f := fun _ => some false) (fun k => rfl) (Ev.now _)) (fun hc => Ev.step (f := fun _ => some false) (fun k => ?_) (Ev.now _))
    simp only [impl_IsComb.j0]
    rw [if_pos (by simp; omega)]

theorem l1In_eq (a b c : Int) : spec_l1In.f a b c = some (decide (b ≤ a ∧ a ≤ c)) := by
  unfold spec_l1In.f
  split <;> simp <;> omega

theorem ntPitch_eq (a : Int) : spec_ntPitch.f a = some (decide (24 ≤ a ∧ a ≤ 96)) := by
  unfold spec_ntPitch.f
  rw [l1In_eq]; rfl

theorem coOwn_eq (x : S99) {r : Bool} {f : Nat → Bool → Option Bool} (h : Ev (fun k => f k (!decide (combOwn x))) r) :
    Ev (fun k => (spec_ntPitch.f x.f0).bind fun t121 => (if t121 = true then ((spec_l1In.f x.f1 (-50) 50).bind fun t122 => (if t122 = true then ((spec_l1In.f x.f2 0 1).bind fun t123 => f k (!t123)) else f k true)) else f k true)) r := by
  refine Ev.congr (fun k => ?_) h
  simp only [ntPitch_eq, l1In_eq, Option.bind_some, decide_eq_true_eq]
  by_cases c1 : 24 ≤ x.f0 ∧ x.f0 ≤ 96
  · rw [if_pos c1]
    by_cases c2 : -50 ≤ x.f1 ∧ x.f1 ≤ 50
    · rw [if_pos c2]
      congr 2
      exact decide_eq_decide.2 (by unfold combOwn; omega)
    · rw [if_neg c2, decide_eq_false (show ¬ combOwn x by unfold combOwn; omega)]; rfl
  · rw [if_neg c1, decide_eq_false (show ¬ combOwn x by unfold combOwn; omega)]; rfl
theorem spec_isC (l : List S99) (hl : l.length ≤ 1048576) : Ev (fun k => spec_coGood.f k l) (decide (isC l)) := by
  unfold spec_coGood.f
  refine all_loop_g (fun k i => spec_coGood.l0 k l l (l.length : Int) i) l.length (combAt l) (decide (1 ≤ (l.length : Int) ∧ (l.length : Int) ≤ 40)) _ ?_ (fun _ => ?_) (fun i hi _ => ?_)
  · simp only [decide_eq_true_eq]
    unfold isC
    exact ⟨fun h => ⟨h.2.2, by omega, by omega⟩, fun h => ⟨by omega, by omega, h.1⟩⟩
  · refine Ev.step (f := fun k => (spec_l1In.f (l.length : Int) 1 40).bind fun t118 => (some t118)) (fun k => ?_) (ev_call (l1In_eq _ _ _) (Ev.now _))
    simp only [spec_coGood.l0]
    rw [if_neg (by omega)]
  · have e1 := wn hi (by omega)
    have e2 : wrap64 ((i : Int) - 1) = i - 1 := by unfold wrap64; omega
    have e4 : wrap64 ((i : Int) - 4) = i - 4 := by unfold wrap64; omega
    have hs : ∀ q, Ev (fun k => spec_coGood.j1 k l (i : Int) l (l.length : Int) (i : Int) (!decide (combOwn (rd_T99 l i))) ((rd_T99 l i).f0) ((rd_T99 l i).f1) ((rd_T99 l i).f2)) q → Ev (fun k => spec_coGood.l0 k l l (l.length : Int) (i : Int)) q := by
      intro q h
      refine Ev.step (fun k => ?_) (coOwn_eq (rd_T99 l i) (f := fun k t => spec_coGood.j1 k l (i : Int) l (l.length : Int) (i : Int) t ((rd_T99 l i).f0) ((rd_T99 l i).f1) ((rd_T99 l i).f2)) h)
      simp only [spec_coGood.l0]
      rw [if_pos (by omega), if_pos (by omega), if_pos (by omega)]
    constructor
    · intro hP q hq
      refine hs q ?_
      rw [decide_eq_true hP.1]
      refine Ev.step (fun k => ?_) hq
      have h2 := hP.2.1
      have h3 := hP.2.2
      simp only [spec_coGood.j1, e1, e2, e4, Bool.not_true, Bool.false_eq_true, ↓reduceIte]
      repeat' split
      all_goals first | rfl | (exfalso; omega)
    · intro hP
      refine hs false ?_
      by_cases hc : combOwn (rd_T99 l i)
      · rw [decide_eq_true hc]
        have hn : ¬ ((i > 0 → (rd_T99 l ((i : Int) - 1)).f0 ≤ (rd_T99 l i).f0) ∧ (i < 4 ∨ (rd_T99 l ((i : Int) - 4)).f0 < (rd_T99 l i).f0 ∨ (rd_T99 l i).f0 < (rd_T99 l ((i : Int) - 4)).f0)) := fun h => hP ⟨hc, h⟩
        refine Ev.step (f := fun _ => some false) (fun k => ?_) (Ev.now _)
        simp only [spec_coGood.j1, e1, e2, e4, Bool.not_true, Bool.false_eq_true, ↓reduceIte]
        repeat' split
        all_goals first | rfl | (exfalso; omega)
      · rw [decide_eq_false hc]
        exact Ev.step (f := fun _ => some false) (fun k => rfl) (Ev.now _)

def cvS (x : S104) : S97 := ⟨x.f0, x.f1⟩
theorem toStrikeS (l : List S104) (hl : l.length ≤ 1048576) : Ev (fun k => laws_toStrikeS.f k l) (l.map cvS) := by
  unfold laws_toStrikeS.f
  refine ev_pos (by omega) (ev_pos (by omega) ?_)
  exact map_loop (fun k ys i => laws_toStrikeS.l0 k l ys i) l z104 z97 (fun k x => laws_toStrike.f x.f0 x.f1) (fun bt => ⟨bt.1, bt.2⟩) (fun x => (x.f0, x.f1)) (fun k ys i => rfl) (fun x _ => ev_const rfl) (by omega)
theorem eqStrikeS (l : List S97) (hl : l.length ≤ 1048576) : Ev (fun k => laws_eqStrikeS.f k l l) true := by
  unfold laws_eqStrikeS.f
  refine ev_pos rfl ?_
  exact same_loop (fun k i => laws_eqStrikeS.l0 k l l i) l z97 (fun k x => laws_eqStrike.f x.f0 x.f1 x.f0 x.f1) (fun k i => rfl) (fun x _ => ev_const (by simp [laws_eqStrike.f])) (by omega)
theorem szStrikeS (l : List S104) (a : Int) (ha : 0 ≤ a ∧ a ≤ 1048576) (hl : l.length ≤ 9223372036854775807) : laws_szStrikeS.f l a = some (if (l.length : Int) ≤ a then a - (l.length : Int) else -1) := by
  have e : wrap64 (a - (l.length : Int)) = a - l.length := by unfold wrap64; omega
  simp only [laws_szStrikeS.f, e]
  repeat' split
  all_goals first | rfl | (exfalso; omega)
def okS (l : List S97) (i : Nat) : Prop := 24 ≤ (rd_T97 l i).f0 ∧ (rd_T97 l i).f0 ≤ 96 ∧ 0 ≤ (rd_T97 l i).f1 ∧ (rd_T97 l i).f1 ≤ 2000 ∧ (i > 0 → (rd_T97 l ((i : Int) - 1)).f1 ≤ (rd_T97 l i).f1)
instance (l : List S97) (i : Nat) : Decidable (okS l i) := by unfold okS; infer_instance
def areS (l : List S97) : Prop := (∀ i, i < l.length → okS l i) ∧ l.length ≤ 40
instance (l : List S97) : Decidable (areS l) := by unfold areS; infer_instance
theorem areS_iff (l : List S97) : decide (areS l) = true ↔ (∀ i, i < l.length → okS l i) ∧ decide ((l.length : Int) ≤ 40) = true := by
  simp only [decide_eq_true_eq]
  unfold areS
  exact ⟨fun h => ⟨h.1, by omega⟩, fun h => ⟨h.1, by omega⟩⟩
theorem impl_areS (l : List S97) (hl : l.length ≤ 1048576) : Ev (fun k => impl_AreStrikes.f k l) (decide (areS l)) := by
  refine all_loop (fun k i => impl_AreStrikes.l0 k l l (l.length : Int) i) l.length (okS l) _ _ (areS_iff l) (fun k => ?_) (fun k i hi => ?_)
  · simp only [impl_AreStrikes.l0]
    rw [if_neg (by omega)]
  · have e1 : wrap64 ((i : Int) + 1) = i + 1 := by unfold wrap64; omega
    simp only [impl_AreStrikes.l0, isPitch_eq, Option.bind_some, decide_eq_true_eq, e1]
    unfold okS
    by_cases hz : (i : Int) > 0
    · have e2 : wrap64 ((i : Int) - 1) = i - 1 := by unfold wrap64; omega
      simp only [e2]
      constructor <;> intro h <;> (repeat' split) <;> first | rfl | (exfalso; omega)
    · constructor <;> intro h <;> (repeat' split) <;> first | rfl | (exfalso; omega)
theorem spec_areS (l : List S97) (hl : l.length ≤ 1048576) : Ev (fun k => spec_coStrikes.f k l) (decide (areS l)) := by
  refine all_loop (fun k i => spec_coStrikes.l0 k l l (l.length : Int) i) l.length (okS l) _ _ (areS_iff l) (fun k => ?_) (fun k i hi => ?_)
  · simp only [spec_coStrikes.l0]
    rw [if_neg (by omega)]
  · have e1 : wrap64 ((i : Int) + 1) = i + 1 := by unfold wrap64; omega
    simp only [spec_coStrikes.l0, ntPitch_eq, l1In_eq, Option.bind_some, decide_eq_true_eq, e1]
    unfold okS
    by_cases hz : (i : Int) > 0
    · have e2 : wrap64 ((i : Int) - 1) = i - 1 := by unfold wrap64; omega
      simp only [e2]
      constructor <;> intro h <;> (repeat' split) <;> first | rfl | (exfalso; omega)
    · constructor <;> intro h <;> (repeat' split) <;> first | rfl | (exfalso; omega)
theorem areS_get {l : List S97} (h : areS l) {i : Nat} (hi : i < l.length) : 24 ≤ l[i].f0 ∧ l[i].f0 ≤ 96 ∧ 0 ≤ l[i].f1 ∧ l[i].f1 ≤ 2000 := by
  have := h.1 i hi
  have er : rd_T97 l (i : Int) = l[i] := by unfold rd_T97; rw [rd_get hi]
  unfold okS at this
  rw [er] at this
  omega

theorem spec_asked2 (l : List S99) (s : List S97) (rest : Int) (hl : l.length ≤ 1048576) (hsl : s.length ≤ 1048576) : Ev (fun k => spec_coAsked.f k l s rest) (decide (isC l ∧ areS s ∧ 1 ≤ rest ∧ rest ≤ 200)) := by
  unfold spec_coAsked.f
  simp only [l1In_eq, Option.bind_some]
  by_cases h1 : isC l
  · by_cases h2 : areS s
    · by_cases h3 : 1 ≤ rest ∧ rest ≤ 200
      · rw [decide_eq_true (show isC l ∧ areS s ∧ 1 ≤ rest ∧ rest ≤ 200 from ⟨h1, h2, h3⟩)]
        exact Ev.bind (spec_isC l hl) (ev_pos (decide_eq_true h1) (Ev.bind (spec_areS s hsl) (ev_pos (decide_eq_true h2) (ev_now (decide_eq_true h3)))))
      · rw [decide_eq_false (show ¬ (isC l ∧ areS s ∧ 1 ≤ rest ∧ rest ≤ 200) from fun h => h3 h.2.2)]
        exact Ev.bind (spec_isC l hl) (ev_pos (decide_eq_true h1) (Ev.bind (spec_areS s hsl) (ev_pos (decide_eq_true h2) (ev_now (decide_eq_false h3)))))
    · rw [decide_eq_false (show ¬ (isC l ∧ areS s ∧ 1 ≤ rest ∧ rest ≤ 200) from fun h => h2 h.2.1)]
      exact Ev.bind (spec_isC l hl) (ev_pos (decide_eq_true h1) (Ev.bind (spec_areS s hsl) (ev_neg (by simpa using h2) (Ev.now _))))
  · rw [decide_eq_false (show ¬ (isC l ∧ areS s ∧ 1 ≤ rest ∧ rest ≤ 200) from fun h => h1 h.1)]
    exact Ev.bind (spec_isC l hl) (ev_neg (by simpa using h1) (Ev.now _))

theorem teeth_ev (l : List S99) (p : Int) (hl : l.length ≤ 1048576) : ∃ r : List Int, Ev (fun k => spec_coTeeth.f k l p) r ∧ Ev (fun k => impl_teethOf.f k l p) r ∧ r.length ≤ l.length ∧ ∀ x ∈ r, 0 ≤ x ∧ x < l.length := by
  unfold spec_coTeeth.f impl_teethOf.f
  refine count_up l.length (fun i (a : List Int) => a.length ≤ i ∧ ∀ x ∈ a, 0 ≤ x ∧ x < l.length) (fun i a => ∃ r : List Int, Ev (fun k => spec_coTeeth.l0 k p a l (l.length : Int) (i : Int)) r ∧ Ev (fun k => impl_teethOf.l0 k p a l (l.length : Int) (i : Int)) r ∧ r.length ≤ l.length ∧ ∀ x ∈ r, 0 ≤ x ∧ x < l.length) (fun a ha => ?_) (fun i a hi ha ih => ?_) 0 [] (Nat.zero_le _) ⟨Nat.zero_le _, fun x hx => by cases hx⟩
  · refine ⟨a, Ev.step (f := fun _ => some a) (fun k => ?_) (Ev.now _), Ev.step (f := fun _ => some a) (fun k => ?_) (Ev.now _), ha⟩
    · simp only [spec_coTeeth.l0]
      rw [if_neg (by omega)]
    · simp only [impl_teethOf.l0]
      rw [if_neg (by omega)]
  · have e1 := wn hi (by omega)
    obtain ⟨ha1, ha2⟩ := ha
    by_cases c : (rd_T99 l i).f0 = p
    · obtain ⟨r, g1, g2, g3⟩ := ih (a ++ [(i : Int)]) ⟨by simp; omega, fun x hx => by
        rcases List.mem_append.1 hx with hx | hx
        · exact ha2 x hx
        · rw [List.mem_singleton.1 hx]; omega⟩
      refine ⟨r, Ev.step (fun k => ?_) g1, Ev.step (fun k => ?_) g2, g3⟩
      · simp only [spec_coTeeth.l0, e1]
        rw [if_pos (by omega), if_pos (by omega), if_pos (by omega), if_pos c, if_pos (by omega)]
      · simp only [impl_teethOf.l0, e1]
        rw [if_pos (by omega), if_pos (by omega), if_pos (by omega), if_pos c, if_pos (by omega)]
    · obtain ⟨r, g1, g2, g3⟩ := ih a ⟨by omega, ha2⟩
      refine ⟨r, Ev.step (fun k => ?_) g1, Ev.step (fun k => ?_) g2, g3⟩
      · simp only [spec_coTeeth.l0, e1]
        rw [if_pos (by omega), if_pos (by omega), if_pos (by omega), if_neg c]
      · simp only [impl_teethOf.l0, e1]
        rw [if_pos (by omega), if_pos (by omega), if_pos (by omega), if_neg c]

theorem eqIntS (l : List Int) (hl : l.length ≤ 1048576) : Ev (fun k => laws_eqIntS.f k l l) true := by
  unfold laws_eqIntS.f
  refine ev_pos rfl ?_
  refine same_loop (fun k i => laws_eqIntS.l0 k l l i) l (0 : Int) (fun k x => some true) (fun k i => ?_) (fun x _ => ev_const rfl) (by omega)
  simp only [laws_eqIntS.l0, Option.bind_some, ↓reduceIte]

theorem markIntS (l : List Int) (a : Int) (h0 : 0 ≤ a) (h1 : a ≤ 1099511627776) (hl : l.length ≤ 1048576) : Ev (fun k => laws_markIntS.f k l a) (a + l.length, (List.range l.length).map fun j : Nat => a + (j : Int)) := by
  unfold laws_markIntS.f
  have key : ∀ (d i : Nat) (ys : List Int), l.length - i = d → i ≤ l.length → ys.length = l.length → (∀ j, j < i → ys[j]? = some (a + (j : Int))) →
      Ev (fun k => laws_markIntS.l0 k ys (a + (i : Int)) (i : Int)) (a + l.length, (List.range l.length).map fun j : Nat => a + (j : Int)) := by
    intro d
    induction d with
    | zero =>
      intro i ys hd hi hy hp
      obtain rfl : i = l.length := by omega
      refine Ev.step (f := fun _ => some (a + (l.length : Int), ys)) (fun k => ?_) (ev_now ?_)
      · simp only [laws_markIntS.l0]
        rw [if_neg (by omega)]
      · congr 1
        refine List.ext_getElem? fun j => ?_
        by_cases hj : j < l.length
        · rw [hp j hj]; simp [hj]
        · rw [List.getElem?_eq_none (by omega), List.getElem?_eq_none (by simp; omega)]
    | succ d ih =>
      intro i ys hd hi hy hp
      have e1 : wrap64 ((i : Int) + 1) = ((i + 1 : Nat) : Int) := by unfold wrap64; omega
      have e2 : wrap64 (a + (i : Int) + 1) = a + ((i + 1 : Nat) : Int) := by unfold wrap64; omega
      refine Ev.step (f := fun k => laws_markIntS.l0 k (ys.set i (a + (i : Int))) (a + ((i + 1 : Nat) : Int)) ((i + 1 : Nat) : Int)) (fun k => ?_) (ih (i + 1) _ (by omega) (by omega) (by rw [List.length_set]; exact hy) (fun j hj => ?_))
      · simp only [laws_markIntS.l0, e1, e2, Int.toNat_natCast]
        rw [if_pos (by omega), if_pos (by omega)]
      · by_cases e : j = i
        · subst e
          rw [List.getElem?_set_self (by omega)]
        · rw [List.getElem?_set_ne (by omega)]
          exact hp j (by omega)
  have := key l.length 0 l (by omega) (by omega) rfl (fun j hj => absurd hj (by omega))
  simpa using this
theorem heldIntS (n : Nat) (a : Int) (h0 : 0 ≤ a) (h1 : a ≤ 1099511627776) (hl : n ≤ 1048576) : Ev (fun k => laws_heldIntS.f k ((List.range n).map fun j : Nat => a + (j : Int)) a) (a + n) := by
  unfold laws_heldIntS.f
  have key : ∀ (d i : Nat), n - i = d → i ≤ n → Ev (fun k => laws_heldIntS.l0 k ((List.range n).map fun j : Nat => a + (j : Int)) (a + (i : Int)) (i : Int)) (a + n) := by
    intro d
    induction d with
    | zero =>
      intro i hd hi
      obtain rfl : i = n := by omega
      refine Ev.step (f := fun _ => some (a + (i : Int))) (fun k => ?_) (ev_now rfl)
      simp only [laws_heldIntS.l0]
      rw [if_neg (by simp)]
    | succ d ih =>
      intro i hd hi
      have e1 : wrap64 ((i : Int) + 1) = ((i + 1 : Nat) : Int) := by unfold wrap64; omega
      have e2 : wrap64 (a + (i : Int) + 1) = a + ((i + 1 : Nat) : Int) := by unfold wrap64; omega
      refine Ev.step (fun k => ?_) (ih (i + 1) (by omega) (by omega))
      simp only [laws_heldIntS.l0, e1, e2]
      rw [if_pos (by simp; omega), if_pos (by omega), if_pos]
      unfold rd
      rw [rd_get (by simp; omega)]
      simp
  have := key n 0 (by omega) (by omega)
  simpa using this

theorem markToothS (l : List S99) (a : Int) (h0 : 0 ≤ a) (h1 : a ≤ 1099511627776) (hl : l.length ≤ 1048576) : Ev (fun k => laws_markToothS.f k l a) (a + (3 : Nat) * (l.length : Nat), (List.range l.length).map fun j : Nat => (⟨a + (3 : Nat) * j, a + (3 : Nat) * j + 1, a + (3 : Nat) * j + 2⟩ : S99)) := by
  unfold laws_markToothS.f
  refine mark_ev (fun k ys a i => laws_markToothS.l0 k ys a i) (fun a => (⟨a, a + 1, a + 2⟩ : S99)) 3 (by omega) l.length hl (fun k ys a hy => ?_) (fun k ys a i hy hi g0 g1 => ?_) l rfl a h0 h1
  · simp only [laws_markToothS.l0]
    rw [if_neg (by omega)]
  · have e1 : wrap64 ((i : Int) + 1) = i + 1 := by unfold wrap64; omega
    have e2 : wrap64 (a + 1) = a + 1 := by unfold wrap64; omega
    have e3 : wrap64 (a + 1 + 1) = a + 2 := by unfold wrap64; omega
    have e4 : wrap64 (a + 2 + 1) = a + (3 : Nat) := by unfold wrap64; omega
    have hi2 : i < ys.length := by omega
    simp only [laws_markToothS.l0, Option.bind_some, Int.toNat_natCast, rd_T99, e1, e2, e3, e4]
    rw [if_pos (by omega), if_pos (by omega)]
    simp [List.getElem?_set_self hi2, List.set_set, hi2]

theorem markStrikeS (l : List S97) (a : Int) (h0 : 0 ≤ a) (h1 : a ≤ 1099511627776) (hl : l.length ≤ 1048576) : Ev (fun k => laws_markStrikeS.f k l a) (a + (2 : Nat) * (l.length : Nat), (List.range l.length).map fun j : Nat => (⟨a + (2 : Nat) * j, a + (2 : Nat) * j + 1⟩ : S97)) := by
  unfold laws_markStrikeS.f
  refine mark_ev (fun k ys a i => laws_markStrikeS.l0 k ys a i) (fun a => (⟨a, a + 1⟩ : S97)) 2 (by omega) l.length hl (fun k ys a hy => ?_) (fun k ys a i hy hi g0 g1 => ?_) l rfl a h0 h1
  · simp only [laws_markStrikeS.l0]
    rw [if_neg (by omega)]
  · have e1 : wrap64 ((i : Int) + 1) = i + 1 := by unfold wrap64; omega
    have e2 : wrap64 (a + 1) = a + 1 := by unfold wrap64; omega
    have e3 : wrap64 (a + 1 + 1) = a + (2 : Nat) := by unfold wrap64; omega
    have hi2 : i < ys.length := by omega
    simp only [laws_markStrikeS.l0, Option.bind_some, Int.toNat_natCast, rd_T97, e1, e2, e3]
    rw [if_pos (by omega), if_pos (by omega)]
    simp [List.getElem?_set_self hi2, List.set_set]

def Gd (n m : Nat) (r : List Int × Bool) : Prop := r.1.length ≤ 1048576 ∧ (r.2 = true → r.1.length = m ∧ ∀ x ∈ r.1, 0 ≤ x ∧ x < n)
def Rel (n : Nat) (rest : Int) (x9 : List Int) (last : Int → Option Int) : Prop :=
  x9.length = n ∧ ∀ t : Nat, t < n → (last (t : Int) = none ∧ rd x9 (t : Int) = -rest) ∨ (∃ b, 0 ≤ b ∧ b ≤ 2000 ∧ last (t : Int) = some b ∧ rd x9 (t : Int) = b)
theorem rel_set {n : Nat} {rest : Int} {x9 : List Int} {last : Int → Option Int} (h : Rel n rest x9 last) {t : Nat} (ht : t < n) {v : Int} (h0 : 0 ≤ v) (h1 : v ≤ 2000) : Rel n rest (x9.set t v) (impl_giveTeeth.upd last (t : Int) v) := by
  refine ⟨by rw [List.length_set]; exact h.1, fun s hs => ?_⟩
  have hsl : s < (x9.set t v).length := by rw [List.length_set, h.1]; exact hs
  have r1 : rd (x9.set t v) (s : Int) = (x9.set t v)[s] := rd_get hsl
  rw [r1, List.getElem_set]
  by_cases e : t = s
  · subst e
    exact .inr ⟨v, h0, h1, by simp [impl_giveTeeth.upd], by simp⟩
  · have r2 : rd x9 (s : Int) = x9[s]'(by rw [h.1]; exact hs) := rd_get (by rw [h.1]; exact hs)
    have hu : impl_giveTeeth.upd last (t : Int) v (s : Int) = last (s : Int) := by
      unfold impl_giveTeeth.upd
      rw [if_neg (by omega)]
    rw [hu, if_neg e, ← r2]
    exact h.2 s hs
theorem wf_nat {n : Int} (h0 : 0 ≤ n) (h1 : n ≤ 1048576) : (Lit.int .i64 n).wf = true := wmk (by omega) (by omega)
theorem give_inner (l : List S99) (s : List S97) (rest step pitch : Int) (out x9 ts : List Int) (last : Int → Option Int) (i : Int) (hl : l.length ≤ 1048576) (hts : ts.length ≤ 1048576) (hin : ∀ x ∈ ts, 0 ≤ x ∧ x < l.length)
    (hr : 1 ≤ rest ∧ rest ≤ 200) (hs : 0 ≤ step ∧ step ≤ 2000) (hrel : Rel l.length rest x9 last) (ho : out.length ≤ 1048576)
    (hnext : ∀ g : Nat, g < l.length → ∃ r : List Int × Bool, Ev (fun k => spec_coGive.l1 k l rest (out ++ [(g : Int)]) (x9.set g step) s (s.length : Int) (wrap64 (i + 1))) r ∧ Ev (fun k => impl_giveTeeth.l0 k l rest (out ++ [(g : Int)]) (impl_giveTeeth.upd last (g : Int) step) s (s.length : Int) (wrap64 (i + 1))) r ∧ Gd l.length s.length r) :
    ∃ r : List Int × Bool, Ev (fun k => spec_coGive.l2 k l rest out x9 (-1) s (s.length : Int) i ts (ts.length : Int) 0 pitch step) r ∧ Ev (fun k => impl_giveTeeth.l1 k l rest out last s (s.length : Int) i step (-1) ts (ts.length : Int) 0) r ∧ Gd l.length s.length r := by
  refine count_up ts.length (fun _ (g : Int) => g = -1 ∨ (0 ≤ g ∧ g < l.length)) (fun j g => ∃ r : List Int × Bool, Ev (fun k => spec_coGive.l2 k l rest out x9 g s (s.length : Int) i ts (ts.length : Int) (j : Int) pitch step) r ∧ Ev (fun k => impl_giveTeeth.l1 k l rest out last s (s.length : Int) i step g ts (ts.length : Int) (j : Int)) r ∧ Gd l.length s.length r) (fun g hg => ?_) (fun j g hj hg ih => ?_) 0 (-1) (Nat.zero_le _) (.inl rfl)
  · rcases hg with rfl | ⟨hg0, hg1⟩
    · refine ⟨([], false), Ev.step (f := fun _ => some ([], false)) (fun k => ?_) (Ev.now _), Ev.step (f := fun _ => some ([], false)) (fun k => ?_) (Ev.now _), ⟨Nat.zero_le _, fun h => by cases h⟩⟩
      · simp only [spec_coGive.l2]
        rw [if_neg (by omega), if_pos (by omega)]
      · simp only [impl_giveTeeth.l1]
        rw [if_neg (by omega), if_pos (by omega)]
    · obtain ⟨n, rfl⟩ : ∃ n : Nat, g = n := ⟨g.toNat, by omega⟩
      obtain ⟨r, q1, q2, q3⟩ := hnext n (by omega)
      have hx := hrel.1
      refine ⟨r, Ev.step (fun k => ?_) q1, Ev.step (fun k => ?_) q2, q3⟩
      · simp only [spec_coGive.l2, Int.toNat_natCast]
        rw [if_neg (by omega), if_neg (by omega), if_pos (by omega), if_pos (by omega), if_pos (by omega)]
      · simp only [impl_giveTeeth.l1]
        rw [if_neg (by omega), if_neg (by omega), if_pos (wf_nat (by omega) (by omega)), if_pos (wf_nat (by omega) (by omega)), if_pos (by omega)]
  · have e1 := wn hj (by omega)
    have r1 : rd ts (j : Int) = ts[j] := rd_get hj
    have hb := hin _ (List.getElem_mem hj)
    have hx := hrel.1
    obtain ⟨n, hn⟩ : ∃ n : Nat, ts[j] = (n : Int) := ⟨ts[j].toNat, by omega⟩
    rw [hn] at r1 hb
    have hnl : n < l.length := by omega
    have key : ∀ c : Bool, (c = true ↔ (g < 0 ∧ (rest ≤ wrap64 (step - rd x9 (n : Int))))) →
        (∃ r : List Int × Bool, Ev (fun k => if c = true then spec_coGive.l2 k l rest out x9 (n : Int) s (s.length : Int) i ts (ts.length : Int) ((j + 1 : Nat) : Int) pitch step else spec_coGive.l2 k l rest out x9 g s (s.length : Int) i ts (ts.length : Int) ((j + 1 : Nat) : Int) pitch step) r ∧ Ev (fun k => if c = true then impl_giveTeeth.l1 k l rest out last s (s.length : Int) i step (n : Int) ts (ts.length : Int) ((j + 1 : Nat) : Int) else impl_giveTeeth.l1 k l rest out last s (s.length : Int) i step g ts (ts.length : Int) ((j + 1 : Nat) : Int)) r ∧ Gd l.length s.length r) := by
      intro c _
      cases c with
      | true =>
        obtain ⟨r, q1, q2, q3⟩ := ih (n : Int) (.inr ⟨by omega, by omega⟩)
        exact ⟨r, ev_pos rfl q1, ev_pos rfl q2, q3⟩
      | false =>
        obtain ⟨r, q1, q2, q3⟩ := ih g hg
        exact ⟨r, ev_neg (by simp) q1, ev_neg (by simp) q2, q3⟩
    obtain ⟨r, q1, q2, q3⟩ := key (decide (g < 0 ∧ (rest ≤ wrap64 (step - rd x9 (n : Int))))) (by simp)
    refine ⟨r, Ev.step (fun k => ?_) q1, Ev.step (fun k => ?_) q2, q3⟩
    · simp only [spec_coGive.l2, e1, r1, decide_eq_true_eq]
      rw [if_pos (by omega), if_pos (by omega), if_pos (by omega)]
      by_cases c : g < 0
      · rw [if_pos c, if_pos (by omega), if_pos (by omega)]
        by_cases d : rest ≤ wrap64 (step - rd x9 (n : Int))
        · rw [if_pos d, if_pos ⟨c, d⟩]
        · rw [if_neg d, if_neg (fun h => d h.2)]
      · rw [if_neg c, if_neg (fun h => c h.1)]
    · simp only [impl_giveTeeth.l1, e1, r1, decide_eq_true_eq]
      rw [if_pos (by omega), if_pos (by omega), if_pos (by omega), if_pos (wf_nat (by omega) (by omega))]
      by_cases c : g < 0
      · rw [if_pos c]
        rcases hrel.2 n hnl with ⟨h1, h2⟩ | ⟨b, b0, b1, h1, h2⟩
        · have d : rest ≤ wrap64 (step - rd x9 (n : Int)) := by rw [h2]; unfold wrap64; omega
          rw [h1, if_neg (by simp), if_pos ⟨c, d⟩]
        · rw [h1, if_pos (by simp), Option.getD_some, h2]
          by_cases d : rest ≤ wrap64 (step - b)
          · rw [if_pos d, if_pos ⟨c, d⟩]
          · rw [if_neg d, if_neg (fun h => d h.2)]
      · rw [if_neg c, if_neg (fun h => c h.1)]
end Go.Proofs.Ytjniaiobnbdhhac.PureFnExactDampersNeeded
