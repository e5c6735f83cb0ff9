/- The plain statement of FnExactCombText: the law's function, over numbers and lists, answers true. No conditions beyond the arguments' own kinds. -/
import Derived.Test.YtiekokdlcgpcdaaDoorRCombText7
import Derived.Test.YtiekokdlcgpcdaaDoorLib
namespace Go.Proofs.YtiekokdlcgpcdaaDoor.PureFnExactCombText
open Go Go.RowKit Go.Proofs.YtiekokdlcgpcdaaDoor.PFnExactCombText Go.Proofs.YtiekokdlcgpcdaaDoorW.PrintWords Go.Proofs.YtiekokdlcgpcdaaDoorW.PrintLast Go.Proofs.YtiekokdlcgpcdaaDoorW.PrintMore Go.Proofs.YtiekokdlcgpcdaaDoor.Lib
set_option linter.unusedVariables false
set_option linter.unusedSimpArgs false
/-- A loop that writes marks into every field of a list's elements: c a step. -/
theorem mark_ev {β : Type} (L : Nat → List β → Int → Int → Option (Int × List β)) (mk : Int → β) (c : Nat) (hc : c ≤ 8) (n : Nat) (hn : n ≤ 1048576) (hstop : ∀ k ys a, ys.length = n → L (k + 1) ys a (n : Int) = some (a, ys))
    (hgo : ∀ k ys a (i : Nat), ys.length = n → i < n → 0 ≤ a → a ≤ 2199023255552 → L (k + 1) ys a (i : Int) = L k (ys.set i (mk a)) (a + c) ((i : Int) + 1)) (l : List β) (hl : l.length = n) (a : Int) (h0 : 0 ≤ a) (h1 : a ≤ 1099511627776) :
    Ev (fun k => L k l a 0) (a + c * n, (List.range n).map fun j : Nat => mk (a + c * j)) := by
  have key : ∀ (d i : Nat) (ys : List β), n - i = d → i ≤ n → ys.length = n → (∀ j, j < i → ys[j]? = some (mk (a + c * (j : Int)))) →
      Ev (fun k => L k ys (a + c * (i : Int)) (i : Int)) (a + c * n, (List.range n).map fun j : Nat => mk (a + c * j)) := by
    intro d
    induction d with
    | zero =>
      intro i ys hd hi hy hp
      obtain rfl : i = n := by omega
      refine Ev.step (f := fun _ => some (a + c * (i : Int), ys)) (fun k => hstop k ys _ hy) (ev_now ?_)
      congr 1
      refine List.ext_getElem? fun j => ?_
      by_cases hj : j < i
      · rw [hp j hj]; simp [hj]
      · rw [List.getElem?_eq_none (by omega), List.getElem?_eq_none (by simp; omega)]
    | succ d ih =>
      intro i ys hd hi hy hp
      have hb : (c : Int) * i ≤ 8 * 1048576 := Int.mul_le_mul (by omega) (by omega) (by omega) (by omega)
      have hb0 : 0 ≤ (c : Int) * i := Int.mul_nonneg (by omega) (by omega)
      have e2 : a + (c : Int) * (i : Int) + c = a + c * ((i + 1 : Nat) : Int) := by rw [Int.natCast_add, Int.mul_add]; simp; omega
      refine Ev.step (fun k => hgo k ys _ i hy (by omega) (by omega) (by omega)) ?_
      rw [e2]
      refine ih (i + 1) _ (by omega) (by omega) (by rw [List.length_set]; exact hy) (fun j hj => ?_)
      by_cases e : j = i
      · subst e
        rw [List.getElem?_set_self (by omega)]
      · rw [List.getElem?_set_ne (by omega)]
        exact hp j (by omega)
  have := key n 0 l (by omega) (by omega) hl (fun j hj => absurd hj (by omega))
  simpa using this
/-- A loop that finds the marks again. -/
theorem held_ev {β : Type} (M : Nat → Int → Int → Option Int) (mk : Int → β) (c : Nat) (hc : c ≤ 8) (n : Nat) (hn : n ≤ 1048576) (a : Int) (h0 : 0 ≤ a) (h1 : a ≤ 1099511627776) (hstop : ∀ k a, M (k + 1) a (n : Int) = some a)
    (hgo : ∀ k b (i : Nat) (hi : i < ((List.range n).map fun j : Nat => mk (a + c * j)).length), ((List.range n).map fun j : Nat => mk (a + c * j))[i] = mk b → 0 ≤ b → b ≤ 2199023255552 → M (k + 1) b (i : Int) = M k (b + c) ((i : Int) + 1)) :
    Ev (fun k => M k a 0) (a + c * n) := by
  have key : ∀ (d i : Nat), n - i = d → i ≤ n → Ev (fun k => M k (a + c * (i : Int)) (i : Int)) (a + c * n) := by
    intro d
    induction d with
    | zero =>
      intro i hd hi
      obtain rfl : i = n := by omega
      exact Ev.step (f := fun _ => some (a + c * (i : Int))) (fun k => hstop k _) (ev_now rfl)
    | succ d ih =>
      intro i hd hi
      have hb : (c : Int) * i ≤ 8 * 1048576 := Int.mul_le_mul (by omega) (by omega) (by omega) (by omega)
      have hb0 : 0 ≤ (c : Int) * i := Int.mul_nonneg (by omega) (by omega)
      have e2 : a + (c : Int) * (i : Int) + c = a + c * ((i + 1 : Nat) : Int) := by rw [Int.natCast_add, Int.mul_add]; simp; omega
      refine Ev.step (fun k => hgo k _ i (by simp; omega) (by simp) (by omega) (by omega)) ?_
      rw [e2]
      exact ih (i + 1) (by omega) (by omega)
  have := key n 0 (by omega) (by omega)
  simpa using this
theorem rd_set {α : Type} {xs : List α} {z v : α} {i : Nat} (h : i < xs.length) : (xs.set i v).getD (i : Int).toNat z = v := by
  rw [Int.toNat_natCast, List.getD_eq_getElem?_getD, List.getElem?_set_self h]; rfl

def cvT (x : S41) : S38 := ⟨x.f0, x.f1, x.f2⟩
theorem toToothS (l : List S41) (hl : l.length ≤ 1048576) : Ev (fun k => laws_toToothS.f k l) (l.map cvT) := by
  unfold laws_toToothS.f
  refine ev_pos (by omega) (ev_pos (by omega) ?_)
  exact map_loop (fun k ys i => laws_toToothS.l0 k l ys i) l z41 z38 (fun k x => laws_toTooth.f x.f0 x.f1 x.f2) (fun bt => ⟨bt.1, bt.2.1, bt.2.2⟩) (fun x => (x.f0, x.f1, x.f2)) (fun k ys i => rfl) (fun x _ => ev_const rfl) (by omega)
theorem eqToothS (l : List S38) (hl : l.length ≤ 1048576) : Ev (fun k => laws_eqToothS.f k l l) true := by
  unfold laws_eqToothS.f
  refine ev_pos rfl ?_
  exact same_loop (fun k i => laws_eqToothS.l0 k l l i) l z38 (fun k x => laws_eqTooth.f x.f0 x.f1 x.f2 x.f0 x.f1 x.f2) (fun k i => rfl) (fun x _ => ev_const (by simp [laws_eqTooth.f])) (by omega)
theorem szToothS (l : List S41) (a : Int) (ha : 0 ≤ a ∧ a ≤ 1048576) (hl : l.length ≤ 9223372036854775807) : laws_szToothS.f l a = some (if (l.length : Int) ≤ a then a - (l.length : Int) else -1) := by
  have e : wrap64 (a - (l.length : Int)) = a - l.length := by unfold wrap64; omega
  simp only [laws_szToothS.f, e]
  repeat' split
  all_goals first | rfl | (exfalso; omega)

/-- A loop that counts up to n, and what is known of its answer. -/
theorem ev_for_ex {σ ρ : Type} (L : Nat → σ → Int → Option ρ) (n : Nat) (Inv : Nat → σ → Prop) (Post : ρ → Prop) (hstop : ∀ s, Inv n s → ∃ r, Ev (fun k => L k s (n : Int)) r ∧ Post r)
    (hgo : ∀ i s, i < n → Inv i s → (∀ s', Inv (i + 1) s' → ∃ r, Ev (fun k => L k s' ((i + 1 : Nat) : Int)) r ∧ Post r) → ∃ r, Ev (fun k => L k s (i : Int)) r ∧ Post r) :
    ∀ i s, i ≤ n → Inv i s → ∃ r, Ev (fun k => L k s (i : Int)) r ∧ Post r := by
  have key : ∀ d i : Nat, n - i = d → i ≤ n → ∀ s, Inv i s → ∃ r, Ev (fun k => L k s (i : Int)) r ∧ Post r := by
    intro d
    induction d with
    | zero =>
      intro i hd hi s hs
      obtain rfl : i = n := by omega
      exact hstop s hs
    | succ d ih =>
      intro i hd hi s hs
      exact hgo i s (by omega) hs (fun s' hs' => ih (i + 1) (by omega) (by omega) s' hs')
  intro i s hi hs
  exact key (n - i) i rfl hi s hs
theorem wn {i n : Nat} (h : i < n) (hn : n ≤ 9223372036854775807) : wrap64 ((i : Int) + 1) = ((i + 1 : Nat) : Int) := by unfold wrap64; omega
/-- Whatever holds at the end of a count, and at i if it holds at i + 1, holds from everywhere. -/
theorem count_up {σ : Type} (n : Nat) (Inv Q : Nat → σ → Prop) (hstop : ∀ s, Inv n s → Q n s) (hgo : ∀ i s, i < n → Inv i s → (∀ s', Inv (i + 1) s' → Q (i + 1) s') → Q i s) : ∀ i s, i ≤ n → Inv i s → Q i s := by
  have key : ∀ d i : Nat, n - i = d → i ≤ n → ∀ s, Inv i s → Q i s := by
    intro d
    induction d with
    | zero =>
      intro i hd hi s hs
      obtain rfl : i = n := by omega
      exact hstop s hs
    | succ d ih =>
      intro i hd hi s hs
      exact hgo i s (by omega) hs (fun s' hs' => ih (i + 1) (by omega) (by omega) s' hs')
  intro i s hi hs
  exact key (n - i) i rfl hi s hs

/-- A loop of checks whose rounds may call: what is known of the places before may be used. -/
theorem all_loop_g (L : Nat → Int → Option Bool) (n : Nat) (P : Nat → Prop) (fin r : Bool) (hr : r = true ↔ (∀ i, i < n → P i) ∧ fin = true) (hstop : (∀ i, i < n → P i) → Ev (fun k => L k (n : Int)) fin)
    (hgo : ∀ i : Nat, i < n → (∀ j, j < i → P j) → (P i → ∀ q, Ev (fun k => L k ((i + 1 : Nat) : Int)) q → Ev (fun k => L k (i : Int)) q) ∧ (¬ P i → Ev (fun k => L k (i : Int)) false)) : Ev (fun k => L k 0) r := by
  have key : ∀ d i : Nat, n - i = d → i ≤ n → (∀ j, j < i → P j) → Ev (fun k => L k (i : Int)) r := by
    intro d
    induction d with
    | zero =>
      intro i hd hi hp
      obtain rfl : i = n := by omega
      refine ev_eq (hstop hp) ?_
      rw [Bool.eq_iff_iff, hr]
      exact ⟨fun h => ⟨hp, h⟩, fun h => h.2⟩
    | succ d ih =>
      intro i hd hi hp
      have hlt : i < n := by omega
      by_cases hc : P i
      · refine (hgo i hlt hp).1 hc r (ih (i + 1) (by omega) (by omega) (fun j hj => ?_))
        by_cases e : j = i
        · exact e ▸ hc
        · exact hp j (by omega)
      · refine ev_eq ((hgo i hlt hp).2 hc) ?_
        cases hrr : r with
        | false => rfl
        | true => exact absurd ((hr.1 hrr).1 i hlt) hc
  exact key n 0 (by omega) (by omega) (fun j hj => absurd hj (by omega))
/-- A loop that leaves with 'bad' at the first place that is not as it should be, and else goes on behind the last. -/
theorem scan_loop {α : Type} (L : Nat → Int → Option α) (n : Nat) (C : Nat → Prop) (q bad : α) (hstop : (∀ j, j < n → C j) → Ev (fun k => L k (n : Int)) q) (hbad : ¬ (∀ j, j < n → C j) → q = bad)
    (hgo : ∀ k (j : Nat), j < n → (C j → L (k + 1) (j : Int) = L k ((j + 1 : Nat) : Int)) ∧ (¬ C j → L (k + 1) (j : Int) = some bad)) : Ev (fun k => L k 0) q := by
  have key : ∀ d i : Nat, n - i = d → i ≤ n → (∀ j, j < i → C j) → Ev (fun k => L k (i : Int)) q := by
    intro d
    induction d with
    | zero =>
      intro i hd hi hp
      obtain rfl : i = n := by omega
      exact hstop hp
    | succ d ih =>
      intro i hd hi hp
      have hlt : i < n := by omega
      by_cases hc : C i
      · refine Ev.step (fun k => (hgo k i hlt).1 hc) (ih (i + 1) (by omega) (by omega) (fun j hj => ?_))
        by_cases e : j = i
        · exact e ▸ hc
        · exact hp j (by omega)
      · exact Ev.step (fun k => (hgo k i hlt).2 hc) (ev_now (hbad (fun h => hc (h i hlt))).symm)
  exact key n 0 (by omega) (by omega) (fun j hj => absurd hj (by omega))
/-- Rounds that only go on. -/
theorem skip_loop {α : Type} (L : Nat → Int → Option α) (r : α) (a b : Nat) (hab : a ≤ b) (h : ∀ j : Nat, a ≤ j → j < b → Ev (fun k => L k ((j + 1 : Nat) : Int)) r → Ev (fun k => L k (j : Int)) r) (hb : Ev (fun k => L k (b : Int)) r) : Ev (fun k => L k (a : Int)) r := by
  have key : ∀ d i : Nat, b - i = d → a ≤ i → i ≤ b → Ev (fun k => L k (i : Int)) r := by
    intro d
    induction d with
    | zero =>
      intro i hd hi hi2
      obtain rfl : i = b := by omega
      exact hb
    | succ d ih =>
      intro i hd hi hi2
      exact h i hi (by omega) (ih (i + 1) (by omega) (by omega) (by omega))
  exact key (b - a) a rfl (Nat.le_refl _) hab
theorem first_or_none (C : Nat → Prop) (n : Nat) : (∀ j, j < n → ¬ C j) ∨ ∃ i, i < n ∧ C i ∧ ∀ j, j < i → ¬ C j := by
  induction n with
  | zero => exact .inl (fun j hj => absurd hj (by omega))
  | succ n ih =>
    rcases ih with h | ⟨i, hi, hc, h⟩
    · by_cases c : C n
      · exact .inr ⟨n, by omega, c, h⟩
      · refine .inl (fun j hj => ?_)
        by_cases e : j = n
        · exact e ▸ c
        · exact h j (by omega)
    · exact .inr ⟨i, by omega, hc, h⟩

/-! combs -/
def combOwn (x : S38) : Prop := 24 ≤ x.f0 ∧ x.f0 ≤ 96 ∧ -50 ≤ x.f1 ∧ x.f1 ≤ 50 ∧ 0 ≤ x.f2 ∧ x.f2 ≤ 1
instance (x : S38) : Decidable (combOwn x) := by unfold combOwn; infer_instance
def combAt (l : List S38) (i : Nat) : Prop := combOwn (rd_T38 l i) ∧ (i > 0 → (rd_T38 l ((i : Int) - 1)).f0 ≤ (rd_T38 l i).f0) ∧ (i < 4 ∨ (rd_T38 l ((i : Int) - 4)).f0 < (rd_T38 l i).f0 ∨ (rd_T38 l i).f0 < (rd_T38 l ((i : Int) - 4)).f0)
instance (l : List S38) (i : Nat) : Decidable (combAt l i) := by unfold combAt; infer_instance
def isC (l : List S38) : Prop := 1 ≤ l.length ∧ l.length ≤ 40 ∧ ∀ i, i < l.length → combAt l i
instance (l : List S38) : Decidable (isC l) := by unfold isC; infer_instance
theorem isC_get {l : List S38} (h : isC l) {i : Nat} (hi : i < l.length) : combOwn l[i] := by
  have := (h.2.2 i hi).1
  unfold rd_T38 at this
  rwa [rd_get hi] at this

theorem isPitch_eq (a : Int) : impl_isPitch.f a = some (decide (24 ≤ a ∧ a ≤ 96)) := by
  unfold impl_isPitch.f
  split <;> simp <;> omega

theorem isCents_eq (a : Int) : impl_isCents.f a = some (decide (-50 ≤ a ∧ a ≤ 50)) := by
  unfold impl_isCents.f
  split <;> simp <;> omega
theorem impl_isC (l : List S38) (hl : l.length ≤ 1048576) : Ev (fun k => impl_IsComb.f k l) (decide (isC l)) := by
  unfold impl_IsComb.f
  by_cases h : 1 ≤ l.length ∧ l.length ≤ 40
  · refine ev_neg (by omega) (Ev.step (f := fun k => impl_IsComb.l0 k l l (l.length : Int) 0) (fun k => ?_) ?_)
    · simp only [impl_IsComb.j0]
      rw [if_neg (by simp; omega)]
    · refine all_loop (fun k i => impl_IsComb.l0 k l l (l.length : Int) i) l.length (combAt l) true _ (by simp [isC, h]) (fun k => ?_) (fun k i hi => ?_)
      · simp only [impl_IsComb.l0]
        rw [if_neg (by omega)]
      · have e1 : wrap64 ((i : Int) + 1) = i + 1 := by unfold wrap64; omega
        have e2 : wrap64 ((i : Int) - 1) = i - 1 := by unfold wrap64; omega
        have e4 : wrap64 ((i : Int) - 4) = i - 4 := by unfold wrap64; omega
        simp only [impl_IsComb.l0, isPitch_eq, isCents_eq, Option.bind_some, decide_eq_true_eq, e1, e2, e4]
        unfold combAt combOwn
        rw [if_pos (show (i : Int) < l.length by omega), if_pos (show (0 : Int) ≤ i by omega), if_pos (show (i : Int) < l.length by omega)]
        generalize rd_T38 l (i : Int) = p
        generalize rd_T38 l ((i : Int) - 1) = q1
        generalize rd_T38 l ((i : Int) - 4) = q4
        by_cases z1 : (i : Int) > 0
        · simp only [if_pos z1, if_pos (show (0 : Int) ≤ i - 1 by omega), if_pos (show (i : Int) - 1 < l.length by omega)]
          by_cases z4 : (i : Int) ≥ 4
          · simp only [if_pos z4, if_pos (show (0 : Int) ≤ i - 4 by omega), if_pos (show (i : Int) - 4 < l.length by omega)]
            constructor <;> intro h <;> (repeat' split) <;> first | rfl | (exfalso; omega)
          · simp only [if_neg z4]
            constructor <;> intro h <;> (repeat' split) <;> first | rfl | (exfalso; omega)
        · simp only [if_neg z1, if_neg (show ¬ (i : Int) ≥ 4 by omega)]
          constructor <;> intro h <;> (repeat' split) <;> first | rfl | (exfalso; omega)
  · have e : decide (isC l) = false := decide_eq_false (fun hp => h ⟨hp.1, hp.2.1⟩)
    rw [e]
    refine ev_ite (fun hc => Ev.step (f := fun _ => some false) (fun k => rfl) (Ev.now _)) (fun hc => Ev.step (f := fun _ => some false) (fun k => ?_) (Ev.now _))
    simp only [impl_IsComb.j0]
    rw [if_pos (by simp; omega)]

theorem l1In_eq (a b c : Int) : spec_l1In.f a b c = some (decide (b ≤ a ∧ a ≤ c)) := by
  unfold spec_l1In.f
  split <;> simp <;> omega

theorem ntPitch_eq (a : Int) : spec_ntPitch.f a = some (decide (24 ≤ a ∧ a ≤ 96)) := by
  unfold spec_ntPitch.f
  rw [l1In_eq]; rfl

theorem coOwn_eq (x : S38) {r : Bool} {f : Nat → Bool → Option Bool} (h : Ev (fun k => f k (!decide (combOwn x))) r) :
    Ev (fun k => (spec_ntPitch.f x.f0).bind fun t121 => (if t121 = true then ((spec_l1In.f x.f1 (-50) 50).bind fun t122 => (if t122 = true then ((spec_l1In.f x.f2 0 1).bind fun t123 => f k (!t123)) else f k true)) else f k true)) r := by
  refine Ev.congr (fun k => ?_) h
  simp only [ntPitch_eq, l1In_eq, Option.bind_some, decide_eq_true_eq]
  by_cases c1 : 24 ≤ x.f0 ∧ x.f0 ≤ 96
  · rw [if_pos c1]
    by_cases c2 : -50 ≤ x.f1 ∧ x.f1 ≤ 50
    · rw [if_pos c2]
      congr 2
      exact decide_eq_decide.2 (by unfold combOwn; omega)
    · rw [if_neg c2, decide_eq_false (show ¬ combOwn x by unfold combOwn; omega)]; rfl
  · rw [if_neg c1, decide_eq_false (show ¬ combOwn x by unfold combOwn; omega)]; rfl
theorem spec_isC (l : List S38) (hl : l.length ≤ 1048576) : Ev (fun k => spec_coGood.f k l) (decide (isC l)) := by
  unfold spec_coGood.f
  refine all_loop_g (fun k i => spec_coGood.l0 k l l (l.length : Int) i) l.length (combAt l) (decide (1 ≤ (l.length : Int) ∧ (l.length : Int) ≤ 40)) _ ?_ (fun _ => ?_) (fun i hi _ => ?_)
  · simp only [decide_eq_true_eq]
    unfold isC
    exact ⟨fun h => ⟨h.2.2, by omega, by omega⟩, fun h => ⟨by omega, by omega, h.1⟩⟩
  · refine Ev.step (f := fun k => (spec_l1In.f (l.length : Int) 1 40).bind fun t118 => (some t118)) (fun k => ?_) (ev_call (l1In_eq _ _ _) (Ev.now _))
    simp only [spec_coGood.l0]
    rw [if_neg (by omega)]
  · have e1 := wn hi (by omega)
    have e2 : wrap64 ((i : Int) - 1) = i - 1 := by unfold wrap64; omega
    have e4 : wrap64 ((i : Int) - 4) = i - 4 := by unfold wrap64; omega
    have hs : ∀ q, Ev (fun k => spec_coGood.j1 k l (i : Int) l (l.length : Int) (i : Int) (!decide (combOwn (rd_T38 l i))) ((rd_T38 l i).f0) ((rd_T38 l i).f1) ((rd_T38 l i).f2)) q → Ev (fun k => spec_coGood.l0 k l l (l.length : Int) (i : Int)) q := by
      intro q h
      refine Ev.step (fun k => ?_) (coOwn_eq (rd_T38 l i) (f := fun k t => spec_coGood.j1 k l (i : Int) l (l.length : Int) (i : Int) t ((rd_T38 l i).f0) ((rd_T38 l i).f1) ((rd_T38 l i).f2)) h)
      simp only [spec_coGood.l0]
      rw [if_pos (by omega), if_pos (by omega), if_pos (by omega)]
    constructor
    · intro hP q hq
      refine hs q ?_
      rw [decide_eq_true hP.1]
      refine Ev.step (fun k => ?_) hq
      have h2 := hP.2.1
      have h3 := hP.2.2
      simp only [spec_coGood.j1, e1, e2, e4, Bool.not_true, Bool.false_eq_true, ↓reduceIte]
      repeat' split
      all_goals first | rfl | (exfalso; omega)
    · intro hP
      refine hs false ?_
      by_cases hc : combOwn (rd_T38 l i)
      · rw [decide_eq_true hc]
        have hn : ¬ ((i > 0 → (rd_T38 l ((i : Int) - 1)).f0 ≤ (rd_T38 l i).f0) ∧ (i < 4 ∨ (rd_T38 l ((i : Int) - 4)).f0 < (rd_T38 l i).f0 ∨ (rd_T38 l i).f0 < (rd_T38 l ((i : Int) - 4)).f0)) := fun h => hP ⟨hc, h⟩
        refine Ev.step (f := fun _ => some false) (fun k => ?_) (Ev.now _)
        simp only [spec_coGood.j1, e1, e2, e4, Bool.not_true, Bool.false_eq_true, ↓reduceIte]
        repeat' split
        all_goals first | rfl | (exfalso; omega)
      · rw [decide_eq_false hc]
        exact Ev.step (f := fun _ => some false) (fun k => rfl) (Ev.now _)

theorem ba_ext {a b : ByteArray} (h : a.data.toList = b.data.toList) : a = b := by
  cases a with
  | mk x => cases b with
    | mk y =>
      have : x = y := by
        apply Array.ext'
        exact h
      rw [this]
theorem strOne (d : Int) (h0 : 0 ≤ d) (h1 : d ≤ 9) : strOfNums [(wrap64 (48 + d)) % 256] = ⟨#[UInt8.ofNat (48 + d.toNat)]⟩ := by
  have e : (wrap64 (48 + d)) % 256 = ((48 + d.toNat : Nat) : Int) := by unfold wrap64; omega
  rw [e]
  rfl
theorem dec_len : ∀ n : Nat, (Lib.decDigits n).length ≤ n + 1 := by
  intro n
  induction n using Nat.strongRecOn with
  | _ n ih =>
    rw [Lib.decDigits]
    split
    · simp
    · have := ih (n / 10) (by omega)
      rw [List.length_append]
      simp only [List.length_cons, List.length_nil]
      omega
/-- spec.l1Num: decimal digits. -/
theorem num_ev : ∀ n : Nat, n ≤ 9223372036854775807 → Ev (fun k => spec_l1Num.f k (n : Int)) ⟨(Lib.decDigits n).toArray⟩ := by
  intro n
  induction n using Nat.strongRecOn with
  | _ n ih =>
    intro hn
    by_cases c : n < 10
    · refine Ev.step (f := fun _ => some (⟨(Lib.decDigits n).toArray⟩ : ByteArray)) (fun k => ?_) (Ev.now _)
      simp only [spec_l1Num.f]
      rw [if_pos (by omega), strOne _ (by omega) (by omega), Lib.decDigits_one c, Int.toNat_natCast]
    · have e1 : wrap64 (Int.tdiv (n : Int) 10) = ((n / 10 : Nat) : Int) := by rw [Int.tdiv_eq_ediv_of_nonneg (by omega)]; unfold wrap64; omega
      have e2 : Int.tmod (n : Int) 10 = ((n % 10 : Nat) : Int) := by rw [Int.tmod_eq_emod_of_nonneg (by omega)]; omega
      have hd : Lib.decDigits n = Lib.decDigits (n / 10) ++ [UInt8.ofNat (48 + n % 10)] := by rw [Lib.decDigits, dif_neg c]
      have hlen := dec_len (n / 10)
      refine Ev.step (f := fun k => (spec_l1Num.f k ((n / 10 : Nat) : Int)).bind fun t => if t.size + (⟨#[UInt8.ofNat (48 + n % 10)]⟩ : ByteArray).size ≤ 9223372036854775807 then some (t ++ (⟨#[UInt8.ofNat (48 + n % 10)]⟩ : ByteArray)) else none) (fun k => ?_) (Ev.bind (ih (n / 10) (by omega) (by omega)) (ev_pos ?_ (ev_now ?_)))
      · simp only [spec_l1Num.f, e1, e2, Option.bind_some]
        rw [if_neg (by omega), strOne _ (by omega) (by omega), Int.toNat_natCast]
      · show (Lib.decDigits (n / 10)).toArray.size + 1 ≤ _
        rw [List.size_toArray]
        omega
      · refine ba_ext ?_
        rw [ByteArray.data_append, hd]
        simp
theorem int_ev (n : Int) (h0 : -1000000000 ≤ n) (h1 : n ≤ 1000000000) : Ev (fun k => spec_l1Int.f k n) ⟨(Lib.itoa n).toArray⟩ := by
  unfold spec_l1Int.f
  by_cases c : n < 0
  · obtain ⟨u, hu⟩ : ∃ u : Nat, n = -(u : Int) := ⟨n.natAbs, by omega⟩
    have e1 : wrap64 (-n) = (u : Int) := by unfold wrap64; omega
    have hlen := dec_len u
    simp only [e1]
    refine ev_pos c (Ev.bind (num_ev u (by omega)) (ev_pos ?_ (ev_now ?_)))
    · show 1 + (Lib.decDigits u).toArray.size ≤ _
      rw [List.size_toArray]
      omega
    · rw [hu, Lib.itoa_neg u (by omega)]
      refine ba_ext ?_
      rw [ByteArray.data_append]
      simp
  · obtain ⟨u, rfl⟩ : ∃ u : Nat, n = (u : Int) := ⟨n.toNat, by omega⟩
    rw [Lib.itoa_nonneg]
    exact ev_neg c (Ev.bind (num_ev u (by omega)) (Ev.now _))
theorem itoa_f (n : Int) (h0 : -1000000000 ≤ n) (h1 : n ≤ 1000000000) : strconv_Itoa_37.f n = some ⟨(Lib.itoa n).toArray⟩ := by
  unfold strconv_Itoa_37.f
  rw [if_pos ⟨by omega, by omega⟩]
theorem itoa_size (n : Int) : (⟨(Lib.itoa n).toArray⟩ : ByteArray).size ≤ n.natAbs + 2 := by
  show (Lib.itoa n).toArray.size ≤ n.natAbs + 2
  rw [List.size_toArray]
  unfold Lib.itoa
  split
  · have := dec_len n.natAbs
    rw [List.length_cons]
    omega
  · have := dec_len n.toNat
    omega

def names : List ByteArray := [(⟨#[99]⟩ : ByteArray), (⟨#[99, 35]⟩ : ByteArray), (⟨#[100]⟩ : ByteArray), (⟨#[100, 35]⟩ : ByteArray), (⟨#[101]⟩ : ByteArray), (⟨#[102]⟩ : ByteArray), (⟨#[102, 35]⟩ : ByteArray), (⟨#[103]⟩ : ByteArray), (⟨#[103, 35]⟩ : ByteArray), (⟨#[97]⟩ : ByteArray), (⟨#[97, 35]⟩ : ByteArray), (⟨#[98]⟩ : ByteArray)]
def nameOf (p : Int) : ByteArray := rdOf ByteArray.empty names (Int.tmod p 12) ++ ⟨(Lib.itoa (Int.tdiv p 12)).toArray⟩
theorem names_size (i : Int) (h0 : 0 ≤ i) (h1 : i < 12) : (rdOf ByteArray.empty names i).size ≤ 2 := by
  obtain ⟨n, rfl⟩ : ∃ n : Nat, i = (n : Int) := ⟨i.toNat, by omega⟩
  have key : ∀ m : Fin 12, (rdOf ByteArray.empty names ((m.val : Nat) : Int)).size ≤ 2 := by decide
  exact key ⟨n, by omega⟩
theorem name_ev (p : Int) (h0 : 24 ≤ p) (h1 : p ≤ 96) : Ev (fun k => spec_ntName.f k p) (nameOf p) ∧ impl_pitchName.f p = some (nameOf p) ∧ (nameOf p).size ≤ 30 := by
  have m1 : Int.tmod p 12 = p % 12 := Int.tmod_eq_emod_of_nonneg (by omega)
  have d1 : Int.tdiv p 12 = p / 12 := Int.tdiv_eq_ediv_of_nonneg (by omega)
  have hm0 : 0 ≤ Int.tmod p 12 := by omega
  have hm1 : Int.tmod p 12 < 12 := by omega
  have hd0 : 0 ≤ Int.tdiv p 12 := by omega
  have hd1 : Int.tdiv p 12 ≤ 8 := by omega
  have e1 : wrap64 (Int.tdiv p 12) = Int.tdiv p 12 := by unfold wrap64; omega
  have hs := names_size _ hm0 hm1
  have hi := itoa_size (Int.tdiv p 12)
  obtain ⟨u, hu⟩ : ∃ u : Nat, Int.tdiv p 12 = (u : Int) := ⟨(Int.tdiv p 12).toNat, by omega⟩
  have hnum : Ev (fun k => spec_l1Num.f k (Int.tdiv p 12)) ⟨(Lib.itoa (Int.tdiv p 12)).toArray⟩ := by
    rw [hu, Lib.itoa_nonneg]
    exact num_ev u (by omega)
  refine ⟨?_, ?_, ?_⟩
  · unfold spec_ntName.f spec_ntNames.f
    simp only [Option.bind_some, e1]
    exact ev_pos hm0 (ev_pos hm1 (Ev.bind hnum (ev_pos (show (rdOf ByteArray.empty names (Int.tmod p 12)).size + _ ≤ _ by omega) (Ev.now _))))
  · unfold impl_pitchName.f
    simp only [Option.bind_some, e1, itoa_f _ (show -1000000000 ≤ Int.tdiv p 12 by omega) (show Int.tdiv p 12 ≤ 1000000000 by omega)]
    have hz : (rdOf ByteArray.empty names (Int.tmod p 12)).size + (⟨(Lib.itoa (Int.tdiv p 12)).toArray⟩ : ByteArray).size ≤ 9223372036854775807 := by omega
    rw [if_pos hm0, if_pos (by exact hm1), if_pos (by exact hz)]
    rfl
  · unfold nameOf
    rw [ByteArray.size_append]
    omega
theorem words1 (n : Int) (h0 : -1000000000 ≤ n) (h1 : n ≤ 1000000000) : Ev (fun k => impl_words.f k [n]) ⟨(Lib.itoa n).toArray⟩ := by
  unfold impl_words.f
  have hs := itoa_size n
  refine Ev.step (f := fun k => impl_words.l0 k [⟨(Lib.itoa n).toArray⟩] [n] 1 1) (fun k => ?_) (Ev.step (f := fun _ => some (⟨(Lib.itoa n).toArray⟩ : ByteArray)) (fun k => ?_) (Ev.now _))
  · simp only [impl_words.l0]
    have r0 : rd [n] 0 = n := rfl
    rw [if_pos (by simp), if_pos (by omega), if_pos (by simp), r0, itoa_f n h0 h1, Option.bind_some, if_pos (by simp)]
    have ew : wrap64 (0 + 1) = 1 := by unfold wrap64; omega
    rw [ew]
    rfl
  · simp only [impl_words.l0]
    rw [if_neg (by omega)]
    unfold strings_Join.f
    have hj : Lib.join ([(⟨(Lib.itoa n).toArray⟩ : ByteArray)].map (·.data.toList)) (⟨#[32]⟩ : ByteArray).data.toList = Lib.itoa n := by
      rw [List.map_cons, List.map_nil, Lib.join_one]
    have hsz : (Lib.itoa n).length ≤ 140737488355328 := by
      have : (Lib.itoa n).toArray.size ≤ n.natAbs + 2 := hs
      rw [List.size_toArray] at this
      omega
    rw [hj, if_pos ⟨by simp, hsz⟩, Option.bind_some]
def lineOf (x : S38) : ByteArray := (nameOf x.f0 ++ (⟨#[32]⟩ : ByteArray)) ++ (⟨(Lib.itoa x.f1).toArray⟩ : ByteArray)
theorem lineOf_size (x : S38) (h : combOwn x) : (lineOf x).size ≤ 85 := by
  obtain ⟨a, b, c, d, _, _⟩ := h
  have h1 := (name_ev x.f0 a b).2.2
  have h2 := itoa_size x.f1
  unfold lineOf
  rw [ByteArray.size_append, ByteArray.size_append]
  have h3 : (⟨#[32]⟩ : ByteArray).size = 1 := rfl
  omega
theorem text_loop (l : List S38) (hc : isC l) : ∃ r : ByteArray × Bool, Ev (fun k => spec_CombText.l0 k (⟨#[]⟩ : ByteArray) l (l.length : Int) 0) r ∧ Ev (fun k => impl_CombText.l0 k (⟨#[]⟩ : ByteArray) l (l.length : Int) 0) r := by
  have h40 := hc.2.1
  refine count_up l.length (fun i (s : ByteArray) => s.size ≤ 100 * i) (fun i s => ∃ r : ByteArray × Bool, Ev (fun k => spec_CombText.l0 k s l (l.length : Int) (i : Int)) r ∧ Ev (fun k => impl_CombText.l0 k s l (l.length : Int) (i : Int)) r) (fun s _ => ?_) (fun i s hi hs ih => ?_) 0 (⟨#[]⟩ : ByteArray) (Nat.zero_le _) (Nat.le_refl _)
  · refine ⟨(s, true), Ev.step (f := fun _ => some (s, true)) (fun k => ?_) (Ev.now _), Ev.step (f := fun _ => some (s, true)) (fun k => ?_) (Ev.now _)⟩
    · simp only [spec_CombText.l0]
      rw [if_neg (by omega)]
    · simp only [impl_CombText.l0]
      rw [if_neg (by omega)]
  · have e1 := wn hi (by omega)
    have hx : combOwn (rd_T38 l (i : Int)) := (hc.2.2 i hi).1
    have hx2 := hx
    obtain ⟨a, b, c, d, _, _⟩ := hx2
    obtain ⟨n1, n2, n3⟩ := name_ev _ a b
    have i1 := int_ev (rd_T38 l (i : Int)).f1 (by omega) (by omega)
    have w1 := words1 (rd_T38 l (i : Int)).f1 (by omega) (by omega)
    have z1 := itoa_size (rd_T38 l (i : Int)).f1
    have z2 := lineOf_size _ hx
    have z3 : (nameOf (rd_T38 l (i : Int)).f0 ++ (⟨#[32]⟩ : ByteArray)).size = (nameOf (rd_T38 l (i : Int)).f0).size + 1 := by rw [ByteArray.size_append]; rfl
    have z4 : (s ++ lineOf (rd_T38 l (i : Int))).size = s.size + (lineOf (rd_T38 l (i : Int))).size := ByteArray.size_append
    have z5 : ((s ++ lineOf (rd_T38 l (i : Int))) ++ (⟨#[32, 100, 97, 109, 112, 101, 114]⟩ : ByteArray)).size = s.size + (lineOf (rd_T38 l (i : Int))).size + 7 := by rw [ByteArray.size_append, z4]; rfl
    by_cases cd : (rd_T38 l (i : Int)).f2 = 1
    · obtain ⟨r, g1, g2⟩ := ih (((s ++ lineOf (rd_T38 l (i : Int))) ++ (⟨#[32, 100, 97, 109, 112, 101, 114]⟩ : ByteArray)) ++ (⟨#[10]⟩ : ByteArray)) (by rw [ByteArray.size_append, z5]; have : (⟨#[10]⟩ : ByteArray).size = 1 := rfl; omega)
      refine ⟨r, Ev.step (f := fun k => (spec_ntName.f k ((rd_T38 l (i : Int)).f0)).bind fun t => if t.size + 1 ≤ 9223372036854775807 then ((spec_l1Int.f k ((rd_T38 l (i : Int)).f1)).bind fun u => if (t ++ (⟨#[32]⟩ : ByteArray)).size + u.size ≤ 9223372036854775807 then (if s.size + ((t ++ (⟨#[32]⟩ : ByteArray)) ++ u).size ≤ 9223372036854775807 then (if (s ++ ((t ++ (⟨#[32]⟩ : ByteArray)) ++ u)).size + 7 ≤ 9223372036854775807 then (if ((s ++ ((t ++ (⟨#[32]⟩ : ByteArray)) ++ u)) ++ (⟨#[32, 100, 97, 109, 112, 101, 114]⟩ : ByteArray)).size + 1 ≤ 9223372036854775807 then spec_CombText.l0 k (((s ++ ((t ++ (⟨#[32]⟩ : ByteArray)) ++ u)) ++ (⟨#[32, 100, 97, 109, 112, 101, 114]⟩ : ByteArray)) ++ (⟨#[10]⟩ : ByteArray)) l (l.length : Int) ((i + 1 : Nat) : Int) else none) else none) else none) else none) else none) (fun k => ?_) (Ev.bind n1 (ev_pos (by omega) (Ev.bind i1 (ev_pos (by omega) (ev_pos (show s.size + (lineOf (rd_T38 l (i : Int))).size ≤ _ by omega) (ev_pos (show (s ++ lineOf (rd_T38 l (i : Int))).size + 7 ≤ _ by omega) (ev_pos (show ((s ++ lineOf (rd_T38 l (i : Int))) ++ (⟨#[32, 100, 97, 109, 112, 101, 114]⟩ : ByteArray)).size + 1 ≤ _ by omega) g1))))))),
        Ev.step (f := fun k => (impl_words.f k [(rd_T38 l (i : Int)).f1]).bind fun u => if ((nameOf (rd_T38 l (i : Int)).f0) ++ (⟨#[32]⟩ : ByteArray)).size + u.size ≤ 9223372036854775807 then (if s.size + (((nameOf (rd_T38 l (i : Int)).f0) ++ (⟨#[32]⟩ : ByteArray)) ++ u).size ≤ 140737488355328 then (if (s ++ (((nameOf (rd_T38 l (i : Int)).f0) ++ (⟨#[32]⟩ : ByteArray)) ++ u)).size + 7 ≤ 140737488355328 then (if ((s ++ (((nameOf (rd_T38 l (i : Int)).f0) ++ (⟨#[32]⟩ : ByteArray)) ++ u)) ++ (⟨#[32, 100, 97, 109, 112, 101, 114]⟩ : ByteArray)).size + 1 ≤ 140737488355328 then impl_CombText.l0 k (((s ++ (((nameOf (rd_T38 l (i : Int)).f0) ++ (⟨#[32]⟩ : ByteArray)) ++ u)) ++ (⟨#[32, 100, 97, 109, 112, 101, 114]⟩ : ByteArray)) ++ (⟨#[10]⟩ : ByteArray)) l (l.length : Int) ((i + 1 : Nat) : Int) else none) else none) else none) else none) (fun k => ?_) (Ev.bind w1 (ev_pos (by omega) (ev_pos (show s.size + (lineOf (rd_T38 l (i : Int))).size ≤ _ by omega) (ev_pos (show (s ++ lineOf (rd_T38 l (i : Int))).size + 7 ≤ _ by omega) (ev_pos (show ((s ++ lineOf (rd_T38 l (i : Int))) ++ (⟨#[32, 100, 97, 109, 112, 101, 114]⟩ : ByteArray)).size + 1 ≤ _ by omega) g2)))))⟩
      · simp only [spec_CombText.l0, e1]
        rw [if_pos (by omega), if_pos (by omega), if_pos (by omega)]
        simp only [if_pos cd]
      · simp only [impl_CombText.l0, e1, n2, Option.bind_some]
        rw [if_pos (by omega), if_pos (by omega), if_pos (by omega), if_pos (by omega)]
        simp only [if_pos cd]
    · obtain ⟨r, g1, g2⟩ := ih ((s ++ lineOf (rd_T38 l (i : Int))) ++ (⟨#[10]⟩ : ByteArray)) (by rw [ByteArray.size_append, z4]; have : (⟨#[10]⟩ : ByteArray).size = 1 := rfl; omega)
      refine ⟨r, Ev.step (f := fun k => (spec_ntName.f k ((rd_T38 l (i : Int)).f0)).bind fun t => if t.size + 1 ≤ 9223372036854775807 then ((spec_l1Int.f k ((rd_T38 l (i : Int)).f1)).bind fun u => if (t ++ (⟨#[32]⟩ : ByteArray)).size + u.size ≤ 9223372036854775807 then (if s.size + ((t ++ (⟨#[32]⟩ : ByteArray)) ++ u).size ≤ 9223372036854775807 then (if (s ++ ((t ++ (⟨#[32]⟩ : ByteArray)) ++ u)).size + 1 ≤ 9223372036854775807 then spec_CombText.l0 k ((s ++ ((t ++ (⟨#[32]⟩ : ByteArray)) ++ u)) ++ (⟨#[10]⟩ : ByteArray)) l (l.length : Int) ((i + 1 : Nat) : Int) else none) else none) else none) else none) (fun k => ?_) (Ev.bind n1 (ev_pos (by omega) (Ev.bind i1 (ev_pos (by omega) (ev_pos (show s.size + (lineOf (rd_T38 l (i : Int))).size ≤ _ by omega) (ev_pos (show (s ++ lineOf (rd_T38 l (i : Int))).size + 1 ≤ _ by omega) g1)))))),
        Ev.step (f := fun k => (impl_words.f k [(rd_T38 l (i : Int)).f1]).bind fun u => if ((nameOf (rd_T38 l (i : Int)).f0) ++ (⟨#[32]⟩ : ByteArray)).size + u.size ≤ 9223372036854775807 then (if s.size + (((nameOf (rd_T38 l (i : Int)).f0) ++ (⟨#[32]⟩ : ByteArray)) ++ u).size ≤ 140737488355328 then (if (s ++ (((nameOf (rd_T38 l (i : Int)).f0) ++ (⟨#[32]⟩ : ByteArray)) ++ u)).size + 1 ≤ 140737488355328 then impl_CombText.l0 k ((s ++ (((nameOf (rd_T38 l (i : Int)).f0) ++ (⟨#[32]⟩ : ByteArray)) ++ u)) ++ (⟨#[10]⟩ : ByteArray)) l (l.length : Int) ((i + 1 : Nat) : Int) else none) else none) else none) (fun k => ?_) (Ev.bind w1 (ev_pos (by omega) (ev_pos (show s.size + (lineOf (rd_T38 l (i : Int))).size ≤ _ by omega) (ev_pos (show (s ++ lineOf (rd_T38 l (i : Int))).size + 1 ≤ _ by omega) g2))))⟩
      · simp only [spec_CombText.l0, e1]
        rw [if_pos (by omega), if_pos (by omega), if_pos (by omega)]
        simp only [if_neg cd]
      · simp only [impl_CombText.l0, e1, n2, Option.bind_some]
        rw [if_pos (by omega), if_pos (by omega), if_pos (by omega), if_pos (by omega)]
        simp only [if_neg cd]
theorem text_both (l : List S38) (hl : l.length ≤ 1048576) : ∃ r : ByteArray × Bool, Ev (fun k => spec_CombText.f k l) r ∧ Ev (fun k => impl_CombText.f k l) r := by
  unfold spec_CombText.f impl_CombText.f
  by_cases hg : isC l
  · obtain ⟨r, g1, g2⟩ := text_loop l hg
    exact ⟨r, Ev.bind (spec_isC l hl) (ev_pos (decide_eq_true hg) g1), Ev.bind (impl_isC l hl) (ev_pos (decide_eq_true hg) g2)⟩
  · exact ⟨((⟨#[]⟩ : ByteArray), false), Ev.bind (spec_isC l hl) (ev_neg (by simpa using hg) (Ev.now _)), Ev.bind (impl_isC l hl) (ev_neg (by simpa using hg) (Ev.now _))⟩
theorem FnExactCombText (l0 : List (S41)) (w0 : (l0.length ≤ maxLen ∧ ∀ y1 ∈ l0, ((Lit.int .i64 y1.f0).wf = true ∧ (Lit.int .i64 y1.f1).wf = true ∧ (Lit.int .i64 y1.f2).wf = true))) :
    ∃ k, laws_FnExactCombText.f k l0 = some true := by
  obtain ⟨hm, _⟩ := w0
  unfold maxLen at hm
  refine Ev.rounds (g := fun k => laws_FnExactCombText.f k l0) ?_
  unfold laws_FnExactCombText.f
  refine ev_call (szToothS _ _ (by omega) (by omega)) (ev_ite (fun _ => Ev.now _) (fun c0 => ?_))
  have hl : l0.length ≤ 1048576 := by
    split at c0 <;> omega
  have h1 := toToothS l0 hl
  have hl2 : (l0.map cvT).length ≤ 1048576 := by simpa using hl
  obtain ⟨r, g1, g2⟩ := text_both _ hl2
  refine Ev.bind h1 (Ev.bind g1 (Ev.bind h1 (Ev.bind g2 (ev_pos rfl (Ev.step (f := fun k => (laws_toToothS.f k l0).bind fun t => (laws_eqToothS.f k (l0.map cvT) t).bind fun u => if u = true then some true else some false) (fun k => ?_) (Ev.bind h1 (Ev.bind (eqToothS _ hl2) (ev_pos rfl (Ev.now _)))))))))
  simp only [laws_FnExactCombText.j0]
  rw [if_neg (by simp)]
end Go.Proofs.YtiekokdlcgpcdaaDoor.PureFnExactCombText
