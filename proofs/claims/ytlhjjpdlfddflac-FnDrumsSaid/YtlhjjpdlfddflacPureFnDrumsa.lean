/- The plain statement of FnDrums (lemmas): the law's function, over numbers and lists, answers true. No conditions beyond the arguments' own kinds. -/
import Derived.Test.YtlhjjpdlfddflacSFnDrums11
import Derived.Test.YtlhjjpdlfddflacSFnDrumsP
namespace Go.Proofs.Ytlhjjpdlfddflac.PureFnDrums
open Go Go.RowKit Go.Proofs.Ytlhjjpdlfddflac.PFnDrums Go.Proofs.YtlhjjpdlfddflacW.PrintWords Go.Proofs.YtlhjjpdlfddflacW.PrintLast Go.Proofs.YtlhjjpdlfddflacW.PrintMore Go.Proofs.Ytlhjjpdlfddflac.Lib
set_option linter.unusedVariables false
set_option linter.unusedSimpArgs false
/-- A loop that counts up to n, and what is known of its answer. -/
theorem ev_for_ex {σ ρ : Type} (L : Nat → σ → Int → Option ρ) (n : Nat) (Inv : Nat → σ → Prop) (Post : ρ → Prop) (hstop : ∀ s, Inv n s → ∃ r, Ev (fun k => L k s (n : Int)) r ∧ Post r)
    (hgo : ∀ i s, i < n → Inv i s → (∀ s', Inv (i + 1) s' → ∃ r, Ev (fun k => L k s' ((i + 1 : Nat) : Int)) r ∧ Post r) → ∃ r, Ev (fun k => L k s (i : Int)) r ∧ Post r) :
    ∀ i s, i ≤ n → Inv i s → ∃ r, Ev (fun k => L k s (i : Int)) r ∧ Post r := by
  have key : ∀ d i : Nat, n - i = d → i ≤ n → ∀ s, Inv i s → ∃ r, Ev (fun k => L k s (i : Int)) r ∧ Post r := by
    intro d
    induction d with
    | zero =>
      intro i hd hi s hs
      obtain rfl : i = n := by omega
      exact hstop s hs
    | succ d ih =>
      intro i hd hi s hs
      exact hgo i s (by omega) hs (fun s' hs' => ih (i + 1) (by omega) (by omega) s' hs')
  intro i s hi hs
  exact key (n - i) i rfl hi s hs
theorem wn {i n : Nat} (h : i < n) (hn : n ≤ 9223372036854775807) : wrap64 ((i : Int) + 1) = ((i + 1 : Nat) : Int) := by unfold wrap64; omega
/-- Whatever holds at the end of a count, and at i if it holds at i + 1, holds from everywhere. -/
theorem count_up {σ : Type} (n : Nat) (Inv Q : Nat → σ → Prop) (hstop : ∀ s, Inv n s → Q n s) (hgo : ∀ i s, i < n → Inv i s → (∀ s', Inv (i + 1) s' → Q (i + 1) s') → Q i s) : ∀ i s, i ≤ n → Inv i s → Q i s := by
  have key : ∀ d i : Nat, n - i = d → i ≤ n → ∀ s, Inv i s → Q i s := by
    intro d
    induction d with
    | zero =>
      intro i hd hi s hs
      obtain rfl : i = n := by omega
      exact hstop s hs
    | succ d ih =>
      intro i hd hi s hs
      exact hgo i s (by omega) hs (fun s' hs' => ih (i + 1) (by omega) (by omega) s' hs')
  intro i s hi hs
  exact key (n - i) i rfl hi s hs

/-- A loop of checks whose rounds may call: what is known of the places before may be used. -/
theorem all_loop_g (L : Nat → Int → Option Bool) (n : Nat) (P : Nat → Prop) (fin r : Bool) (hr : r = true ↔ (∀ i, i < n → P i) ∧ fin = true) (hstop : (∀ i, i < n → P i) → Ev (fun k => L k (n : Int)) fin)
    (hgo : ∀ i : Nat, i < n → (∀ j, j < i → P j) → (P i → ∀ q, Ev (fun k => L k ((i + 1 : Nat) : Int)) q → Ev (fun k => L k (i : Int)) q) ∧ (¬ P i → Ev (fun k => L k (i : Int)) false)) : Ev (fun k => L k 0) r := by
  have key : ∀ d i : Nat, n - i = d → i ≤ n → (∀ j, j < i → P j) → Ev (fun k => L k (i : Int)) r := by
    intro d
    induction d with
    | zero =>
      intro i hd hi hp
      obtain rfl : i = n := by omega
      refine ev_eq (hstop hp) ?_
      rw [Bool.eq_iff_iff, hr]
      exact ⟨fun h => ⟨hp, h⟩, fun h => h.2⟩
    | succ d ih =>
      intro i hd hi hp
      have hlt : i < n := by omega
      by_cases hc : P i
      · refine (hgo i hlt hp).1 hc r (ih (i + 1) (by omega) (by omega) (fun j hj => ?_))
        by_cases e : j = i
        · exact e ▸ hc
        · exact hp j (by omega)
      · refine ev_eq ((hgo i hlt hp).2 hc) ?_
        cases hrr : r with
        | false => rfl
        | true => exact absurd ((hr.1 hrr).1 i hlt) hc
  exact key n 0 (by omega) (by omega) (fun j hj => absurd hj (by omega))
/-- A loop that leaves with 'bad' at the first place that is not as it should be, and else goes on behind the last. -/
theorem scan_loop {α : Type} (L : Nat → Int → Option α) (n : Nat) (C : Nat → Prop) (q bad : α) (hstop : (∀ j, j < n → C j) → Ev (fun k => L k (n : Int)) q) (hbad : ¬ (∀ j, j < n → C j) → q = bad)
    (hgo : ∀ k (j : Nat), j < n → (C j → L (k + 1) (j : Int) = L k ((j + 1 : Nat) : Int)) ∧ (¬ C j → L (k + 1) (j : Int) = some bad)) : Ev (fun k => L k 0) q := by
  have key : ∀ d i : Nat, n - i = d → i ≤ n → (∀ j, j < i → C j) → Ev (fun k => L k (i : Int)) q := by
    intro d
    induction d with
    | zero =>
      intro i hd hi hp
      obtain rfl : i = n := by omega
      exact hstop hp
    | succ d ih =>
      intro i hd hi hp
      have hlt : i < n := by omega
      by_cases hc : C i
      · refine Ev.step (fun k => (hgo k i hlt).1 hc) (ih (i + 1) (by omega) (by omega) (fun j hj => ?_))
        by_cases e : j = i
        · exact e ▸ hc
        · exact hp j (by omega)
      · exact Ev.step (fun k => (hgo k i hlt).2 hc) (ev_now (hbad (fun h => hc (h i hlt))).symm)
  exact key n 0 (by omega) (by omega) (fun j hj => absurd hj (by omega))
/-- Rounds that only go on. -/
theorem skip_loop {α : Type} (L : Nat → Int → Option α) (r : α) (a b : Nat) (hab : a ≤ b) (h : ∀ j : Nat, a ≤ j → j < b → Ev (fun k => L k ((j + 1 : Nat) : Int)) r → Ev (fun k => L k (j : Int)) r) (hb : Ev (fun k => L k (b : Int)) r) : Ev (fun k => L k (a : Int)) r := by
  have key : ∀ d i : Nat, b - i = d → a ≤ i → i ≤ b → Ev (fun k => L k (i : Int)) r := by
    intro d
    induction d with
    | zero =>
      intro i hd hi hi2
      obtain rfl : i = b := by omega
      exact hb
    | succ d ih =>
      intro i hd hi hi2
      exact h i hi (by omega) (ih (i + 1) (by omega) (by omega) (by omega))
  exact key (b - a) a rfl (Nat.le_refl _) hab
theorem first_or_none (C : Nat → Prop) (n : Nat) : (∀ j, j < n → ¬ C j) ∨ ∃ i, i < n ∧ C i ∧ ∀ j, j < i → ¬ C j := by
  induction n with
  | zero => exact .inl (fun j hj => absurd hj (by omega))
  | succ n ih =>
    rcases ih with h | ⟨i, hi, hc, h⟩
    · by_cases c : C n
      · exact .inr ⟨n, by omega, c, h⟩
      · refine .inl (fun j hj => ?_)
        by_cases e : j = n
        · exact e ▸ c
        · exact h j (by omega)
    · exact .inr ⟨i, by omega, hc, h⟩

theorem l1In_eq (a b c : Int) : spec_l1In.f a b c = some (decide (b ≤ a ∧ a ≤ c)) := by
  unfold spec_l1In.f
  split <;> simp <;> omega

def okP (p : Int) (l : List Int) (i : Nat) : Prop := 0 ≤ rd l i ∧ rd l i < p ∧ (i > 0 → rd l ((i : Int) - 1) < rd l i)
instance (p : Int) (l : List Int) (i : Nat) : Decidable (okP p l i) := by unfold okP; infer_instance
/-- A pattern: its number of steps, and its beats. -/
def isP (p : Int) (l : List Int) : Prop := 1 ≤ p ∧ p ≤ 24 ∧ ∀ i, i < l.length → okP p l i
instance (p : Int) (l : List Int) : Decidable (isP p l) := by unfold isP; infer_instance
theorem impl_isP (p : Int) (l : List Int) (hl : l.length ≤ 1048576) : Ev (fun k => impl_IsPattern.f k p l) (decide (isP p l)) := by
  unfold impl_IsPattern.f
  by_cases h : 1 ≤ p ∧ p ≤ 24
  · refine ev_neg (by omega) (Ev.step (f := fun k => impl_IsPattern.l0 k l (l.length : Int) 0 p l) (fun k => ?_) ?_)
    · simp only [impl_IsPattern.j0]
      rw [if_neg (by simp; omega)]
    · refine all_loop (fun k i => impl_IsPattern.l0 k l (l.length : Int) i p l) l.length (okP p l) true _ (by simp [isP, h]) (fun k => ?_) (fun k i hi => ?_)
      · simp only [impl_IsPattern.l0]
        rw [if_neg (by omega)]
      · have e1 : wrap64 ((i : Int) + 1) = i + 1 := by unfold wrap64; omega
        simp only [impl_IsPattern.l0, e1]
        unfold okP
        by_cases hz : (i : Int) > 0
        · have e2 : wrap64 ((i : Int) - 1) = i - 1 := by unfold wrap64; omega
          simp only [e2]
          constructor <;> intro h <;> (repeat' split) <;> first | rfl | (exfalso; omega)
        · constructor <;> intro h <;> (repeat' split) <;> first | rfl | (exfalso; omega)
  · have e : decide (isP p l) = false := decide_eq_false (fun hp => h ⟨hp.1, hp.2.1⟩)
    rw [e]
    refine ev_ite (fun hc => Ev.step (f := fun _ => some false) (fun k => rfl) (Ev.now _)) (fun hc => Ev.step (f := fun _ => some false) (fun k => ?_) (Ev.now _))
    simp only [impl_IsPattern.j0]
    rw [if_pos (by simp; omega)]
theorem spec_isP (p : Int) (l : List Int) (hl : l.length ≤ 1048576) : Ev (fun k => spec_drGood.f k p l) (decide (isP p l)) := by
  unfold spec_drGood.f
  refine ev_call (l1In_eq _ _ _) ?_
  by_cases h : 1 ≤ p ∧ p ≤ 24
  · refine ev_pos (by simp; omega) (Ev.bind (f := fun k t => some t) ?_ (Ev.now _))
    unfold spec_l1Rising.f
    have e3 : wrap64 (p - 1) = p - 1 := by unfold wrap64; omega
    rw [e3]
    refine all_loop (fun k i => spec_l1Rising.l0 k l 0 (p - 1) l (l.length : Int) i) l.length (okP p l) true _ (by simp [isP, h]) (fun k => ?_) (fun k i hi => ?_)
    · simp only [spec_l1Rising.l0]
      rw [if_neg (by omega)]
    · have e1 : wrap64 ((i : Int) + 1) = i + 1 := by unfold wrap64; omega
      simp only [spec_l1Rising.l0, l1In_eq, Option.bind_some, decide_eq_true_eq, e1]
      unfold okP
      by_cases hz : (i : Int) > 0
      · have e2 : wrap64 ((i : Int) - 1) = i - 1 := by unfold wrap64; omega
        simp only [e2]
        constructor <;> intro h <;> (repeat' split) <;> first | rfl | (exfalso; omega)
      · constructor <;> intro h <;> (repeat' split) <;> first | rfl | (exfalso; omega)
  · have e : decide (isP p l) = false := decide_eq_false (fun hp => h ⟨hp.1, hp.2.1⟩)
    rw [e]
    exact ev_neg (by simp; omega) (Ev.now _)

theorem rise_get {p : Int} {l : List Int} (h : isP p l) : l.Pairwise (· < ·) := by
  rw [List.pairwise_iff_getElem]
  have hs : ∀ i, i + 1 < l.length → rd l (i : Int) < rd l ((i + 1 : Nat) : Int) := by
    intro i hi
    have h2 := (h.2.2 (i + 1) hi).2.2 (by omega)
    rw [show (((i + 1 : Nat) : Int) - 1) = (i : Int) by omega] at h2
    exact h2
  intro i j hi hj hij
  have : ∀ d i, i + d + 1 < l.length → rd l (i : Int) < rd l ((i + d + 1 : Nat) : Int) := by
    intro d
    induction d with
    | zero => intro i hi; exact hs i hi
    | succ d ih => intro i hi; exact Int.lt_trans (ih i (by omega)) (hs (i + d + 1) (by omega))
  have h3 := this (j - i - 1) i (by omega)
  rw [show i + (j - i - 1) + 1 = j by omega] at h3
  have r1 : rd l (i : Int) = l[i] := rd_get hi
  have r2 : rd l (j : Int) = l[j] := rd_get hj
  rwa [r1, r2] at h3
theorem rise_mem {p : Int} {l : List Int} (h : isP p l) {b : Int} (hb : b ∈ l) : 0 ≤ b ∧ b < p := by
  obtain ⟨i, hi, rfl⟩ := List.mem_iff_getElem.1 hb
  have h2 := h.2.2 i hi
  have r1 : rd l (i : Int) = l[i] := rd_get hi
  unfold okP at h2
  rw [r1] at h2
  exact ⟨h2.1, h2.2.1⟩

/-- A beat, turned. -/
def tb (p by_ b : Int) : Int := Int.tmod (b + by_) p
theorem tb_ok {p by_ b : Int} (hp : 1 ≤ p ∧ p ≤ 24) (hy : 0 ≤ by_ ∧ by_ ≤ 24) (hb : 0 ≤ b ∧ b < p) : Int.tmod (wrap64 (b + by_)) p = tb p by_ b := by
  unfold tb
  rw [show wrap64 (b + by_) = b + by_ by unfold wrap64; omega]
theorem tb_inj {p by_ a b : Int} (hp : 1 ≤ p) (hy : 0 ≤ by_) (ha : 0 ≤ a ∧ a < p) (hb : 0 ≤ b ∧ b < p) (h : tb p by_ a = tb p by_ b) : a = b := by
  unfold tb at h
  rw [Int.tmod_eq_emod_of_nonneg (by omega), Int.tmod_eq_emod_of_nonneg (by omega)] at h
  have h1 := Int.emod_emod_of_dvd (a - b) (Int.dvd_refl p)
  have h2 : (a - b) % p = 0 := by
    have : ((a + by_) - (b + by_)) % p = 0 := by rw [Int.sub_emod, h]; simp
    rwa [show a + by_ - (b + by_) = a - b by omega] at this
  obtain ⟨q, hq⟩ := Int.dvd_of_emod_eq_zero h2
  have hq0 : q = 0 := by
    rcases Int.lt_trichotomy q 0 with h0 | h0 | h0
    · have : p * q ≤ p * (-1) := Int.mul_le_mul_of_nonneg_left (by omega) (by omega)
      omega
    · exact h0
    · have : p * 1 ≤ p * q := Int.mul_le_mul_of_nonneg_left (by omega) (by omega)
      omega
  rw [hq0] at hq
  omega
end Go.Proofs.Ytlhjjpdlfddflac.PureFnDrums
