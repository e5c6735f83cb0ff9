/- The plain statement of FnDrums (lemmas): the law's function, over numbers and lists, answers true. No conditions beyond the arguments' own kinds. -/
import Derived.Test.YtlhjjpdlfddflacSFnDrums11
import Derived.Test.YtlhjjpdlfddflacPureFnDrumsc
namespace Go.Proofs.Ytlhjjpdlfddflac.PureFnDrums
open Go Go.RowKit Go.Proofs.Ytlhjjpdlfddflac.PFnDrums Go.Proofs.YtlhjjpdlfddflacW.PrintWords Go.Proofs.YtlhjjpdlfddflacW.PrintLast Go.Proofs.YtlhjjpdlfddflacW.PrintMore Go.Proofs.Ytlhjjpdlfddflac.Lib
set_option linter.unusedVariables false
set_option linter.unusedSimpArgs false
/-- Two strictly ascending lists of the same members are one. -/
theorem strict_ext {a b : List Int} (ha : a.Pairwise (· < ·)) (hb : b.Pairwise (· < ·)) (h : ∀ x, x ∈ a ↔ x ∈ b) : a = b := by
  have na : a.Nodup := ha.imp (fun h e => by subst e; exact Int.lt_irrefl _ h)
  have nb : b.Nodup := hb.imp (fun h e => by subst e; exact Int.lt_irrefl _ h)
  have hp : a.Perm b := (List.perm_ext_iff_of_nodup na nb).2 h
  exact List.Perm.eq_of_pairwise (le := fun a b : Int => a ≤ b) (fun a b _ _ h h' => by omega) (ha.imp (fun h => by omega)) (hb.imp (fun h => by omega)) hp

/-- 0, 1, .., n - 1. -/
def ints (n : Nat) : List Int := (List.range n).map fun (i : Nat) => (i : Int)
theorem mem_ints {n : Nat} {x : Int} : x ∈ ints n ↔ 0 ≤ x ∧ x < n := by
  unfold ints
  rw [List.mem_map]
  constructor
  · rintro ⟨a, ha, rfl⟩
    have := List.mem_range.1 ha
    omega
  · rintro ⟨h1, h2⟩
    exact ⟨x.toNat, List.mem_range.2 (by omega), by omega⟩
theorem ints_rise (n : Nat) : (ints n).Pairwise (· < ·) := by
  unfold ints
  rw [List.pairwise_map]
  exact List.pairwise_lt_range.imp (fun h => by omega)
theorem ints_succ (n : Nat) : ints (n + 1) = ints n ++ [(n : Int)] := by
  unfold ints
  rw [List.range_succ, List.map_append]
  rfl
theorem ints_length (n : Nat) : (ints n).length = n := by simp [ints]
theorem isP_of {p : Int} {l : List Int} (h1 : 1 ≤ p) (h2 : p ≤ 24) (hs : l.Pairwise (· < ·)) (hm : ∀ x ∈ l, 0 ≤ x ∧ x < p) : isP p l := by
  refine ⟨h1, h2, fun i hi => ?_⟩
  have r1 : rd l (i : Int) = l[i] := rd_get hi
  have hx := hm _ (List.getElem_mem hi)
  unfold okP
  rw [r1]
  refine ⟨hx.1, hx.2, fun h0 => ?_⟩
  have hj : i - 1 < l.length := by omega
  have r2 : rd l ((i : Int) - 1) = l[i - 1] := by
    rw [show ((i : Int) - 1) = ((i - 1 : Nat) : Int) by omega]
    exact rd_get hj
  rw [r2]
  exact List.pairwise_iff_getElem.1 hs (i - 1) i hj hi (by omega)
def beatsOf (p : Nat) (l : List Int) : List Int := (ints p).filter fun x => decide (x ∈ l)
def other (p : Nat) (l : List Int) : List Int := (ints p).filter fun x => !decide (x ∈ l)
theorem beatsOf_self {p : Nat} {l : List Int} (h : isP p l) : beatsOf p l = l := by
  refine strict_ext ((ints_rise p).sublist List.filter_sublist) (rise_get h) (fun x => ?_)
  unfold beatsOf
  rw [List.mem_filter, mem_ints]
  simp only [decide_eq_true_eq]
  exact ⟨fun h => h.2, fun hx => ⟨rise_mem h hx, hx⟩⟩
theorem other_isP {p : Nat} {l : List Int} (h : isP p l) : isP p (other p l) := by
  refine isP_of h.1 h.2.1 ((ints_rise p).sublist List.filter_sublist) (fun x hx => ?_)
  exact mem_ints.1 (List.mem_filter.1 hx).1
theorem mem_other {p : Nat} {l : List Int} {x : Int} : x ∈ other p l ↔ (0 ≤ x ∧ x < p) ∧ x ∉ l := by
  unfold other
  rw [List.mem_filter, mem_ints]
  simp
theorem other_other {p : Nat} {l : List Int} (h : isP p l) : other p (other p l) = l := by
  refine strict_ext ((ints_rise p).sublist List.filter_sublist) (rise_get h) (fun x => ?_)
  rw [mem_other, mem_other]
  constructor
  · rintro ⟨h1, h2⟩
    exact Classical.byContradiction fun h3 => h2 ⟨h1, h3⟩
  · intro hx
    exact ⟨rise_mem h hx, fun h2 => h2.2 hx⟩
theorem other_len {p : Nat} {l : List Int} (h : isP p l) : l.length + (other p l).length = p := by
  have h1 : (beatsOf p l).length + (other p l).length = (ints p).length := by
    unfold beatsOf other
    rw [← List.countP_eq_length_filter, ← List.countP_eq_length_filter, List.length_eq_countP_add_countP (fun x => decide (x ∈ l)) (l := ints p)]
    congr 1
    refine List.countP_congr (fun x _ => ?_)
    by_cases hx : x ∈ l
    · simp [hx]
    · simp [hx]
  rw [beatsOf_self h, ints_length] at h1
  exact h1
theorem len_le {p : Nat} {l : List Int} (h : isP p l) : l.length ≤ p := by have := other_len h; omega
/-- How many members lie below m. -/
theorem below_step {l : List Int} (hs : l.Pairwise (· < ·)) (m : Int) : l.countP (fun x => decide (x < m + 1)) = l.countP (fun x => decide (x < m)) + (if m ∈ l then 1 else 0) := by
  induction l with
  | nil => rfl
  | cons a l ih =>
    have hs' := List.pairwise_cons.1 hs
    rw [List.countP_cons, List.countP_cons, ih hs'.2]
    have hm : m ∈ a :: l ↔ m = a ∨ m ∈ l := List.mem_cons
    by_cases e : m = a
    · have hn : m ∉ l := fun h => by have := hs'.1 m h; omega
      rw [if_neg hn, if_pos (hm.2 (.inl e)), if_pos (by simp; omega), if_neg (by simp; omega)]
    · have e2 : decide (a < m + 1) = decide (a < m) := decide_eq_decide.2 (by omega)
      rw [e2]
      by_cases hn : m ∈ l
      · rw [if_pos hn, if_pos (hm.2 (.inr hn))]; omega
      · rw [if_neg hn, if_neg (fun h => (hm.1 h).elim e hn)]; omega
/-- How often a pattern has beaten before step n. -/
def beaten (p : Nat) (l : List Int) (n : Nat) : Nat := n / p * l.length + l.countP (fun x => decide (x < ((n % p : Nat) : Int)))
theorem beaten_zero {p : Nat} {l : List Int} (h : isP p l) : beaten p l 0 = 0 := by
  unfold beaten
  rw [Nat.zero_div, Nat.zero_mul, Nat.zero_mod, Nat.zero_add, List.countP_eq_zero]
  intro x hx
  have := rise_mem h hx
  simp
  omega
theorem beaten_step {p : Nat} {l : List Int} (h : isP p l) (n : Nat) : beaten p l (n + 1) = beaten p l n + (if ((n % p : Nat) : Int) ∈ l then 1 else 0) := by
  have hp : 0 < p := by have := h.1; omega
  have hb := below_step (rise_get h) ((n % p : Nat) : Int)
  have hlt := Nat.mod_lt n hp
  unfold beaten
  by_cases c : n % p + 1 = p
  · have hn := Nat.div_add_mod n p
    have e1 : (n + 1) / p = n / p + 1 := by
      rw [show n + 1 = p * (n / p + 1) by rw [Nat.mul_add]; omega, Nat.mul_div_cancel_left _ hp]
    have e2 : (n + 1) % p = 0 := by
      rw [show n + 1 = p * (n / p + 1) by rw [Nat.mul_add]; omega, Nat.mul_mod_right]
    have h0 : l.countP (fun x => decide (x < ((0 : Nat) : Int))) = 0 := by
      rw [List.countP_eq_zero]
      intro x hx
      have := rise_mem h hx
      simp
      omega
    have h1 : l.countP (fun x => decide (x < ((n % p : Nat) : Int) + 1)) = l.length := by
      rw [List.countP_eq_length]
      intro x hx
      have := rise_mem h hx
      simp
      omega
    rw [e1, e2, h0, Nat.add_zero, Nat.succ_mul, Nat.add_assoc, ← hb, h1]
  · have hn := Nat.div_add_mod n p
    have e1 : (n + 1) / p = n / p := by
      rw [show n + 1 = (n % p + 1) + p * (n / p) by omega, Nat.add_mul_div_left _ _ hp, Nat.div_eq_of_lt (by omega), Nat.zero_add]
    have e2 : (n + 1) % p = n % p + 1 := by
      rw [show n + 1 = (n % p + 1) + p * (n / p) by omega, Nat.add_mul_mod_self_left, Nat.mod_eq_of_lt (by omega)]
    rw [e1, e2, show (((n % p + 1 : Nat)) : Int) = ((n % p : Nat) : Int) + 1 by omega, hb]
    omega
theorem beaten_le {p : Nat} {l : List Int} (h : isP p l) (n : Nat) : beaten p l n ≤ n := by
  induction n with
  | zero => rw [beaten_zero h]; exact Nat.le_refl _
  | succ n ih =>
    rw [beaten_step h]
    split <;> omega
/-- The beats of an even pattern. -/
def evenL (b s : Nat) : List Int := (List.range b).map fun i => ((i * s / b : Nat) : Int)
theorem even_way {b s : Nat} (hb : 0 < b) (i : Nat) : (i + 1) * s / b = i * s / b + s / b ∨ (i + 1) * s / b = i * s / b + s / b + 1 := by
  have h1 := Nat.div_add_mod (i * s) b
  have h2 := Nat.div_add_mod s b
  have l1 := Nat.mod_lt (i * s) hb
  have l2 := Nat.mod_lt s hb
  have e : (i + 1) * s = (i * s % b + s % b) + b * (i * s / b + s / b) := by rw [Nat.succ_mul, Nat.mul_add]; omega
  rw [e, Nat.add_mul_div_left _ _ hb]
  have h3 : (i * s % b + s % b) / b < 2 := Nat.div_lt_of_lt_mul (by omega)
  generalize (i * s % b + s % b) / b = z at h3 ⊢
  generalize i * s / b = y at *
  generalize s / b = x at *
  omega
theorem even_rise {b s : Nat} (hs : b ≤ s) : (evenL b s).Pairwise (· < ·) := by
  by_cases hb : 0 < b
  · unfold evenL
    rw [List.pairwise_map]
    refine (List.pairwise_lt_range (n := b)).imp (fun {i j} h => ?_)
    have h1 : 1 ≤ s / b := (Nat.le_div_iff_mul_le hb).2 (by omega)
    have key : ∀ d, i * s / b < (i + d + 1) * s / b := by
      intro d
      induction d with
      | zero => have := even_way (s := s) hb i; rw [Nat.add_zero]; omega
      | succ d ih => have := even_way (s := s) hb (i + d + 1); rw [show i + (d + 1) + 1 = i + d + 1 + 1 by omega]; omega
    have := key (j - i - 1)
    rw [show i + (j - i - 1) + 1 = j by omega] at this
    omega
  · have : b = 0 := by omega
    subst this
    exact List.Pairwise.nil
theorem even_isP {b s : Nat} (h1 : 1 ≤ s) (h2 : s ≤ 24) (hs : b ≤ s) : isP s (evenL b s) := by
  refine isP_of (by omega) (by omega) (even_rise hs) (fun x hx => ?_)
  unfold evenL at hx
  obtain ⟨i, hi, rfl⟩ := List.mem_map.1 hx
  have hi := List.mem_range.1 hi
  have : i * s / b < s := Nat.div_lt_of_lt_mul (by rw [Nat.mul_comm b s, Nat.mul_comm i s]; exact Nat.mul_lt_mul_of_pos_left hi (by omega))
  generalize i * s / b = y at this ⊢
  omega
theorem evenL_length (b s : Nat) : (evenL b s).length = b := by simp [evenL]
theorem evenL_get {b s i : Nat} (hi : i < b) : rd (evenL b s) (i : Int) = ((i * s / b : Nat) : Int) := by
  unfold rd
  rw [Int.toNat_natCast, List.getD_eq_getElem?_getD]
  simp [evenL, hi]

/-- A pattern's beats, turned and put in order. -/
def turnT (p y : Int) (l : List Int) : List Int := (l.map (tb p y)).mergeSort fun x y => decide (x ≤ y)
theorem turn_told (p y : Int) (l : List Int) (hl : l.length ≤ 1048576) (hg : isP p l) (hy : 0 ≤ y ∧ y ≤ 24) : Ev (fun k => spec_drTurn.f k p l y) (p, turnT p y l) ∧ Ev (fun k => impl_turnPattern.f k p l y) (p, turnT p y l) ∧ (turnT p y l).Perm (l.map (tb p y)) ∧ (turnT p y l).Pairwise (· < ·) := by
  obtain ⟨r, g1, g2, g3⟩ := turn_spec p y l hl hg hy
  have e := turn_same p y l r g2 g3
  have g4 := turn_impl p y l hl hg hy
  unfold turnT
  rw [e] at g4 ⊢
  exact ⟨g1, g4, g2, g3⟩
theorem tb_in {p y b : Int} (hp : 1 ≤ p) (hy : 0 ≤ y) (hb : 0 ≤ b) : 0 ≤ tb p y b ∧ tb p y b < p := by
  unfold tb
  rw [Int.tmod_eq_emod_of_nonneg (by omega)]
  exact ⟨Int.emod_nonneg _ (by omega), Int.emod_lt_of_pos _ (by omega)⟩
theorem turnT_isP (p y : Int) (l : List Int) (hl : l.length ≤ 1048576) (hg : isP p l) (hy : 0 ≤ y ∧ y ≤ 24) : isP p (turnT p y l) := by
  obtain ⟨_, _, h3, h4⟩ := turn_told p y l hl hg hy
  refine isP_of hg.1 hg.2.1 h4 (fun x hx => ?_)
  obtain ⟨b, hb, rfl⟩ := List.mem_map.1 (h3.mem_iff.1 hx)
  exact tb_in hg.1 hy.1 (rise_mem hg hb).1
theorem turnT_len (p y : Int) (l : List Int) (hl : l.length ≤ 1048576) (hg : isP p l) (hy : 0 ≤ y ∧ y ≤ 24) : (turnT p y l).length = l.length := by
  obtain ⟨_, _, h3, _⟩ := turn_told p y l hl hg hy
  rw [h3.length_eq, List.length_map]
theorem turnT_mem (p y : Int) (l : List Int) (hl : l.length ≤ 1048576) (hg : isP p l) (hy : 0 ≤ y ∧ y ≤ 24) {b : Int} (hb : b ∈ l) : tb p y b ∈ turnT p y l := by
  obtain ⟨_, _, h3, _⟩ := turn_told p y l hl hg hy
  exact h3.mem_iff.2 (List.mem_map.2 ⟨b, hb, rfl⟩)
/-- A turn by as many steps as the pattern has is none. -/
theorem turnT_mod (p y : Int) (l : List Int) (hg : isP p l) (hy : 0 ≤ y) : turnT p (y % p) l = turnT p y l := by
  unfold turnT
  congr 1
  refine List.map_congr_left (fun b hb => ?_)
  have hp := hg.1
  have hb0 := (rise_mem hg hb).1
  have h1 := Int.emod_nonneg y (show p ≠ 0 by omega)
  unfold tb
  rw [Int.tmod_eq_emod_of_nonneg (by omega), Int.tmod_eq_emod_of_nonneg (by omega), Int.add_emod_emod]
def tpR (p y : Int) (l : List Int) : Int × List Int × Bool := if isP p l ∧ 0 ≤ y ∧ y ≤ 24 then (p, turnT p y l, true) else (0, [], false)
theorem turnp_told (p y : Int) (l : List Int) (hl : l.length ≤ 1048576) : Ev (fun k => spec_TurnPattern.f k p l y) (tpR p y l) ∧ Ev (fun k => impl_TurnPattern.f k p l y) (tpR p y l) := by
  unfold spec_TurnPattern.f impl_TurnPattern.f tpR
  simp only [l1In_eq, Option.bind_some]
  by_cases hg : isP p l
  · by_cases hy : 0 ≤ y ∧ y ≤ 24
    · obtain ⟨g1, g2, g3⟩ := turn_told p y l hl hg hy
      rw [if_pos ⟨hg, hy⟩]
      exact ⟨Ev.bind (spec_isP _ l hl) (ev_pos (decide_eq_true hg) (ev_pos (decide_eq_true hy) (Ev.bind g1 (Ev.now _)))), Ev.bind (impl_isP _ l hl) (ev_pos (decide_eq_true hg) (ev_neg (by omega) (ev_neg (by omega) (Ev.bind g2 (Ev.now _)))))⟩
    · rw [if_neg (fun h => hy h.2)]
      exact ⟨Ev.bind (spec_isP _ l hl) (ev_pos (decide_eq_true hg) (ev_neg (by simpa using hy) (Ev.now _))), Ev.bind (impl_isP _ l hl) (ev_pos (decide_eq_true hg) (ev_ite (fun _ => Ev.now _) (fun h => ev_pos (by omega) (Ev.now _))))⟩
  · rw [if_neg (fun h => hg h.1)]
    exact ⟨Ev.bind (spec_isP _ l hl) (ev_neg (by simpa using hg) (Ev.now _)), Ev.bind (impl_isP _ l hl) (ev_neg (by simpa using hg) (Ev.now _))⟩

theorem list_same {a b : List Int} (h : a.length = b.length) : decide (a = b) = true ↔ (∀ i, i < a.length → rd a (i : Int) = rd b (i : Int)) ∧ true = true := by
  rw [decide_eq_true_iff]
  refine ⟨fun e => ⟨fun i _ => by rw [e], rfl⟩, fun ⟨g, _⟩ => List.ext_getElem h (fun i h1 h2 => ?_)⟩
  have r1 : rd a (i : Int) = a[i] := rd_get h1
  have r2 : rd b (i : Int) = b[i] := rd_get h2
  rw [← r1, ← r2]
  exact g i h1
theorem same_ev (a b : List Int) (hl : a.length ≤ 1048576) : Ev (fun k => spec_l1Same.f k a b) (decide (a = b)) := by
  unfold spec_l1Same.f
  by_cases h : a.length = b.length
  · refine ev_pos (by omega) (all_loop (fun k i => spec_l1Same.l0 k a b (a.length : Int) i) a.length (fun i => rd a (i : Int) = rd b (i : Int)) true _ (list_same h) (fun k => ?_) (fun k i hi => ?_))
    · simp only [spec_l1Same.l0]
      rw [if_neg (by omega)]
    · have e1 : wrap64 ((i : Int) + 1) = i + 1 := by unfold wrap64; omega
      simp only [spec_l1Same.l0, e1]
      rw [if_pos (by omega), if_pos (by omega), if_pos (by omega), if_pos (by omega)]
      exact ⟨fun h => if_pos h, fun h => if_neg h⟩
  · rw [decide_eq_false (show ¬ a = b from fun e => h (by rw [e]))]
    exact ev_neg (by omega) (Ev.now _)
theorem equal_ev (a b : List Int) (hl : a.length ≤ 1048576) : Ev (fun k => slices_Equal_int_int.f k a b) (decide (a = b)) := by
  unfold slices_Equal_int_int.f
  by_cases h : a.length = b.length
  · refine ev_pos (by omega) (all_loop (fun k i => slices_Equal_int_int.l0 k a b (a.length : Int) i) a.length (fun i => rd a (i : Int) = rd b (i : Int)) true _ (list_same h) (fun k => ?_) (fun k i hi => ?_))
    · simp only [slices_Equal_int_int.l0]
      rw [if_neg (by omega)]
    · have e1 : wrap64 ((i : Int) + 1) = i + 1 := by unfold wrap64; omega
      simp only [slices_Equal_int_int.l0, e1]
      rw [if_pos (by omega), if_pos (by omega), if_pos (by omega), if_pos (by omega)]
      exact ⟨fun h => if_pos h, fun h => if_neg h⟩
  · rw [decide_eq_false (show ¬ a = b from fun e => h (by rw [e]))]
    exact ev_neg (by omega) (Ev.now _)

def LtP (p : Nat) (l b : List Int) (i : Nat) (r : Int × Bool) : Prop :=
  (r.2 = true → ∃ t : Nat, r.1 = t ∧ i ≤ t ∧ t < p ∧ turnT (p : Int) (t : Int) l = b ∧ ∀ j : Nat, i ≤ j → j < t → turnT (p : Int) (j : Int) l ≠ b) ∧
  (r.2 = false → ∀ j : Nat, i ≤ j → j < p → turnT (p : Int) (j : Int) l ≠ b)
theorem lt_loops2 (p : Nat) (l b : List Int) (q : Int) (hl : l.length ≤ 1048576) (hg : isP p l) : ∃ r : Int × Bool, Ev (fun k => spec_LeastTurn.l0 k 0 (p : Int) l q b) r ∧ Ev (fun k => impl_LeastTurn.l0 k (p : Int) 0 (p : Int) l q b) r ∧ LtP p l b 0 r := by
  have hp := hg.2.1
  refine count_up p (fun _ (_ : Unit) => True) (fun i _ => ∃ r : Int × Bool, Ev (fun k => spec_LeastTurn.l0 k (i : Int) (p : Int) l q b) r ∧ Ev (fun k => impl_LeastTurn.l0 k (p : Int) (i : Int) (p : Int) l q b) r ∧ LtP p l b i r) (fun _ _ => ?_) (fun i _ hi _ ih => ?_) 0 () (Nat.zero_le _) trivial
  · refine ⟨(0, false), Ev.step (f := fun _ => some (0, false)) (fun k => ?_) (Ev.now _), Ev.step (f := fun _ => some (0, false)) (fun k => ?_) (Ev.now _), fun h => by simp at h, fun _ j h1 h2 => by omega⟩
    · simp only [spec_LeastTurn.l0]
      rw [if_neg (by omega)]
    · simp only [impl_LeastTurn.l0]
      rw [if_neg (by omega)]
  · have e1 := wn hi (by omega)
    obtain ⟨g1, g2, _, _⟩ := turn_told p i l hl hg (by omega)
    have g3 := turnT_len p i l hl hg (by omega)
    have s1 := same_ev (turnT p i l) b (by omega)
    have s2 := equal_ev (turnT p i l) b (by omega)
    have k1 : ∀ r, Ev (fun k => if decide (turnT p i l = b) = true then some ((i : Int), true) else spec_LeastTurn.l0 k ((i + 1 : Nat) : Int) (p : Int) l q b) r → Ev (fun k => spec_LeastTurn.l0 k (i : Int) (p : Int) l q b) r := by
      intro r h
      refine Ev.step (f := fun k => (spec_drTurn.f k (p : Int) l (i : Int)).bind fun bt => (spec_l1Same.f k bt.2 b).bind fun t => if t = true then some ((i : Int), true) else spec_LeastTurn.l0 k ((i + 1 : Nat) : Int) (p : Int) l q b) (fun k => ?_) (Ev.bind g1 (Ev.bind s1 h))
      simp only [spec_LeastTurn.l0, e1]
      rw [if_pos (by omega)]
    have k2 : ∀ r, Ev (fun k => if decide (turnT p i l = b) = true then some ((i : Int), true) else impl_LeastTurn.l0 k (p : Int) ((i + 1 : Nat) : Int) (p : Int) l q b) r → Ev (fun k => impl_LeastTurn.l0 k (p : Int) (i : Int) (p : Int) l q b) r := by
      intro r h
      refine Ev.step (f := fun k => (impl_turnPattern.f k (p : Int) l (i : Int)).bind fun bt => (slices_Equal_int_int.f k bt.2 b).bind fun t => if t = true then some ((i : Int), true) else impl_LeastTurn.l0 k (p : Int) ((i + 1 : Nat) : Int) (p : Int) l q b) (fun k => ?_) (Ev.bind g2 (Ev.bind s2 h))
      simp only [impl_LeastTurn.l0, e1]
      rw [if_pos (by omega)]
    by_cases c : turnT p i l = b
    · exact ⟨((i : Int), true), k1 _ (ev_pos (decide_eq_true c) (Ev.now _)), k2 _ (ev_pos (decide_eq_true c) (Ev.now _)), fun _ => ⟨i, rfl, Nat.le_refl _, hi, c, fun j h1 h2 => by omega⟩, fun h => by simp at h⟩
    · obtain ⟨r, h1, h2, h3, h4⟩ := ih () trivial
      refine ⟨r, k1 r (ev_neg (by simpa using c) h1), k2 r (ev_neg (by simpa using c) h2), fun h => ?_, fun h j hj hjp => ?_⟩
      · obtain ⟨t, t1, t2, t3, t4, t5⟩ := h3 h
        refine ⟨t, t1, by omega, t3, t4, fun j hj hjt => ?_⟩
        by_cases e : j = i
        · subst e; exact c
        · exact t5 j (by omega) hjt
      · by_cases e : j = i
        · subst e; exact c
        · exact h4 h j (by omega) hjp
theorem lt_told (p q : Int) (l b : List Int) (hl : l.length ≤ 1048576) (hb : b.length ≤ 1048576) : ∃ r : Int × Bool, Ev (fun k => spec_LeastTurn.f k p l q b) r ∧ Ev (fun k => impl_LeastTurn.f k p l q b) r ∧ (r.2 = true → isP p l ∧ isP q b ∧ p = q) ∧ (isP p l → isP q b → p = q → LtP p.toNat l b 0 r) := by
  unfold spec_LeastTurn.f impl_LeastTurn.f
  by_cases hg : isP p l
  · by_cases hh : isP q b
    · by_cases e : p = q
      · have h1 := hg.1
        obtain ⟨n, rfl⟩ : ∃ n : Nat, p = n := ⟨p.toNat, by omega⟩
        obtain ⟨r, g1, g2, g3⟩ := lt_loops2 n l b q hl hg
        exact ⟨r, Ev.bind (spec_isP _ l hl) (ev_pos (decide_eq_true hg) (Ev.bind (spec_isP _ b hb) (ev_pos (decide_eq_true hh) (Ev.step (fun k => rfl) (ev_neg (by simpa using e) g1))))), Ev.bind (impl_isP _ l hl) (ev_pos (decide_eq_true hg) (Ev.bind (impl_isP _ b hb) (ev_pos (decide_eq_true hh) (Ev.step (fun k => rfl) (ev_neg (by simpa using e) g2))))), fun _ => ⟨hg, hh, e⟩, fun _ _ _ => g3⟩
      · exact ⟨(0, false), Ev.bind (spec_isP _ l hl) (ev_pos (decide_eq_true hg) (Ev.bind (spec_isP _ b hb) (ev_pos (decide_eq_true hh) (Ev.step (fun k => rfl) (ev_pos (by simpa using e) (Ev.now _)))))), Ev.bind (impl_isP _ l hl) (ev_pos (decide_eq_true hg) (Ev.bind (impl_isP _ b hb) (ev_pos (decide_eq_true hh) (Ev.step (fun k => rfl) (ev_pos (by simpa using e) (Ev.now _)))))), fun h => by simp at h, fun _ _ h => absurd h e⟩
    · exact ⟨(0, false), Ev.bind (spec_isP _ l hl) (ev_pos (decide_eq_true hg) (Ev.bind (spec_isP _ b hb) (ev_neg (by simpa using hh) (Ev.step (f := fun _ => some (0, false)) (fun k => rfl) (Ev.now _))))), Ev.bind (impl_isP _ l hl) (ev_pos (decide_eq_true hg) (Ev.bind (impl_isP _ b hb) (ev_neg (by simpa using hh) (Ev.step (f := fun _ => some (0, false)) (fun k => rfl) (Ev.now _))))), fun h => by simp at h, fun _ h _ => absurd h hh⟩
  · exact ⟨(0, false), Ev.bind (spec_isP _ l hl) (ev_neg (by simpa using hg) (Ev.step (f := fun _ => some (0, false)) (fun k => rfl) (Ev.now _))), Ev.bind (impl_isP _ l hl) (ev_neg (by simpa using hg) (Ev.step (f := fun _ => some (0, false)) (fun k => rfl) (Ev.now _))), fun h => by simp at h, fun h _ _ => absurd h hg⟩

/-! #### the drawing cursor: whatever the bytes, each draw comes to an end -/
theorem and255 (x : Int) : 0 ≤ Go.bits .and .u64 x 255 ∧ Go.bits .and .u64 x 255 ≤ 255 := by
  have h : (BitVec.ofInt 64 x &&& BitVec.ofInt 64 255).toNat ≤ 255 := by
    rw [BitVec.toNat_and]
    exact Nat.le_trans Nat.and_le_right (by decide)
  have e : Go.bits .and .u64 x 255 = IntKind.u64.wrap ((BitVec.ofInt 64 x &&& BitVec.ofInt 64 255).toNat : Int) := rfl
  have ew : ∀ n : Int, IntKind.u64.wrap n = n % 18446744073709551616 := fun n => by simp [IntKind.wrap, IntKind.bits, IntKind.signed]
  rw [e, ew]
  omega
def Bytes8 (s : List Int) : Prop := ∀ x ∈ s, 0 ≤ x ∧ x ≤ 255
theorem next_ok {s : List Int} (hs : Bytes8 s) (a sd : Int) (h0 : 0 ≤ a) (h1 : a ≤ 1000000000) : ∃ r sd', spec_l1Cur_next.f s a sd = some (r, a + 1, sd') ∧ 0 ≤ r ∧ r ≤ 255 := by
  have e1 : wrap64 (a + 1) = a + 1 := by unfold wrap64; omega
  unfold spec_l1Cur_next.f
  simp only [e1]
  by_cases c : a < (s.length : Int)
  · rw [if_pos c, if_pos h0, if_pos (by omega)]
    have hi : a.toNat < s.length := by omega
    have er : rd s a = s[a.toNat] := by
      unfold rd
      rw [List.getD_eq_getElem?_getD, List.getElem?_eq_getElem hi]
      rfl
    have hm := hs _ (List.getElem_mem hi)
    refine ⟨_, _, rfl, ?_⟩
    rw [er]
    unfold wrap64
    omega
  · rw [if_neg c, if_neg (by omega)]
    refine ⟨_, _, rfl, ?_⟩
    have := and255 ((IntKind.u64.wrap ((IntKind.u64.wrap (IntKind.u64.wrap (sd * 6364136223846793005))) + 1442695040888963407)) / 1099511627776)
    unfold wrap64
    omega
theorem tmod_in {v n : Int} (hv : 0 ≤ v) (hn : 1 ≤ n) : 0 ≤ Int.tmod v n ∧ Int.tmod v n < n := by
  rw [Int.tmod_eq_emod_of_nonneg hv]
  exact ⟨Int.emod_nonneg _ (by omega), Int.emod_lt_of_pos _ (by omega)⟩
theorem pick_ok {s : List Int} (hs : Bytes8 s) (a sd n : Int) (h0 : 0 ≤ a) (h1 : a ≤ 900000000) : ∃ r a' sd', spec_l1Cur_pick.f s a sd n = some (r, a', sd') ∧ 0 ≤ r ∧ (1 ≤ n → r < n) ∧ a ≤ a' ∧ a' ≤ a + 2 := by
  unfold spec_l1Cur_pick.f
  by_cases c : n ≤ 1
  · rw [if_pos c]
    exact ⟨0, a, sd, rfl, by omega, by omega, by omega, by omega⟩
  · rw [if_neg c]
    obtain ⟨x, sd1, e1, x0, x1⟩ := next_ok hs a sd h0 (by omega)
    rw [e1, Option.bind_some]
    by_cases c2 : n > 200
    · rw [if_pos c2]
      obtain ⟨y, sd2, e2, y0, y1⟩ := next_ok hs (a + 1) sd1 (by omega) (by omega)
      show ∃ r a' sd', ((spec_l1Cur_next.f s (a + 1) sd1).bind _) = _ ∧ _
      rw [e2, Option.bind_some, if_neg (by omega)]
      have hv : 0 ≤ wrap64 (wrap64 (x * 256) + y) := by unfold wrap64; omega
      have := tmod_in hv (n := n) (by omega)
      exact ⟨_, _, _, rfl, this.1, fun _ => this.2, by show a ≤ a + 1 + 1; omega, by show a + 1 + 1 ≤ a + 2; omega⟩
    · rw [if_neg c2, if_neg (by omega)]
      have := tmod_in x0 (n := n) (by omega)
      exact ⟨_, _, _, rfl, this.1, fun _ => this.2, by show a ≤ a + 1; omega, by show a + 1 ≤ a + 2; omega⟩
theorem among_ok {s : List Int} (hs : Bytes8 s) (a sd : Int) (l : List Int) (hl : 0 < l.length) (h0 : 0 ≤ a) (h1 : a ≤ 900000000) : ∃ r a' sd', spec_l1Cur_among.f s a sd l = some (r, a', sd') ∧ r ∈ l ∧ a ≤ a' ∧ a' ≤ a + 2 := by
  unfold spec_l1Cur_among.f
  obtain ⟨r, a', sd', e, r0, r1, b0, b1⟩ := pick_ok hs a sd (l.length : Int) h0 h1
  have r1 := r1 (by omega)
  rw [e, Option.bind_some, if_pos r0, if_pos r1]
  have hi : r.toNat < l.length := by omega
  have er : rd l r = l[r.toNat] := by
    unfold rd
    rw [List.getD_eq_getElem?_getD, List.getElem?_eq_getElem hi]
    rfl
  exact ⟨_, _, _, rfl, by rw [er]; exact List.getElem_mem hi, b0, b1⟩
theorem one_ok {s : List Int} (hs : Bytes8 s) (a sd n : Int) (h0 : 0 ≤ a) (h1 : a ≤ 900000000) : ∃ r a' sd', spec_l1Cur_one.f s a sd n = some (r, a', sd') ∧ a ≤ a' ∧ a' ≤ a + 2 := by
  unfold spec_l1Cur_one.f
  obtain ⟨r, a', sd', e, r0, r1, b0, b1⟩ := pick_ok hs a sd n h0 h1
  rw [e, Option.bind_some]
  exact ⟨_, _, _, rfl, b0, b1⟩

theorem pattern_ok {s : List Int} (hs : Bytes8 s) (a sd : Int) (h0 : 0 ≤ a) (h1 : a ≤ 1000000) : ∃ p l a' sd', Ev (fun k => spec_l1Cur_pattern.f k s a sd) (p, l, a', sd') ∧ l.length ≤ 25 ∧ a ≤ a' ∧ a' ≤ a + 100 := by
  unfold spec_l1Cur_pattern.f
  obtain ⟨p, a1, sd1, e1, m1, b1, c1⟩ := among_ok hs a sd [1, 2, 3, 4, 5, 6, 8, 8, 12, 16, 24] (by decide) h0 (by omega)
  obtain ⟨f, a2, sd2, e2, m2, b2, c2⟩ := among_ok hs a1 sd1 [2, 3] (by decide) (by omega) (by omega)
  have hp : 1 ≤ p ∧ p ≤ 24 := by simp at m1; omega
  obtain ⟨n, rfl⟩ : ∃ n : Nat, p = n := ⟨p.toNat, by omega⟩
  have go : ∃ p l a' sd', Ev (fun k => spec_l1Cur_pattern.l0 k f 0 s a2 sd2 (n : Int) []) (p, l, a', sd') ∧ l.length ≤ 25 ∧ a ≤ a' ∧ a' ≤ a + 100 := by
    refine count_up n (fun i (st : List Int × Int × Int) => st.1.length ≤ i ∧ a2 ≤ st.2.1 ∧ st.2.1 ≤ a2 + 2 * i) (fun i st => ∃ p l a' sd', Ev (fun k => spec_l1Cur_pattern.l0 k f (i : Int) s st.2.1 st.2.2 (n : Int) st.1) (p, l, a', sd') ∧ l.length ≤ 25 ∧ a ≤ a' ∧ a' ≤ a + 100) (fun st hst => ?_) (fun i st hi hst ih => ?_) 0 ([], a2, sd2) (Nat.zero_le _) ⟨Nat.zero_le _, by show a2 ≤ a2; omega, by show a2 ≤ a2 + 2 * ((0 : Nat) : Int); omega⟩
    · obtain ⟨l, q, d⟩ := st
      obtain ⟨g1, g2, g3⟩ := hst
      have g1 : l.length ≤ n := g1
      have g2 : a2 ≤ q := g2
      have g3 : q ≤ a2 + 2 * n := g3
      obtain ⟨r, q1, d1, x1, x2, x3, x4, x5⟩ := pick_ok hs q d 30 (by omega) (by omega)
      obtain ⟨r2, q2, d2, y1, y2, y3, y4⟩ := among_ok hs q1 d1 [0, 25, -1] (by decide) (by omega) (by omega)
      obtain ⟨r3, q3, d3, z1, z2, z3, z4⟩ := among_ok hs q1 d1 [-1, 0, (n : Int)] (by simp) (by omega) (by omega)
      by_cases k1 : r = 0
      · refine ⟨r2, l, q2, d2, Ev.step (f := fun _ => some (r2, l, q2, d2)) (fun k => ?_) (Ev.now _), by omega, by omega, by omega⟩
        simp only [spec_l1Cur_pattern.l0]
        rw [if_neg (by omega)]
        simp only [x1, Option.bind_some]
        rw [if_pos k1, y1, Option.bind_some]
      · by_cases k2 : r = 1
        · refine ⟨n, l ++ [r3], q3, d3, Ev.step (f := fun _ => some ((n : Int), l ++ [r3], q3, d3)) (fun k => ?_) (Ev.now _), by simp; omega, by omega, by omega⟩
          simp only [spec_l1Cur_pattern.l0]
          rw [if_neg (by omega)]
          simp only [x1, Option.bind_some]
          rw [if_neg k1, if_pos k2, z1, Option.bind_some, if_pos (by omega)]
        · refine ⟨n, l, q1, d1, Ev.step (f := fun _ => some ((n : Int), l, q1, d1)) (fun k => ?_) (Ev.now _), by omega, by omega, by omega⟩
          simp only [spec_l1Cur_pattern.l0]
          rw [if_neg (by omega)]
          simp only [x1, Option.bind_some]
          rw [if_neg k1, if_neg k2]
    · obtain ⟨l, q, d⟩ := st
      obtain ⟨g1, g2, g3⟩ := hst
      have g1 : l.length ≤ i := g1
      have g2 : a2 ≤ q := g2
      have g3 : q ≤ a2 + 2 * i := g3
      have e3 := wn hi (by omega)
      obtain ⟨b, q1, d1, x1, x2, x3⟩ := one_ok hs q d f (by omega) (by omega)
      cases b with
      | true =>
        obtain ⟨p, l', a', sd', k1, k2⟩ := ih (l ++ [(i : Int)], q1, d1) ⟨by simp; omega, by show a2 ≤ q1; omega, by show q1 ≤ a2 + 2 * ((i + 1 : Nat) : Int); omega⟩
        refine ⟨p, l', a', sd', Ev.step (fun k => ?_) k1, k2⟩
        simp only [spec_l1Cur_pattern.l0]
        rw [if_pos (by omega)]
        simp only [x1, Option.bind_some, e3]
        rw [if_pos trivial, if_pos (by omega)]
      | false =>
        obtain ⟨p, l', a', sd', k1, k2⟩ := ih (l, q1, d1) ⟨by show l.length ≤ i + 1; omega, by show a2 ≤ q1; omega, by show q1 ≤ a2 + 2 * ((i + 1 : Nat) : Int); omega⟩
        refine ⟨p, l', a', sd', Ev.step (fun k => ?_) k1, k2⟩
        simp only [spec_l1Cur_pattern.l0]
        rw [if_pos (by omega)]
        simp only [x1, Option.bind_some, e3]
        rw [if_neg (by simp)]
  obtain ⟨p', l, a', sd', k1, k2⟩ := go
  exact ⟨p', l, a', sd', ev_call e1 (ev_call e2 k1), k2⟩

theorem patterns_ok {s : List Int} (hs : Bytes8 s) : ∃ l : List S26, Ev (fun k => spec_DrawMostTogether.f k s) l ∧ l.length ≤ 1048576 ∧ ∀ x ∈ l, x.f1.length ≤ 1048576 := by
  unfold spec_DrawMostTogether.f spec_DrawCommonSteps.f spec_l1Cur_patterns.f
  obtain ⟨r1, a1, sd1, e1, r10, r11, b1, c1⟩ := pick_ok hs 0 0 3 (by omega) (by omega)
  have r11 := r11 (by omega)
  obtain ⟨r2, a2, sd2, e2, b2, c2⟩ := one_ok hs a1 sd1 16 (by omega) (by omega)
  have loop : ∀ (n : Nat) (a sd : Int), n ≤ 6 → 0 ≤ a → a ≤ 1000 → ∃ (l : List S26) (a' sd' : Int), Ev (fun k => spec_l1Cur_patterns.j0 k [] (n : Int) s a sd) (l, a', sd') ∧ l.length ≤ 1048576 ∧ ∀ x ∈ l, x.f1.length ≤ 1048576 := by
    intro n a sd hn h0 h1
    have go := count_up n (fun i (st : List S26 × Int × Int) => st.1.length = i ∧ (∀ x ∈ st.1, x.f1.length ≤ 1048576) ∧ 0 ≤ st.2.1 ∧ st.2.1 ≤ 1000 + 100 * i) (fun i st => ∃ (l : List S26) (a' sd' : Int), Ev (fun k => spec_l1Cur_patterns.l0 k st.1 (n : Int) s st.2.1 st.2.2) (l, a', sd') ∧ l.length ≤ 1048576 ∧ ∀ x ∈ l, x.f1.length ≤ 1048576) (fun st hst => ?_) (fun i st hi hst ih => ?_) 0 ([], a, sd) (Nat.zero_le _) ⟨rfl, fun x hx => absurd hx List.not_mem_nil, h0, by show a ≤ 1000 + 100 * ((0 : Nat) : Int); omega⟩
    · obtain ⟨l, a', sd', g1, g2⟩ := go
      exact ⟨l, a', sd', Ev.step (f := fun k => spec_l1Cur_patterns.l0 k [] (n : Int) s a sd) (fun k => rfl) g1, g2⟩
    · obtain ⟨l, q, d⟩ := st
      obtain ⟨g1, g2, g3, g4⟩ := hst
      have g1 : l.length = n := g1
      have g3 : 0 ≤ q := g3
      have g4 : q ≤ 1000 + 100 * n := g4
      obtain ⟨r, q1, d1, x1, x2, x3, x4, x5⟩ := pick_ok hs q d 24 (by omega) (by omega)
      by_cases k1 : r = 0
      · refine ⟨[⟨16, [1, 4]⟩, ⟨9, [2]⟩, ⟨5, [0]⟩, ⟨7, [3]⟩], q1, d1, Ev.step (f := fun _ => some ([⟨16, [1, 4]⟩, ⟨9, [2]⟩, ⟨5, [0]⟩, ⟨7, [3]⟩], q1, d1)) (fun k => ?_) (Ev.now _), by decide, fun x hx => ?_⟩
        · simp only [spec_l1Cur_patterns.l0]
          rw [if_neg (by omega), x1, Option.bind_some, if_pos k1]
        · simp only [List.mem_cons, List.not_mem_nil, or_false] at hx
          rcases hx with rfl | rfl | rfl | rfl <;> decide
      · by_cases k2 : r = 1
        · refine ⟨[⟨20, [1]⟩, ⟨11, [2]⟩, ⟨23, [0]⟩], q1, d1, Ev.step (f := fun _ => some ([⟨20, [1]⟩, ⟨11, [2]⟩, ⟨23, [0]⟩], q1, d1)) (fun k => ?_) (Ev.now _), by decide, fun x hx => ?_⟩
          · simp only [spec_l1Cur_patterns.l0]
            rw [if_neg (by omega), x1, Option.bind_some, if_neg k1, if_pos k2]
          · simp only [List.mem_cons, List.not_mem_nil, or_false] at hx
            rcases hx with rfl | rfl | rfl <;> decide
        · refine ⟨l, q1, d1, Ev.step (f := fun _ => some (l, q1, d1)) (fun k => ?_) (Ev.now _), by omega, g2⟩
          simp only [spec_l1Cur_patterns.l0]
          rw [if_neg (by omega), x1, Option.bind_some, if_neg k1, if_neg k2]
    · obtain ⟨l, q, d⟩ := st
      obtain ⟨g1, g2, g3, g4⟩ := hst
      have g1 : l.length = i := g1
      have g3 : 0 ≤ q := g3
      have g4 : q ≤ 1000 + 100 * i := g4
      obtain ⟨p, b, q1, d1, x1, x2, x3, x4⟩ := pattern_ok hs q d (by omega) (by omega)
      obtain ⟨l', a', sd', k1, k2⟩ := ih (l ++ [⟨p, b⟩], q1, d1) ⟨by simp [g1], fun x hx => by
        rcases List.mem_append.1 hx with h | h
        · exact g2 x h
        · rw [List.mem_singleton.1 h]; show b.length ≤ 1048576; omega, by show 0 ≤ q1; omega, by show q1 ≤ 1000 + 100 * ((i + 1 : Nat) : Int); omega⟩
      refine ⟨l', a', sd', Ev.step (f := fun k => (spec_l1Cur_pattern.f k s q d).bind fun bt => (if l.length < 4398046511104 then (spec_l1Cur_patterns.l0 k (l ++ [⟨bt.1, bt.2.1⟩]) (n : Int) s bt.2.2.1 bt.2.2.2) else none)) (fun k => ?_) (Ev.bind x1 (ev_pos (by omega) k1)), k2⟩
      simp only [spec_l1Cur_patterns.l0]
      rw [if_pos (by omega)]
  cases r2 with
  | true =>
    obtain ⟨r3, a3, sd3, e3, m3, b3, c3⟩ := among_ok hs a2 sd2 [0, 5, 6] (by decide) (by omega) (by omega)
    have h3 : 0 ≤ r3 ∧ r3 ≤ 6 := by simp at m3; omega
    obtain ⟨n, rfl⟩ : ∃ n : Nat, r3 = n := ⟨r3.toNat, by omega⟩
    obtain ⟨l, a', sd', g1, g2⟩ := loop n a3 sd3 (by omega) (by omega) (by omega)
    exact ⟨l, Ev.bind (Ev.bind (ev_call e1 (ev_call e2 (ev_pos rfl (ev_call e3 g1)))) (Ev.now _)) (Ev.now _), g2⟩
  | false =>
    obtain ⟨n, hn⟩ : ∃ n : Nat, (n : Int) = wrap64 (1 + r1) := ⟨(1 + r1).toNat, by unfold wrap64; omega⟩
    obtain ⟨l, a', sd', g1, g2⟩ := loop n a2 sd2 (by unfold wrap64 at hn; omega) (by omega) (by omega)
    rw [hn] at g1
    exact ⟨l, Ev.bind (Ev.bind (ev_call e1 (ev_call e2 (ev_neg (by simp) g1))) (Ev.now _)) (Ev.now _), g2⟩
theorem drawturn_ok {s : List Int} (hs : Bytes8 s) : ∃ p l y, Ev (fun k => spec_DrawTurnPattern.f k s) (p, l, y) ∧ l.length ≤ 1048576 := by
  unfold spec_DrawTurnPattern.f
  obtain ⟨p, l, a, sd, e, hl, a0, a1⟩ := pattern_ok hs 0 0 (by omega) (by omega)
  obtain ⟨r1, a2, sd2, e2, _, b2, c2⟩ := among_ok hs a sd [25, -1] (by decide) (by omega) (by omega)
  obtain ⟨r2, a3, sd3, e3, _, b3, c3⟩ := among_ok hs a2 sd2 [0, 1, 2, 7, 24, r1] (by simp) (by omega) (by omega)
  exact ⟨p, l, r2, Ev.bind e (ev_call e2 (ev_call e3 (Ev.now _))), by omega⟩
theorem drawleast_ok {s : List Int} (hs : Bytes8 s) : ∃ p l q b, Ev (fun k => spec_DrawLeastTurn.f k s) (p, l, q, b) ∧ l.length ≤ 1048576 ∧ b.length ≤ 1048576 := by
  unfold spec_DrawLeastTurn.f
  obtain ⟨p, l, a, sd, e, hl, a0, a1⟩ := pattern_ok hs 0 0 (by omega) (by omega)
  have other : ∀ a sd : Int, 0 ≤ a → a ≤ 1000 → ∃ q b, Ev (fun k => spec_DrawLeastTurn.j0 k true s a sd p l) (p, l, q, b) ∧ b.length ≤ 1048576 := by
    intro a sd h0 h1
    obtain ⟨q, b, a', sd', e', hl', _⟩ := pattern_ok hs a sd h0 (by omega)
    exact ⟨q, b, Ev.step (f := fun k => (spec_l1Cur_pattern.f k s a sd).bind fun bt => some (p, l, bt.1, bt.2.1)) (fun k => rfl) (Ev.bind e' (Ev.now _)), by omega⟩
  by_cases hg : isP p l
  · obtain ⟨b, a2, sd2, e2, b2, c2⟩ := one_ok hs a sd 4 (by omega) (by omega)
    cases b with
    | true =>
      obtain ⟨q, b, g1, g2⟩ := other a2 sd2 (by omega) (by omega)
      exact ⟨p, l, q, b, Ev.bind e (Ev.bind (spec_isP _ l (by omega)) (ev_pos (decide_eq_true hg) (ev_call e2 g1))), by omega, g2⟩
    | false =>
      have h1 := hg.1
      have h2 := hg.2.1
      obtain ⟨r, a3, sd3, e3, r0, r1, b3, c3⟩ := pick_ok hs a2 sd2 p (by omega) (by omega)
      have r1 := r1 (by omega)
      obtain ⟨g1, _, _, _⟩ := turn_told p r l (by omega) hg (by omega)
      have hlen := turnT_len p r l (by omega) hg (by omega)
      refine ⟨p, l, p, turnT p r l, Ev.bind e (Ev.bind (spec_isP _ l (by omega)) (ev_pos (decide_eq_true hg) (ev_call e2 ?_))), by omega, by omega⟩
      exact Ev.step (f := fun k => (spec_l1Cur_pick.f s a2 sd2 p).bind fun bt => (spec_drTurn.f k p l bt.1).bind fun bt2 => some (p, l, bt2.1, bt2.2)) (fun k => rfl) (ev_call e3 (Ev.bind g1 (Ev.now _)))
  · obtain ⟨q, b, g1, g2⟩ := other a sd (by omega) (by omega)
    exact ⟨p, l, q, b, Ev.bind e (Ev.bind (spec_isP _ l (by omega)) (ev_neg (by simpa using hg) g1)), by omega, g2⟩
end Go.Proofs.Ytlhjjpdlfddflac.PureFnDrums
