/- The plain statement of FnPatterns (lemmas): the law's function, over numbers and lists, answers true. No conditions beyond the arguments' own kinds. -/
import Derived.Test.YtlhjjpdlfddflabSFnPatterns9
import Derived.Test.YtlhjjpdlfddflabVFnPatterns
namespace Go.Proofs.Ytlhjjpdlfddflab.PureFnPatterns
open Go Go.RowKit Go.Proofs.Ytlhjjpdlfddflab.PFnPatterns Go.Proofs.YtlhjjpdlfddflabW.PrintWords Go.Proofs.YtlhjjpdlfddflabW.PrintLast Go.Proofs.YtlhjjpdlfddflabW.PrintMore Go.Proofs.Ytlhjjpdlfddflab.Lib
set_option linter.unusedVariables false
set_option linter.unusedSimpArgs false
/-- A loop that counts up to n, and what is known of its answer. -/
theorem ev_for_ex {σ ρ : Type} (L : Nat → σ → Int → Option ρ) (n : Nat) (Inv : Nat → σ → Prop) (Post : ρ → Prop) (hstop : ∀ s, Inv n s → ∃ r, Ev (fun k => L k s (n : Int)) r ∧ Post r)
    (hgo : ∀ i s, i < n → Inv i s → (∀ s', Inv (i + 1) s' → ∃ r, Ev (fun k => L k s' ((i + 1 : Nat) : Int)) r ∧ Post r) → ∃ r, Ev (fun k => L k s (i : Int)) r ∧ Post r) :
    ∀ i s, i ≤ n → Inv i s → ∃ r, Ev (fun k => L k s (i : Int)) r ∧ Post r := by
  have key : ∀ d i : Nat, n - i = d → i ≤ n → ∀ s, Inv i s → ∃ r, Ev (fun k => L k s (i : Int)) r ∧ Post r := by
    intro d
    induction d with
    | zero =>
      intro i hd hi s hs
      obtain rfl : i = n := by omega
      exact hstop s hs
    | succ d ih =>
      intro i hd hi s hs
      exact hgo i s (by omega) hs (fun s' hs' => ih (i + 1) (by omega) (by omega) s' hs')
  intro i s hi hs
  exact key (n - i) i rfl hi s hs
theorem wn {i n : Nat} (h : i < n) (hn : n ≤ 9223372036854775807) : wrap64 ((i : Int) + 1) = ((i + 1 : Nat) : Int) := by unfold wrap64; omega
/-- Whatever holds at the end of a count, and at i if it holds at i + 1, holds from everywhere. -/
theorem count_up {σ : Type} (n : Nat) (Inv Q : Nat → σ → Prop) (hstop : ∀ s, Inv n s → Q n s) (hgo : ∀ i s, i < n → Inv i s → (∀ s', Inv (i + 1) s' → Q (i + 1) s') → Q i s) : ∀ i s, i ≤ n → Inv i s → Q i s := by
  have key : ∀ d i : Nat, n - i = d → i ≤ n → ∀ s, Inv i s → Q i s := by
    intro d
    induction d with
    | zero =>
      intro i hd hi s hs
      obtain rfl : i = n := by omega
      exact hstop s hs
    | succ d ih =>
      intro i hd hi s hs
      exact hgo i s (by omega) hs (fun s' hs' => ih (i + 1) (by omega) (by omega) s' hs')
  intro i s hi hs
  exact key (n - i) i rfl hi s hs

/-! #### the drawing cursor: whatever the bytes, each draw comes to an end -/
theorem and255 (x : Int) : 0 ≤ Go.bits .and .u64 x 255 ∧ Go.bits .and .u64 x 255 ≤ 255 := by
  have h : (BitVec.ofInt 64 x &&& BitVec.ofInt 64 255).toNat ≤ 255 := by
    rw [BitVec.toNat_and]
    exact Nat.le_trans Nat.and_le_right (by decide)
  have e : Go.bits .and .u64 x 255 = IntKind.u64.wrap ((BitVec.ofInt 64 x &&& BitVec.ofInt 64 255).toNat : Int) := rfl
  have ew : ∀ n : Int, IntKind.u64.wrap n = n % 18446744073709551616 := fun n => by simp [IntKind.wrap, IntKind.bits, IntKind.signed]
  rw [e, ew]
  omega
def Bytes8 (s : List Int) : Prop := ∀ x ∈ s, 0 ≤ x ∧ x ≤ 255
theorem next_ok {s : List Int} (hs : Bytes8 s) (a sd : Int) (h0 : 0 ≤ a) (h1 : a ≤ 1000000000) : ∃ r sd', spec_l1Cur_next.f s a sd = some (r, a + 1, sd') ∧ 0 ≤ r ∧ r ≤ 255 := by
  have e1 : wrap64 (a + 1) = a + 1 := by unfold wrap64; omega
  unfold spec_l1Cur_next.f
  simp only [e1]
  by_cases c : a < (s.length : Int)
  · rw [if_pos c, if_pos h0, if_pos (by omega)]
    have hi : a.toNat < s.length := by omega
    have er : rd s a = s[a.toNat] := by
      unfold rd
      rw [List.getD_eq_getElem?_getD, List.getElem?_eq_getElem hi]
      rfl
    have hm := hs _ (List.getElem_mem hi)
    refine ⟨_, _, rfl, ?_⟩
    rw [er]
    unfold wrap64
    omega
  · rw [if_neg c, if_neg (by omega)]
    refine ⟨_, _, rfl, ?_⟩
    have := and255 ((IntKind.u64.wrap ((IntKind.u64.wrap (IntKind.u64.wrap (sd * 6364136223846793005))) + 1442695040888963407)) / 1099511627776)
    unfold wrap64
    omega
theorem tmod_in {v n : Int} (hv : 0 ≤ v) (hn : 1 ≤ n) : 0 ≤ Int.tmod v n ∧ Int.tmod v n < n := by
  rw [Int.tmod_eq_emod_of_nonneg hv]
  exact ⟨Int.emod_nonneg _ (by omega), Int.emod_lt_of_pos _ (by omega)⟩
theorem pick_ok {s : List Int} (hs : Bytes8 s) (a sd n : Int) (h0 : 0 ≤ a) (h1 : a ≤ 900000000) : ∃ r a' sd', spec_l1Cur_pick.f s a sd n = some (r, a', sd') ∧ 0 ≤ r ∧ (1 ≤ n → r < n) ∧ a ≤ a' ∧ a' ≤ a + 2 := by
  unfold spec_l1Cur_pick.f
  by_cases c : n ≤ 1
  · rw [if_pos c]
    exact ⟨0, a, sd, rfl, by omega, by omega, by omega, by omega⟩
  · rw [if_neg c]
    obtain ⟨x, sd1, e1, x0, x1⟩ := next_ok hs a sd h0 (by omega)
    rw [e1, Option.bind_some]
    by_cases c2 : n > 200
    · rw [if_pos c2]
      obtain ⟨y, sd2, e2, y0, y1⟩ := next_ok hs (a + 1) sd1 (by omega) (by omega)
      show ∃ r a' sd', ((spec_l1Cur_next.f s (a + 1) sd1).bind _) = _ ∧ _
      rw [e2, Option.bind_some, if_neg (by omega)]
      have hv : 0 ≤ wrap64 (wrap64 (x * 256) + y) := by unfold wrap64; omega
      have := tmod_in hv (n := n) (by omega)
      exact ⟨_, _, _, rfl, this.1, fun _ => this.2, by show a ≤ a + 1 + 1; omega, by show a + 1 + 1 ≤ a + 2; omega⟩
    · rw [if_neg c2, if_neg (by omega)]
      have := tmod_in x0 (n := n) (by omega)
      exact ⟨_, _, _, rfl, this.1, fun _ => this.2, by show a ≤ a + 1; omega, by show a + 1 ≤ a + 2; omega⟩
theorem among_ok {s : List Int} (hs : Bytes8 s) (a sd : Int) (l : List Int) (hl : 0 < l.length) (h0 : 0 ≤ a) (h1 : a ≤ 900000000) : ∃ r a' sd', spec_l1Cur_among.f s a sd l = some (r, a', sd') ∧ r ∈ l ∧ a ≤ a' ∧ a' ≤ a + 2 := by
  unfold spec_l1Cur_among.f
  obtain ⟨r, a', sd', e, r0, r1, b0, b1⟩ := pick_ok hs a sd (l.length : Int) h0 h1
  have r1 := r1 (by omega)
  rw [e, Option.bind_some, if_pos r0, if_pos r1]
  have hi : r.toNat < l.length := by omega
  have er : rd l r = l[r.toNat] := by
    unfold rd
    rw [List.getD_eq_getElem?_getD, List.getElem?_eq_getElem hi]
    rfl
  exact ⟨_, _, _, rfl, by rw [er]; exact List.getElem_mem hi, b0, b1⟩
theorem one_ok {s : List Int} (hs : Bytes8 s) (a sd n : Int) (h0 : 0 ≤ a) (h1 : a ≤ 900000000) : ∃ r a' sd', spec_l1Cur_one.f s a sd n = some (r, a', sd') ∧ a ≤ a' ∧ a' ≤ a + 2 := by
  unfold spec_l1Cur_one.f
  obtain ⟨r, a', sd', e, r0, r1, b0, b1⟩ := pick_ok hs a sd n h0 h1
  rw [e, Option.bind_some]
  exact ⟨_, _, _, rfl, b0, b1⟩

theorem pattern_ok {s : List Int} (hs : Bytes8 s) (a sd : Int) (h0 : 0 ≤ a) (h1 : a ≤ 1000000) : ∃ p l a' sd', Ev (fun k => spec_l1Cur_pattern.f k s a sd) (p, l, a', sd') ∧ l.length ≤ 25 ∧ a ≤ a' ∧ a' ≤ a + 100 := by
  unfold spec_l1Cur_pattern.f
  obtain ⟨p, a1, sd1, e1, m1, b1, c1⟩ := among_ok hs a sd [1, 2, 3, 4, 5, 6, 8, 8, 12, 16, 24] (by decide) h0 (by omega)
  obtain ⟨f, a2, sd2, e2, m2, b2, c2⟩ := among_ok hs a1 sd1 [2, 3] (by decide) (by omega) (by omega)
  have hp : 1 ≤ p ∧ p ≤ 24 := by simp at m1; omega
  obtain ⟨n, rfl⟩ : ∃ n : Nat, p = n := ⟨p.toNat, by omega⟩
  have go : ∃ p l a' sd', Ev (fun k => spec_l1Cur_pattern.l0 k f 0 s a2 sd2 (n : Int) []) (p, l, a', sd') ∧ l.length ≤ 25 ∧ a ≤ a' ∧ a' ≤ a + 100 := by
    refine count_up n (fun i (st : List Int × Int × Int) => st.1.length ≤ i ∧ a2 ≤ st.2.1 ∧ st.2.1 ≤ a2 + 2 * i) (fun i st => ∃ p l a' sd', Ev (fun k => spec_l1Cur_pattern.l0 k f (i : Int) s st.2.1 st.2.2 (n : Int) st.1) (p, l, a', sd') ∧ l.length ≤ 25 ∧ a ≤ a' ∧ a' ≤ a + 100) (fun st hst => ?_) (fun i st hi hst ih => ?_) 0 ([], a2, sd2) (Nat.zero_le _) ⟨Nat.zero_le _, by show a2 ≤ a2; omega, by show a2 ≤ a2 + 2 * ((0 : Nat) : Int); omega⟩
    · obtain ⟨l, q, d⟩ := st
      obtain ⟨g1, g2, g3⟩ := hst
      have g1 : l.length ≤ n := g1
      have g2 : a2 ≤ q := g2
      have g3 : q ≤ a2 + 2 * n := g3
      obtain ⟨r, q1, d1, x1, x2, x3, x4, x5⟩ := pick_ok hs q d 30 (by omega) (by omega)
      obtain ⟨r2, q2, d2, y1, y2, y3, y4⟩ := among_ok hs q1 d1 [0, 25, -1] (by decide) (by omega) (by omega)
      obtain ⟨r3, q3, d3, z1, z2, z3, z4⟩ := among_ok hs q1 d1 [-1, 0, (n : Int)] (by simp) (by omega) (by omega)
      by_cases k1 : r = 0
      · refine ⟨r2, l, q2, d2, Ev.step (f := fun _ => some (r2, l, q2, d2)) (fun k => ?_) (Ev.now _), by omega, by omega, by omega⟩
        simp only [spec_l1Cur_pattern.l0]
        rw [if_neg (by omega)]
        simp only [x1, Option.bind_some]
        rw [if_pos k1, y1, Option.bind_some]
      · by_cases k2 : r = 1
        · refine ⟨n, l ++ [r3], q3, d3, Ev.step (f := fun _ => some ((n : Int), l ++ [r3], q3, d3)) (fun k => ?_) (Ev.now _), by simp; omega, by omega, by omega⟩
          simp only [spec_l1Cur_pattern.l0]
          rw [if_neg (by omega)]
          simp only [x1, Option.bind_some]
          rw [if_neg k1, if_pos k2, z1, Option.bind_some, if_pos (by omega)]
        · refine ⟨n, l, q1, d1, Ev.step (f := fun _ => some ((n : Int), l, q1, d1)) (fun k => ?_) (Ev.now _), by omega, by omega, by omega⟩
          simp only [spec_l1Cur_pattern.l0]
          rw [if_neg (by omega)]
          simp only [x1, Option.bind_some]
          rw [if_neg k1, if_neg k2]
    · obtain ⟨l, q, d⟩ := st
      obtain ⟨g1, g2, g3⟩ := hst
      have g1 : l.length ≤ i := g1
      have g2 : a2 ≤ q := g2
      have g3 : q ≤ a2 + 2 * i := g3
      have e3 := wn hi (by omega)
      obtain ⟨b, q1, d1, x1, x2, x3⟩ := one_ok hs q d f (by omega) (by omega)
      cases b with
      | true =>
        obtain ⟨p, l', a', sd', k1, k2⟩ := ih (l ++ [(i : Int)], q1, d1) ⟨by simp; omega, by show a2 ≤ q1; omega, by show q1 ≤ a2 + 2 * ((i + 1 : Nat) : Int); omega⟩
        refine ⟨p, l', a', sd', Ev.step (fun k => ?_) k1, k2⟩
        simp only [spec_l1Cur_pattern.l0]
        rw [if_pos (by omega)]
        simp only [x1, Option.bind_some, e3]
        rw [if_pos trivial, if_pos (by omega)]
      | false =>
        obtain ⟨p, l', a', sd', k1, k2⟩ := ih (l, q1, d1) ⟨by show l.length ≤ i + 1; omega, by show a2 ≤ q1; omega, by show q1 ≤ a2 + 2 * ((i + 1 : Nat) : Int); omega⟩
        refine ⟨p, l', a', sd', Ev.step (fun k => ?_) k1, k2⟩
        simp only [spec_l1Cur_pattern.l0]
        rw [if_pos (by omega)]
        simp only [x1, Option.bind_some, e3]
        rw [if_neg (by simp)]
  obtain ⟨p', l, a', sd', k1, k2⟩ := go
  exact ⟨p', l, a', sd', ev_call e1 (ev_call e2 k1), k2⟩

theorem l1In_eq (a b c : Int) : spec_l1In.f a b c = some (decide (b ≤ a ∧ a ≤ c)) := by
  unfold spec_l1In.f
  split <;> simp <;> omega

def okP (p : Int) (l : List Int) (i : Nat) : Prop := 0 ≤ rd l i ∧ rd l i < p ∧ (i > 0 → rd l ((i : Int) - 1) < rd l i)
instance (p : Int) (l : List Int) (i : Nat) : Decidable (okP p l i) := by unfold okP; infer_instance
/-- A pattern: its number of steps, and its beats. -/
def isP (p : Int) (l : List Int) : Prop := 1 ≤ p ∧ p ≤ 24 ∧ ∀ i, i < l.length → okP p l i
instance (p : Int) (l : List Int) : Decidable (isP p l) := by unfold isP; infer_instance
theorem impl_isP (p : Int) (l : List Int) (hl : l.length ≤ 1048576) : Ev (fun k => impl_IsPattern.f k p l) (decide (isP p l)) := by
  unfold impl_IsPattern.f
  by_cases h : 1 ≤ p ∧ p ≤ 24
  · refine ev_neg (by omega) (Ev.step (f := fun k => impl_IsPattern.l0 k l (l.length : Int) 0 p l) (fun k => ?_) ?_)
    · simp only [impl_IsPattern.j0]
      rw [if_neg (by simp; omega)]
    · refine all_loop (fun k i => impl_IsPattern.l0 k l (l.length : Int) i p l) l.length (okP p l) true _ (by simp [isP, h]) (fun k => ?_) (fun k i hi => ?_)
      · simp only [impl_IsPattern.l0]
        rw [if_neg (by omega)]
      · have e1 : wrap64 ((i : Int) + 1) = i + 1 := by unfold wrap64; omega
        simp only [impl_IsPattern.l0, e1]
        unfold okP
        by_cases hz : (i : Int) > 0
        · have e2 : wrap64 ((i : Int) - 1) = i - 1 := by unfold wrap64; omega
          simp only [e2]
          constructor <;> intro h <;> (repeat' split) <;> first | rfl | (exfalso; omega)
        · constructor <;> intro h <;> (repeat' split) <;> first | rfl | (exfalso; omega)
  · have e : decide (isP p l) = false := decide_eq_false (fun hp => h ⟨hp.1, hp.2.1⟩)
    rw [e]
    refine ev_ite (fun hc => Ev.step (f := fun _ => some false) (fun k => rfl) (Ev.now _)) (fun hc => Ev.step (f := fun _ => some false) (fun k => ?_) (Ev.now _))
    simp only [impl_IsPattern.j0]
    rw [if_pos (by simp; omega)]
theorem spec_isP (p : Int) (l : List Int) (hl : l.length ≤ 1048576) : Ev (fun k => spec_drGood.f k p l) (decide (isP p l)) := by
  unfold spec_drGood.f
  refine ev_call (l1In_eq _ _ _) ?_
  by_cases h : 1 ≤ p ∧ p ≤ 24
  · refine ev_pos (by simp; omega) (Ev.bind (f := fun k t => some t) ?_ (Ev.now _))
    unfold spec_l1Rising.f
    have e3 : wrap64 (p - 1) = p - 1 := by unfold wrap64; omega
    rw [e3]
    refine all_loop (fun k i => spec_l1Rising.l0 k l 0 (p - 1) l (l.length : Int) i) l.length (okP p l) true _ (by simp [isP, h]) (fun k => ?_) (fun k i hi => ?_)
    · simp only [spec_l1Rising.l0]
      rw [if_neg (by omega)]
    · have e1 : wrap64 ((i : Int) + 1) = i + 1 := by unfold wrap64; omega
      simp only [spec_l1Rising.l0, l1In_eq, Option.bind_some, decide_eq_true_eq, e1]
      unfold okP
      by_cases hz : (i : Int) > 0
      · have e2 : wrap64 ((i : Int) - 1) = i - 1 := by unfold wrap64; omega
        simp only [e2]
        constructor <;> intro h <;> (repeat' split) <;> first | rfl | (exfalso; omega)
      · constructor <;> intro h <;> (repeat' split) <;> first | rfl | (exfalso; omega)
  · have e : decide (isP p l) = false := decide_eq_false (fun hp => h ⟨hp.1, hp.2.1⟩)
    rw [e]
    exact ev_neg (by simp; omega) (Ev.now _)

theorem rise_get {p : Int} {l : List Int} (h : isP p l) : l.Pairwise (· < ·) := by
  rw [List.pairwise_iff_getElem]
  have hs : ∀ i, i + 1 < l.length → rd l (i : Int) < rd l ((i + 1 : Nat) : Int) := by
    intro i hi
    have h2 := (h.2.2 (i + 1) hi).2.2 (by omega)
    rw [show (((i + 1 : Nat) : Int) - 1) = (i : Int) by omega] at h2
    exact h2
  intro i j hi hj hij
  have : ∀ d i, i + d + 1 < l.length → rd l (i : Int) < rd l ((i + d + 1 : Nat) : Int) := by
    intro d
    induction d with
    | zero => intro i hi; exact hs i hi
    | succ d ih => intro i hi; exact Int.lt_trans (ih i (by omega)) (hs (i + d + 1) (by omega))
  have h3 := this (j - i - 1) i (by omega)
  rw [show i + (j - i - 1) + 1 = j by omega] at h3
  have r1 : rd l (i : Int) = l[i] := rd_get hi
  have r2 : rd l (j : Int) = l[j] := rd_get hj
  rwa [r1, r2] at h3
theorem rise_mem {p : Int} {l : List Int} (h : isP p l) {b : Int} (hb : b ∈ l) : 0 ≤ b ∧ b < p := by
  obtain ⟨i, hi, rfl⟩ := List.mem_iff_getElem.1 hb
  have h2 := h.2.2 i hi
  have r1 : rd l (i : Int) = l[i] := rd_get hi
  unfold okP at h2
  rw [r1] at h2
  exact ⟨h2.1, h2.2.1⟩

/-- Two strictly ascending lists of the same members are one. -/
theorem strict_ext {a b : List Int} (ha : a.Pairwise (· < ·)) (hb : b.Pairwise (· < ·)) (h : ∀ x, x ∈ a ↔ x ∈ b) : a = b := by
  have na : a.Nodup := ha.imp (fun h e => by subst e; exact Int.lt_irrefl _ h)
  have nb : b.Nodup := hb.imp (fun h e => by subst e; exact Int.lt_irrefl _ h)
  have hp : a.Perm b := (List.perm_ext_iff_of_nodup na nb).2 h
  exact List.Perm.eq_of_pairwise (le := fun a b : Int => a ≤ b) (fun a b _ _ h h' => by omega) (ha.imp (fun h => by omega)) (hb.imp (fun h => by omega)) hp

/-- 0, 1, .., n - 1. -/
def ints (n : Nat) : List Int := (List.range n).map fun (i : Nat) => (i : Int)
theorem mem_ints {n : Nat} {x : Int} : x ∈ ints n ↔ 0 ≤ x ∧ x < n := by
  unfold ints
  rw [List.mem_map]
  constructor
  · rintro ⟨a, ha, rfl⟩
    have := List.mem_range.1 ha
    omega
  · rintro ⟨h1, h2⟩
    exact ⟨x.toNat, List.mem_range.2 (by omega), by omega⟩
theorem ints_rise (n : Nat) : (ints n).Pairwise (· < ·) := by
  unfold ints
  rw [List.pairwise_map]
  exact List.pairwise_lt_range.imp (fun h => by omega)
theorem ints_succ (n : Nat) : ints (n + 1) = ints n ++ [(n : Int)] := by
  unfold ints
  rw [List.range_succ, List.map_append]
  rfl
theorem ints_length (n : Nat) : (ints n).length = n := by simp [ints]
theorem isP_of {p : Int} {l : List Int} (h1 : 1 ≤ p) (h2 : p ≤ 24) (hs : l.Pairwise (· < ·)) (hm : ∀ x ∈ l, 0 ≤ x ∧ x < p) : isP p l := by
  refine ⟨h1, h2, fun i hi => ?_⟩
  have r1 : rd l (i : Int) = l[i] := rd_get hi
  have hx := hm _ (List.getElem_mem hi)
  unfold okP
  rw [r1]
  refine ⟨hx.1, hx.2, fun h0 => ?_⟩
  have hj : i - 1 < l.length := by omega
  have r2 : rd l ((i : Int) - 1) = l[i - 1] := by
    rw [show ((i : Int) - 1) = ((i - 1 : Nat) : Int) by omega]
    exact rd_get hj
  rw [r2]
  exact List.pairwise_iff_getElem.1 hs (i - 1) i hj hi (by omega)
def beatsOf (p : Nat) (l : List Int) : List Int := (ints p).filter fun x => decide (x ∈ l)
def other (p : Nat) (l : List Int) : List Int := (ints p).filter fun x => !decide (x ∈ l)
theorem beatsOf_self {p : Nat} {l : List Int} (h : isP p l) : beatsOf p l = l := by
  refine strict_ext ((ints_rise p).sublist List.filter_sublist) (rise_get h) (fun x => ?_)
  unfold beatsOf
  rw [List.mem_filter, mem_ints]
  simp only [decide_eq_true_eq]
  exact ⟨fun h => h.2, fun hx => ⟨rise_mem h hx, hx⟩⟩
theorem other_isP {p : Nat} {l : List Int} (h : isP p l) : isP p (other p l) := by
  refine isP_of h.1 h.2.1 ((ints_rise p).sublist List.filter_sublist) (fun x hx => ?_)
  exact mem_ints.1 (List.mem_filter.1 hx).1
theorem mem_other {p : Nat} {l : List Int} {x : Int} : x ∈ other p l ↔ (0 ≤ x ∧ x < p) ∧ x ∉ l := by
  unfold other
  rw [List.mem_filter, mem_ints]
  simp
theorem other_other {p : Nat} {l : List Int} (h : isP p l) : other p (other p l) = l := by
  refine strict_ext ((ints_rise p).sublist List.filter_sublist) (rise_get h) (fun x => ?_)
  rw [mem_other, mem_other]
  constructor
  · rintro ⟨h1, h2⟩
    exact Classical.byContradiction fun h3 => h2 ⟨h1, h3⟩
  · intro hx
    exact ⟨rise_mem h hx, fun h2 => h2.2 hx⟩
theorem other_len {p : Nat} {l : List Int} (h : isP p l) : l.length + (other p l).length = p := by
  have h1 : (beatsOf p l).length + (other p l).length = (ints p).length := by
    unfold beatsOf other
    rw [← List.countP_eq_length_filter, ← List.countP_eq_length_filter, List.length_eq_countP_add_countP (fun x => decide (x ∈ l)) (l := ints p)]
    congr 1
    refine List.countP_congr (fun x _ => ?_)
    by_cases hx : x ∈ l
    · simp [hx]
    · simp [hx]
  rw [beatsOf_self h, ints_length] at h1
  exact h1
theorem len_le {p : Nat} {l : List Int} (h : isP p l) : l.length ≤ p := by have := other_len h; omega
/-- How many members lie below m. -/
theorem below_step {l : List Int} (hs : l.Pairwise (· < ·)) (m : Int) : l.countP (fun x => decide (x < m + 1)) = l.countP (fun x => decide (x < m)) + (if m ∈ l then 1 else 0) := by
  induction l with
  | nil => rfl
  | cons a l ih =>
    have hs' := List.pairwise_cons.1 hs
    rw [List.countP_cons, List.countP_cons, ih hs'.2]
    have hm : m ∈ a :: l ↔ m = a ∨ m ∈ l := List.mem_cons
    by_cases e : m = a
    · have hn : m ∉ l := fun h => by have := hs'.1 m h; omega
      rw [if_neg hn, if_pos (hm.2 (.inl e)), if_pos (by simp; omega), if_neg (by simp; omega)]
    · have e2 : decide (a < m + 1) = decide (a < m) := decide_eq_decide.2 (by omega)
      rw [e2]
      by_cases hn : m ∈ l
      · rw [if_pos hn, if_pos (hm.2 (.inr hn))]; omega
      · rw [if_neg hn, if_neg (fun h => (hm.1 h).elim e hn)]; omega
/-- How often a pattern has beaten before step n. -/
def beaten (p : Nat) (l : List Int) (n : Nat) : Nat := n / p * l.length + l.countP (fun x => decide (x < ((n % p : Nat) : Int)))
theorem beaten_zero {p : Nat} {l : List Int} (h : isP p l) : beaten p l 0 = 0 := by
  unfold beaten
  rw [Nat.zero_div, Nat.zero_mul, Nat.zero_mod, Nat.zero_add, List.countP_eq_zero]
  intro x hx
  have := rise_mem h hx
  simp
  omega
theorem beaten_step {p : Nat} {l : List Int} (h : isP p l) (n : Nat) : beaten p l (n + 1) = beaten p l n + (if ((n % p : Nat) : Int) ∈ l then 1 else 0) := by
  have hp : 0 < p := by have := h.1; omega
  have hb := below_step (rise_get h) ((n % p : Nat) : Int)
  have hlt := Nat.mod_lt n hp
  unfold beaten
  by_cases c : n % p + 1 = p
  · have hn := Nat.div_add_mod n p
    have e1 : (n + 1) / p = n / p + 1 := by
      rw [show n + 1 = p * (n / p + 1) by rw [Nat.mul_add]; omega, Nat.mul_div_cancel_left _ hp]
    have e2 : (n + 1) % p = 0 := by
      rw [show n + 1 = p * (n / p + 1) by rw [Nat.mul_add]; omega, Nat.mul_mod_right]
    have h0 : l.countP (fun x => decide (x < ((0 : Nat) : Int))) = 0 := by
      rw [List.countP_eq_zero]
      intro x hx
      have := rise_mem h hx
      simp
      omega
    have h1 : l.countP (fun x => decide (x < ((n % p : Nat) : Int) + 1)) = l.length := by
      rw [List.countP_eq_length]
      intro x hx
      have := rise_mem h hx
      simp
      omega
    rw [e1, e2, h0, Nat.add_zero, Nat.succ_mul, Nat.add_assoc, ← hb, h1]
  · have hn := Nat.div_add_mod n p
    have e1 : (n + 1) / p = n / p := by
      rw [show n + 1 = (n % p + 1) + p * (n / p) by omega, Nat.add_mul_div_left _ _ hp, Nat.div_eq_of_lt (by omega), Nat.zero_add]
    have e2 : (n + 1) % p = n % p + 1 := by
      rw [show n + 1 = (n % p + 1) + p * (n / p) by omega, Nat.add_mul_mod_self_left, Nat.mod_eq_of_lt (by omega)]
    rw [e1, e2, show (((n % p + 1 : Nat)) : Int) = ((n % p : Nat) : Int) + 1 by omega, hb]
    omega
theorem beaten_le {p : Nat} {l : List Int} (h : isP p l) (n : Nat) : beaten p l n ≤ n := by
  induction n with
  | zero => rw [beaten_zero h]; exact Nat.le_refl _
  | succ n ih =>
    rw [beaten_step h]
    split <;> omega
/-- The beats of an even pattern. -/
def evenL (b s : Nat) : List Int := (List.range b).map fun i => ((i * s / b : Nat) : Int)
theorem even_way {b s : Nat} (hb : 0 < b) (i : Nat) : (i + 1) * s / b = i * s / b + s / b ∨ (i + 1) * s / b = i * s / b + s / b + 1 := by
  have h1 := Nat.div_add_mod (i * s) b
  have h2 := Nat.div_add_mod s b
  have l1 := Nat.mod_lt (i * s) hb
  have l2 := Nat.mod_lt s hb
  have e : (i + 1) * s = (i * s % b + s % b) + b * (i * s / b + s / b) := by rw [Nat.succ_mul, Nat.mul_add]; omega
  rw [e, Nat.add_mul_div_left _ _ hb]
  have h3 : (i * s % b + s % b) / b < 2 := Nat.div_lt_of_lt_mul (by omega)
  generalize (i * s % b + s % b) / b = z at h3 ⊢
  generalize i * s / b = y at *
  generalize s / b = x at *
  omega
theorem even_rise {b s : Nat} (hs : b ≤ s) : (evenL b s).Pairwise (· < ·) := by
  by_cases hb : 0 < b
  · unfold evenL
    rw [List.pairwise_map]
    refine (List.pairwise_lt_range (n := b)).imp (fun {i j} h => ?_)
    have h1 : 1 ≤ s / b := (Nat.le_div_iff_mul_le hb).2 (by omega)
    have key : ∀ d, i * s / b < (i + d + 1) * s / b := by
      intro d
      induction d with
      | zero => have := even_way (s := s) hb i; rw [Nat.add_zero]; omega
      | succ d ih => have := even_way (s := s) hb (i + d + 1); rw [show i + (d + 1) + 1 = i + d + 1 + 1 by omega]; omega
    have := key (j - i - 1)
    rw [show i + (j - i - 1) + 1 = j by omega] at this
    omega
  · have : b = 0 := by omega
    subst this
    exact List.Pairwise.nil
theorem even_isP {b s : Nat} (h1 : 1 ≤ s) (h2 : s ≤ 24) (hs : b ≤ s) : isP s (evenL b s) := by
  refine isP_of (by omega) (by omega) (even_rise hs) (fun x hx => ?_)
  unfold evenL at hx
  obtain ⟨i, hi, rfl⟩ := List.mem_map.1 hx
  have hi := List.mem_range.1 hi
  have : i * s / b < s := Nat.div_lt_of_lt_mul (by rw [Nat.mul_comm b s, Nat.mul_comm i s]; exact Nat.mul_lt_mul_of_pos_left hi (by omega))
  generalize i * s / b = y at this ⊢
  omega
theorem evenL_length (b s : Nat) : (evenL b s).length = b := by simp [evenL]
theorem evenL_get {b s i : Nat} (hi : i < b) : rd (evenL b s) (i : Int) = ((i * s / b : Nat) : Int) := by
  unfold rd
  rw [Int.toNat_natCast, List.getD_eq_getElem?_getD]
  simp [evenL, hi]

theorem spec_has (l : List Int) (x : Int) (hl : l.length ≤ 1048576) : Ev (fun k => spec_l1Has.f k l x) (decide (x ∈ l)) := by
  unfold spec_l1Has.f
  have h := ev_for (fun k (_ : Unit) i => spec_l1Has.l0 k x l (l.length : Int) i) l.length (fun _ _ => True) (fun i _ => decide (x ∈ l.drop i)) (fun s _ => ?_) (fun i s hi _ ih => ?_) 0 () (Nat.zero_le _) trivial
  · simpa using h
  · rw [List.drop_length]
    refine Ev.step (f := fun _ => some false) (fun k => ?_) (ev_now (by simp))
    simp only [spec_l1Has.l0]
    rw [if_neg (by omega)]
  · have e1 := wn hi (by omega)
    have er : rd l (i : Int) = l[i] := by unfold rd; rw [rd_get hi]
    rw [List.drop_eq_getElem_cons hi]
    by_cases c : l[i] = x
    · refine Ev.step (f := fun _ => some true) (fun k => ?_) (ev_now (by simp [c]))
      simp only [spec_l1Has.l0, er]
      rw [if_pos (by omega), if_pos (by omega), if_pos (by omega), if_pos c]
    · have e : decide (x ∈ l[i] :: l.drop (i + 1)) = decide (x ∈ l.drop (i + 1)) := decide_eq_decide.2 (by rw [List.mem_cons]; exact ⟨fun h => h.resolve_left (fun e => c e.symm), .inr⟩)
      rw [e]
      refine Ev.step (fun k => ?_) (ih () trivial)
      simp only [spec_l1Has.l0, er, e1]
      rw [if_pos (by omega), if_pos (by omega), if_pos (by omega), if_neg c]

theorem contains (l : List Int) (x : Int) (hl : l.length ≤ 1048576) : Ev (fun k => slices_Contains_int_int.f k l x) (decide (x ∈ l)) := by
  have key : ∀ (d i : Nat), l.length - i = d → i ≤ l.length → ∃ r : Int, Ev (fun k => slices_Index_int_int.l0 k l x (l.length : Int) (i : Int)) r ∧ (r ≥ 0 ↔ x ∈ l.drop i) := by
    intro d
    induction d with
    | zero =>
      intro i hd hi
      obtain rfl : i = l.length := by omega
      refine ⟨-1, Ev.step (f := fun _ => some (-1)) (fun k => ?_) (Ev.now _), by simp⟩
      simp only [slices_Index_int_int.l0]
      rw [if_neg (by omega)]
    | succ d ih =>
      intro i hd hi
      have hlt : i < l.length := by omega
      have e1 := wn hlt (by omega)
      have er : rd l (i : Int) = l[i] := by unfold rd; rw [rd_get hlt]
      rw [List.drop_eq_getElem_cons hlt, List.mem_cons]
      by_cases c : x = l[i]
      · refine ⟨(i : Int), Ev.step (f := fun _ => some (i : Int)) (fun k => ?_) (Ev.now _), ⟨fun _ => .inl c, fun _ => by omega⟩⟩
        simp only [slices_Index_int_int.l0, er]
        rw [if_pos (by omega), if_pos (by omega), if_pos (by omega), if_pos c]
      · obtain ⟨r, h1, h2⟩ := ih (i + 1) (by omega) (by omega)
        refine ⟨r, Ev.step (fun k => ?_) h1, by rw [h2]; exact ⟨.inr, fun h => h.resolve_left c⟩⟩
        simp only [slices_Index_int_int.l0, er, e1]
        rw [if_pos (by omega), if_pos (by omega), if_pos (by omega), if_neg c]
  obtain ⟨r, h1, h2⟩ := key l.length 0 rfl (by omega)
  rw [List.drop_zero] at h2
  unfold slices_Contains_int_int.f
  exact Ev.bind (g := fun k => slices_Index_int_int.f k l x) h1 (ev_now (decide_eq_decide.2 h2))

theorem list_set_fill {α : Type} (f : Nat → α) (z : α) (p i : Nat) (h : i < p) (v : α) (hv : v = f i) : (((List.range i).map f) ++ List.replicate (p - i) z).set i v = ((List.range (i + 1)).map f) ++ List.replicate (p - (i + 1)) z := by
  refine List.ext_getElem? fun j => ?_
  rw [List.getElem?_set]
  rcases Nat.lt_trichotomy j i with h1 | h1 | h1
  · rw [if_neg (by omega), List.getElem?_append_left (by simpa using h1), List.getElem?_append_left (by simp; omega)]
    simp [h1, show j < i + 1 by omega]
  · subst h1
    rw [if_pos rfl, if_pos (by simp; omega), List.getElem?_append_left (by simp)]
    simp [hv]
  · rw [if_neg (by omega), List.getElem?_append_right (by simp; omega), List.getElem?_append_right (by simp; omega)]
    simp only [List.length_map, List.length_range, List.getElem?_replicate]
    repeat' split
    all_goals first | rfl | (exfalso; omega)
/-- The sign of a step. -/
def sgn (l : List Int) (j : Nat) : Int := if (j : Int) ∈ l then 120 else 46
theorem strOfNums_snoc (xs : List Int) (b : UInt8) : strOfNums xs ++ (⟨#[b]⟩ : ByteArray) = strOfNums (xs ++ [(b.toNat : Int)]) := by
  apply ByteArray.ext
  simp [strOfNums]
def textOf (p : Nat) (l : List Int) : ByteArray := strOfNums ((List.range p).map (sgn l))
theorem impl_pt (p : Nat) (l : List Int) (hp : 1 ≤ p ∧ p ≤ 24) (hl : l.length ≤ 1048576) : Ev (fun k => impl_PatternText.l0 k (List.replicate p 0) (p : Int) 0 (p : Int) l) (textOf p l, true) := by
  refine ev_for (fun k st i => impl_PatternText.l0 k st (p : Int) i (p : Int) l) p (fun i st => st = ((List.range i).map (sgn l)) ++ List.replicate (p - i) 0) (fun _ _ => (textOf p l, true)) (fun st hst => ?_) (fun i st hi hst ih => ?_) 0 (List.replicate p 0) (Nat.zero_le _) (by simp)
  · refine Ev.step (f := fun _ => some (strOfNums st, true)) (fun k => ?_) (ev_now ?_)
    · simp only [impl_PatternText.l0]
      rw [if_neg (by omega)]
    · rw [hst]; simp [textOf]
  · have e1 := wn hi (by omega)
    have hlen : st.length = p := by rw [hst]; simp; omega
    have hb : Ev (fun k => impl_beatsAt.f k (p : Int) l (i : Int)) (decide ((i : Int) ∈ l)) := by
      unfold impl_beatsAt.f
      have et : Int.tmod (i : Int) (p : Int) = i := Int.tmod_eq_of_lt (by omega) (by omega)
      rw [et]
      exact ev_neg (by omega) (Ev.bind (contains l _ hl) (Ev.now _))
    refine Ev.step (f := fun k => (impl_beatsAt.f k (p : Int) l (i : Int)).bind fun t => if t = true then impl_PatternText.l0 k ((st.set i 46).set i 120) (p : Int) ((i + 1 : Nat) : Int) (p : Int) l else impl_PatternText.l0 k (st.set i 46) (p : Int) ((i + 1 : Nat) : Int) (p : Int) l) (fun k => ?_) (Ev.bind hb ?_)
    · simp only [impl_PatternText.l0, e1, Option.bind_some, Int.toNat_natCast]
      rw [if_pos (by omega), if_pos (by omega), if_pos (by omega)]
    · by_cases c : (i : Int) ∈ l
      · refine ev_pos (decide_eq_true c) (ih _ ?_)
        rw [List.set_set, hst]
        exact list_set_fill (sgn l) 0 p i hi 120 (by simp [sgn, c])
      · refine ev_neg (by simpa using c) (ih _ ?_)
        rw [hst]
        exact list_set_fill (sgn l) 0 p i hi 46 (by simp [sgn, c])
theorem spec_pt (p : Nat) (l : List Int) (hp : 1 ≤ p ∧ p ≤ 24) (hl : l.length ≤ 1048576) : Ev (fun k => spec_drText.l0 k (⟨#[]⟩ : ByteArray) 0 (p : Int) l) (textOf p l) := by
  refine ev_for (fun k st i => spec_drText.l0 k st i (p : Int) l) p (fun i st => st = strOfNums ((List.range i).map (sgn l))) (fun _ _ => textOf p l) (fun st hst => ?_) (fun i st hi hst ih => ?_) 0 ⟨#[]⟩ (Nat.zero_le _) rfl
  · refine Ev.step (f := fun _ => some st) (fun k => ?_) (ev_now hst)
    simp only [spec_drText.l0]
    rw [if_neg (by omega)]
  · have e1 := wn hi (by omega)
    have hsz : st.size ≤ 24 := by
      have : st.size = i := by rw [hst]; simp [strOfNums, ByteArray.size]
      omega
    refine Ev.step (f := fun k => (spec_l1Has.f k l (i : Int)).bind fun t => if t = true then spec_drText.l0 k (st ++ (⟨#[120]⟩ : ByteArray)) ((i + 1 : Nat) : Int) (p : Int) l else spec_drText.l0 k (st ++ (⟨#[46]⟩ : ByteArray)) ((i + 1 : Nat) : Int) (p : Int) l) (fun k => ?_) (Ev.bind (spec_has l _ hl) ?_)
    · simp only [spec_drText.l0, e1]
      rw [if_pos (by omega)]
      simp only [if_pos (show st.size + 1 ≤ 9223372036854775807 by omega)]
    · by_cases c : (i : Int) ∈ l
      · refine ev_pos (decide_eq_true c) (ih _ ?_)
        rw [hst, strOfNums_snoc, List.range_succ, List.map_append]
        simp [sgn, c]
      · refine ev_neg (by simpa using c) (ih _ ?_)
        rw [hst, strOfNums_snoc, List.range_succ, List.map_append]
        simp [sgn, c]
def ptR (p : Int) (l : List Int) : ByteArray × Bool := if isP p l then (textOf p.toNat l, true) else (⟨#[]⟩, false)
theorem impl_text (p : Int) (l : List Int) (hl : l.length ≤ 1048576) : Ev (fun k => impl_PatternText.f k p l) (ptR p l) := by
  unfold impl_PatternText.f ptR
  refine Ev.bind (impl_isP p l hl) ?_
  by_cases hg : isP p l
  · have h1 := hg.1
    have h2 := hg.2.1
    obtain ⟨n, rfl⟩ : ∃ n : Nat, p = n := ⟨p.toNat, by omega⟩
    rw [if_pos hg]
    refine ev_pos (decide_eq_true hg) (ev_pos (by omega) (ev_pos (by omega) ?_))
    have := impl_pt n l ⟨by omega, by omega⟩ hl
    simpa using this
  · rw [if_neg hg]
    exact ev_neg (by simpa using hg) (Ev.now _)
theorem spec_text (p : Int) (l : List Int) (hl : l.length ≤ 1048576) : Ev (fun k => spec_PatternText.f k p l) (ptR p l) := by
  unfold spec_PatternText.f ptR
  refine Ev.bind (spec_isP p l hl) ?_
  by_cases hg : isP p l
  · have h1 := hg.1
    have h2 := hg.2.1
    obtain ⟨n, rfl⟩ : ∃ n : Nat, p = n := ⟨p.toNat, by omega⟩
    rw [if_pos hg]
    exact ev_pos (decide_eq_true hg) (Ev.bind (g := fun k => spec_drText.f k (n : Int) l) (spec_pt n l ⟨by omega, by omega⟩ hl) (Ev.now _))
  · rw [if_neg hg]
    exact ev_neg (by simpa using hg) (Ev.now _)

theorem parse_same (s : ByteArray) : ∀ (k : Nat) (i p : Int) (l : List Int), impl_ParsePattern.l0 k s (s.size : Int) i p l = spec_ParsePattern.l0 k s i p l := by
  intro k
  induction k with
  | zero => intro i p l; rfl
  | succ k ih =>
    intro i p l
    simp only [impl_ParsePattern.l0, spec_ParsePattern.l0, ih]
    repeat' split
    all_goals first | rfl | (exfalso; omega)
theorem spec_parse (s : ByteArray) (hs : s.size ≤ 1048576) : ∃ r, Ev (fun k => spec_ParsePattern.f k s) r ∧ Ev (fun k => impl_ParsePattern.f k s) r ∧ r.2.1.length ≤ 1048576 := by
  unfold spec_ParsePattern.f impl_ParsePattern.f
  rw [l1In_eq]
  by_cases h : 1 ≤ (s.size : Int) ∧ (s.size : Int) ≤ 24
  · obtain ⟨r, h1, h2⟩ := ev_for_ex (fun k (st : List Int) i => spec_ParsePattern.l0 k s i (s.size : Int) st) s.size (fun i st => st.length ≤ i) (fun r => r.2.1.length ≤ 24)
      (fun st hst => ⟨((s.size : Int), st, true), Ev.step (f := fun _ => some ((s.size : Int), st, true)) (fun k => by simp only [spec_ParsePattern.l0]; rw [if_neg (by omega)]) (Ev.now _), by show st.length ≤ 24; omega⟩)
      (fun i st hi hst ih => by
        have e1 := wn hi (by omega)
        by_cases c1 : bt s (i : Int) = 120
        · obtain ⟨r, h1, h2⟩ := ih (st ++ [(i : Int)]) (by simp; omega)
          refine ⟨r, Ev.step (fun k => ?_) h1, h2⟩
          simp only [spec_ParsePattern.l0, e1]
          rw [if_pos (by omega), if_pos (by omega), if_pos c1, if_pos (by omega)]
        · by_cases c2 : bt s (i : Int) = 46
          · obtain ⟨r, h1, h2⟩ := ih st (by omega)
            refine ⟨r, Ev.step (fun k => ?_) h1, h2⟩
            simp only [spec_ParsePattern.l0, e1]
            rw [if_pos (by omega), if_pos (by omega), if_neg c1, if_pos c2]
          · refine ⟨(0, [], false), Ev.step (f := fun _ => some (0, [], false)) (fun k => ?_) (Ev.now _), Nat.zero_le _⟩
            simp only [spec_ParsePattern.l0, e1]
            rw [if_pos (by omega), if_pos (by omega), if_neg c1, if_neg c2]) 0 [] (Nat.zero_le _) (Nat.zero_le _)
    refine ⟨r, ?_, ?_, by omega⟩
    · refine ev_call rfl (ev_pos (by simp; omega) h1)
    · refine ev_neg (by omega) (Ev.step (f := fun k => impl_ParsePattern.l0 k s (s.size : Int) 0 (s.size : Int) []) (fun k => ?_) (Ev.congr (fun k => parse_same s k _ _ _) h1))
      simp only [impl_ParsePattern.j0]
      rw [if_neg (by simp; omega)]
  · refine ⟨(0, [], false), ev_call rfl (ev_neg (by simp; omega) (Ev.now _)), ?_, Nat.zero_le _⟩
    refine ev_ite (fun hc => Ev.step (f := fun _ => some (0, [], false)) (fun k => rfl) (Ev.now _)) (fun hc => Ev.step (f := fun _ => some (0, [], false)) (fun k => ?_) (Ev.now _))
    simp only [impl_ParsePattern.j0]
    rw [if_pos (by simp; omega)]

theorem ev_one {α : Type} {g : Nat → Option α} {r r' : α} (h : Ev g r) (h' : Ev g r') : r = r' := by
  obtain ⟨a, ha⟩ := h
  obtain ⟨b, hb⟩ := h'
  have h1 := ha (max a b) (Nat.le_max_left _ _)
  have h2 := hb (max a b) (Nat.le_max_right _ _)
  rw [h1] at h2
  exact Option.some.inj h2
theorem size_nums (xs : List Int) : (strOfNums xs).size = xs.length := by
  show (strOfNums xs).data.size = _
  simp [strOfNums]
theorem bt_nums (xs : List Int) (i : Nat) (hi : i < xs.length) (h0 : 0 ≤ xs[i]) (h1 : xs[i] < 256) : bt (strOfNums xs) (i : Int) = xs[i] := by
  unfold bt
  have hs : ((i : Int)).toNat < (strOfNums xs).size := by rw [size_nums]; omega
  rw [dif_pos hs]
  show ((((strOfNums xs).data[((i : Int)).toNat]'hs).toNat : Nat) : Int) = _
  simp only [strOfNums, Int.toNat_natCast, List.getElem_toArray, List.getElem_map, UInt8.toNat_ofNat']
  omega
theorem text_size (p : Nat) (l : List Int) : (textOf p l).size = p := by
  unfold textOf
  rw [size_nums, List.length_map, List.length_range]
theorem text_bt (p : Nat) (l : List Int) (i : Nat) (hi : i < p) : bt (textOf p l) (i : Int) = sgn l i := by
  unfold textOf
  have hl : i < ((List.range p).map (sgn l)).length := by simpa using hi
  have e : ((List.range p).map (sgn l))[i] = sgn l i := by simp
  have hs : sgn l i = 120 ∨ sgn l i = 46 := by unfold sgn; split; exact .inl rfl; exact .inr rfl
  rw [bt_nums _ i hl (by rw [e]; omega) (by rw [e]; omega), e]
/-- A pattern's text is read back. -/
theorem parse_told (p : Nat) (l : List Int) (hg : isP (p : Int) l) : Ev (fun k => spec_ParsePattern.f k (textOf p l)) ((p : Int), l, true) := by
  have h1 := hg.1
  have h2 := hg.2.1
  have hsz := text_size p l
  unfold spec_ParsePattern.f
  rw [l1In_eq, hsz]
  refine ev_call rfl (ev_pos (by simp; omega) ?_)
  have go := ev_for (fun k (st : List Int) i => spec_ParsePattern.l0 k (textOf p l) i (p : Int) st) p (fun i st => st = (ints i).filter fun x => decide (x ∈ l)) (fun _ _ => ((p : Int), l, true)) (fun st hst => ?_) (fun i st hi hst ih => ?_) 0 [] (Nat.zero_le _) rfl
  · exact go
  · refine Ev.step (f := fun _ => some ((p : Int), st, true)) (fun k => ?_) (ev_now (by rw [hst]; exact congrArg (fun z => ((p : Int), z, true)) (beatsOf_self hg)))
    simp only [spec_ParsePattern.l0, hsz]
    rw [if_neg (by omega)]
  · have e1 := wn hi (by omega)
    have hb := text_bt p l i hi
    have hlen : st.length ≤ 24 := by
      rw [hst]
      have := List.length_filter_le (fun x => decide (x ∈ l)) (ints i)
      rw [ints_length] at this
      omega
    by_cases c : (i : Int) ∈ l
    · have hs : sgn l i = 120 := if_pos c
      rw [hs] at hb
      refine Ev.step (fun k => ?_) (ih (st ++ [(i : Int)]) (by rw [hst, ints_succ, List.filter_append]; simp [c]))
      simp only [spec_ParsePattern.l0, hsz, e1]
      rw [if_pos (by omega), if_pos (by omega), if_pos hb, if_pos (by omega)]
    · have hs : sgn l i = 46 := if_neg c
      rw [hs] at hb
      refine Ev.step (fun k => ?_) (ih st (by rw [hst, ints_succ, List.filter_append]; simp [c]))
      simp only [spec_ParsePattern.l0, hsz, e1]
      rw [if_pos (by omega), if_pos (by omega), if_neg (by omega), if_pos hb]

/-- OtherBeats, told. -/
theorem ob_told (p : Nat) (l : List Int) (hg : isP (p : Int) l) (hl : l.length ≤ 1048576) : Ev (fun k => spec_OtherBeats.f k (p : Int) l) ((p : Int), other p l, true) ∧ Ev (fun k => impl_OtherBeats.f k (p : Int) l) ((p : Int), other p l, true) := by
  have h1 := hg.1
  have h2 := hg.2.1
  have go : Ev (fun k => spec_OtherBeats.l0 k 0 (p : Int) l (p : Int) []) ((p : Int), other p l, true) ∧ Ev (fun k => impl_OtherBeats.l0 k (p : Int) 0 (p : Int) l (p : Int) []) ((p : Int), other p l, true) := by
    refine count_up p (fun i (st : List Int) => st = (ints i).filter fun x => !decide (x ∈ l)) (fun i st => Ev (fun k => spec_OtherBeats.l0 k (i : Int) (p : Int) l (p : Int) st) ((p : Int), other p l, true) ∧ Ev (fun k => impl_OtherBeats.l0 k (p : Int) (i : Int) (p : Int) l (p : Int) st) ((p : Int), other p l, true)) (fun st hst => ?_) (fun i st hi hst ih => ?_) 0 [] (Nat.zero_le _) rfl
    · refine ⟨Ev.step (f := fun _ => some ((p : Int), st, true)) (fun k => ?_) (ev_now (by rw [hst]; rfl)), Ev.step (f := fun _ => some ((p : Int), st, true)) (fun k => ?_) (ev_now (by rw [hst]; rfl))⟩
      · simp only [spec_OtherBeats.l0]
        rw [if_neg (by omega)]
      · simp only [impl_OtherBeats.l0]
        rw [if_neg (by omega)]
    · have e1 := wn hi (by omega)
      have hlen : st.length ≤ 24 := by
        rw [hst]
        have := List.length_filter_le (fun x => !decide (x ∈ l)) (ints i)
        rw [ints_length] at this
        omega
      have hb : Ev (fun k => impl_beatsAt.f k (p : Int) l (i : Int)) (decide ((i : Int) ∈ l)) := by
        unfold impl_beatsAt.f
        have et : Int.tmod (i : Int) (p : Int) = i := Int.tmod_eq_of_lt (by omega) (by omega)
        rw [et]
        exact ev_neg (by omega) (Ev.bind (contains l _ hl) (Ev.now _))
      by_cases c : (i : Int) ∈ l
      · obtain ⟨g1, g2⟩ := ih st (by rw [hst, ints_succ, List.filter_append]; simp [c])
        constructor
        · refine Ev.step (f := fun k => (spec_l1Has.f k l (i : Int)).bind fun t => if t = true then spec_OtherBeats.l0 k ((i + 1 : Nat) : Int) (p : Int) l (p : Int) st else spec_OtherBeats.l0 k ((i + 1 : Nat) : Int) (p : Int) l (p : Int) (st ++ [(i : Int)])) (fun k => ?_) (Ev.bind (spec_has l _ hl) (ev_pos (decide_eq_true c) g1))
          simp only [spec_OtherBeats.l0, e1]
          rw [if_pos (by omega)]
          congr 1
          funext t
          rw [if_pos (show st.length < 17592186044416 by omega)]
        · refine Ev.step (f := fun k => (impl_beatsAt.f k (p : Int) l (i : Int)).bind fun t => if t = true then impl_OtherBeats.l0 k (p : Int) ((i + 1 : Nat) : Int) (p : Int) l (p : Int) st else impl_OtherBeats.l0 k (p : Int) ((i + 1 : Nat) : Int) (p : Int) l (p : Int) (st ++ [(i : Int)])) (fun k => ?_) (Ev.bind hb (ev_pos (decide_eq_true c) g2))
          simp only [impl_OtherBeats.l0, e1]
          rw [if_pos (by omega)]
          congr 1
          funext t
          rw [if_pos (show st.length < 17592186044416 by omega)]
      · obtain ⟨g1, g2⟩ := ih (st ++ [(i : Int)]) (by rw [hst, ints_succ, List.filter_append]; simp [c])
        constructor
        · refine Ev.step (f := fun k => (spec_l1Has.f k l (i : Int)).bind fun t => if t = true then spec_OtherBeats.l0 k ((i + 1 : Nat) : Int) (p : Int) l (p : Int) st else spec_OtherBeats.l0 k ((i + 1 : Nat) : Int) (p : Int) l (p : Int) (st ++ [(i : Int)])) (fun k => ?_) (Ev.bind (spec_has l _ hl) (ev_neg (by simpa using c) g1))
          simp only [spec_OtherBeats.l0, e1]
          rw [if_pos (by omega)]
          congr 1
          funext t
          rw [if_pos (show st.length < 17592186044416 by omega)]
        · refine Ev.step (f := fun k => (impl_beatsAt.f k (p : Int) l (i : Int)).bind fun t => if t = true then impl_OtherBeats.l0 k (p : Int) ((i + 1 : Nat) : Int) (p : Int) l (p : Int) st else impl_OtherBeats.l0 k (p : Int) ((i + 1 : Nat) : Int) (p : Int) l (p : Int) (st ++ [(i : Int)])) (fun k => ?_) (Ev.bind hb (ev_neg (by simpa using c) g2))
          simp only [impl_OtherBeats.l0, e1]
          rw [if_pos (by omega)]
          congr 1
          funext t
          rw [if_pos (show st.length < 17592186044416 by omega)]
  exact ⟨Ev.bind (spec_isP _ l hl) (ev_pos (decide_eq_true hg) go.1), Ev.bind (impl_isP _ l hl) (ev_pos (decide_eq_true hg) go.2)⟩
theorem ob_not (p : Int) (l : List Int) (hg : ¬ isP p l) (hl : l.length ≤ 1048576) : Ev (fun k => spec_OtherBeats.f k p l) (0, [], false) ∧ Ev (fun k => impl_OtherBeats.f k p l) (0, [], false) := by
  unfold spec_OtherBeats.f impl_OtherBeats.f
  exact ⟨Ev.bind (spec_isP _ l hl) (ev_neg (by simpa using hg) (Ev.now _)), Ev.bind (impl_isP _ l hl) (ev_neg (by simpa using hg) (Ev.now _))⟩

/-- How many of the beats lie below a bound, counted as the machine does. -/
def cntR (p : Int) (l : List Int) (n : Int) : Int × Bool :=
  if isP p l ∧ 0 ≤ n ∧ n ≤ 1000000000 then (l.foldl (fun s x => if x < Int.tmod n p then wrap64 (s + 1) else s) (wrap64 (wrap64 (Int.tdiv n p) * (l.length : Int))), true) else (0, false)
theorem impl_cb (p : Int) (l : List Int) (s : Int) (hl : l.length ≤ 1048576) : Ev (fun k => impl_CountBeats.f k p l s) (cntR p l s) := by
  unfold impl_CountBeats.f cntR
  refine Ev.bind (impl_isP p l hl) ?_
  by_cases hg : isP p l
  · refine ev_pos (decide_eq_true hg) ?_
    by_cases c : 0 ≤ s ∧ s ≤ 1000000000
    · rw [if_pos ⟨hg, c⟩]
      have h1 := hg.1
      refine ev_neg (by omega) (Ev.step (f := fun k => impl_CountBeats.l0 k s (wrap64 ((wrap64 (Int.tdiv s p)) * (l.length : Int))) l (l.length : Int) 0 p l) (fun k => ?_) ?_)
      · simp only [impl_CountBeats.j0]
        rw [if_neg (by simp; omega), if_neg (by omega)]
      · refine fold_loop (fun k a i => impl_CountBeats.l0 k s a l (l.length : Int) i p l) l (fun a x => if x < Int.tmod s p then wrap64 (a + 1) else a) (fun a => (a, true)) (fun k a => ?_) (fun k a i hi => ?_) _
        · simp only [impl_CountBeats.l0]
          rw [if_neg (by omega)]
        · have e1 : wrap64 ((i : Int) + 1) = i + 1 := by unfold wrap64; omega
          have er : rd l (i : Int) = l[i] := by unfold rd; rw [rd_get hi]
          simp only [impl_CountBeats.l0, e1, er]
          rw [if_pos (by omega), if_pos (by omega), if_pos (by omega), if_neg (by omega)]
          split <;> rfl
    · rw [if_neg (fun hh => c hh.2)]
      refine ev_ite (fun _ => Ev.step (f := fun _ => some (0, false)) (fun k => rfl) (Ev.now _)) (fun h1 => Ev.step (f := fun _ => some (0, false)) (fun k => ?_) (Ev.now _))
      simp only [impl_CountBeats.j0]
      rw [if_pos (by simp; omega)]
  · rw [if_neg (fun hh => hg hh.1)]
    exact ev_neg (by simpa using hg) (Ev.step (f := fun _ => some (0, false)) (fun k => rfl) (Ev.now _))

theorem spec_cb (p : Int) (l : List Int) (s : Int) (hl : l.length ≤ 1048576) : Ev (fun k => spec_CountBeats.f k p l s) (cntR p l s) := by
  unfold spec_CountBeats.f spec_drStep.f cntR
  refine Ev.bind (spec_isP p l hl) ?_
  by_cases hg : isP p l
  · refine ev_pos (decide_eq_true hg) (ev_call (a := decide (0 ≤ s ∧ s ≤ 1000000000)) (by rw [l1In_eq]; rfl) ?_)
    by_cases c : 0 ≤ s ∧ s ≤ 1000000000
    · rw [if_pos ⟨hg, c⟩]
      have h1 := hg.1
      refine (Ev.step (f := fun k => spec_CountBeats.l0 k s (wrap64 ((wrap64 (Int.tdiv s p)) * (l.length : Int))) l (l.length : Int) 0 p l) (fun k => ?_) ?_)
      · simp only [spec_CountBeats.j0]
        rw [if_neg (by simp; omega), if_neg (by omega)]
      · refine fold_loop (fun k a i => spec_CountBeats.l0 k s a l (l.length : Int) i p l) l (fun a x => if x < Int.tmod s p then wrap64 (a + 1) else a) (fun a => (a, true)) (fun k a => ?_) (fun k a i hi => ?_) _
        · simp only [spec_CountBeats.l0]
          rw [if_neg (by omega)]
        · have e1 : wrap64 ((i : Int) + 1) = i + 1 := by unfold wrap64; omega
          have er : rd l (i : Int) = l[i] := by unfold rd; rw [rd_get hi]
          simp only [spec_CountBeats.l0, e1, er]
          rw [if_pos (by omega), if_pos (by omega), if_pos (by omega), if_neg (by omega)]
          split <;> rfl
    · rw [if_neg (fun hh => c hh.2)]
      refine Ev.step (f := fun _ => some (0, false)) (fun k => ?_) (Ev.now _)
      simp only [spec_CountBeats.j0]
      rw [if_pos (by simp; omega)]
  · rw [if_neg (fun hh => hg hh.1)]
    exact ev_neg (by simpa using hg) (Ev.step (f := fun _ => some (0, false)) (fun k => rfl) (Ev.now _))

def beatsR (p : Int) (l : List Int) (s : Int) : Bool × Bool := if isP p l ∧ 0 ≤ s ∧ s ≤ 1000000000 then (decide (Int.tmod s p ∈ l), true) else (false, false)
theorem impl_ba (p : Int) (l : List Int) (s : Int) (hl : l.length ≤ 1048576) : Ev (fun k => impl_BeatsAt.f k p l s) (beatsR p l s) := by
  unfold impl_BeatsAt.f beatsR
  refine Ev.bind (impl_isP p l hl) ?_
  by_cases hg : isP p l
  · refine ev_pos (decide_eq_true hg) ?_
    by_cases c : 0 ≤ s ∧ s ≤ 1000000000
    · rw [if_pos ⟨hg, c⟩]
      have h1 := hg.1
      refine ev_neg (by omega) (ev_neg (by omega) (Ev.bind (a := decide (Int.tmod s p ∈ l)) ?_ (Ev.now _)))
      unfold impl_beatsAt.f
      exact ev_neg (by omega) (Ev.bind (contains l _ hl) (Ev.now _))
    · rw [if_neg (fun hh => c hh.2)]
      exact ev_ite (fun _ => Ev.now _) (fun h1 => ev_ite (fun _ => Ev.now _) (fun h2 => absurd ⟨by omega, by omega⟩ c))
  · rw [if_neg (fun hh => hg hh.1)]
    exact ev_neg (by simpa using hg) (Ev.now _)
theorem spec_ba (p : Int) (l : List Int) (s : Int) (hl : l.length ≤ 1048576) : Ev (fun k => spec_BeatsAt.f k p l s) (beatsR p l s) := by
  unfold spec_BeatsAt.f spec_drStep.f beatsR
  refine Ev.bind (spec_isP p l hl) ?_
  by_cases hg : isP p l
  · refine ev_pos (decide_eq_true hg) (ev_call (a := decide (0 ≤ s ∧ s ≤ 1000000000)) (by rw [l1In_eq]; rfl) ?_)
    by_cases c : 0 ≤ s ∧ s ≤ 1000000000
    · rw [if_pos ⟨hg, c⟩]
      have h1 := hg.1
      refine ev_pos (decide_eq_true c) (Ev.bind (a := decide (Int.tmod s p ∈ l)) ?_ (Ev.now _))
      unfold spec_drBeats.f
      exact ev_neg (by omega) (Ev.bind (spec_has l _ hl) (Ev.now _))
    · rw [if_neg (fun hh => c hh.2)]
      exact ev_neg (by simpa using c) (Ev.now _)
  · rw [if_neg (fun hh => hg hh.1)]
    exact ev_neg (by simpa using hg) (Ev.now _)

theorem even_same (b s : Int) : ∀ (k : Nat) (i p : Int) (l : List Int), impl_EvenPattern.l0 k b s b i p l = spec_EvenPattern.l0 k b s i p l := by
  intro k
  induction k with
  | zero => intro i p l; rfl
  | succ k ih =>
    intro i p l
    simp only [impl_EvenPattern.l0, spec_EvenPattern.l0, ih]
theorem spec_even (b s : Int) : ∃ r, Ev (fun k => spec_EvenPattern.f k b s) r ∧ Ev (fun k => impl_EvenPattern.f k b s) r ∧ r.2.1.length ≤ 1048576 := by
  unfold spec_EvenPattern.f impl_EvenPattern.f
  simp only [l1In_eq]
  by_cases h : 1 ≤ s ∧ s ≤ 24 ∧ 0 ≤ b ∧ b ≤ s
  · obtain ⟨n, rfl⟩ : ∃ n : Nat, b = n := ⟨b.toNat, by omega⟩
    obtain ⟨r, h1, h2⟩ := ev_for_ex (fun k (st : List Int) i => spec_EvenPattern.l0 k (n : Int) s i s st) n (fun i st => st.length ≤ i) (fun r => r.2.1.length ≤ 24)
      (fun st hst => ⟨(s, st, true), Ev.step (f := fun _ => some (s, st, true)) (fun k => by simp only [spec_EvenPattern.l0]; rw [if_neg (by omega)]) (Ev.now _), by show st.length ≤ 24; omega⟩)
      (fun i st hi hst ih => by
        have e1 := wn hi (by omega)
        obtain ⟨r, h1, h2⟩ := ih (st ++ [wrap64 (Int.tdiv (wrap64 ((i : Int) * s)) n)]) (by simp; omega)
        refine ⟨r, Ev.step (fun k => ?_) h1, h2⟩
        simp only [spec_EvenPattern.l0, e1]
        rw [if_pos (by omega), if_neg (by omega), if_pos (by omega)]) 0 [] (Nat.zero_le _) (Nat.zero_le _)
    refine ⟨r, ?_, ?_, by omega⟩
    · refine ev_call rfl (ev_pos (by simp; omega) (ev_call rfl (Ev.step (f := fun k => spec_EvenPattern.l0 k n s 0 s []) (fun k => ?_) h1)))
      simp only [spec_EvenPattern.j0]
      rw [if_neg (by simp; omega)]
    · refine ev_neg (by omega) (ev_neg (by omega) (ev_neg (by omega) (Ev.step (f := fun k => impl_EvenPattern.l0 k n s n 0 s []) (fun k => ?_) (Ev.congr (fun k => even_same _ _ k _ _ _) h1))))
      simp only [impl_EvenPattern.j0]
      rw [if_neg (by simp; omega)]
  · refine ⟨(0, [], false), ev_call rfl (ev_ite (fun hc => ev_call rfl (Ev.step (f := fun _ => some (0, [], false)) (fun k => ?_) (Ev.now _))) (fun hc => Ev.step (f := fun _ => some (0, [], false)) (fun k => rfl) (Ev.now _))), ?_, Nat.zero_le _⟩
    · have hc' := of_decide_eq_true hc
      simp only [spec_EvenPattern.j0]
      rw [if_pos (by simp; omega)]
    · refine ev_ite (fun hc => Ev.step (f := fun _ => some (0, [], false)) (fun k => rfl) (Ev.now _)) (fun hc => ev_ite (fun hc => Ev.step (f := fun _ => some (0, [], false)) (fun k => rfl) (Ev.now _)) (fun hc => ev_ite (fun hc => Ev.step (f := fun _ => some (0, [], false)) (fun k => rfl) (Ev.now _)) (fun hc => Ev.step (f := fun _ => some (0, [], false)) (fun k => ?_) (Ev.now _))))
      simp only [impl_EvenPattern.j0]
      rw [if_pos (by simp; omega)]

theorem even_told (n s : Nat) (h1 : 1 ≤ s) (h2 : s ≤ 24) (hs : n ≤ s) : Ev (fun k => spec_EvenPattern.f k (n : Int) (s : Int)) ((s : Int), evenL n s, true) := by
  unfold spec_EvenPattern.f
  simp only [l1In_eq]
  have go := ev_for (fun k (st : List Int) i => spec_EvenPattern.l0 k (n : Int) (s : Int) i (s : Int) st) n (fun i st => st = (List.range i).map fun j => ((j * s / n : Nat) : Int)) (fun _ _ => ((s : Int), evenL n s, true)) (fun st hst => ?_) (fun i st hi hst ih => ?_) 0 [] (Nat.zero_le _) rfl
  · refine ev_call rfl (ev_pos (by simp; omega) (ev_call rfl (Ev.step (f := fun k => spec_EvenPattern.l0 k (n : Int) (s : Int) 0 (s : Int) []) (fun k => ?_) go)))
    simp only [spec_EvenPattern.j0]
    rw [if_neg (by simp; omega)]
  · refine Ev.step (f := fun _ => some ((s : Int), st, true)) (fun k => ?_) (ev_now (by rw [hst]; rfl))
    simp only [spec_EvenPattern.l0]
    rw [if_neg (by omega)]
  · have e1 := wn hi (by omega)
    have hm : i * s ≤ 24 * 24 := Nat.mul_le_mul (by omega) h2
    have hd : i * s / n ≤ i * s := Nat.div_le_self _ _
    have e2 : wrap64 ((i : Int) * (s : Int)) = ((i * s : Nat) : Int) := by
      rw [show (i : Int) * (s : Int) = ((i * s : Nat) : Int) by simp]
      generalize i * s = q at hm
      unfold wrap64; omega
    have e3 : wrap64 (Int.tdiv ((i * s : Nat) : Int) (n : Int)) = ((i * s / n : Nat) : Int) := by
      have : Int.tdiv ((i * s : Nat) : Int) (n : Int) = ((i * s / n : Nat) : Int) := rfl
      rw [this]
      generalize i * s / n = q at hd
      generalize i * s = q2 at hd hm
      unfold wrap64; omega
    have hlen : st.length = i := by rw [hst]; simp
    refine Ev.step (fun k => ?_) (ih (st ++ [((i * s / n : Nat) : Int)]) (by rw [hst, List.range_succ, List.map_append]; rfl))
    simp only [spec_EvenPattern.l0, e1, e2, e3]
    rw [if_pos (by omega), if_neg (by omega), if_pos (by omega)]
end Go.Proofs.Ytlhjjpdlfddflab.PureFnPatterns
