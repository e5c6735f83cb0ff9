/- The plain statement of FnExactTeethNeeded: the law's function, over numbers and lists, answers true. No conditions beyond the arguments' own kinds. -/
import Derived.Test.YtidnfnnnfppefabPFnExactTeethNeededx5
import Derived.Test.YtidnfnnnfppefabLib
namespace Go.Proofs.Ytidnfnnnfppefab.PureFnExactTeethNeeded
open Go Go.RowKit Go.Proofs.Ytidnfnnnfppefab.PFnExactTeethNeeded Go.Proofs.YtidnfnnnfppefabW.PrintWords Go.Proofs.YtidnfnnnfppefabW.PrintLast Go.Proofs.YtidnfnnnfppefabW.PrintMore Go.Proofs.Ytidnfnnnfppefab.Lib
set_option linter.unusedVariables false
set_option linter.unusedSimpArgs false
/-- A loop that counts up to n, and what is known of its answer. -/
theorem ev_for_ex {σ ρ : Type} (L : Nat → σ → Int → Option ρ) (n : Nat) (Inv : Nat → σ → Prop) (Post : ρ → Prop) (hstop : ∀ s, Inv n s → ∃ r, Ev (fun k => L k s (n : Int)) r ∧ Post r)
    (hgo : ∀ i s, i < n → Inv i s → (∀ s', Inv (i + 1) s' → ∃ r, Ev (fun k => L k s' ((i + 1 : Nat) : Int)) r ∧ Post r) → ∃ r, Ev (fun k => L k s (i : Int)) r ∧ Post r) :
    ∀ i s, i ≤ n → Inv i s → ∃ r, Ev (fun k => L k s (i : Int)) r ∧ Post r := by
  have key : ∀ d i : Nat, n - i = d → i ≤ n → ∀ s, Inv i s → ∃ r, Ev (fun k => L k s (i : Int)) r ∧ Post r := by
    intro d
    induction d with
    | zero =>
      intro i hd hi s hs
      obtain rfl : i = n := by omega
      exact hstop s hs
    | succ d ih =>
      intro i hd hi s hs
      exact hgo i s (by omega) hs (fun s' hs' => ih (i + 1) (by omega) (by omega) s' hs')
  intro i s hi hs
  exact key (n - i) i rfl hi s hs
theorem wn {i n : Nat} (h : i < n) (hn : n ≤ 9223372036854775807) : wrap64 ((i : Int) + 1) = ((i + 1 : Nat) : Int) := by unfold wrap64; omega

theorem l1In_eq (a b c : Int) : spec_l1In.f a b c = some (decide (b ≤ a ∧ a ≤ c)) := by
  unfold spec_l1In.f
  split <;> simp <;> omega

theorem isPitch_eq (a : Int) : impl_isPitch.f a = some (decide (24 ≤ a ∧ a ≤ 96)) := by
  unfold impl_isPitch.f
  split <;> simp <;> omega

theorem ntPitch_eq (a : Int) : spec_ntPitch.f a = some (decide (24 ≤ a ∧ a ≤ 96)) := by
  unfold spec_ntPitch.f
  rw [l1In_eq]; rfl

def cvS (x : S105) : S102 := ⟨x.f0, x.f1⟩
theorem toStrikeS (l : List S105) (hl : l.length ≤ 1048576) : Ev (fun k => laws_toStrikeS.f k l) (l.map cvS) := by
  unfold laws_toStrikeS.f
  refine ev_pos (by omega) (ev_pos (by omega) ?_)
  exact map_loop (fun k ys i => laws_toStrikeS.l0 k l ys i) l z105 z102 (fun k x => laws_toStrike.f x.f0 x.f1) (fun bt => ⟨bt.1, bt.2⟩) (fun x => (x.f0, x.f1)) (fun k ys i => rfl) (fun x _ => ev_const rfl) (by omega)
theorem eqStrikeS (l : List S102) (hl : l.length ≤ 1048576) : Ev (fun k => laws_eqStrikeS.f k l l) true := by
  unfold laws_eqStrikeS.f
  refine ev_pos rfl ?_
  exact same_loop (fun k i => laws_eqStrikeS.l0 k l l i) l z102 (fun k x => laws_eqStrike.f x.f0 x.f1 x.f0 x.f1) (fun k i => rfl) (fun x _ => ev_const (by simp [laws_eqStrike.f])) (by omega)
theorem szStrikeS (l : List S105) (a : Int) (ha : 0 ≤ a ∧ a ≤ 1048576) (hl : l.length ≤ 9223372036854775807) : laws_szStrikeS.f l a = some (if (l.length : Int) ≤ a then a - (l.length : Int) else -1) := by
  have e : wrap64 (a - (l.length : Int)) = a - l.length := by unfold wrap64; omega
  simp only [laws_szStrikeS.f, e]
  repeat' split
  all_goals first | rfl | (exfalso; omega)
def okS (l : List S102) (i : Nat) : Prop := 24 ≤ (rd_T102 l i).f0 ∧ (rd_T102 l i).f0 ≤ 96 ∧ 0 ≤ (rd_T102 l i).f1 ∧ (rd_T102 l i).f1 ≤ 2000 ∧ (i > 0 → (rd_T102 l ((i : Int) - 1)).f1 ≤ (rd_T102 l i).f1)
instance (l : List S102) (i : Nat) : Decidable (okS l i) := by unfold okS; infer_instance
def areS (l : List S102) : Prop := (∀ i, i < l.length → okS l i) ∧ l.length ≤ 40
instance (l : List S102) : Decidable (areS l) := by unfold areS; infer_instance
theorem areS_iff (l : List S102) : decide (areS l) = true ↔ (∀ i, i < l.length → okS l i) ∧ decide ((l.length : Int) ≤ 40) = true := by
  simp only [decide_eq_true_eq]
  unfold areS
  exact ⟨fun h => ⟨h.1, by omega⟩, fun h => ⟨h.1, by omega⟩⟩
theorem impl_areS (l : List S102) (hl : l.length ≤ 1048576) : Ev (fun k => impl_AreStrikes.f k l) (decide (areS l)) := by
  refine all_loop (fun k i => impl_AreStrikes.l0 k l l (l.length : Int) i) l.length (okS l) _ _ (areS_iff l) (fun k => ?_) (fun k i hi => ?_)
  · simp only [impl_AreStrikes.l0]
    rw [if_neg (by omega)]
  · have e1 : wrap64 ((i : Int) + 1) = i + 1 := by unfold wrap64; omega
    simp only [impl_AreStrikes.l0, isPitch_eq, Option.bind_some, decide_eq_true_eq, e1]
    unfold okS
    by_cases hz : (i : Int) > 0
    · have e2 : wrap64 ((i : Int) - 1) = i - 1 := by unfold wrap64; omega
      simp only [e2]
      constructor <;> intro h <;> (repeat' split) <;> first | rfl | (exfalso; omega)
    · constructor <;> intro h <;> (repeat' split) <;> first | rfl | (exfalso; omega)
theorem spec_areS (l : List S102) (hl : l.length ≤ 1048576) : Ev (fun k => spec_coStrikes.f k l) (decide (areS l)) := by
  refine all_loop (fun k i => spec_coStrikes.l0 k l l (l.length : Int) i) l.length (okS l) _ _ (areS_iff l) (fun k => ?_) (fun k i hi => ?_)
  · simp only [spec_coStrikes.l0]
    rw [if_neg (by omega)]
  · have e1 : wrap64 ((i : Int) + 1) = i + 1 := by unfold wrap64; omega
    simp only [spec_coStrikes.l0, ntPitch_eq, l1In_eq, Option.bind_some, decide_eq_true_eq, e1]
    unfold okS
    by_cases hz : (i : Int) > 0
    · have e2 : wrap64 ((i : Int) - 1) = i - 1 := by unfold wrap64; omega
      simp only [e2]
      constructor <;> intro h <;> (repeat' split) <;> first | rfl | (exfalso; omega)
    · constructor <;> intro h <;> (repeat' split) <;> first | rfl | (exfalso; omega)
theorem areS_get {l : List S102} (h : areS l) {i : Nat} (hi : i < l.length) : 24 ≤ l[i].f0 ∧ l[i].f0 ≤ 96 ∧ 0 ≤ l[i].f1 ∧ l[i].f1 ≤ 2000 := by
  have := h.1 i hi
  have er : rd_T102 l (i : Int) = l[i] := by unfold rd_T102; rw [rd_get hi]
  unfold okS at this
  rw [er] at this
  omega

theorem eqIntS (l : List Int) (hl : l.length ≤ 1048576) : Ev (fun k => laws_eqIntS.f k l l) true := by
  unfold laws_eqIntS.f
  refine ev_pos rfl ?_
  refine same_loop (fun k i => laws_eqIntS.l0 k l l i) l (0 : Int) (fun k x => some true) (fun k i => ?_) (fun x _ => ev_const rfl) (by omega)
  simp only [laws_eqIntS.l0, Option.bind_some, ↓reduceIte]

theorem markIntS (l : List Int) (a : Int) (h0 : 0 ≤ a) (h1 : a ≤ 1099511627776) (hl : l.length ≤ 1048576) : Ev (fun k => laws_markIntS.f k l a) (a + l.length, (List.range l.length).map fun j : Nat => a + (j : Int)) := by
  unfold laws_markIntS.f
  have key : ∀ (d i : Nat) (ys : List Int), l.length - i = d → i ≤ l.length → ys.length = l.length → (∀ j, j < i → ys[j]? = some (a + (j : Int))) →
      Ev (fun k => laws_markIntS.l0 k ys (a + (i : Int)) (i : Int)) (a + l.length, (List.range l.length).map fun j : Nat => a + (j : Int)) := by
    intro d
    induction d with
    | zero =>
      intro i ys hd hi hy hp
      obtain rfl : i = l.length := by omega
      refine Ev.step (f := fun _ => some (a + (l.length : Int), ys)) (fun k => ?_) (ev_now ?_)
      · simp only [laws_markIntS.l0]
        rw [if_neg (by omega)]
      · congr 1
        refine List.ext_getElem? fun j => ?_
        by_cases hj : j < l.length
        · rw [hp j hj]; simp [hj]
        · rw [List.getElem?_eq_none (by omega), List.getElem?_eq_none (by simp; omega)]
    | succ d ih =>
      intro i ys hd hi hy hp
      have e1 : wrap64 ((i : Int) + 1) = ((i + 1 : Nat) : Int) := by unfold wrap64; omega
      have e2 : wrap64 (a + (i : Int) + 1) = a + ((i + 1 : Nat) : Int) := by unfold wrap64; omega
      refine Ev.step (f := fun k => laws_markIntS.l0 k (ys.set i (a + (i : Int))) (a + ((i + 1 : Nat) : Int)) ((i + 1 : Nat) : Int)) (fun k => ?_) (ih (i + 1) _ (by omega) (by omega) (by rw [List.length_set]; exact hy) (fun j hj => ?_))
      · simp only [laws_markIntS.l0, e1, e2, Int.toNat_natCast]
        rw [if_pos (by omega), if_pos (by omega)]
      · by_cases e : j = i
        · subst e
          rw [List.getElem?_set_self (by omega)]
        · rw [List.getElem?_set_ne (by omega)]
          exact hp j (by omega)
  have := key l.length 0 l (by omega) (by omega) rfl (fun j hj => absurd hj (by omega))
  simpa using this
theorem heldIntS (n : Nat) (a : Int) (h0 : 0 ≤ a) (h1 : a ≤ 1099511627776) (hl : n ≤ 1048576) : Ev (fun k => laws_heldIntS.f k ((List.range n).map fun j : Nat => a + (j : Int)) a) (a + n) := by
  unfold laws_heldIntS.f
  have key : ∀ (d i : Nat), n - i = d → i ≤ n → Ev (fun k => laws_heldIntS.l0 k ((List.range n).map fun j : Nat => a + (j : Int)) (a + (i : Int)) (i : Int)) (a + n) := by
    intro d
    induction d with
    | zero =>
      intro i hd hi
      obtain rfl : i = n := by omega
      refine Ev.step (f := fun _ => some (a + (i : Int))) (fun k => ?_) (ev_now rfl)
      simp only [laws_heldIntS.l0]
      rw [if_neg (by simp)]
    | succ d ih =>
      intro i hd hi
      have e1 : wrap64 ((i : Int) + 1) = ((i + 1 : Nat) : Int) := by unfold wrap64; omega
      have e2 : wrap64 (a + (i : Int) + 1) = a + ((i + 1 : Nat) : Int) := by unfold wrap64; omega
      refine Ev.step (fun k => ?_) (ih (i + 1) (by omega) (by omega))
      simp only [laws_heldIntS.l0, e1, e2]
      rw [if_pos (by simp; omega), if_pos (by omega), if_pos]
      unfold rd
      rw [rd_get (by simp; omega)]
      simp
  have := key n 0 (by omega) (by omega)
  simpa using this

/-- A loop that writes marks into every field of a list's elements: c a step. -/
theorem mark_ev {β : Type} (L : Nat → List β → Int → Int → Option (Int × List β)) (mk : Int → β) (c : Nat) (hc : c ≤ 8) (n : Nat) (hn : n ≤ 1048576) (hstop : ∀ k ys a, ys.length = n → L (k + 1) ys a (n : Int) = some (a, ys))
    (hgo : ∀ k ys a (i : Nat), ys.length = n → i < n → 0 ≤ a → a ≤ 2199023255552 → L (k + 1) ys a (i : Int) = L k (ys.set i (mk a)) (a + c) ((i : Int) + 1)) (l : List β) (hl : l.length = n) (a : Int) (h0 : 0 ≤ a) (h1 : a ≤ 1099511627776) :
    Ev (fun k => L k l a 0) (a + c * n, (List.range n).map fun j : Nat => mk (a + c * j)) := by
  have key : ∀ (d i : Nat) (ys : List β), n - i = d → i ≤ n → ys.length = n → (∀ j, j < i → ys[j]? = some (mk (a + c * (j : Int)))) →
      Ev (fun k => L k ys (a + c * (i : Int)) (i : Int)) (a + c * n, (List.range n).map fun j : Nat => mk (a + c * j)) := by
    intro d
    induction d with
    | zero =>
      intro i ys hd hi hy hp
      obtain rfl : i = n := by omega
      refine Ev.step (f := fun _ => some (a + c * (i : Int), ys)) (fun k => hstop k ys _ hy) (ev_now ?_)
      congr 1
      refine List.ext_getElem? fun j => ?_
      by_cases hj : j < i
      · rw [hp j hj]; simp [hj]
      · rw [List.getElem?_eq_none (by omega), List.getElem?_eq_none (by simp; omega)]
    | succ d ih =>
      intro i ys hd hi hy hp
      have hb : (c : Int) * i ≤ 8 * 1048576 := Int.mul_le_mul (by omega) (by omega) (by omega) (by omega)
      have hb0 : 0 ≤ (c : Int) * i := Int.mul_nonneg (by omega) (by omega)
      have e2 : a + (c : Int) * (i : Int) + c = a + c * ((i + 1 : Nat) : Int) := by rw [Int.natCast_add, Int.mul_add]; simp; omega
      refine Ev.step (fun k => hgo k ys _ i hy (by omega) (by omega) (by omega)) ?_
      rw [e2]
      refine ih (i + 1) _ (by omega) (by omega) (by rw [List.length_set]; exact hy) (fun j hj => ?_)
      by_cases e : j = i
      · subst e
        rw [List.getElem?_set_self (by omega)]
      · rw [List.getElem?_set_ne (by omega)]
        exact hp j (by omega)
  have := key n 0 l (by omega) (by omega) hl (fun j hj => absurd hj (by omega))
  simpa using this
/-- A loop that finds the marks again. -/
theorem held_ev {β : Type} (M : Nat → Int → Int → Option Int) (mk : Int → β) (c : Nat) (hc : c ≤ 8) (n : Nat) (hn : n ≤ 1048576) (a : Int) (h0 : 0 ≤ a) (h1 : a ≤ 1099511627776) (hstop : ∀ k a, M (k + 1) a (n : Int) = some a)
    (hgo : ∀ k b (i : Nat) (hi : i < ((List.range n).map fun j : Nat => mk (a + c * j)).length), ((List.range n).map fun j : Nat => mk (a + c * j))[i] = mk b → 0 ≤ b → b ≤ 2199023255552 → M (k + 1) b (i : Int) = M k (b + c) ((i : Int) + 1)) :
    Ev (fun k => M k a 0) (a + c * n) := by
  have key : ∀ (d i : Nat), n - i = d → i ≤ n → Ev (fun k => M k (a + c * (i : Int)) (i : Int)) (a + c * n) := by
    intro d
    induction d with
    | zero =>
      intro i hd hi
      obtain rfl : i = n := by omega
      exact Ev.step (f := fun _ => some (a + c * (i : Int))) (fun k => hstop k _) (ev_now rfl)
    | succ d ih =>
      intro i hd hi
      have hb : (c : Int) * i ≤ 8 * 1048576 := Int.mul_le_mul (by omega) (by omega) (by omega) (by omega)
      have hb0 : 0 ≤ (c : Int) * i := Int.mul_nonneg (by omega) (by omega)
      have e2 : a + (c : Int) * (i : Int) + c = a + c * ((i + 1 : Nat) : Int) := by rw [Int.natCast_add, Int.mul_add]; simp; omega
      refine Ev.step (fun k => hgo k _ i (by simp; omega) (by simp) (by omega) (by omega)) ?_
      rw [e2]
      exact ih (i + 1) (by omega) (by omega)
  have := key n 0 (by omega) (by omega)
  simpa using this
theorem rd_set {α : Type} {xs : List α} {z v : α} {i : Nat} (h : i < xs.length) : (xs.set i v).getD (i : Int).toNat z = v := by
  rw [Int.toNat_natCast, List.getD_eq_getElem?_getD, List.getElem?_set_self h]; rfl

theorem markStrikeS (l : List S102) (a : Int) (h0 : 0 ≤ a) (h1 : a ≤ 1099511627776) (hl : l.length ≤ 1048576) : Ev (fun k => laws_markStrikeS.f k l a) (a + (2 : Nat) * (l.length : Nat), (List.range l.length).map fun j : Nat => (⟨a + (2 : Nat) * j, a + (2 : Nat) * j + 1⟩ : S102)) := by
  unfold laws_markStrikeS.f
  refine mark_ev (fun k ys a i => laws_markStrikeS.l0 k ys a i) (fun a => (⟨a, a + 1⟩ : S102)) 2 (by omega) l.length hl (fun k ys a hy => ?_) (fun k ys a i hy hi g0 g1 => ?_) l rfl a h0 h1
  · simp only [laws_markStrikeS.l0]
    rw [if_neg (by omega)]
  · have e1 : wrap64 ((i : Int) + 1) = i + 1 := by unfold wrap64; omega
    have e2 : wrap64 (a + 1) = a + 1 := by unfold wrap64; omega
    have e3 : wrap64 (a + 1 + 1) = a + (2 : Nat) := by unfold wrap64; omega
    have hi2 : i < ys.length := by omega
    simp only [laws_markStrikeS.l0, Option.bind_some, Int.toNat_natCast, rd_T102, e1, e2, e3]
    rw [if_pos (by omega), if_pos (by omega)]
    simp [List.getElem?_set_self hi2, List.set_set]

theorem l1Most_eq (a b : Int) : spec_l1Most.f a b = some (mx a b) := by
  unfold spec_l1Most.f mx
  repeat' split
  all_goals first | rfl | (congr 1; omega)
theorem tn_same (l : List S102) (rest : Int) : ∀ k, (∀ out xs n i, impl_TeethNeeded.l0 k l rest out xs n i = spec_TeethNeeded.l0 k l rest out xs n i) ∧
    (∀ out c xs n i ys m j p s, impl_TeethNeeded.l1 k l rest out c xs n i ys m j p s = spec_TeethNeeded.l1 k l rest out c xs n i ys m j p s) := by
  intro k
  induction k with
  | zero => exact ⟨fun _ _ _ _ => rfl, fun _ _ _ _ _ _ _ _ _ _ => rfl⟩
  | succ k ih =>
    refine ⟨fun _ _ _ _ => ?_, fun _ _ _ _ _ _ _ _ _ _ => ?_⟩
    · simp only [impl_TeethNeeded.l0, spec_TeethNeeded.l0, ih.2]
    · simp only [impl_TeethNeeded.l1, spec_TeethNeeded.l1, ih.1, ih.2, l1Most_eq, Option.bind_some]
theorem tn_total (l : List S102) (rest : Int) (hg : areS l) : ∃ r, Ev (fun k => spec_TeethNeeded.l0 k l rest (List.replicate 73 0) l (l.length : Int) 0) r ∧ r.1.length = 73 := by
  have h40 := hg.2
  refine ev_for_ex (fun k (out : List Int) i => spec_TeethNeeded.l0 k l rest out l (l.length : Int) i) l.length (fun _ out => out.length = 73) (fun r => r.1.length = 73) (fun out ho => ?_) (fun i out hi ho ih => ?_) 0 (List.replicate 73 0) (Nat.zero_le _) (by simp)
  · refine ⟨(out, true), Ev.step (f := fun _ => some (out, true)) (fun k => ?_) (Ev.now _), ho⟩
    simp only [spec_TeethNeeded.l0]
    rw [if_neg (by omega)]
  · have e1 := wn hi (by omega)
    have hb := areS_get hg hi
    have er : rd_T102 l (i : Int) = l[i] := by unfold rd_T102; rw [rd_get hi]
    have htl : (l.take (i + 1)).length = i + 1 := by rw [List.length_take]; omega
    have e2 : wrap64 (l[i].f0 - 24) = l[i].f0 - 24 := by unfold wrap64; omega
    obtain ⟨r, h1, h2⟩ := ev_for_ex (fun k (c : Int) j => spec_TeethNeeded.l1 k l rest out c l (l.length : Int) (i : Int) (l.take (i + 1)) ((l.take (i + 1)).length : Int) j l[i].f0 l[i].f1) (l.take (i + 1)).length (fun _ _ => True) (fun r => r.1.length = 73)
      (fun c _ => by
        obtain ⟨r, h1, h2⟩ := ih (out.set (l[i].f0 - 24).toNat (mx (rd out (l[i].f0 - 24)) c)) (by rw [List.length_set]; exact ho)
        refine ⟨r, Ev.step (fun k => ?_) h1, h2⟩
        simp only [spec_TeethNeeded.l1, l1Most_eq, Option.bind_some, e1, e2]
        rw [if_neg (by omega), if_pos (by omega), if_pos (by omega)])
      (fun j c hj _ ihj => by
        have e3 := wn hj (by omega)
        by_cases c1 : (rd_T102 (l.take (i + 1)) (j : Int)).f0 = l[i].f0 ∧ wrap64 (l[i].f1 - (rd_T102 (l.take (i + 1)) (j : Int)).f1) < rest
        · obtain ⟨r, h1, h2⟩ := ihj (wrap64 (c + 1)) trivial
          refine ⟨r, Ev.step (fun k => ?_) h1, h2⟩
          simp only [spec_TeethNeeded.l1, e3]
          rw [if_pos (by omega), if_pos (by omega), if_pos (by omega), if_pos c1.1, if_pos c1.2]
        · obtain ⟨r, h1, h2⟩ := ihj c trivial
          refine ⟨r, Ev.step (fun k => ?_) h1, h2⟩
          simp only [spec_TeethNeeded.l1, e3]
          rw [if_pos (by omega), if_pos (by omega), if_pos (by omega)]
          by_cases c2 : (rd_T102 (l.take (i + 1)) (j : Int)).f0 = l[i].f0
          · rw [if_pos c2, if_neg (fun h => c1 ⟨c2, h⟩)]
          · rw [if_neg c2]) 0 0 (Nat.zero_le _) trivial
    refine ⟨r, Ev.step (fun k => ?_) h1, h2⟩
    simp only [spec_TeethNeeded.l0, e1, er, Option.bind_some, Int.toNat_natCast]
    rw [if_pos (by omega), if_pos (by omega), if_pos (by omega), if_pos (by omega), if_pos (by omega)]
    rfl
theorem tn (l : List S102) (rest : Int) (hl : l.length ≤ 1048576) : ∃ r, Ev (fun k => spec_TeethNeeded.f k l rest) r ∧ Ev (fun k => impl_TeethNeeded.f k l rest) r ∧ r.1.length ≤ 1048576 := by
  unfold spec_TeethNeeded.f impl_TeethNeeded.f
  have hr : impl_isRest.f rest = some (decide (1 ≤ rest ∧ rest ≤ 200)) := by
    unfold impl_isRest.f
    split <;> simp <;> omega
  simp only [l1In_eq, hr, Option.bind_some]
  by_cases hg : areS l ∧ 1 ≤ rest ∧ rest ≤ 200
  · obtain ⟨r, h1, h2⟩ := tn_total l rest hg.1
    refine ⟨r, Ev.bind (spec_areS l hl) (ev_pos (decide_eq_true hg.1) (Ev.step (f := fun k => spec_TeethNeeded.l0 k l rest (List.replicate 73 0) l (l.length : Int) 0) (fun k => ?_) h1)),
      Ev.bind (impl_areS l hl) (ev_pos (decide_eq_true hg.1) (Ev.step (f := fun k => impl_TeethNeeded.l0 k l rest (List.replicate 73 0) l (l.length : Int) 0) (fun k => ?_) (Ev.congr (fun k => (tn_same l rest k).1 _ _ _ _) h1))), by omega⟩
    · simp only [spec_TeethNeeded.j0]
      rw [if_neg (by simp; omega), if_pos (by omega)]
    · simp only [impl_TeethNeeded.j0]
      rw [if_neg (by simp; omega), if_pos (by omega)]
  · refine ⟨([], false), Ev.bind (spec_areS l hl) (ev_ite (fun h => Ev.step (f := fun _ => some ([], false)) (fun k => ?_) (Ev.now _)) (fun h => Ev.step (f := fun _ => some ([], false)) (fun k => rfl) (Ev.now _))),
      Ev.bind (impl_areS l hl) (ev_ite (fun h => Ev.step (f := fun _ => some ([], false)) (fun k => ?_) (Ev.now _)) (fun h => Ev.step (f := fun _ => some ([], false)) (fun k => rfl) (Ev.now _))), Nat.zero_le _⟩
    · have h' := of_decide_eq_true h
      have : ¬ (1 ≤ rest ∧ rest ≤ 200) := fun hh => hg ⟨h', hh⟩
      simp only [spec_TeethNeeded.j0]
      rw [if_pos (by simp; omega)]
    · have h' := of_decide_eq_true h
      have : ¬ (1 ≤ rest ∧ rest ≤ 200) := fun hh => hg ⟨h', hh⟩
      simp only [impl_TeethNeeded.j0]
      rw [if_pos (by simp; omega)]
theorem FnExactTeethNeeded (l0 : List (S105)) (a1 : Int) (w0 : (l0.length ≤ maxLen ∧ ∀ y1 ∈ l0, ((Lit.int .i64 y1.f0).wf = true ∧ (Lit.int .i64 y1.f1).wf = true))) (w1 : (Lit.int .i64 a1).wf = true) :
    ∃ k, laws_FnExactTeethNeeded.f k l0 a1 = some true := by
  obtain ⟨hm, _⟩ := w0
  unfold maxLen at hm
  refine Ev.rounds (g := fun k => laws_FnExactTeethNeeded.f k l0 a1) ?_
  unfold laws_FnExactTeethNeeded.f
  refine ev_call (szStrikeS _ _ (by omega) (by omega)) ?_
  by_cases hl : (l0.length : Int) ≤ 1048576
  · rw [if_pos hl]
    refine ev_neg (by omega) ?_
    have hl1 : l0.length ≤ 1048576 := by omega
    have h1 := toStrikeS l0 hl1
    have hl2 : (l0.map cvS).length ≤ 1048576 := by simpa using hl1
    obtain ⟨r, g1, g2, g3⟩ := tn (l0.map cvS) a1 hl2
    refine Ev.bind h1 (Ev.bind g1 (Ev.bind h1 (Ev.bind g2 (Ev.bind (eqIntS _ g3) (ev_pos rfl (Ev.step (fun k => rfl) (ev_neg (by simp) (Ev.bind h1 (Ev.bind (eqStrikeS _ hl2) (ev_pos rfl (Ev.bind (markStrikeS _ 1 (by omega) (by omega) hl2) (ev_neg (by omega) (Ev.bind (eqIntS _ g3) (ev_pos rfl ?_))))))))))))))
    refine Ev.step (fun k => rfl) (ev_neg (by simp) (Ev.bind (markIntS _ 1 (by omega) (by omega) g3) (Ev.bind (heldIntS _ 1 (by omega) (by omega) g3) (ev_neg (by omega) (ev_pos rfl (Ev.bind h1 (Ev.bind g2 (Ev.bind (eqIntS _ g3) (ev_pos rfl ?_)))))))))
    exact Ev.step (fun k => rfl) (ev_neg (by simp) (Ev.bind (heldIntS _ 1 (by omega) (by omega) g3) (ev_neg (by omega) (ev_pos rfl (Ev.now _)))))
  · rw [if_neg hl]
    exact ev_pos (by omega) (Ev.now _)

end Go.Proofs.Ytidnfnnnfppefab.PureFnExactTeethNeeded
