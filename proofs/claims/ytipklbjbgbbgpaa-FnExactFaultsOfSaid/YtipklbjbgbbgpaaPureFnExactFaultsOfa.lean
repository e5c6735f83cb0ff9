/- The plain statement of FnExactFaultsOf (lemmas): the law's function, over numbers and lists, answers true. No conditions beyond the arguments' own kinds. -/
import Derived.Test.YtipklbjbgbbgpaaSFaultsOfL
import Derived.Test.YtipklbjbgbbgpaaVFaultsOf
namespace Go.Proofs.Ytipklbjbgbbgpaa.PureFnExactFaultsOf
open Go Go.RowKit Go.Proofs.Ytipklbjbgbbgpaa.PFnExactFaultsOf Go.Proofs.YtipklbjbgbbgpaaW.PrintWords Go.Proofs.YtipklbjbgbbgpaaW.PrintLast Go.Proofs.YtipklbjbgbbgpaaW.PrintMore Go.Proofs.Ytipklbjbgbbgpaa.Lib
set_option linter.unusedVariables false
set_option linter.unusedSimpArgs false
/-- A loop that counts up to n, and what is known of its answer. -/
theorem ev_for_ex {σ ρ : Type} (L : Nat → σ → Int → Option ρ) (n : Nat) (Inv : Nat → σ → Prop) (Post : ρ → Prop) (hstop : ∀ s, Inv n s → ∃ r, Ev (fun k => L k s (n : Int)) r ∧ Post r)
    (hgo : ∀ i s, i < n → Inv i s → (∀ s', Inv (i + 1) s' → ∃ r, Ev (fun k => L k s' ((i + 1 : Nat) : Int)) r ∧ Post r) → ∃ r, Ev (fun k => L k s (i : Int)) r ∧ Post r) :
    ∀ i s, i ≤ n → Inv i s → ∃ r, Ev (fun k => L k s (i : Int)) r ∧ Post r := by
  have key : ∀ d i : Nat, n - i = d → i ≤ n → ∀ s, Inv i s → ∃ r, Ev (fun k => L k s (i : Int)) r ∧ Post r := by
    intro d
    induction d with
    | zero =>
      intro i hd hi s hs
      obtain rfl : i = n := by omega
      exact hstop s hs
    | succ d ih =>
      intro i hd hi s hs
      exact hgo i s (by omega) hs (fun s' hs' => ih (i + 1) (by omega) (by omega) s' hs')
  intro i s hi hs
  exact key (n - i) i rfl hi s hs
theorem wn {i n : Nat} (h : i < n) (hn : n ≤ 9223372036854775807) : wrap64 ((i : Int) + 1) = ((i + 1 : Nat) : Int) := by unfold wrap64; omega
/-- Whatever holds at the end of a count, and at i if it holds at i + 1, holds from everywhere. -/
theorem count_up {σ : Type} (n : Nat) (Inv Q : Nat → σ → Prop) (hstop : ∀ s, Inv n s → Q n s) (hgo : ∀ i s, i < n → Inv i s → (∀ s', Inv (i + 1) s' → Q (i + 1) s') → Q i s) : ∀ i s, i ≤ n → Inv i s → Q i s := by
  have key : ∀ d i : Nat, n - i = d → i ≤ n → ∀ s, Inv i s → Q i s := by
    intro d
    induction d with
    | zero =>
      intro i hd hi s hs
      obtain rfl : i = n := by omega
      exact hstop s hs
    | succ d ih =>
      intro i hd hi s hs
      exact hgo i s (by omega) hs (fun s' hs' => ih (i + 1) (by omega) (by omega) s' hs')
  intro i s hi hs
  exact key (n - i) i rfl hi s hs

/-- A loop that writes marks into every field of a list's elements: c a step. -/
theorem mark_ev {β : Type} (L : Nat → List β → Int → Int → Option (Int × List β)) (mk : Int → β) (c : Nat) (hc : c ≤ 8) (n : Nat) (hn : n ≤ 1048576) (hstop : ∀ k ys a, ys.length = n → L (k + 1) ys a (n : Int) = some (a, ys))
    (hgo : ∀ k ys a (i : Nat), ys.length = n → i < n → 0 ≤ a → a ≤ 2199023255552 → L (k + 1) ys a (i : Int) = L k (ys.set i (mk a)) (a + c) ((i : Int) + 1)) (l : List β) (hl : l.length = n) (a : Int) (h0 : 0 ≤ a) (h1 : a ≤ 1099511627776) :
    Ev (fun k => L k l a 0) (a + c * n, (List.range n).map fun j : Nat => mk (a + c * j)) := by
  have key : ∀ (d i : Nat) (ys : List β), n - i = d → i ≤ n → ys.length = n → (∀ j, j < i → ys[j]? = some (mk (a + c * (j : Int)))) →
      Ev (fun k => L k ys (a + c * (i : Int)) (i : Int)) (a + c * n, (List.range n).map fun j : Nat => mk (a + c * j)) := by
    intro d
    induction d with
    | zero =>
      intro i ys hd hi hy hp
      obtain rfl : i = n := by omega
      refine Ev.step (f := fun _ => some (a + c * (i : Int), ys)) (fun k => hstop k ys _ hy) (ev_now ?_)
      congr 1
      refine List.ext_getElem? fun j => ?_
      by_cases hj : j < i
      · rw [hp j hj]; simp [hj]
      · rw [List.getElem?_eq_none (by omega), List.getElem?_eq_none (by simp; omega)]
    | succ d ih =>
      intro i ys hd hi hy hp
      have hb : (c : Int) * i ≤ 8 * 1048576 := Int.mul_le_mul (by omega) (by omega) (by omega) (by omega)
      have hb0 : 0 ≤ (c : Int) * i := Int.mul_nonneg (by omega) (by omega)
      have e2 : a + (c : Int) * (i : Int) + c = a + c * ((i + 1 : Nat) : Int) := by rw [Int.natCast_add, Int.mul_add]; simp; omega
      refine Ev.step (fun k => hgo k ys _ i hy (by omega) (by omega) (by omega)) ?_
      rw [e2]
      refine ih (i + 1) _ (by omega) (by omega) (by rw [List.length_set]; exact hy) (fun j hj => ?_)
      by_cases e : j = i
      · subst e
        rw [List.getElem?_set_self (by omega)]
      · rw [List.getElem?_set_ne (by omega)]
        exact hp j (by omega)
  have := key n 0 l (by omega) (by omega) hl (fun j hj => absurd hj (by omega))
  simpa using this
def cvH (x : S68) : S66 := ⟨x.f0, x.f1, x.f2⟩
theorem toHoleS (l : List S68) (hl : l.length ≤ 1048576) : Ev (fun k => laws_toHoleS.f k l) (l.map cvH) := by
  unfold laws_toHoleS.f
  refine ev_pos (by omega) (ev_pos (by omega) ?_)
  exact map_loop (fun k ys i => laws_toHoleS.l0 k l ys i) l z68 z66 (fun k x => laws_toHole.f x.f0 x.f1 x.f2) (fun bt => ⟨bt.1, bt.2.1, bt.2.2⟩) (fun x => (x.f0, x.f1, x.f2)) (fun k ys i => rfl) (fun x _ => ev_const rfl) (by omega)
theorem eqHoleS (l : List S66) (hl : l.length ≤ 1048576) : Ev (fun k => laws_eqHoleS.f k l l) true := by
  unfold laws_eqHoleS.f
  refine ev_pos rfl ?_
  exact same_loop (fun k i => laws_eqHoleS.l0 k l l i) l z66 (fun k x => laws_eqHole.f x.f0 x.f1 x.f2 x.f0 x.f1 x.f2) (fun k i => rfl) (fun x _ => ev_const (by simp [laws_eqHole.f])) (by omega)
theorem szHoleS (l : List S68) (a : Int) (ha : 0 ≤ a ∧ a ≤ 1048576) (hl : l.length ≤ 9223372036854775807) : laws_szHoleS.f l a = some (if (l.length : Int) ≤ a then a - (l.length : Int) else -1) := by
  have e : wrap64 (a - (l.length : Int)) = a - l.length := by unfold wrap64; omega
  simp only [laws_szHoleS.f, e]
  repeat' split
  all_goals first | rfl | (exfalso; omega)

def cvN (x : S64) : S62 := ⟨x.f0, x.f1, x.f2⟩
theorem toNoteS (l : List S64) (hl : l.length ≤ 1048576) : Ev (fun k => laws_toNoteS.f k l) (l.map cvN) := by
  unfold laws_toNoteS.f
  refine ev_pos (by omega) (ev_pos (by omega) ?_)
  exact map_loop (fun k ys i => laws_toNoteS.l0 k l ys i) l z64 z62 (fun k x => laws_toNote.f x.f0 x.f1 x.f2) (fun bt => ⟨bt.1, bt.2.1, bt.2.2⟩) (fun x => (x.f0, x.f1, x.f2)) (fun k ys i => rfl) (fun x _ => ev_const rfl) (by omega)
theorem eqNoteS (l : List S62) (hl : l.length ≤ 1048576) : Ev (fun k => laws_eqNoteS.f k l l) true := by
  unfold laws_eqNoteS.f
  refine ev_pos rfl ?_
  exact same_loop (fun k i => laws_eqNoteS.l0 k l l i) l z62 (fun k x => laws_eqNote.f x.f0 x.f1 x.f2 x.f0 x.f1 x.f2) (fun k i => rfl) (fun x _ => ev_const (by simp [laws_eqNote.f])) (by omega)
theorem szNoteS (l : List S64) (a : Int) (ha : 0 ≤ a ∧ a ≤ 1048576) (hl : l.length ≤ 9223372036854775807) : laws_szNoteS.f l a = some (if (l.length : Int) ≤ a then a - (l.length : Int) else -1) := by
  have e : wrap64 (a - (l.length : Int)) = a - l.length := by unfold wrap64; omega
  simp only [laws_szNoteS.f, e]
  repeat' split
  all_goals first | rfl | (exfalso; omega)

theorem toIntS (l : List Int) (hl : l.length ≤ 1048576) : Ev (fun k => laws_toIntS.f k l) l := by
  unfold laws_toIntS.f
  refine ev_pos (by omega) (ev_pos (by omega) ?_)
  have h := map_loop (fun k ys i => laws_toIntS.l0 k l ys i) l (0 : Int) (0 : Int) (fun k x => some x) (fun b => b) (fun x => x) (fun k ys i => rfl) (fun x _ => ev_const rfl) (by omega)
  simpa using h

theorem eqIntS (l : List Int) (hl : l.length ≤ 1048576) : Ev (fun k => laws_eqIntS.f k l l) true := by
  unfold laws_eqIntS.f
  refine ev_pos rfl ?_
  refine same_loop (fun k i => laws_eqIntS.l0 k l l i) l (0 : Int) (fun k x => some true) (fun k i => ?_) (fun x _ => ev_const rfl) (by omega)
  simp only [laws_eqIntS.l0, Option.bind_some, ↓reduceIte]

theorem toInst (l : List Int) (p : Int) (hl : l.length ≤ 1048576) : Ev (fun k => laws_toInstrument.f k l p) (l, p) := by
  unfold laws_toInstrument.f
  exact Ev.bind (toIntS l hl) (Ev.now _)
theorem eqInst (l : List Int) (p : Int) (hl : l.length ≤ 1048576) : Ev (fun k => laws_eqInstrument.f k l p l p) true := by
  unfold laws_eqInstrument.f
  exact Ev.bind (eqIntS l hl) (ev_pos rfl (ev_pos rfl (Ev.now _)))
theorem szInst (l : List Int) (p : Int) (hl : l.length ≤ 9223372036854775807) : laws_szInstrument.f l p 1048576 = some (if l.length ≤ 1048576 then 1048576 - (l.length : Int) else -1) := by
  have e : wrap64 (1048576 - (l.length : Int)) = 1048576 - l.length := by unfold wrap64; omega
  simp only [laws_szInstrument.f, laws_szIntS.f, e]
  by_cases c : l.length ≤ 1048576
  · rw [if_neg (by omega), if_pos c]
    simp only [Option.bind_some]
    rw [if_neg (by omega)]
  · rw [if_pos (by omega), if_neg c]
    rfl

theorem markIntS (l : List Int) (a : Int) (h0 : 0 ≤ a) (h1 : a ≤ 1099511627776) (hl : l.length ≤ 1048576) : Ev (fun k => laws_markIntS.f k l a) (a + l.length, (List.range l.length).map fun j : Nat => a + (j : Int)) := by
  unfold laws_markIntS.f
  have key : ∀ (d i : Nat) (ys : List Int), l.length - i = d → i ≤ l.length → ys.length = l.length → (∀ j, j < i → ys[j]? = some (a + (j : Int))) →
      Ev (fun k => laws_markIntS.l0 k ys (a + (i : Int)) (i : Int)) (a + l.length, (List.range l.length).map fun j : Nat => a + (j : Int)) := by
    intro d
    induction d with
    | zero =>
      intro i ys hd hi hy hp
      obtain rfl : i = l.length := by omega
      refine Ev.step (f := fun _ => some (a + (l.length : Int), ys)) (fun k => ?_) (ev_now ?_)
      · simp only [laws_markIntS.l0]
        rw [if_neg (by omega)]
      · congr 1
        refine List.ext_getElem? fun j => ?_
        by_cases hj : j < l.length
        · rw [hp j hj]; simp [hj]
        · rw [List.getElem?_eq_none (by omega), List.getElem?_eq_none (by simp; omega)]
    | succ d ih =>
      intro i ys hd hi hy hp
      have e1 : wrap64 ((i : Int) + 1) = ((i + 1 : Nat) : Int) := by unfold wrap64; omega
      have e2 : wrap64 (a + (i : Int) + 1) = a + ((i + 1 : Nat) : Int) := by unfold wrap64; omega
      refine Ev.step (f := fun k => laws_markIntS.l0 k (ys.set i (a + (i : Int))) (a + ((i + 1 : Nat) : Int)) ((i + 1 : Nat) : Int)) (fun k => ?_) (ih (i + 1) _ (by omega) (by omega) (by rw [List.length_set]; exact hy) (fun j hj => ?_))
      · simp only [laws_markIntS.l0, e1, e2, Int.toNat_natCast]
        rw [if_pos (by omega), if_pos (by omega)]
      · by_cases e : j = i
        · subst e
          rw [List.getElem?_set_self (by omega)]
        · rw [List.getElem?_set_ne (by omega)]
          exact hp j (by omega)
  have := key l.length 0 l (by omega) (by omega) rfl (fun j hj => absurd hj (by omega))
  simpa using this

theorem heldIntS (n : Nat) (a : Int) (h0 : 0 ≤ a) (h1 : a ≤ 1099511627776) (hl : n ≤ 1048576) : Ev (fun k => laws_heldIntS.f k ((List.range n).map fun j : Nat => a + (j : Int)) a) (a + n) := by
  unfold laws_heldIntS.f
  have key : ∀ (d i : Nat), n - i = d → i ≤ n → Ev (fun k => laws_heldIntS.l0 k ((List.range n).map fun j : Nat => a + (j : Int)) (a + (i : Int)) (i : Int)) (a + n) := by
    intro d
    induction d with
    | zero =>
      intro i hd hi
      obtain rfl : i = n := by omega
      refine Ev.step (f := fun _ => some (a + (i : Int))) (fun k => ?_) (ev_now rfl)
      simp only [laws_heldIntS.l0]
      rw [if_neg (by simp)]
    | succ d ih =>
      intro i hd hi
      have e1 : wrap64 ((i : Int) + 1) = ((i + 1 : Nat) : Int) := by unfold wrap64; omega
      have e2 : wrap64 (a + (i : Int) + 1) = a + ((i + 1 : Nat) : Int) := by unfold wrap64; omega
      refine Ev.step (fun k => ?_) (ih (i + 1) (by omega) (by omega))
      simp only [laws_heldIntS.l0, e1, e2]
      rw [if_pos (by simp; omega), if_pos (by omega), if_pos]
      unfold rd
      rw [rd_get (by simp; omega)]
      simp
  have := key n 0 (by omega) (by omega)
  simpa using this

theorem markHoleS (l : List S66) (a : Int) (h0 : 0 ≤ a) (h1 : a ≤ 1099511627776) (hl : l.length ≤ 1048576) : Ev (fun k => laws_markHoleS.f k l a) (a + (3 : Nat) * (l.length : Nat), (List.range l.length).map fun j : Nat => (⟨a + (3 : Nat) * j, a + (3 : Nat) * j + 1, a + (3 : Nat) * j + 2⟩ : S66)) := by
  unfold laws_markHoleS.f
  refine mark_ev (fun k ys a i => laws_markHoleS.l0 k ys a i) (fun a => (⟨a, a + 1, a + 2⟩ : S66)) 3 (by omega) l.length hl (fun k ys a hy => ?_) (fun k ys a i hy hi g0 g1 => ?_) l rfl a h0 h1
  · simp only [laws_markHoleS.l0]
    rw [if_neg (by omega)]
  · have e1 : wrap64 ((i : Int) + 1) = i + 1 := by unfold wrap64; omega
    have e2 : wrap64 (a + 1) = a + 1 := by unfold wrap64; omega
    have e3 : wrap64 (a + 1 + 1) = a + 2 := by unfold wrap64; omega
    have e4 : wrap64 (a + 2 + 1) = a + (3 : Nat) := by unfold wrap64; omega
    have hi2 : i < ys.length := by omega
    simp only [laws_markHoleS.l0, Option.bind_some, Int.toNat_natCast, rd_T66, e1, e2, e3, e4]
    rw [if_pos (by omega), if_pos (by omega)]
    simp [List.getElem?_set_self hi2, List.set_set, hi2]

theorem markNoteS (l : List S62) (a : Int) (h0 : 0 ≤ a) (h1 : a ≤ 1099511627776) (hl : l.length ≤ 1048576) : Ev (fun k => laws_markNoteS.f k l a) (a + (3 : Nat) * (l.length : Nat), (List.range l.length).map fun j : Nat => (⟨a + (3 : Nat) * j, a + (3 : Nat) * j + 1, a + (3 : Nat) * j + 2⟩ : S62)) := by
  unfold laws_markNoteS.f
  refine mark_ev (fun k ys a i => laws_markNoteS.l0 k ys a i) (fun a => (⟨a, a + 1, a + 2⟩ : S62)) 3 (by omega) l.length hl (fun k ys a hy => ?_) (fun k ys a i hy hi g0 g1 => ?_) l rfl a h0 h1
  · simp only [laws_markNoteS.l0]
    rw [if_neg (by omega)]
  · have e1 : wrap64 ((i : Int) + 1) = i + 1 := by unfold wrap64; omega
    have e2 : wrap64 (a + 1) = a + 1 := by unfold wrap64; omega
    have e3 : wrap64 (a + 1 + 1) = a + 2 := by unfold wrap64; omega
    have e4 : wrap64 (a + 2 + 1) = a + (3 : Nat) := by unfold wrap64; omega
    have hi2 : i < ys.length := by omega
    simp only [laws_markNoteS.l0, Option.bind_some, Int.toNat_natCast, rd_T62, e1, e2, e3, e4]
    rw [if_pos (by omega), if_pos (by omega)]
    simp [List.getElem?_set_self hi2, List.set_set, hi2]

theorem markInst (l : List Int) (p : Int) (hl : l.length ≤ 1048576) : Ev (fun k => laws_markInstrument.f k l p 1) (1 + l.length, (List.range l.length).map fun j : Nat => 1 + (j : Int)) := by
  unfold laws_markInstrument.f
  exact Ev.bind (markIntS l 1 (by omega) (by omega) hl) (Ev.now _)

/-- A loop of checks whose rounds may call: what is known of the places before may be used. -/
theorem all_loop_g (L : Nat → Int → Option Bool) (n : Nat) (P : Nat → Prop) (fin r : Bool) (hr : r = true ↔ (∀ i, i < n → P i) ∧ fin = true) (hstop : (∀ i, i < n → P i) → Ev (fun k => L k (n : Int)) fin)
    (hgo : ∀ i : Nat, i < n → (∀ j, j < i → P j) → (P i → ∀ q, Ev (fun k => L k ((i + 1 : Nat) : Int)) q → Ev (fun k => L k (i : Int)) q) ∧ (¬ P i → Ev (fun k => L k (i : Int)) false)) : Ev (fun k => L k 0) r := by
  have key : ∀ d i : Nat, n - i = d → i ≤ n → (∀ j, j < i → P j) → Ev (fun k => L k (i : Int)) r := by
    intro d
    induction d with
    | zero =>
      intro i hd hi hp
      obtain rfl : i = n := by omega
      refine ev_eq (hstop hp) ?_
      rw [Bool.eq_iff_iff, hr]
      exact ⟨fun h => ⟨hp, h⟩, fun h => h.2⟩
    | succ d ih =>
      intro i hd hi hp
      have hlt : i < n := by omega
      by_cases hc : P i
      · refine (hgo i hlt hp).1 hc r (ih (i + 1) (by omega) (by omega) (fun j hj => ?_))
        by_cases e : j = i
        · exact e ▸ hc
        · exact hp j (by omega)
      · refine ev_eq ((hgo i hlt hp).2 hc) ?_
        cases hrr : r with
        | false => rfl
        | true => exact absurd ((hr.1 hrr).1 i hlt) hc
  exact key n 0 (by omega) (by omega) (fun j hj => absurd hj (by omega))
/-- A loop that leaves with 'bad' at the first place that is not as it should be, and else goes on behind the last. -/
theorem scan_loop {α : Type} (L : Nat → Int → Option α) (n : Nat) (C : Nat → Prop) (q bad : α) (hstop : (∀ j, j < n → C j) → Ev (fun k => L k (n : Int)) q) (hbad : ¬ (∀ j, j < n → C j) → q = bad)
    (hgo : ∀ k (j : Nat), j < n → (C j → L (k + 1) (j : Int) = L k ((j + 1 : Nat) : Int)) ∧ (¬ C j → L (k + 1) (j : Int) = some bad)) : Ev (fun k => L k 0) q := by
  have key : ∀ d i : Nat, n - i = d → i ≤ n → (∀ j, j < i → C j) → Ev (fun k => L k (i : Int)) q := by
    intro d
    induction d with
    | zero =>
      intro i hd hi hp
      obtain rfl : i = n := by omega
      exact hstop hp
    | succ d ih =>
      intro i hd hi hp
      have hlt : i < n := by omega
      by_cases hc : C i
      · refine Ev.step (fun k => (hgo k i hlt).1 hc) (ih (i + 1) (by omega) (by omega) (fun j hj => ?_))
        by_cases e : j = i
        · exact e ▸ hc
        · exact hp j (by omega)
      · exact Ev.step (fun k => (hgo k i hlt).2 hc) (ev_now (hbad (fun h => hc (h i hlt))).symm)
  exact key n 0 (by omega) (by omega) (fun j hj => absurd hj (by omega))
/-- Rounds that only go on. -/
theorem skip_loop {α : Type} (L : Nat → Int → Option α) (r : α) (a b : Nat) (hab : a ≤ b) (h : ∀ j : Nat, a ≤ j → j < b → Ev (fun k => L k ((j + 1 : Nat) : Int)) r → Ev (fun k => L k (j : Int)) r) (hb : Ev (fun k => L k (b : Int)) r) : Ev (fun k => L k (a : Int)) r := by
  have key : ∀ d i : Nat, b - i = d → a ≤ i → i ≤ b → Ev (fun k => L k (i : Int)) r := by
    intro d
    induction d with
    | zero =>
      intro i hd hi hi2
      obtain rfl : i = b := by omega
      exact hb
    | succ d ih =>
      intro i hd hi hi2
      exact h i hi (by omega) (ih (i + 1) (by omega) (by omega) (by omega))
  exact key (b - a) a rfl (Nat.le_refl _) hab
theorem first_or_none (C : Nat → Prop) (n : Nat) : (∀ j, j < n → ¬ C j) ∨ ∃ i, i < n ∧ C i ∧ ∀ j, j < i → ¬ C j := by
  induction n with
  | zero => exact .inl (fun j hj => absurd hj (by omega))
  | succ n ih =>
    rcases ih with h | ⟨i, hi, hc, h⟩
    · by_cases c : C n
      · exact .inr ⟨n, by omega, c, h⟩
      · refine .inl (fun j hj => ?_)
        by_cases e : j = n
        · exact e ▸ c
        · exact h j (by omega)
    · exact .inr ⟨i, by omega, hc, h⟩

def okH (x : S66) : Prop := 0 ≤ x.f0 ∧ x.f0 < 20 ∧ 0 ≤ x.f1 ∧ x.f1 < x.f2 ∧ x.f2 ≤ 2000
instance (x : S66) : Decidable (okH x) := by unfold okH; infer_instance
def befH (a b : S66) : Prop := a.f1 < b.f1 ∨ a.f1 = b.f1 ∧ a.f0 < b.f0
instance (a b : S66) : Decidable (befH a b) := by unfold befH; infer_instance
def shAt (l : List S66) (i : Nat) : Prop := okH (rd_T66 l i) ∧ (i > 0 → befH (rd_T66 l ((i : Int) - 1)) (rd_T66 l i)) ∧ ∀ j, j < i → (rd_T66 l j).f0 = (rd_T66 l i).f0 → (rd_T66 l j).f2 < (rd_T66 l i).f1
instance (l : List S66) (i : Nat) : Decidable (shAt l i) := by unfold shAt; infer_instance
def isSh (l : List S66) : Prop := l.length ≤ 60 ∧ ∀ i, i < l.length → shAt l i
instance (l : List S66) : Decidable (isSh l) := by unfold isSh; infer_instance
theorem rdH_take (l : List S66) (i j : Nat) (h : j < i) : rd_T66 (l.take i) (j : Int) = rd_T66 l (j : Int) := by
  unfold rd_T66
  rw [Int.toNat_natCast, List.getD_eq_getElem?_getD, List.getD_eq_getElem?_getD, List.getElem?_take_of_lt h]
theorem isSh_get {l : List S66} (h : isSh l) {i : Nat} (hi : i < l.length) : okH l[i] := by
  have := (h.2 i hi).1
  unfold rd_T66 at this
  rwa [rd_get hi] at this

theorem isHole_eq (a b c : Int) : impl_IsHole.f a b c = some (decide (0 ≤ a ∧ a < 20 ∧ 0 ≤ b ∧ b < c ∧ c ≤ 2000)) := by
  unfold impl_IsHole.f impl_isTrack.f
  repeat' split
  all_goals simp only [Option.bind_some, decide_eq_true_eq, Bool.false_eq_true, ↓reduceIte]
  all_goals (repeat' split)
  all_goals first | exact some_dec (by omega) (by omega) | exact some_dec_f (by omega)
theorem holeLess_eq (a b c a' b' c' : Int) : impl_holeLess.f a b c a' b' c' = some (decide (b < b' ∨ b = b' ∧ a < a')) := by
  unfold impl_holeLess.f
  split
  all_goals exact some_dec (by omega) (by omega)
theorem impl_isSh (l : List S66) (hl : l.length ≤ 1048576) : Ev (fun k => impl_IsSheet.f k l) (decide (isSh l)) := by
  unfold impl_IsSheet.f
  by_cases h60 : l.length ≤ 60
  · refine ev_neg (by omega) (all_loop_g (fun k i => impl_IsSheet.l0 k l l (l.length : Int) i) l.length (shAt l) true _ (by simp [isSh, h60]) (fun _ => ?_) (fun i hi _ => ?_))
    · refine Ev.step (f := fun _ => some true) (fun k => ?_) (Ev.now _)
      simp only [impl_IsSheet.l0]
      rw [if_neg (by omega)]
    · have e1 := wn hi (by omega)
      have hin : ∀ q, ((∀ j, j < i → (rd_T66 l j).f0 = (rd_T66 l i).f0 → (rd_T66 l j).f2 < (rd_T66 l i).f1) → Ev (fun k => impl_IsSheet.l0 k l l (l.length : Int) ((i + 1 : Nat) : Int)) q) → (¬ (∀ j, j < i → (rd_T66 l j).f0 = (rd_T66 l i).f0 → (rd_T66 l j).f2 < (rd_T66 l i).f1) → q = false) →
          Ev (fun k => impl_IsSheet.j1 k l (i : Int) l (l.length : Int) (i : Int) false ((rd_T66 l i).f0) ((rd_T66 l i).f1) ((rd_T66 l i).f2)) q := by
        intro q h1 h2
        have hlen : (l.take i).length = i := by rw [List.length_take]; omega
        refine Ev.step (f := fun k => impl_IsSheet.l1 k l l (l.length : Int) (i : Int) (l.take i) (((l.take i).length : Nat) : Int) 0 ((rd_T66 l i).f0) ((rd_T66 l i).f1) ((rd_T66 l i).f2)) (fun k => ?_) ?_
        · simp only [impl_IsSheet.j1, Option.bind_some, Int.toNat_natCast]
          rw [if_neg (by simp), if_pos (by omega), if_pos (by omega)]
        · refine scan_loop (fun k j => impl_IsSheet.l1 k l l (l.length : Int) (i : Int) (l.take i) (((l.take i).length : Nat) : Int) j ((rd_T66 l i).f0) ((rd_T66 l i).f1) ((rd_T66 l i).f2)) i _ q false (fun hc => Ev.step (fun k => ?_) (h1 hc)) h2 (fun k j hj => ?_)
          · simp only [impl_IsSheet.l1, e1]
            rw [if_neg (by omega)]
          · have e2 := wn hj (by omega)
            simp only [impl_IsSheet.l1, e2, rdH_take l i j hj]
            constructor <;> intro h <;> (repeat' split) <;> first | rfl | (exfalso; omega)
      constructor
      · intro hP q hq
        have hok := hP.1
        unfold okH at hok
        by_cases hz : (i : Int) > 0
        · have e2 : wrap64 ((i : Int) - 1) = i - 1 := by unfold wrap64; omega
          have hb := hP.2.1 (by omega)
          unfold befH at hb
          refine Ev.step (fun k => ?_) (hin q (fun _ => hq) (fun hc => absurd hP.2.2 hc))
          simp only [impl_IsSheet.l0, isHole_eq, holeLess_eq, Option.bind_some, e2]
          rw [if_pos (by omega), if_pos (by omega), if_pos (by omega), if_pos (decide_eq_true hok), if_pos hz, if_pos (by omega), if_pos (by omega), decide_eq_true hb]
          rfl
        · refine Ev.step (fun k => ?_) (hin q (fun _ => hq) (fun hc => absurd hP.2.2 hc))
          simp only [impl_IsSheet.l0, isHole_eq, Option.bind_some]
          rw [if_pos (by omega), if_pos (by omega), if_pos (by omega), if_pos (decide_eq_true hok), if_neg hz]
      · intro hP
        by_cases hok : okH (rd_T66 l i)
        · have hok' := hok
          unfold okH at hok'
          by_cases hz : (i : Int) > 0
          · have e2 : wrap64 ((i : Int) - 1) = i - 1 := by unfold wrap64; omega
            by_cases hb : befH (rd_T66 l ((i : Int) - 1)) (rd_T66 l i)
            · have hb' := hb
              unfold befH at hb'
              refine Ev.step (fun k => ?_) (hin false (fun hc => absurd ⟨hok, fun _ => hb, hc⟩ hP) (fun _ => rfl))
              simp only [impl_IsSheet.l0, isHole_eq, holeLess_eq, Option.bind_some, e2]
              rw [if_pos (by omega), if_pos (by omega), if_pos (by omega), if_pos (decide_eq_true hok'), if_pos hz, if_pos (by omega), if_pos (by omega), decide_eq_true hb']
              rfl
            · have hb' := hb
              unfold befH at hb'
              refine Ev.step (f := fun k => impl_IsSheet.j1 k l (i : Int) l (l.length : Int) (i : Int) true ((rd_T66 l i).f0) ((rd_T66 l i).f1) ((rd_T66 l i).f2)) (fun k => ?_) (Ev.step (f := fun _ => some false) (fun k => rfl) (Ev.now _))
              simp only [impl_IsSheet.l0, isHole_eq, holeLess_eq, Option.bind_some, e2]
              rw [if_pos (by omega), if_pos (by omega), if_pos (by omega), if_pos (decide_eq_true hok'), if_pos hz, if_pos (by omega), if_pos (by omega), decide_eq_false hb']
              rfl
          · refine Ev.step (fun k => ?_) (hin false (fun hc => absurd ⟨hok, fun h => absurd h (by omega), hc⟩ hP) (fun _ => rfl))
            simp only [impl_IsSheet.l0, isHole_eq, Option.bind_some]
            rw [if_pos (by omega), if_pos (by omega), if_pos (by omega), if_pos (decide_eq_true hok'), if_neg hz]
        · have hok' := hok
          unfold okH at hok'
          refine Ev.step (f := fun k => impl_IsSheet.j1 k l (i : Int) l (l.length : Int) (i : Int) true ((rd_T66 l i).f0) ((rd_T66 l i).f1) ((rd_T66 l i).f2)) (fun k => ?_) (Ev.step (f := fun _ => some false) (fun k => rfl) (Ev.now _))
          simp only [impl_IsSheet.l0, isHole_eq, Option.bind_some]
          rw [if_pos (by omega), if_pos (by omega), if_pos (by omega), if_neg (by simpa using hok')]
  · rw [decide_eq_false (fun h => h60 h.1)]
    exact ev_pos (by omega) (Ev.now _)

def okN (x : S62) : Prop := 24 ≤ x.f0 ∧ x.f0 ≤ 96 ∧ 0 ≤ x.f1 ∧ x.f1 ≤ 999 ∧ 1 ≤ x.f2 ∧ x.f2 ≤ 99
instance (x : S62) : Decidable (okN x) := by unfold okN; infer_instance
def befN (a b : S62) : Prop := a.f1 < b.f1 ∨ a.f1 = b.f1 ∧ a.f0 < b.f0
instance (a b : S62) : Decidable (befN a b) := by unfold befN; infer_instance
def scAt (l : List S62) (i : Nat) : Prop := okN (rd_T62 l i) ∧ (i > 0 → befN (rd_T62 l ((i : Int) - 1)) (rd_T62 l i)) ∧ ∀ j, j < i → (rd_T62 l j).f0 = (rd_T62 l i).f0 → (rd_T62 l j).f1 + (rd_T62 l j).f2 ≤ (rd_T62 l i).f1
instance (l : List S62) (i : Nat) : Decidable (scAt l i) := by unfold scAt; infer_instance
def isSc (l : List S62) : Prop := l.length ≤ 30 ∧ ∀ i, i < l.length → scAt l i
instance (l : List S62) : Decidable (isSc l) := by unfold isSc; infer_instance
theorem rdN_take (l : List S62) (i j : Nat) (h : j < i) : rd_T62 (l.take i) (j : Int) = rd_T62 l (j : Int) := by
  unfold rd_T62
  rw [Int.toNat_natCast, List.getD_eq_getElem?_getD, List.getD_eq_getElem?_getD, List.getElem?_take_of_lt h]
theorem isNote_eq (a b c : Int) : impl_IsNote.f a b c = some (decide (24 ≤ a ∧ a ≤ 96 ∧ 0 ≤ b ∧ b ≤ 999 ∧ 1 ≤ c ∧ c ≤ 99)) := by
  unfold impl_IsNote.f
  repeat' split
  all_goals first | exact some_dec (by omega) (by omega) | exact some_dec_f (by omega)
theorem noteLess_eq (a b c a' b' c' : Int) : impl_noteLess.f a b c a' b' c' = some (decide (b < b' ∨ b = b' ∧ a < a')) := by
  unfold impl_noteLess.f
  split
  all_goals exact some_dec (by omega) (by omega)
theorem impl_isSc (l : List S62) (hl : l.length ≤ 1048576) : Ev (fun k => impl_IsScore.f k l) (decide (isSc l)) := by
  unfold impl_IsScore.f
  by_cases h30 : l.length ≤ 30
  · refine ev_neg (by omega) (all_loop_g (fun k i => impl_IsScore.l0 k l l (l.length : Int) i) l.length (scAt l) true _ (by simp [isSc, h30]) (fun _ => ?_) (fun i hi hp => ?_))
    · refine Ev.step (f := fun _ => some true) (fun k => ?_) (Ev.now _)
      simp only [impl_IsScore.l0]
      rw [if_neg (by omega)]
    · have e1 := wn hi (by omega)
      have hin : ∀ q, ((∀ j, j < i → (rd_T62 l j).f0 = (rd_T62 l i).f0 → (rd_T62 l j).f1 + (rd_T62 l j).f2 ≤ (rd_T62 l i).f1) → Ev (fun k => impl_IsScore.l0 k l l (l.length : Int) ((i + 1 : Nat) : Int)) q) → (¬ (∀ j, j < i → (rd_T62 l j).f0 = (rd_T62 l i).f0 → (rd_T62 l j).f1 + (rd_T62 l j).f2 ≤ (rd_T62 l i).f1) → q = false) →
          Ev (fun k => impl_IsScore.j1 k l (i : Int) l (l.length : Int) (i : Int) false ((rd_T62 l i).f0) ((rd_T62 l i).f1) ((rd_T62 l i).f2)) q := by
        intro q h1 h2
        have hlen : (l.take i).length = i := by rw [List.length_take]; omega
        refine Ev.step (f := fun k => impl_IsScore.l1 k l l (l.length : Int) (i : Int) (l.take i) (((l.take i).length : Nat) : Int) 0 ((rd_T62 l i).f0) ((rd_T62 l i).f1) ((rd_T62 l i).f2)) (fun k => ?_) ?_
        · simp only [impl_IsScore.j1, Option.bind_some, Int.toNat_natCast]
          rw [if_neg (by simp), if_pos (by omega), if_pos (by omega)]
        · refine scan_loop (fun k j => impl_IsScore.l1 k l l (l.length : Int) (i : Int) (l.take i) (((l.take i).length : Nat) : Int) j ((rd_T62 l i).f0) ((rd_T62 l i).f1) ((rd_T62 l i).f2)) i _ q false (fun hc => Ev.step (fun k => ?_) (h1 hc)) h2 (fun k j hj => ?_)
          · simp only [impl_IsScore.l1, e1]
            rw [if_neg (by omega)]
          · have e2 := wn hj (by omega)
            have hj2 := (hp j hj).1
            unfold okN at hj2
            have e3 : wrap64 ((rd_T62 l j).f1 + (rd_T62 l j).f2) = (rd_T62 l j).f1 + (rd_T62 l j).f2 := by unfold wrap64; omega
            simp only [impl_IsScore.l1, impl_noteEnd.f, Option.bind_some, e2, e3, rdN_take l i j hj]
            constructor <;> intro h <;> (repeat' split) <;> first | rfl | (exfalso; omega)
      constructor
      · intro hP q hq
        have hok := hP.1
        unfold okN at hok
        by_cases hz : (i : Int) > 0
        · have e2 : wrap64 ((i : Int) - 1) = i - 1 := by unfold wrap64; omega
          have hb := hP.2.1 (by omega)
          unfold befN at hb
          refine Ev.step (fun k => ?_) (hin q (fun _ => hq) (fun hc => absurd hP.2.2 hc))
          simp only [impl_IsScore.l0, isNote_eq, noteLess_eq, Option.bind_some, e2]
          rw [if_pos (by omega), if_pos (by omega), if_pos (by omega), if_pos (decide_eq_true hok), if_pos hz, if_pos (by omega), if_pos (by omega), decide_eq_true hb]
          rfl
        · refine Ev.step (fun k => ?_) (hin q (fun _ => hq) (fun hc => absurd hP.2.2 hc))
          simp only [impl_IsScore.l0, isNote_eq, Option.bind_some]
          rw [if_pos (by omega), if_pos (by omega), if_pos (by omega), if_pos (decide_eq_true hok), if_neg hz]
      · intro hP
        by_cases hok : okN (rd_T62 l i)
        · have hok' := hok
          unfold okN at hok'
          by_cases hz : (i : Int) > 0
          · have e2 : wrap64 ((i : Int) - 1) = i - 1 := by unfold wrap64; omega
            by_cases hb : befN (rd_T62 l ((i : Int) - 1)) (rd_T62 l i)
            · have hb' := hb
              unfold befN at hb'
              refine Ev.step (fun k => ?_) (hin false (fun hc => absurd ⟨hok, fun _ => hb, hc⟩ hP) (fun _ => rfl))
              simp only [impl_IsScore.l0, isNote_eq, noteLess_eq, Option.bind_some, e2]
              rw [if_pos (by omega), if_pos (by omega), if_pos (by omega), if_pos (decide_eq_true hok'), if_pos hz, if_pos (by omega), if_pos (by omega), decide_eq_true hb']
              rfl
            · have hb' := hb
              unfold befN at hb'
              refine Ev.step (f := fun k => impl_IsScore.j1 k l (i : Int) l (l.length : Int) (i : Int) true ((rd_T62 l i).f0) ((rd_T62 l i).f1) ((rd_T62 l i).f2)) (fun k => ?_) (Ev.step (f := fun _ => some false) (fun k => rfl) (Ev.now _))
              simp only [impl_IsScore.l0, isNote_eq, noteLess_eq, Option.bind_some, e2]
              rw [if_pos (by omega), if_pos (by omega), if_pos (by omega), if_pos (decide_eq_true hok'), if_pos hz, if_pos (by omega), if_pos (by omega), decide_eq_false hb']
              rfl
          · refine Ev.step (fun k => ?_) (hin false (fun hc => absurd ⟨hok, fun h => absurd h (by omega), hc⟩ hP) (fun _ => rfl))
            simp only [impl_IsScore.l0, isNote_eq, Option.bind_some]
            rw [if_pos (by omega), if_pos (by omega), if_pos (by omega), if_pos (decide_eq_true hok'), if_neg hz]
        · have hok' := hok
          unfold okN at hok'
          refine Ev.step (f := fun k => impl_IsScore.j1 k l (i : Int) l (l.length : Int) (i : Int) true ((rd_T62 l i).f0) ((rd_T62 l i).f1) ((rd_T62 l i).f2)) (fun k => ?_) (Ev.step (f := fun _ => some false) (fun k => rfl) (Ev.now _))
          simp only [impl_IsScore.l0, isNote_eq, Option.bind_some]
          rw [if_pos (by omega), if_pos (by omega), if_pos (by omega), if_neg (by simpa using hok')]
  · rw [decide_eq_false (fun h => h30 h.1)]
    exact ev_pos (by omega) (Ev.now _)

theorem isPitch_eq (a : Int) : impl_isPitch.f a = some (decide (24 ≤ a ∧ a ≤ 96)) := by
  unfold impl_isPitch.f
  split <;> simp <;> omega

def inAt (l : List Int) (i : Nat) : Prop := 24 ≤ rd l i ∧ rd l i ≤ 96 ∧ (i > 0 → rd l ((i : Int) - 1) < rd l i)
instance (l : List Int) (i : Nat) : Decidable (inAt l i) := by unfold inAt; infer_instance
def isIn (l : List Int) (p : Int) : Prop := 1 ≤ l.length ∧ l.length ≤ 20 ∧ 1 ≤ p ∧ p ≤ 20 ∧ ∀ i, i < l.length → inAt l i
instance (l : List Int) (p : Int) : Decidable (isIn l p) := by unfold isIn; infer_instance
theorem impl_isIn (l : List Int) (p : Int) (hl : l.length ≤ 1048576) : Ev (fun k => impl_IsInstrument.f k l p) (decide (isIn l p)) := by
  unfold impl_IsInstrument.f
  by_cases h : 1 ≤ l.length ∧ l.length ≤ 20 ∧ 1 ≤ p ∧ p ≤ 20
  · refine ev_neg (by omega) (ev_neg (by omega) (ev_neg (by omega) (Ev.step (f := fun k => impl_IsInstrument.l0 k l (l.length : Int) 0 l p) (fun k => ?_) ?_)))
    · simp only [impl_IsInstrument.j0]
      rw [if_neg (by simp; omega)]
    · refine all_loop (fun k i => impl_IsInstrument.l0 k l (l.length : Int) i l p) l.length (inAt l) true _ (by simp [isIn, h]) (fun k => ?_) (fun k i hi => ?_)
      · simp only [impl_IsInstrument.l0]
        rw [if_neg (by omega)]
      · have e1 : wrap64 ((i : Int) + 1) = i + 1 := by unfold wrap64; omega
        simp only [impl_IsInstrument.l0, isPitch_eq, Option.bind_some, decide_eq_true_eq, e1]
        unfold inAt
        by_cases hz : (i : Int) > 0
        · have e2 : wrap64 ((i : Int) - 1) = i - 1 := by unfold wrap64; omega
          simp only [e2]
          constructor <;> intro h <;> (repeat' split) <;> first | rfl | (exfalso; omega)
        · constructor <;> intro h <;> (repeat' split) <;> first | rfl | (exfalso; omega)
  · have e : decide (isIn l p) = false := decide_eq_false (fun hp => h ⟨hp.1, hp.2.1, hp.2.2.1, hp.2.2.2.1⟩)
    rw [e]
    refine ev_ite (fun hc => Ev.step (f := fun _ => some false) (fun k => rfl) (Ev.now _)) (fun hc => ev_ite (fun hc => Ev.step (f := fun _ => some false) (fun k => rfl) (Ev.now _)) (fun hc => ev_ite (fun hc => Ev.step (f := fun _ => some false) (fun k => rfl) (Ev.now _)) (fun hc => Ev.step (f := fun _ => some false) (fun k => ?_) (Ev.now _))))
    simp only [impl_IsInstrument.j0]
    rw [if_pos (by simp; omega)]

theorem impl_can (pi : List Int) (rp : Int) (l : List S62) (s : List S66) (h1 : pi.length ≤ 1048576) (h2 : l.length ≤ 1048576) (h3 : s.length ≤ 1048576) : Ev (fun k => impl_canMatch.f k pi rp l s) (decide (isIn pi rp ∧ isSc l ∧ isSh s)) := by
  unfold impl_canMatch.f
  refine Ev.bind (impl_isIn pi rp h1) (ev_ite (fun c1 => Ev.bind (impl_isSc l h2) (ev_ite (fun c2 => Ev.bind (impl_isSh s h3) (ev_now ?_)) (fun c2 => ev_now ?_))) (fun c1 => ev_now ?_))
  · exact decide_eq_decide.2 ⟨fun c3 => ⟨of_decide_eq_true c1, of_decide_eq_true c2, c3⟩, fun c => c.2.2⟩
  · exact (decide_eq_false (fun c => c2 (decide_eq_true c.2.1))).symm
  · exact (decide_eq_false (fun c => c1 (decide_eq_true c.1))).symm

/-- How many numbers there are in rows. -/
def totR : List (List Int) → Nat
  | [] => 0
  | x :: xs => x.length + totR xs
/-- Rows marked from a on. -/
def markedR : Int → List (List Int) → List (List Int)
  | _, [] => []
  | a, x :: xs => ((List.range x.length).map fun j : Nat => a + (j : Int)) :: markedR (a + (x.length : Nat)) xs
theorem totR_le (n : Nat) : ∀ l : List (List Int), (∀ x ∈ l, x.length ≤ n) → totR l ≤ n * l.length := by
  intro l
  induction l with
  | nil => intro _; exact Nat.zero_le _
  | cons x xs ih =>
    intro h
    have h1 := h x List.mem_cons_self
    have h2 := ih (fun y hy => h y (List.mem_cons_of_mem _ hy))
    have h3 : totR (x :: xs) = x.length + totR xs := rfl
    rw [h3, List.length_cons, Nat.mul_succ]
    omega
theorem eqIntSS (l : List (List Int)) (hl : l.length ≤ 140737488355328) (h : ∀ x ∈ l, x.length ≤ 1048576) : Ev (fun k => laws_eqIntSS.f k l l) true := by
  unfold laws_eqIntSS.f
  refine ev_pos rfl ?_
  refine same_loop (fun k i => laws_eqIntSS.l0 k l l i) l [] (fun k x => laws_eqIntS.f k x x) (fun k i => ?_) (fun x hx => eqIntS x (h x hx)) hl
  simp only [laws_eqIntSS.l0]
  rfl
theorem at_mid (D : List (List Int)) (x : List Int) (xs : List (List Int)) : (D ++ x :: xs).getD ((D.length : Nat) : Int).toNat [] = x := by
  rw [Int.toNat_natCast, List.getD_eq_getElem?_getD, List.getElem?_append_right (Nat.le_refl _), Nat.sub_self]
  rfl
theorem markRows (R : List (List Int)) : ∀ (D : List (List Int)) (a : Int), 0 ≤ a → a + (totR R : Nat) ≤ 1099511627776 → D.length + R.length ≤ 1099511627776 → (∀ x ∈ R, x.length ≤ 1048576) →
    Ev (fun k => laws_markIntSS.l0 k (D ++ R) a (D.length : Int)) (a + (totR R : Nat), D ++ markedR a R) := by
  induction R with
  | nil =>
    intro D a h0 h1 h2 h3
    refine Ev.step (f := fun _ => some (a, D)) (fun k => ?_) (ev_now (by simp [totR, markedR]))
    simp only [laws_markIntSS.l0, List.append_nil]
    rw [if_neg (by omega)]
  | cons x xs ih =>
    intro D a h0 h1 h2 h3
    have hx := h3 x List.mem_cons_self
    have ht : totR (x :: xs) = x.length + totR xs := rfl
    rw [ht] at h1 ⊢
    have hD : D.length < (D ++ x :: xs).length := by rw [List.length_append, List.length_cons]; omega
    have e1 : wrap64 (((D.length : Nat) : Int) + 1) = ((D.length + 1 : Nat) : Int) := by simp only [List.length_cons] at h2; unfold wrap64; omega
    refine Ev.step (f := fun k => (laws_markIntS.f k x a).bind fun bt => laws_markIntSS.l0 k (D ++ bt.2 :: xs) bt.1 ((D.length + 1 : Nat) : Int)) (fun k => ?_) ?_
    · simp only [laws_markIntSS.l0]
      rw [if_pos (by omega), if_pos (by omega), at_mid, e1]
      congr 1
      funext bt
      rw [Int.toNat_natCast, List.set_append_right _ _ (Nat.le_refl _), Nat.sub_self]
      rfl
    · refine Ev.bind (f := fun k bt => laws_markIntSS.l0 k (D ++ bt.2 :: xs) bt.1 ((D.length + 1 : Nat) : Int)) (markIntS x a h0 (by omega) hx) ?_
      have := ih (D ++ [(List.range x.length).map fun j : Nat => a + (j : Int)]) (a + (x.length : Nat)) (by omega) (by omega) (by simp only [List.length_append, List.length_cons, List.length_nil] at h2 ⊢; omega) (fun y hy => h3 y (List.mem_cons_of_mem _ hy))
      simp only [List.append_assoc, List.singleton_append, List.length_append, List.length_singleton] at this
      refine ev_eq this ?_
      simp only [markedR]
      congr 1
      omega
theorem markIntSS (l : List (List Int)) (hl : l.length ≤ 1048576) (h : ∀ x ∈ l, x.length ≤ 1048576) (ht : totR l ≤ 1073741824) : Ev (fun k => laws_markIntSS.f k l 1) (1 + (totR l : Nat), markedR 1 l) := by
  have := markRows l [] 1 (by omega) (by omega) (by simp; omega) h
  simpa [laws_markIntSS.f] using this

theorem heldRows (R : List (List Int)) : ∀ (D : List (List Int)) (a : Int), 0 ≤ a → a + (totR R : Nat) ≤ 1099511627776 → D.length + R.length ≤ 1099511627776 → (∀ x ∈ R, x.length ≤ 1048576) →
    Ev (fun k => laws_heldIntSS.l0 k (D ++ markedR a R) a (D.length : Int)) (a + (totR R : Nat)) := by
  induction R with
  | nil =>
    intro D a h0 h1 h2 h3
    refine Ev.step (f := fun _ => some a) (fun k => ?_) (ev_now (by simp [totR]))
    simp only [laws_heldIntSS.l0, markedR, List.append_nil]
    rw [if_neg (by omega)]
  | cons x xs ih =>
    intro D a h0 h1 h2 h3
    have hx := h3 x List.mem_cons_self
    have ht : totR (x :: xs) = x.length + totR xs := rfl
    rw [ht] at h1 ⊢
    simp only [markedR]
    have e1 : wrap64 (((D.length : Nat) : Int) + 1) = ((D.length + 1 : Nat) : Int) := by simp only [List.length_cons] at h2; unfold wrap64; omega
    refine Ev.step (f := fun k => (laws_heldIntS.f k ((List.range x.length).map fun j : Nat => a + (j : Int)) a).bind fun t => if t < 0 then some (-1) else laws_heldIntSS.l0 k (D ++ ((List.range x.length).map fun j : Nat => a + (j : Int)) :: markedR (a + (x.length : Nat)) xs) t ((D.length + 1 : Nat) : Int)) (fun k => ?_) ?_
    · simp only [laws_heldIntSS.l0]
      rw [if_pos (by rw [List.length_append, List.length_cons]; omega), if_pos (by omega), e1]
      show (laws_heldIntS.f k ((D ++ _ :: markedR (a + (x.length : Nat)) xs).getD ((D.length : Nat) : Int).toNat []) a).bind _ = _
      rw [at_mid]
    · refine Ev.bind (heldIntS x.length a h0 (by omega) hx) (ev_neg (by omega) ?_)
      have := ih (D ++ [(List.range x.length).map fun j : Nat => a + (j : Int)]) (a + (x.length : Nat)) (by omega) (by omega) (by simp only [List.length_append, List.length_cons, List.length_nil] at h2 ⊢; omega) (fun y hy => h3 y (List.mem_cons_of_mem _ hy))
      simp only [List.append_assoc, List.singleton_append, List.length_append, List.length_singleton] at this
      refine ev_eq this ?_
      omega
theorem heldIntSS (l : List (List Int)) (hl : l.length ≤ 1048576) (h : ∀ x ∈ l, x.length ≤ 1048576) (ht : totR l ≤ 1073741824) : Ev (fun k => laws_heldIntSS.f k (markedR 1 l) 1) (1 + (totR l : Nat)) := by
  have := heldRows l [] 1 (by omega) (by omega) (by simp; omega) h
  simpa [laws_heldIntSS.f] using this
end Go.Proofs.Ytipklbjbgbbgpaa.PureFnExactFaultsOf
