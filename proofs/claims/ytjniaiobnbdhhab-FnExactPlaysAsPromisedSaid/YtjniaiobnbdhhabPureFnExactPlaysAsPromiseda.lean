/- The plain statement of FnExactPlaysAsPromised (lemmas): the law's function, over numbers and lists, answers true. No conditions beyond the arguments' own kinds. -/
import Derived.Test.YtjniaiobnbdhhabSPlaysAsPromised14
import Derived.Test.YtjniaiobnbdhhabVPlaysAsPromised
namespace Go.Proofs.Ytjniaiobnbdhhab.PureFnExactPlaysAsPromised
open Go Go.RowKit Go.Proofs.Ytjniaiobnbdhhab.PFnExactPlaysAsPromised Go.Proofs.YtjniaiobnbdhhabW.PrintWords Go.Proofs.YtjniaiobnbdhhabW.PrintLast Go.Proofs.YtjniaiobnbdhhabW.PrintMore Go.Proofs.Ytjniaiobnbdhhab.Lib
set_option linter.unusedVariables false
set_option linter.unusedSimpArgs false
/-- A loop that counts up to n, and what is known of its answer. -/
theorem ev_for_ex {σ ρ : Type} (L : Nat → σ → Int → Option ρ) (n : Nat) (Inv : Nat → σ → Prop) (Post : ρ → Prop) (hstop : ∀ s, Inv n s → ∃ r, Ev (fun k => L k s (n : Int)) r ∧ Post r)
    (hgo : ∀ i s, i < n → Inv i s → (∀ s', Inv (i + 1) s' → ∃ r, Ev (fun k => L k s' ((i + 1 : Nat) : Int)) r ∧ Post r) → ∃ r, Ev (fun k => L k s (i : Int)) r ∧ Post r) :
    ∀ i s, i ≤ n → Inv i s → ∃ r, Ev (fun k => L k s (i : Int)) r ∧ Post r := by
  have key : ∀ d i : Nat, n - i = d → i ≤ n → ∀ s, Inv i s → ∃ r, Ev (fun k => L k s (i : Int)) r ∧ Post r := by
    intro d
    induction d with
    | zero =>
      intro i hd hi s hs
      obtain rfl : i = n := by omega
      exact hstop s hs
    | succ d ih =>
      intro i hd hi s hs
      exact hgo i s (by omega) hs (fun s' hs' => ih (i + 1) (by omega) (by omega) s' hs')
  intro i s hi hs
  exact key (n - i) i rfl hi s hs
theorem wn {i n : Nat} (h : i < n) (hn : n ≤ 9223372036854775807) : wrap64 ((i : Int) + 1) = ((i + 1 : Nat) : Int) := by unfold wrap64; omega
/-- Whatever holds at the end of a count, and at i if it holds at i + 1, holds from everywhere. -/
theorem count_up {σ : Type} (n : Nat) (Inv Q : Nat → σ → Prop) (hstop : ∀ s, Inv n s → Q n s) (hgo : ∀ i s, i < n → Inv i s → (∀ s', Inv (i + 1) s' → Q (i + 1) s') → Q i s) : ∀ i s, i ≤ n → Inv i s → Q i s := by
  have key : ∀ d i : Nat, n - i = d → i ≤ n → ∀ s, Inv i s → Q i s := by
    intro d
    induction d with
    | zero =>
      intro i hd hi s hs
      obtain rfl : i = n := by omega
      exact hstop s hs
    | succ d ih =>
      intro i hd hi s hs
      exact hgo i s (by omega) hs (fun s' hs' => ih (i + 1) (by omega) (by omega) s' hs')
  intro i s hi hs
  exact key (n - i) i rfl hi s hs

/-- A loop that writes marks into every field of a list's elements: c a step. -/
theorem mark_ev {β : Type} (L : Nat → List β → Int → Int → Option (Int × List β)) (mk : Int → β) (c : Nat) (hc : c ≤ 8) (n : Nat) (hn : n ≤ 1048576) (hstop : ∀ k ys a, ys.length = n → L (k + 1) ys a (n : Int) = some (a, ys))
    (hgo : ∀ k ys a (i : Nat), ys.length = n → i < n → 0 ≤ a → a ≤ 2199023255552 → L (k + 1) ys a (i : Int) = L k (ys.set i (mk a)) (a + c) ((i : Int) + 1)) (l : List β) (hl : l.length = n) (a : Int) (h0 : 0 ≤ a) (h1 : a ≤ 1099511627776) :
    Ev (fun k => L k l a 0) (a + c * n, (List.range n).map fun j : Nat => mk (a + c * j)) := by
  have key : ∀ (d i : Nat) (ys : List β), n - i = d → i ≤ n → ys.length = n → (∀ j, j < i → ys[j]? = some (mk (a + c * (j : Int)))) →
      Ev (fun k => L k ys (a + c * (i : Int)) (i : Int)) (a + c * n, (List.range n).map fun j : Nat => mk (a + c * j)) := by
    intro d
    induction d with
    | zero =>
      intro i ys hd hi hy hp
      obtain rfl : i = n := by omega
      refine Ev.step (f := fun _ => some (a + c * (i : Int), ys)) (fun k => hstop k ys _ hy) (ev_now ?_)
      congr 1
      refine List.ext_getElem? fun j => ?_
      by_cases hj : j < i
      · rw [hp j hj]; simp [hj]
      · rw [List.getElem?_eq_none (by omega), List.getElem?_eq_none (by simp; omega)]
    | succ d ih =>
      intro i ys hd hi hy hp
      have hb : (c : Int) * i ≤ 8 * 1048576 := Int.mul_le_mul (by omega) (by omega) (by omega) (by omega)
      have hb0 : 0 ≤ (c : Int) * i := Int.mul_nonneg (by omega) (by omega)
      have e2 : a + (c : Int) * (i : Int) + c = a + c * ((i + 1 : Nat) : Int) := by rw [Int.natCast_add, Int.mul_add]; simp; omega
      refine Ev.step (fun k => hgo k ys _ i hy (by omega) (by omega) (by omega)) ?_
      rw [e2]
      refine ih (i + 1) _ (by omega) (by omega) (by rw [List.length_set]; exact hy) (fun j hj => ?_)
      by_cases e : j = i
      · subst e
        rw [List.getElem?_set_self (by omega)]
      · rw [List.getElem?_set_ne (by omega)]
        exact hp j (by omega)
  have := key n 0 l (by omega) (by omega) hl (fun j hj => absurd hj (by omega))
  simpa using this
/-- A loop that finds the marks again. -/
theorem held_ev {β : Type} (M : Nat → Int → Int → Option Int) (mk : Int → β) (c : Nat) (hc : c ≤ 8) (n : Nat) (hn : n ≤ 1048576) (a : Int) (h0 : 0 ≤ a) (h1 : a ≤ 1099511627776) (hstop : ∀ k a, M (k + 1) a (n : Int) = some a)
    (hgo : ∀ k b (i : Nat) (hi : i < ((List.range n).map fun j : Nat => mk (a + c * j)).length), ((List.range n).map fun j : Nat => mk (a + c * j))[i] = mk b → 0 ≤ b → b ≤ 2199023255552 → M (k + 1) b (i : Int) = M k (b + c) ((i : Int) + 1)) :
    Ev (fun k => M k a 0) (a + c * n) := by
  have key : ∀ (d i : Nat), n - i = d → i ≤ n → Ev (fun k => M k (a + c * (i : Int)) (i : Int)) (a + c * n) := by
    intro d
    induction d with
    | zero =>
      intro i hd hi
      obtain rfl : i = n := by omega
      exact Ev.step (f := fun _ => some (a + c * (i : Int))) (fun k => hstop k _) (ev_now rfl)
    | succ d ih =>
      intro i hd hi
      have hb : (c : Int) * i ≤ 8 * 1048576 := Int.mul_le_mul (by omega) (by omega) (by omega) (by omega)
      have hb0 : 0 ≤ (c : Int) * i := Int.mul_nonneg (by omega) (by omega)
      have e2 : a + (c : Int) * (i : Int) + c = a + c * ((i + 1 : Nat) : Int) := by rw [Int.natCast_add, Int.mul_add]; simp; omega
      refine Ev.step (fun k => hgo k _ i (by simp; omega) (by simp) (by omega) (by omega)) ?_
      rw [e2]
      exact ih (i + 1) (by omega) (by omega)
  have := key n 0 (by omega) (by omega)
  simpa using this
theorem rd_set {α : Type} {xs : List α} {z v : α} {i : Nat} (h : i < xs.length) : (xs.set i v).getD (i : Int).toNat z = v := by
  rw [Int.toNat_natCast, List.getD_eq_getElem?_getD, List.getElem?_set_self h]; rfl

def cvH (x : S82) : S80 := ⟨x.f0, x.f1, x.f2⟩
theorem toHoleS (l : List S82) (hl : l.length ≤ 1048576) : Ev (fun k => laws_toHoleS.f k l) (l.map cvH) := by
  unfold laws_toHoleS.f
  refine ev_pos (by omega) (ev_pos (by omega) ?_)
  exact map_loop (fun k ys i => laws_toHoleS.l0 k l ys i) l z82 z80 (fun k x => laws_toHole.f x.f0 x.f1 x.f2) (fun bt => ⟨bt.1, bt.2.1, bt.2.2⟩) (fun x => (x.f0, x.f1, x.f2)) (fun k ys i => rfl) (fun x _ => ev_const rfl) (by omega)
theorem eqHoleS (l : List S80) (hl : l.length ≤ 1048576) : Ev (fun k => laws_eqHoleS.f k l l) true := by
  unfold laws_eqHoleS.f
  refine ev_pos rfl ?_
  exact same_loop (fun k i => laws_eqHoleS.l0 k l l i) l z80 (fun k x => laws_eqHole.f x.f0 x.f1 x.f2 x.f0 x.f1 x.f2) (fun k i => rfl) (fun x _ => ev_const (by simp [laws_eqHole.f])) (by omega)
theorem szHoleS (l : List S82) (a : Int) (ha : 0 ≤ a ∧ a ≤ 1048576) (hl : l.length ≤ 9223372036854775807) : laws_szHoleS.f l a = some (if (l.length : Int) ≤ a then a - (l.length : Int) else -1) := by
  have e : wrap64 (a - (l.length : Int)) = a - l.length := by unfold wrap64; omega
  simp only [laws_szHoleS.f, e]
  repeat' split
  all_goals first | rfl | (exfalso; omega)

def cvN (x : S101) : S95 := ⟨x.f0, x.f1, x.f2⟩
theorem toNoteS (l : List S101) (hl : l.length ≤ 1048576) : Ev (fun k => laws_toNoteS.f k l) (l.map cvN) := by
  unfold laws_toNoteS.f
  refine ev_pos (by omega) (ev_pos (by omega) ?_)
  exact map_loop (fun k ys i => laws_toNoteS.l0 k l ys i) l z101 z95 (fun k x => laws_toNote.f x.f0 x.f1 x.f2) (fun bt => ⟨bt.1, bt.2.1, bt.2.2⟩) (fun x => (x.f0, x.f1, x.f2)) (fun k ys i => rfl) (fun x _ => ev_const rfl) (by omega)
theorem eqNoteS (l : List S95) (hl : l.length ≤ 1048576) : Ev (fun k => laws_eqNoteS.f k l l) true := by
  unfold laws_eqNoteS.f
  refine ev_pos rfl ?_
  exact same_loop (fun k i => laws_eqNoteS.l0 k l l i) l z95 (fun k x => laws_eqNote.f x.f0 x.f1 x.f2 x.f0 x.f1 x.f2) (fun k i => rfl) (fun x _ => ev_const (by simp [laws_eqNote.f])) (by omega)
theorem szNoteS (l : List S101) (a : Int) (ha : 0 ≤ a ∧ a ≤ 1048576) (hl : l.length ≤ 9223372036854775807) : laws_szNoteS.f l a = some (if (l.length : Int) ≤ a then a - (l.length : Int) else -1) := by
  have e : wrap64 (a - (l.length : Int)) = a - l.length := by unfold wrap64; omega
  simp only [laws_szNoteS.f, e]
  repeat' split
  all_goals first | rfl | (exfalso; omega)

/-! ints: to, eq -/
theorem toIntS (l : List Int) (hl : l.length ≤ 1048576) : Ev (fun k => laws_toIntS.f k l) l := by
  unfold laws_toIntS.f
  refine ev_pos (by omega) (ev_pos (by omega) ?_)
  have h := map_loop (fun k ys i => laws_toIntS.l0 k l ys i) l (0 : Int) (0 : Int) (fun k x => some x) (fun b => b) (fun x => x) (fun k ys i => rfl) (fun x _ => ev_const rfl) (by omega)
  simpa using h

theorem eqIntS (l : List Int) (hl : l.length ≤ 1048576) : Ev (fun k => laws_eqIntS.f k l l) true := by
  unfold laws_eqIntS.f
  refine ev_pos rfl ?_
  refine same_loop (fun k i => laws_eqIntS.l0 k l l i) l (0 : Int) (fun k x => some true) (fun k i => ?_) (fun x _ => ev_const rfl) (by omega)
  simp only [laws_eqIntS.l0, Option.bind_some, ↓reduceIte]

theorem toInst (l : List Int) (p : Int) (hl : l.length ≤ 1048576) : Ev (fun k => laws_toInstrument.f k l p) (l, p) := by
  unfold laws_toInstrument.f
  exact Ev.bind (toIntS l hl) (Ev.now _)
theorem eqInst (l : List Int) (p : Int) (hl : l.length ≤ 1048576) : Ev (fun k => laws_eqInstrument.f k l p l p) true := by
  unfold laws_eqInstrument.f
  exact Ev.bind (eqIntS l hl) (ev_pos rfl (ev_pos rfl (Ev.now _)))
theorem szInst (l : List Int) (p : Int) (hl : l.length ≤ 9223372036854775807) : laws_szInstrument.f l p 1048576 = some (if l.length ≤ 1048576 then 1048576 - (l.length : Int) else -1) := by
  have e : wrap64 (1048576 - (l.length : Int)) = 1048576 - l.length := by unfold wrap64; omega
  simp only [laws_szInstrument.f, laws_szIntS.f, e]
  by_cases c : l.length ≤ 1048576
  · rw [if_neg (by omega), if_pos c]
    simp only [Option.bind_some]
    rw [if_neg (by omega)]
  · rw [if_pos (by omega), if_neg c]
    rfl
end Go.Proofs.Ytjniaiobnbdhhab.PureFnExactPlaysAsPromised
