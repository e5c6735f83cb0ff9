/- The plain statement of FnExactShortParts: the law's function, over numbers and lists, answers true. No conditions beyond the arguments' own kinds. -/
import Derived.Test.YtidnfnnnfppefabQShortParts4
import Derived.Test.YtidnfnnnfppefabLib
namespace Go.Proofs.Ytidnfnnnfppefab.PureFnExactShortParts
open Go Go.RowKit Go.Proofs.Ytidnfnnnfppefab.PFnExactShortParts Go.Proofs.YtidnfnnnfppefabW.PrintWords Go.Proofs.YtidnfnnnfppefabW.PrintLast Go.Proofs.YtidnfnnnfppefabW.PrintMore Go.Proofs.Ytidnfnnnfppefab.Lib
set_option linter.unusedVariables false
set_option linter.unusedSimpArgs false
/-- A loop that counts up to n, and what is known of its answer. -/
theorem ev_for_ex {σ ρ : Type} (L : Nat → σ → Int → Option ρ) (n : Nat) (Inv : Nat → σ → Prop) (Post : ρ → Prop) (hstop : ∀ s, Inv n s → ∃ r, Ev (fun k => L k s (n : Int)) r ∧ Post r)
    (hgo : ∀ i s, i < n → Inv i s → (∀ s', Inv (i + 1) s' → ∃ r, Ev (fun k => L k s' ((i + 1 : Nat) : Int)) r ∧ Post r) → ∃ r, Ev (fun k => L k s (i : Int)) r ∧ Post r) :
    ∀ i s, i ≤ n → Inv i s → ∃ r, Ev (fun k => L k s (i : Int)) r ∧ Post r := by
  have key : ∀ d i : Nat, n - i = d → i ≤ n → ∀ s, Inv i s → ∃ r, Ev (fun k => L k s (i : Int)) r ∧ Post r := by
    intro d
    induction d with
    | zero =>
      intro i hd hi s hs
      obtain rfl : i = n := by omega
      exact hstop s hs
    | succ d ih =>
      intro i hd hi s hs
      exact hgo i s (by omega) hs (fun s' hs' => ih (i + 1) (by omega) (by omega) s' hs')
  intro i s hi hs
  exact key (n - i) i rfl hi s hs
theorem wn {i n : Nat} (h : i < n) (hn : n ≤ 9223372036854775807) : wrap64 ((i : Int) + 1) = ((i + 1 : Nat) : Int) := by unfold wrap64; omega
/-- Whatever holds at the end of a count, and at i if it holds at i + 1, holds from everywhere. -/
theorem count_up {σ : Type} (n : Nat) (Inv Q : Nat → σ → Prop) (hstop : ∀ s, Inv n s → Q n s) (hgo : ∀ i s, i < n → Inv i s → (∀ s', Inv (i + 1) s' → Q (i + 1) s') → Q i s) : ∀ i s, i ≤ n → Inv i s → Q i s := by
  have key : ∀ d i : Nat, n - i = d → i ≤ n → ∀ s, Inv i s → Q i s := by
    intro d
    induction d with
    | zero =>
      intro i hd hi s hs
      obtain rfl : i = n := by omega
      exact hstop s hs
    | succ d ih =>
      intro i hd hi s hs
      exact hgo i s (by omega) hs (fun s' hs' => ih (i + 1) (by omega) (by omega) s' hs')
  intro i s hi hs
  exact key (n - i) i rfl hi s hs

theorem l1In_eq (a b c : Int) : spec_l1In.f a b c = some (decide (b ≤ a ∧ a ≤ c)) := by
  unfold spec_l1In.f
  split <;> simp <;> omega

/-! editions -/
def cvE (x : S94) : S92 := ⟨x.f0, x.f1, x.f2⟩
theorem toPartS (l : List S94) (hl : l.length ≤ 1048576) : Ev (fun k => laws_toPartS.f k l) (l.map cvE) := by
  unfold laws_toPartS.f
  refine ev_pos (by omega) (ev_pos (by omega) ?_)
  exact map_loop (fun k ys i => laws_toPartS.l0 k l ys i) l z94 z92 (fun k x => laws_toPart.f x.f0 x.f1 x.f2) (fun bt => ⟨bt.1, bt.2.1, bt.2.2⟩) (fun x => (x.f0, x.f1, x.f2)) (fun k ys i => rfl) (fun x _ => ev_const rfl) (by omega)
theorem eqPartS (l : List S92) (hl : l.length ≤ 1048576) : Ev (fun k => laws_eqPartS.f k l l) true := by
  unfold laws_eqPartS.f
  refine ev_pos rfl ?_
  exact same_loop (fun k i => laws_eqPartS.l0 k l l i) l z92 (fun k x => laws_eqPart.f x.f0 x.f1 x.f2 x.f0 x.f1 x.f2) (fun k i => rfl) (fun x _ => ev_const (by simp [laws_eqPart.f])) (by omega)
theorem szPartS (l : List S94) (hl : l.length ≤ 9223372036854775807) : laws_szPartS.f l 1048576 = some (if l.length ≤ 1048576 then 1048576 - (l.length : Int) else -1) := by
  have e : wrap64 (1048576 - (l.length : Int)) = 1048576 - l.length := by unfold wrap64; omega
  simp only [laws_szPartS.f, e]
  repeat' split
  all_goals first | rfl | (exfalso; omega)
/-- The sum of the parts' lengths, as the machine adds it. -/
def edLen (l : List S92) : Int := l.foldl (fun s x => wrap64 (s + wrap64 (x.f2 - x.f1))) 0
def okE (src : Int) (x : S92) : Prop := 0 ≤ x.f0 ∧ x.f0 < src ∧ 0 ≤ x.f1 ∧ x.f1 < x.f2 ∧ x.f2 ≤ 2000
instance (src : Int) (x : S92) : Decidable (okE src x) := by unfold okE; infer_instance
def isE (src : Int) (l : List S92) : Prop := 1 ≤ src ∧ src ≤ 4 ∧ l.length ≤ 12 ∧ (∀ i, i < l.length → okE src (rd_T92 l i)) ∧ edLen l ≤ 2000
instance (src : Int) (l : List S92) : Decidable (isE src l) := by unfold isE; infer_instance
theorem impl_len (l : List S92) (hl : l.length ≤ 1048576) : Ev (fun k => impl_editionLength.f k l) (edLen l) := by
  unfold impl_editionLength.f
  refine fold_loop (fun k s i => impl_editionLength.l0 k s l (l.length : Int) i) l (fun s x => wrap64 (s + wrap64 (x.f2 - x.f1))) id (fun k s => ?_) (fun k s i h => ?_) 0
  · simp only [impl_editionLength.l0]
    rw [if_neg (by omega)]; rfl
  · have e1 : wrap64 ((i : Int) + 1) = i + 1 := by unfold wrap64; omega
    simp only [impl_editionLength.l0, e1]
    rw [if_pos (by omega), if_pos (by omega), if_pos (by omega)]
    unfold rd_T92
    rw [rd_get h]
theorem impl_isE (l : List S92) (src : Int) (hl : l.length ≤ 1048576) : Ev (fun k => impl_AreParts.f k l src) (decide (isE src l)) := by
  unfold impl_AreParts.f
  by_cases h : 1 ≤ src ∧ src ≤ 4 ∧ l.length ≤ 12
  · refine ev_neg (by omega) (ev_neg (by omega) (Ev.step (f := fun k => impl_AreParts.l0 k l src l (l.length : Int) 0) (fun k => ?_) ?_))
    · simp only [impl_AreParts.j0]
      rw [if_neg (by simp; omega)]
    · refine all_loop_ev (fun k i => impl_AreParts.l0 k l src l (l.length : Int) i) l.length (fun i => okE src (rd_T92 l i)) (decide (edLen l ≤ 2000)) _ (by simp [isE, h]) (fun _ => ?_) (fun k i hi => ?_)
      · refine Ev.step (f := fun k => (impl_editionLength.f k l).bind fun t131 => (some (decide (t131 ≤ 2000)))) (fun k => ?_) (Ev.bind (impl_len l hl) (Ev.now _))
        simp only [impl_AreParts.l0]
        rw [if_neg (by omega)]
      · have e1 : wrap64 ((i : Int) + 1) = i + 1 := by unfold wrap64; omega
        simp only [impl_AreParts.l0, e1]
        unfold okE
        constructor <;> intro h <;> (repeat' split) <;> first | rfl | (exfalso; omega)
  · have e : decide (isE src l) = false := decide_eq_false (fun hp => h ⟨hp.1, hp.2.1, hp.2.2.1⟩)
    rw [e]
    refine ev_ite (fun hc => Ev.step (f := fun _ => some false) (fun k => rfl) (Ev.now _)) (fun hc => ev_ite (fun hc => Ev.step (f := fun _ => some false) (fun k => rfl) (Ev.now _)) (fun hc => Ev.step (f := fun _ => some false) (fun k => ?_) (Ev.now _)))
    simp only [impl_AreParts.j0]
    rw [if_pos (by simp; omega)]

theorem spec_len (l : List S92) (hl : l.length ≤ 1048576) : Ev (fun k => spec_edLength.f k l) (edLen l) := by
  unfold spec_edLength.f
  refine fold_loop (fun k s i => spec_edLength.l0 k s l (l.length : Int) i) l (fun s x => wrap64 (s + wrap64 (x.f2 - x.f1))) id (fun k s => ?_) (fun k s i h => ?_) 0
  · simp only [spec_edLength.l0]
    rw [if_neg (by omega)]; rfl
  · have e1 : wrap64 ((i : Int) + 1) = i + 1 := by unfold wrap64; omega
    simp only [spec_edLength.l0, e1]
    rw [if_pos (by omega), if_pos (by omega), if_pos (by omega)]
    unfold rd_T92
    rw [rd_get h]
theorem edPart_eq (a b c : Int) : spec_edPart.f a b c = some (decide (0 ≤ a ∧ a ≤ 3 ∧ 0 ≤ b ∧ b < c ∧ c ≤ 2000)) := by
  unfold spec_edPart.f spec_shStep.f
  simp only [l1In_eq, Option.bind_some, decide_eq_true_eq]
  by_cases h : 0 ≤ b ∧ b ≤ 1999
  · have e : wrap64 (b + 1) = b + 1 := by unfold wrap64; omega
    rw [e]
    repeat' split
    all_goals first | exact some_dec (by omega) (by omega) | exact some_dec_f (by omega)
  · rw [if_neg h]
    split
    all_goals exact some_dec_f (by omega)
/-- Good parts, whatever the number of sources. -/
theorem spec_good (l : List S92) (hl : l.length ≤ 1048576) : Ev (fun k => spec_edGood.f k l) (decide (isE 4 l)) := by
  unfold spec_edGood.f
  refine all_loop_ev (fun k i => spec_edGood.l0 k l l (l.length : Int) i) l.length (fun i => okE 4 (rd_T92 l i)) (decide (l.length ≤ 12 ∧ edLen l ≤ 2000)) _ ?_ (fun _ => ?_) (fun k i hi => ?_)
  · simp [isE]
    exact ⟨fun ⟨a, b, c⟩ => ⟨b, a, c⟩, fun ⟨a, b, c⟩ => ⟨b, a, c⟩⟩
  · refine Ev.step (f := fun k => if (l.length : Int) ≤ 12 then ((spec_edLength.f k l).bind fun t111 => (some (decide (t111 ≤ 2000)))) else (some false)) (fun k => ?_) (ev_ite (fun h => Ev.bind (spec_len l hl) (ev_now ?_)) (fun h => ev_now ?_))
    · simp only [spec_edGood.l0]
      rw [if_neg (by omega)]
    · simp; omega
    · simp; omega
  · have e1 : wrap64 ((i : Int) + 1) = i + 1 := by unfold wrap64; omega
    simp only [spec_edGood.l0, edPart_eq, Option.bind_some, decide_eq_true_eq, e1]
    unfold okE
    constructor <;> intro h <;> (repeat' split) <;> first | rfl | (exfalso; omega)

/-- A loop that writes marks into every field of a list's elements: c a step. -/
theorem mark_ev {β : Type} (L : Nat → List β → Int → Int → Option (Int × List β)) (mk : Int → β) (c : Nat) (hc : c ≤ 8) (n : Nat) (hn : n ≤ 1048576) (hstop : ∀ k ys a, ys.length = n → L (k + 1) ys a (n : Int) = some (a, ys))
    (hgo : ∀ k ys a (i : Nat), ys.length = n → i < n → 0 ≤ a → a ≤ 2199023255552 → L (k + 1) ys a (i : Int) = L k (ys.set i (mk a)) (a + c) ((i : Int) + 1)) (l : List β) (hl : l.length = n) (a : Int) (h0 : 0 ≤ a) (h1 : a ≤ 1099511627776) :
    Ev (fun k => L k l a 0) (a + c * n, (List.range n).map fun j : Nat => mk (a + c * j)) := by
  have key : ∀ (d i : Nat) (ys : List β), n - i = d → i ≤ n → ys.length = n → (∀ j, j < i → ys[j]? = some (mk (a + c * (j : Int)))) →
      Ev (fun k => L k ys (a + c * (i : Int)) (i : Int)) (a + c * n, (List.range n).map fun j : Nat => mk (a + c * j)) := by
    intro d
    induction d with
    | zero =>
      intro i ys hd hi hy hp
      obtain rfl : i = n := by omega
      refine Ev.step (f := fun _ => some (a + c * (i : Int), ys)) (fun k => hstop k ys _ hy) (ev_now ?_)
      congr 1
      refine List.ext_getElem? fun j => ?_
      by_cases hj : j < i
      · rw [hp j hj]; simp [hj]
      · rw [List.getElem?_eq_none (by omega), List.getElem?_eq_none (by simp; omega)]
    | succ d ih =>
      intro i ys hd hi hy hp
      have hb : (c : Int) * i ≤ 8 * 1048576 := Int.mul_le_mul (by omega) (by omega) (by omega) (by omega)
      have hb0 : 0 ≤ (c : Int) * i := Int.mul_nonneg (by omega) (by omega)
      have e2 : a + (c : Int) * (i : Int) + c = a + c * ((i + 1 : Nat) : Int) := by rw [Int.natCast_add, Int.mul_add]; simp; omega
      refine Ev.step (fun k => hgo k ys _ i hy (by omega) (by omega) (by omega)) ?_
      rw [e2]
      refine ih (i + 1) _ (by omega) (by omega) (by rw [List.length_set]; exact hy) (fun j hj => ?_)
      by_cases e : j = i
      · subst e
        rw [List.getElem?_set_self (by omega)]
      · rw [List.getElem?_set_ne (by omega)]
        exact hp j (by omega)
  have := key n 0 l (by omega) (by omega) hl (fun j hj => absurd hj (by omega))
  simpa using this
/-- A loop that finds the marks again. -/
theorem held_ev {β : Type} (M : Nat → Int → Int → Option Int) (mk : Int → β) (c : Nat) (hc : c ≤ 8) (n : Nat) (hn : n ≤ 1048576) (a : Int) (h0 : 0 ≤ a) (h1 : a ≤ 1099511627776) (hstop : ∀ k a, M (k + 1) a (n : Int) = some a)
    (hgo : ∀ k b (i : Nat) (hi : i < ((List.range n).map fun j : Nat => mk (a + c * j)).length), ((List.range n).map fun j : Nat => mk (a + c * j))[i] = mk b → 0 ≤ b → b ≤ 2199023255552 → M (k + 1) b (i : Int) = M k (b + c) ((i : Int) + 1)) :
    Ev (fun k => M k a 0) (a + c * n) := by
  have key : ∀ (d i : Nat), n - i = d → i ≤ n → Ev (fun k => M k (a + c * (i : Int)) (i : Int)) (a + c * n) := by
    intro d
    induction d with
    | zero =>
      intro i hd hi
      obtain rfl : i = n := by omega
      exact Ev.step (f := fun _ => some (a + c * (i : Int))) (fun k => hstop k _) (ev_now rfl)
    | succ d ih =>
      intro i hd hi
      have hb : (c : Int) * i ≤ 8 * 1048576 := Int.mul_le_mul (by omega) (by omega) (by omega) (by omega)
      have hb0 : 0 ≤ (c : Int) * i := Int.mul_nonneg (by omega) (by omega)
      have e2 : a + (c : Int) * (i : Int) + c = a + c * ((i + 1 : Nat) : Int) := by rw [Int.natCast_add, Int.mul_add]; simp; omega
      refine Ev.step (fun k => hgo k _ i (by simp; omega) (by simp) (by omega) (by omega)) ?_
      rw [e2]
      exact ih (i + 1) (by omega) (by omega)
  have := key n 0 (by omega) (by omega)
  simpa using this
theorem rd_set {α : Type} {xs : List α} {z v : α} {i : Nat} (h : i < xs.length) : (xs.set i v).getD (i : Int).toNat z = v := by
  rw [Int.toNat_natCast, List.getD_eq_getElem?_getD, List.getElem?_set_self h]; rfl

theorem markPartS (l : List S92) (hl : l.length ≤ 1048576) : Ev (fun k => laws_markPartS.f k l 1) (1 + (3 : Nat) * (l.length : Nat), (List.range l.length).map fun j : Nat => (⟨1 + (3 : Nat) * j, 1 + (3 : Nat) * j + 1, 1 + (3 : Nat) * j + 2⟩ : S92)) := by
  unfold laws_markPartS.f
  refine mark_ev (fun k ys a i => laws_markPartS.l0 k ys a i) (fun a => (⟨a, a + 1, a + 2⟩ : S92)) 3 (by omega) l.length hl (fun k ys a hy => ?_) (fun k ys a i hy hi g0 g1 => ?_) l rfl 1 (by omega) (by omega)
  · simp only [laws_markPartS.l0]
    rw [if_neg (by omega)]
  · have e1 : wrap64 ((i : Int) + 1) = i + 1 := by unfold wrap64; omega
    have e2 : wrap64 (a + 1) = a + 1 := by unfold wrap64; omega
    have e3 : wrap64 (a + 1 + 1) = a + 2 := by unfold wrap64; omega
    have e4 : wrap64 (a + 2 + 1) = a + (3 : Nat) := by unfold wrap64; omega
    have hi2 : i < ys.length := by omega
    simp only [laws_markPartS.l0, Option.bind_some, Int.toNat_natCast, rd_T92, e1, e2, e3, e4]
    rw [if_pos (by omega), if_pos (by omega)]
    simp [List.getElem?_set_self hi2, List.set_set, hi2]
theorem heldPartS (n : Nat) (hl : n ≤ 1048576) : Ev (fun k => laws_heldPartS.f k ((List.range n).map fun j : Nat => (⟨1 + (3 : Nat) * j, 1 + (3 : Nat) * j + 1, 1 + (3 : Nat) * j + 2⟩ : S92)) 1) (1 + (3 : Nat) * n) := by
  unfold laws_heldPartS.f
  refine held_ev (fun k a i => laws_heldPartS.l0 k _ a i) (fun a => (⟨a, a + 1, a + 2⟩ : S92)) 3 (by omega) n hl 1 (by omega) (by omega) (fun k a => ?_) (fun k b i hi hb g0 g1 => ?_)
  · simp only [laws_heldPartS.l0]
    rw [if_neg (by simp)]
  · have hi' : i < n := by simpa using hi
    have e1 : wrap64 ((i : Int) + 1) = i + 1 := by unfold wrap64; omega
    have e2 : wrap64 (b + 1) = b + 1 := by unfold wrap64; omega
    have e3 : wrap64 (b + 1 + 1) = b + 2 := by unfold wrap64; omega
    have e4 : wrap64 (b + 2 + 1) = b + (3 : Nat) := by unfold wrap64; omega
    simp only [laws_heldPartS.l0, rd_T92, e1, e2, e3, e4]
    rw [rd_get hi, hb]
    rw [if_pos (by simp; omega), if_pos (by omega), if_pos rfl, if_pos rfl, if_pos rfl]

theorem sp (l : List S92) (hl : l.length ≤ 1048576) : ∃ r : List S92 × Bool, Ev (fun k => spec_ShortParts.f k l) r ∧ Ev (fun k => impl_ShortParts.f k l) r ∧ r.1.length ≤ 1048576 := by
  unfold spec_ShortParts.f impl_ShortParts.f impl_isEdition.f
  by_cases hg : isE 4 l
  · have h12 := hg.2.2.1
    obtain ⟨r, g1, g2, g3⟩ := count_up l.length (fun i (st : List S92) => st.length ≤ i) (fun i st => ∃ r : List S92 × Bool, Ev (fun k => spec_ShortParts.l0 k st l (l.length : Int) (i : Int)) r ∧ Ev (fun k => impl_ShortParts.l0 k st l (l.length : Int) (i : Int)) r ∧ r.1.length ≤ 1048576)
      (fun st hst => by
        refine ⟨(st, true), Ev.step (f := fun _ => some (st, true)) (fun k => ?_) (Ev.now _), Ev.step (f := fun _ => some (st, true)) (fun k => ?_) (Ev.now _), by show st.length ≤ 1048576; omega⟩
        · simp only [spec_ShortParts.l0]
          rw [if_neg (by omega)]
        · simp only [impl_ShortParts.l0]
          rw [if_neg (by omega)])
      (fun i st hi hst ih => by
        have e1 := wn hi (by omega)
        have e2 : wrap64 ((st.length : Int) - 1) = (st.length : Int) - 1 := by unfold wrap64; omega
        have happ := ih (st ++ [(⟨(rd_T92 l i).f0, (rd_T92 l i).f1, (rd_T92 l i).f2⟩ : S92)]) (by simp; omega)
        have hset := ih (st.set ((st.length : Int) - 1).toNat (⟨(rd_T92 st ((st.length : Int) - 1)).f0, (rd_T92 st ((st.length : Int) - 1)).f1, (rd_T92 l i).f2⟩ : S92)) (by rw [List.length_set]; omega)
        by_cases c : (st.length : Int) > 0 ∧ (rd_T92 st ((st.length : Int) - 1)).f0 = (rd_T92 l i).f0 ∧ (rd_T92 st ((st.length : Int) - 1)).f2 = (rd_T92 l i).f1
        · obtain ⟨r, g1, g2, g3⟩ := hset
          refine ⟨r, Ev.step (fun k => ?_) g1, Ev.step (fun k => ?_) g2, g3⟩
          · simp only [spec_ShortParts.l0, e1, e2]
            rw [if_pos (by omega), if_pos (by omega), if_pos (by omega), if_pos c.1, if_pos (by omega), if_pos (by omega), if_pos c.2.1, if_pos c.2.2]
          · simp only [impl_ShortParts.l0, e1, e2]
            rw [if_pos (by omega), if_pos (by omega), if_pos (by omega), if_pos (by omega), if_pos (by omega), if_pos (by omega), if_pos c.2.1, if_pos c.2.2]
        · obtain ⟨r, g1, g2, g3⟩ := happ
          refine ⟨r, Ev.step (fun k => ?_) g1, Ev.step (fun k => ?_) g2, g3⟩
          · simp only [spec_ShortParts.l0, e1, e2]
            repeat' split
            all_goals first | rfl | (exfalso; omega) | (exfalso; apply c; exact ⟨by assumption, by assumption, by assumption⟩)
          · simp only [impl_ShortParts.l0, e1, e2]
            repeat' split
            all_goals first | rfl | (exfalso; omega) | (exfalso; apply c; exact ⟨by omega, by assumption, by assumption⟩)) 0 [] (Nat.zero_le _) (Nat.zero_le _)
    exact ⟨r, Ev.bind (spec_good l hl) (ev_pos (decide_eq_true hg) g1), Ev.bind (Ev.bind (f := fun _ t => some t) (impl_isE l 4 hl) (Ev.now _)) (ev_pos (decide_eq_true hg) g2), g3⟩
  · exact ⟨([], false), Ev.bind (spec_good l hl) (ev_neg (by simpa using hg) (Ev.now _)), Ev.bind (Ev.bind (f := fun _ t => some t) (impl_isE l 4 hl) (Ev.now _)) (ev_neg (by simpa using hg) (Ev.now _)), Nat.zero_le _⟩
theorem FnExactShortParts (l0 : List (S94)) (w0 : (l0.length ≤ maxLen ∧ ∀ y1 ∈ l0, ((Lit.int .i64 y1.f0).wf = true ∧ (Lit.int .i64 y1.f1).wf = true ∧ (Lit.int .i64 y1.f2).wf = true))) :
    ∃ k, laws_FnExactShortParts.f k l0 = some true := by
  obtain ⟨hm, _⟩ := w0
  unfold maxLen at hm
  refine Ev.rounds (g := fun k => laws_FnExactShortParts.f k l0) ?_
  unfold laws_FnExactShortParts.f
  refine ev_call (szPartS _ (by omega)) ?_
  by_cases hl : l0.length ≤ 1048576
  · rw [if_pos hl]
    refine ev_neg (by omega) ?_
    have h1 := toPartS l0 hl
    have hl2 : (l0.map cvE).length ≤ 1048576 := by simpa using hl
    obtain ⟨r, g1, g2, g3⟩ := sp _ hl2
    refine Ev.bind h1 (Ev.bind g1 (Ev.bind h1 (Ev.bind g2 (Ev.bind (eqPartS _ g3) (ev_pos rfl (Ev.step (fun k => rfl) (ev_neg (by simp) (Ev.bind h1 (Ev.bind (eqPartS _ hl2) (ev_pos rfl (Ev.bind (markPartS _ hl2) (ev_neg (by omega) (Ev.bind (eqPartS _ g3) (ev_pos rfl ?_))))))))))))))
    refine Ev.step (fun k => rfl) (ev_neg (by simp) (Ev.bind (markPartS _ g3) (Ev.bind (heldPartS _ g3) (ev_neg (by omega) (ev_pos rfl (Ev.bind h1 (Ev.bind g2 (Ev.bind (eqPartS _ g3) (ev_pos rfl ?_)))))))))
    exact Ev.step (fun k => rfl) (ev_neg (by simp) (Ev.bind (heldPartS _ g3) (ev_neg (by omega) (ev_pos rfl (Ev.now _)))))
  · rw [if_neg hl]
    exact ev_pos (by omega) (Ev.now _)

end Go.Proofs.Ytidnfnnnfppefab.PureFnExactShortParts
