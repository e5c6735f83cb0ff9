/- The plain statement of FnExactApplyPatches (lemmas): the law's function, over numbers and lists, answers true. No conditions beyond the arguments' own kinds. -/
import Derived.Test.YtghdiijfpepmhaaSApplyPatchesL
import Derived.Test.YtghdiijfpepmhaaVApplyPatches
namespace Go.Proofs.Ytghdiijfpepmhaa.PureFnExactApplyPatches
open Go Go.RowKit Go.Proofs.Ytghdiijfpepmhaa.PFnExactApplyPatches Go.Proofs.YtghdiijfpepmhaaW.PrintWords Go.Proofs.YtghdiijfpepmhaaW.PrintLast Go.Proofs.YtghdiijfpepmhaaW.PrintMore Go.Proofs.Ytghdiijfpepmhaa.Lib
set_option linter.unusedVariables false
set_option linter.unusedSimpArgs false
/-- A loop that counts up to n, and what is known of its answer. -/
theorem ev_for_ex {σ ρ : Type} (L : Nat → σ → Int → Option ρ) (n : Nat) (Inv : Nat → σ → Prop) (Post : ρ → Prop) (hstop : ∀ s, Inv n s → ∃ r, Ev (fun k => L k s (n : Int)) r ∧ Post r)
    (hgo : ∀ i s, i < n → Inv i s → (∀ s', Inv (i + 1) s' → ∃ r, Ev (fun k => L k s' ((i + 1 : Nat) : Int)) r ∧ Post r) → ∃ r, Ev (fun k => L k s (i : Int)) r ∧ Post r) :
    ∀ i s, i ≤ n → Inv i s → ∃ r, Ev (fun k => L k s (i : Int)) r ∧ Post r := by
  have key : ∀ d i : Nat, n - i = d → i ≤ n → ∀ s, Inv i s → ∃ r, Ev (fun k => L k s (i : Int)) r ∧ Post r := by
    intro d
    induction d with
    | zero =>
      intro i hd hi s hs
      obtain rfl : i = n := by omega
      exact hstop s hs
    | succ d ih =>
      intro i hd hi s hs
      exact hgo i s (by omega) hs (fun s' hs' => ih (i + 1) (by omega) (by omega) s' hs')
  intro i s hi hs
  exact key (n - i) i rfl hi s hs
theorem wn {i n : Nat} (h : i < n) (hn : n ≤ 9223372036854775807) : wrap64 ((i : Int) + 1) = ((i + 1 : Nat) : Int) := by unfold wrap64; omega
/-- Whatever holds at the end of a count, and at i if it holds at i + 1, holds from everywhere. -/
theorem count_up {σ : Type} (n : Nat) (Inv Q : Nat → σ → Prop) (hstop : ∀ s, Inv n s → Q n s) (hgo : ∀ i s, i < n → Inv i s → (∀ s', Inv (i + 1) s' → Q (i + 1) s') → Q i s) : ∀ i s, i ≤ n → Inv i s → Q i s := by
  have key : ∀ d i : Nat, n - i = d → i ≤ n → ∀ s, Inv i s → Q i s := by
    intro d
    induction d with
    | zero =>
      intro i hd hi s hs
      obtain rfl : i = n := by omega
      exact hstop s hs
    | succ d ih =>
      intro i hd hi s hs
      exact hgo i s (by omega) hs (fun s' hs' => ih (i + 1) (by omega) (by omega) s' hs')
  intro i s hi hs
  exact key (n - i) i rfl hi s hs

/-- A loop that writes marks into every field of a list's elements: c a step. -/
theorem mark_ev {β : Type} (L : Nat → List β → Int → Int → Option (Int × List β)) (mk : Int → β) (c : Nat) (hc : c ≤ 8) (n : Nat) (hn : n ≤ 1048576) (hstop : ∀ k ys a, ys.length = n → L (k + 1) ys a (n : Int) = some (a, ys))
    (hgo : ∀ k ys a (i : Nat), ys.length = n → i < n → 0 ≤ a → a ≤ 2199023255552 → L (k + 1) ys a (i : Int) = L k (ys.set i (mk a)) (a + c) ((i : Int) + 1)) (l : List β) (hl : l.length = n) (a : Int) (h0 : 0 ≤ a) (h1 : a ≤ 1099511627776) :
    Ev (fun k => L k l a 0) (a + c * n, (List.range n).map fun j : Nat => mk (a + c * j)) := by
  have key : ∀ (d i : Nat) (ys : List β), n - i = d → i ≤ n → ys.length = n → (∀ j, j < i → ys[j]? = some (mk (a + c * (j : Int)))) →
      Ev (fun k => L k ys (a + c * (i : Int)) (i : Int)) (a + c * n, (List.range n).map fun j : Nat => mk (a + c * j)) := by
    intro d
    induction d with
    | zero =>
      intro i ys hd hi hy hp
      obtain rfl : i = n := by omega
      refine Ev.step (f := fun _ => some (a + c * (i : Int), ys)) (fun k => hstop k ys _ hy) (ev_now ?_)
      congr 1
      refine List.ext_getElem? fun j => ?_
      by_cases hj : j < i
      · rw [hp j hj]; simp [hj]
      · rw [List.getElem?_eq_none (by omega), List.getElem?_eq_none (by simp; omega)]
    | succ d ih =>
      intro i ys hd hi hy hp
      have hb : (c : Int) * i ≤ 8 * 1048576 := Int.mul_le_mul (by omega) (by omega) (by omega) (by omega)
      have hb0 : 0 ≤ (c : Int) * i := Int.mul_nonneg (by omega) (by omega)
      have e2 : a + (c : Int) * (i : Int) + c = a + c * ((i + 1 : Nat) : Int) := by rw [Int.natCast_add, Int.mul_add]; simp; omega
      refine Ev.step (fun k => hgo k ys _ i hy (by omega) (by omega) (by omega)) ?_
      rw [e2]
      refine ih (i + 1) _ (by omega) (by omega) (by rw [List.length_set]; exact hy) (fun j hj => ?_)
      by_cases e : j = i
      · subst e
        rw [List.getElem?_set_self (by omega)]
      · rw [List.getElem?_set_ne (by omega)]
        exact hp j (by omega)
  have := key n 0 l (by omega) (by omega) hl (fun j hj => absurd hj (by omega))
  simpa using this
/-- A loop that finds the marks again. -/
theorem held_ev {β : Type} (M : Nat → Int → Int → Option Int) (mk : Int → β) (c : Nat) (hc : c ≤ 8) (n : Nat) (hn : n ≤ 1048576) (a : Int) (h0 : 0 ≤ a) (h1 : a ≤ 1099511627776) (hstop : ∀ k a, M (k + 1) a (n : Int) = some a)
    (hgo : ∀ k b (i : Nat) (hi : i < ((List.range n).map fun j : Nat => mk (a + c * j)).length), ((List.range n).map fun j : Nat => mk (a + c * j))[i] = mk b → 0 ≤ b → b ≤ 2199023255552 → M (k + 1) b (i : Int) = M k (b + c) ((i : Int) + 1)) :
    Ev (fun k => M k a 0) (a + c * n) := by
  have key : ∀ (d i : Nat), n - i = d → i ≤ n → Ev (fun k => M k (a + c * (i : Int)) (i : Int)) (a + c * n) := by
    intro d
    induction d with
    | zero =>
      intro i hd hi
      obtain rfl : i = n := by omega
      exact Ev.step (f := fun _ => some (a + c * (i : Int))) (fun k => hstop k _) (ev_now rfl)
    | succ d ih =>
      intro i hd hi
      have hb : (c : Int) * i ≤ 8 * 1048576 := Int.mul_le_mul (by omega) (by omega) (by omega) (by omega)
      have hb0 : 0 ≤ (c : Int) * i := Int.mul_nonneg (by omega) (by omega)
      have e2 : a + (c : Int) * (i : Int) + c = a + c * ((i + 1 : Nat) : Int) := by rw [Int.natCast_add, Int.mul_add]; simp; omega
      refine Ev.step (fun k => hgo k _ i (by simp; omega) (by simp) (by omega) (by omega)) ?_
      rw [e2]
      exact ih (i + 1) (by omega) (by omega)
  have := key n 0 (by omega) (by omega)
  simpa using this
def cvH (x : S49) : S47 := ⟨x.f0, x.f1, x.f2⟩
theorem toHoleS (l : List S49) (hl : l.length ≤ 1048576) : Ev (fun k => laws_toHoleS.f k l) (l.map cvH) := by
  unfold laws_toHoleS.f
  refine ev_pos (by omega) (ev_pos (by omega) ?_)
  exact map_loop (fun k ys i => laws_toHoleS.l0 k l ys i) l z49 z47 (fun k x => laws_toHole.f x.f0 x.f1 x.f2) (fun bt => ⟨bt.1, bt.2.1, bt.2.2⟩) (fun x => (x.f0, x.f1, x.f2)) (fun k ys i => rfl) (fun x _ => ev_const rfl) (by omega)
theorem eqHoleS (l : List S47) (hl : l.length ≤ 1048576) : Ev (fun k => laws_eqHoleS.f k l l) true := by
  unfold laws_eqHoleS.f
  refine ev_pos rfl ?_
  exact same_loop (fun k i => laws_eqHoleS.l0 k l l i) l z47 (fun k x => laws_eqHole.f x.f0 x.f1 x.f2 x.f0 x.f1 x.f2) (fun k i => rfl) (fun x _ => ev_const (by simp [laws_eqHole.f])) (by omega)
theorem szHoleS (l : List S49) (a : Int) (ha : 0 ≤ a ∧ a ≤ 1048576) (hl : l.length ≤ 9223372036854775807) : laws_szHoleS.f l a = some (if (l.length : Int) ≤ a then a - (l.length : Int) else -1) := by
  have e : wrap64 (a - (l.length : Int)) = a - l.length := by unfold wrap64; omega
  simp only [laws_szHoleS.f, e]
  repeat' split
  all_goals first | rfl | (exfalso; omega)

/-- A loop of checks whose rounds may call: what is known of the places before may be used. -/
theorem all_loop_g (L : Nat → Int → Option Bool) (n : Nat) (P : Nat → Prop) (fin r : Bool) (hr : r = true ↔ (∀ i, i < n → P i) ∧ fin = true) (hstop : (∀ i, i < n → P i) → Ev (fun k => L k (n : Int)) fin)
    (hgo : ∀ i : Nat, i < n → (∀ j, j < i → P j) → (P i → ∀ q, Ev (fun k => L k ((i + 1 : Nat) : Int)) q → Ev (fun k => L k (i : Int)) q) ∧ (¬ P i → Ev (fun k => L k (i : Int)) false)) : Ev (fun k => L k 0) r := by
  have key : ∀ d i : Nat, n - i = d → i ≤ n → (∀ j, j < i → P j) → Ev (fun k => L k (i : Int)) r := by
    intro d
    induction d with
    | zero =>
      intro i hd hi hp
      obtain rfl : i = n := by omega
      refine ev_eq (hstop hp) ?_
      rw [Bool.eq_iff_iff, hr]
      exact ⟨fun h => ⟨hp, h⟩, fun h => h.2⟩
    | succ d ih =>
      intro i hd hi hp
      have hlt : i < n := by omega
      by_cases hc : P i
      · refine (hgo i hlt hp).1 hc r (ih (i + 1) (by omega) (by omega) (fun j hj => ?_))
        by_cases e : j = i
        · exact e ▸ hc
        · exact hp j (by omega)
      · refine ev_eq ((hgo i hlt hp).2 hc) ?_
        cases hrr : r with
        | false => rfl
        | true => exact absurd ((hr.1 hrr).1 i hlt) hc
  exact key n 0 (by omega) (by omega) (fun j hj => absurd hj (by omega))
/-- A loop that leaves with 'bad' at the first place that is not as it should be, and else goes on behind the last. -/
theorem scan_loop {α : Type} (L : Nat → Int → Option α) (n : Nat) (C : Nat → Prop) (q bad : α) (hstop : (∀ j, j < n → C j) → Ev (fun k => L k (n : Int)) q) (hbad : ¬ (∀ j, j < n → C j) → q = bad)
    (hgo : ∀ k (j : Nat), j < n → (C j → L (k + 1) (j : Int) = L k ((j + 1 : Nat) : Int)) ∧ (¬ C j → L (k + 1) (j : Int) = some bad)) : Ev (fun k => L k 0) q := by
  have key : ∀ d i : Nat, n - i = d → i ≤ n → (∀ j, j < i → C j) → Ev (fun k => L k (i : Int)) q := by
    intro d
    induction d with
    | zero =>
      intro i hd hi hp
      obtain rfl : i = n := by omega
      exact hstop hp
    | succ d ih =>
      intro i hd hi hp
      have hlt : i < n := by omega
      by_cases hc : C i
      · refine Ev.step (fun k => (hgo k i hlt).1 hc) (ih (i + 1) (by omega) (by omega) (fun j hj => ?_))
        by_cases e : j = i
        · exact e ▸ hc
        · exact hp j (by omega)
      · exact Ev.step (fun k => (hgo k i hlt).2 hc) (ev_now (hbad (fun h => hc (h i hlt))).symm)
  exact key n 0 (by omega) (by omega) (fun j hj => absurd hj (by omega))
def okH (x : S47) : Prop := 0 ≤ x.f0 ∧ x.f0 < 20 ∧ 0 ≤ x.f1 ∧ x.f1 < x.f2 ∧ x.f2 ≤ 2000
instance (x : S47) : Decidable (okH x) := by unfold okH; infer_instance
def befH (a b : S47) : Prop := a.f1 < b.f1 ∨ a.f1 = b.f1 ∧ a.f0 < b.f0
instance (a b : S47) : Decidable (befH a b) := by unfold befH; infer_instance
def shAt (l : List S47) (i : Nat) : Prop := okH (rd_T47 l i) ∧ (i > 0 → befH (rd_T47 l ((i : Int) - 1)) (rd_T47 l i)) ∧ ∀ j, j < i → (rd_T47 l j).f0 = (rd_T47 l i).f0 → (rd_T47 l j).f2 < (rd_T47 l i).f1
instance (l : List S47) (i : Nat) : Decidable (shAt l i) := by unfold shAt; infer_instance
def isSh (l : List S47) : Prop := l.length ≤ 60 ∧ ∀ i, i < l.length → shAt l i
instance (l : List S47) : Decidable (isSh l) := by unfold isSh; infer_instance
theorem rdH_take (l : List S47) (i j : Nat) (h : j < i) : rd_T47 (l.take i) (j : Int) = rd_T47 l (j : Int) := by
  unfold rd_T47
  rw [Int.toNat_natCast, List.getD_eq_getElem?_getD, List.getD_eq_getElem?_getD, List.getElem?_take_of_lt h]
theorem isSh_get {l : List S47} (h : isSh l) {i : Nat} (hi : i < l.length) : okH l[i] := by
  have := (h.2 i hi).1
  unfold rd_T47 at this
  rwa [rd_get hi] at this

theorem isHole_eq (a b c : Int) : impl_IsHole.f a b c = some (decide (0 ≤ a ∧ a < 20 ∧ 0 ≤ b ∧ b < c ∧ c ≤ 2000)) := by
  unfold impl_IsHole.f impl_isTrack.f
  repeat' split
  all_goals simp only [Option.bind_some, decide_eq_true_eq, Bool.false_eq_true, ↓reduceIte]
  all_goals (repeat' split)
  all_goals first | exact some_dec (by omega) (by omega) | exact some_dec_f (by omega)
theorem holeLess_eq (a b c a' b' c' : Int) : impl_holeLess.f a b c a' b' c' = some (decide (b < b' ∨ b = b' ∧ a < a')) := by
  unfold impl_holeLess.f
  split
  all_goals exact some_dec (by omega) (by omega)
theorem impl_isSh (l : List S47) (hl : l.length ≤ 1048576) : Ev (fun k => impl_IsSheet.f k l) (decide (isSh l)) := by
  unfold impl_IsSheet.f
  by_cases h60 : l.length ≤ 60
  · refine ev_neg (by omega) (all_loop_g (fun k i => impl_IsSheet.l0 k l l (l.length : Int) i) l.length (shAt l) true _ (by simp [isSh, h60]) (fun _ => ?_) (fun i hi _ => ?_))
    · refine Ev.step (f := fun _ => some true) (fun k => ?_) (Ev.now _)
      simp only [impl_IsSheet.l0]
      rw [if_neg (by omega)]
    · have e1 := wn hi (by omega)
      have hin : ∀ q, ((∀ j, j < i → (rd_T47 l j).f0 = (rd_T47 l i).f0 → (rd_T47 l j).f2 < (rd_T47 l i).f1) → Ev (fun k => impl_IsSheet.l0 k l l (l.length : Int) ((i + 1 : Nat) : Int)) q) → (¬ (∀ j, j < i → (rd_T47 l j).f0 = (rd_T47 l i).f0 → (rd_T47 l j).f2 < (rd_T47 l i).f1) → q = false) →
          Ev (fun k => impl_IsSheet.j1 k l (i : Int) l (l.length : Int) (i : Int) false ((rd_T47 l i).f0) ((rd_T47 l i).f1) ((rd_T47 l i).f2)) q := by
        intro q h1 h2
        have hlen : (l.take i).length = i := by rw [List.length_take]; omega
        refine Ev.step (f := fun k => impl_IsSheet.l1 k l l (l.length : Int) (i : Int) (l.take i) (((l.take i).length : Nat) : Int) 0 ((rd_T47 l i).f0) ((rd_T47 l i).f1) ((rd_T47 l i).f2)) (fun k => ?_) ?_
        · simp only [impl_IsSheet.j1, Option.bind_some, Int.toNat_natCast]
          rw [if_neg (by simp), if_pos (by omega), if_pos (by omega)]
        · refine scan_loop (fun k j => impl_IsSheet.l1 k l l (l.length : Int) (i : Int) (l.take i) (((l.take i).length : Nat) : Int) j ((rd_T47 l i).f0) ((rd_T47 l i).f1) ((rd_T47 l i).f2)) i _ q false (fun hc => Ev.step (fun k => ?_) (h1 hc)) h2 (fun k j hj => ?_)
          · simp only [impl_IsSheet.l1, e1]
            rw [if_neg (by omega)]
          · have e2 := wn hj (by omega)
            simp only [impl_IsSheet.l1, e2, rdH_take l i j hj]
            constructor <;> intro h <;> (repeat' split) <;> first | rfl | (exfalso; omega)
      constructor
      · intro hP q hq
        have hok := hP.1
        unfold okH at hok
        by_cases hz : (i : Int) > 0
        · have e2 : wrap64 ((i : Int) - 1) = i - 1 := by unfold wrap64; omega
          have hb := hP.2.1 (by omega)
          unfold befH at hb
          refine Ev.step (fun k => ?_) (hin q (fun _ => hq) (fun hc => absurd hP.2.2 hc))
          simp only [impl_IsSheet.l0, isHole_eq, holeLess_eq, Option.bind_some, e2]
          rw [if_pos (by omega), if_pos (by omega), if_pos (by omega), if_pos (decide_eq_true hok), if_pos hz, if_pos (by omega), if_pos (by omega), decide_eq_true hb]
          rfl
        · refine Ev.step (fun k => ?_) (hin q (fun _ => hq) (fun hc => absurd hP.2.2 hc))
          simp only [impl_IsSheet.l0, isHole_eq, Option.bind_some]
          rw [if_pos (by omega), if_pos (by omega), if_pos (by omega), if_pos (decide_eq_true hok), if_neg hz]
      · intro hP
        by_cases hok : okH (rd_T47 l i)
        · have hok' := hok
          unfold okH at hok'
          by_cases hz : (i : Int) > 0
          · have e2 : wrap64 ((i : Int) - 1) = i - 1 := by unfold wrap64; omega
            by_cases hb : befH (rd_T47 l ((i : Int) - 1)) (rd_T47 l i)
            · have hb' := hb
              unfold befH at hb'
              refine Ev.step (fun k => ?_) (hin false (fun hc => absurd ⟨hok, fun _ => hb, hc⟩ hP) (fun _ => rfl))
              simp only [impl_IsSheet.l0, isHole_eq, holeLess_eq, Option.bind_some, e2]
              rw [if_pos (by omega), if_pos (by omega), if_pos (by omega), if_pos (decide_eq_true hok'), if_pos hz, if_pos (by omega), if_pos (by omega), decide_eq_true hb']
              rfl
            · have hb' := hb
              unfold befH at hb'
              refine Ev.step (f := fun k => impl_IsSheet.j1 k l (i : Int) l (l.length : Int) (i : Int) true ((rd_T47 l i).f0) ((rd_T47 l i).f1) ((rd_T47 l i).f2)) (fun k => ?_) (Ev.step (f := fun _ => some false) (fun k => rfl) (Ev.now _))
              simp only [impl_IsSheet.l0, isHole_eq, holeLess_eq, Option.bind_some, e2]
              rw [if_pos (by omega), if_pos (by omega), if_pos (by omega), if_pos (decide_eq_true hok'), if_pos hz, if_pos (by omega), if_pos (by omega), decide_eq_false hb']
              rfl
          · refine Ev.step (fun k => ?_) (hin false (fun hc => absurd ⟨hok, fun h => absurd h (by omega), hc⟩ hP) (fun _ => rfl))
            simp only [impl_IsSheet.l0, isHole_eq, Option.bind_some]
            rw [if_pos (by omega), if_pos (by omega), if_pos (by omega), if_pos (decide_eq_true hok'), if_neg hz]
        · have hok' := hok
          unfold okH at hok'
          refine Ev.step (f := fun k => impl_IsSheet.j1 k l (i : Int) l (l.length : Int) (i : Int) true ((rd_T47 l i).f0) ((rd_T47 l i).f1) ((rd_T47 l i).f2)) (fun k => ?_) (Ev.step (f := fun _ => some false) (fun k => rfl) (Ev.now _))
          simp only [impl_IsSheet.l0, isHole_eq, Option.bind_some]
          rw [if_pos (by omega), if_pos (by omega), if_pos (by omega), if_neg (by simpa using hok')]
  · rw [decide_eq_false (fun h => h60 h.1)]
    exact ev_pos (by omega) (Ev.now _)

theorem l1In_eq (a b c : Int) : spec_l1In.f a b c = some (decide (b ≤ a ∧ a ≤ c)) := by
  unfold spec_l1In.f
  split <;> simp <;> omega

theorem shHole_eq (a b c : Int) : spec_shHole.f a b c = some (decide (0 ≤ a ∧ a < 20 ∧ 0 ≤ b ∧ b < c ∧ c ≤ 2000)) := by
  unfold spec_shHole.f
  simp only [l1In_eq, Option.bind_some, decide_eq_true_eq]
  by_cases h : 0 ≤ b ∧ b ≤ 1999
  · have e : wrap64 (b + 1) = b + 1 := by unfold wrap64; omega
    rw [e]
    repeat' split
    all_goals first | exact some_dec (by omega) (by omega) | exact some_dec_f (by omega)
  · rw [if_neg h]
    split
    all_goals exact some_dec_f (by omega)
theorem shBefore_eq (a b c a' b' c' : Int) : spec_shBefore.f a b c a' b' c' = some (decide (b < b' ∨ b = b' ∧ a < a')) := by
  unfold spec_shBefore.f
  repeat' split
  all_goals first | exact some_dec (by omega) (by omega) | exact some_dec_f (by omega) | exact some_dec_t (by omega)
theorem spec_isSh (l : List S47) (hl : l.length ≤ 1048576) : Ev (fun k => spec_shGood.f k l) (decide (isSh l)) := by
  unfold spec_shGood.f
  refine all_loop_g (fun k i => spec_shGood.l0 k l l (l.length : Int) i) l.length (shAt l) (decide ((l.length : Int) ≤ 60)) _ (by simp only [decide_eq_true_eq]; unfold isSh; exact ⟨fun h => ⟨h.2, by omega⟩, fun h => ⟨by omega, h.1⟩⟩) (fun _ => ?_) (fun i hi _ => ?_)
  · refine Ev.step (f := fun _ => some (decide ((l.length : Int) ≤ 60))) (fun k => ?_) (Ev.now _)
    simp only [spec_shGood.l0]
    rw [if_neg (by omega)]
  · have e1 := wn hi (by omega)
    have hin : ∀ q, ((∀ j, j < i → (rd_T47 l j).f0 = (rd_T47 l i).f0 → (rd_T47 l j).f2 < (rd_T47 l i).f1) → Ev (fun k => spec_shGood.l0 k l l (l.length : Int) ((i + 1 : Nat) : Int)) q) → (¬ (∀ j, j < i → (rd_T47 l j).f0 = (rd_T47 l i).f0 → (rd_T47 l j).f2 < (rd_T47 l i).f1) → q = false) →
        Ev (fun k => spec_shGood.j1 k l (i : Int) l (l.length : Int) (i : Int) false ((rd_T47 l i).f0) ((rd_T47 l i).f1) ((rd_T47 l i).f2)) q := by
      intro q h1 h2
      have hlen : (l.take i).length = i := by rw [List.length_take]; omega
      refine Ev.step (f := fun k => spec_shGood.l1 k l l (l.length : Int) (i : Int) (l.take i) (((l.take i).length : Nat) : Int) 0 ((rd_T47 l i).f0) ((rd_T47 l i).f1) ((rd_T47 l i).f2)) (fun k => ?_) ?_
      · simp only [spec_shGood.j1, Option.bind_some, Int.toNat_natCast]
        rw [if_neg (by simp), if_pos (by omega), if_pos (by omega)]
      · refine scan_loop (fun k j => spec_shGood.l1 k l l (l.length : Int) (i : Int) (l.take i) (((l.take i).length : Nat) : Int) j ((rd_T47 l i).f0) ((rd_T47 l i).f1) ((rd_T47 l i).f2)) i _ q false (fun hc => Ev.step (fun k => ?_) (h1 hc)) h2 (fun k j hj => ?_)
        · simp only [spec_shGood.l1, e1]
          rw [if_neg (by omega)]
        · have e2 := wn hj (by omega)
          simp only [spec_shGood.l1, e2, rdH_take l i j hj]
          constructor <;> intro h <;> (repeat' split) <;> first | rfl | (exfalso; omega)
    constructor
    · intro hP q hq
      have hok := hP.1
      unfold okH at hok
      by_cases hz : (i : Int) > 0
      · have e2 : wrap64 ((i : Int) - 1) = i - 1 := by unfold wrap64; omega
        have hb := hP.2.1 (by omega)
        unfold befH at hb
        refine Ev.step (fun k => ?_) (hin q (fun _ => hq) (fun hc => absurd hP.2.2 hc))
        simp only [spec_shGood.l0, shHole_eq, shBefore_eq, Option.bind_some, e2]
        rw [if_pos (by omega), if_pos (by omega), if_pos (by omega), if_pos (decide_eq_true hok), if_pos hz, if_pos (by omega), if_pos (by omega), decide_eq_true hb]
        rfl
      · refine Ev.step (fun k => ?_) (hin q (fun _ => hq) (fun hc => absurd hP.2.2 hc))
        simp only [spec_shGood.l0, shHole_eq, Option.bind_some]
        rw [if_pos (by omega), if_pos (by omega), if_pos (by omega), if_pos (decide_eq_true hok), if_neg hz]
    · intro hP
      by_cases hok : okH (rd_T47 l i)
      · have hok' := hok
        unfold okH at hok'
        by_cases hz : (i : Int) > 0
        · have e2 : wrap64 ((i : Int) - 1) = i - 1 := by unfold wrap64; omega
          by_cases hb : befH (rd_T47 l ((i : Int) - 1)) (rd_T47 l i)
          · have hb' := hb
            unfold befH at hb'
            refine Ev.step (fun k => ?_) (hin false (fun hc => absurd ⟨hok, fun _ => hb, hc⟩ hP) (fun _ => rfl))
            simp only [spec_shGood.l0, shHole_eq, shBefore_eq, Option.bind_some, e2]
            rw [if_pos (by omega), if_pos (by omega), if_pos (by omega), if_pos (decide_eq_true hok'), if_pos hz, if_pos (by omega), if_pos (by omega), decide_eq_true hb']
            rfl
          · have hb' := hb
            unfold befH at hb'
            refine Ev.step (f := fun k => spec_shGood.j1 k l (i : Int) l (l.length : Int) (i : Int) true ((rd_T47 l i).f0) ((rd_T47 l i).f1) ((rd_T47 l i).f2)) (fun k => ?_) (Ev.step (f := fun _ => some false) (fun k => rfl) (Ev.now _))
            simp only [spec_shGood.l0, shHole_eq, shBefore_eq, Option.bind_some, e2]
            rw [if_pos (by omega), if_pos (by omega), if_pos (by omega), if_pos (decide_eq_true hok'), if_pos hz, if_pos (by omega), if_pos (by omega), decide_eq_false hb']
            rfl
        · refine Ev.step (fun k => ?_) (hin false (fun hc => absurd ⟨hok, fun h => absurd h (by omega), hc⟩ hP) (fun _ => rfl))
          simp only [spec_shGood.l0, shHole_eq, Option.bind_some]
          rw [if_pos (by omega), if_pos (by omega), if_pos (by omega), if_pos (decide_eq_true hok'), if_neg hz]
      · have hok' := hok
        unfold okH at hok'
        refine Ev.step (f := fun k => spec_shGood.j1 k l (i : Int) l (l.length : Int) (i : Int) true ((rd_T47 l i).f0) ((rd_T47 l i).f1) ((rd_T47 l i).f2)) (fun k => ?_) (Ev.step (f := fun _ => some false) (fun k => rfl) (Ev.now _))
        simp only [spec_shGood.l0, shHole_eq, Option.bind_some]
        rw [if_pos (by omega), if_pos (by omega), if_pos (by omega), if_neg (by simpa using hok')]
end Go.Proofs.Ytghdiijfpepmhaa.PureFnExactApplyPatches
