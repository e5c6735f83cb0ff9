/- The plain statement of FnPassesPlays (lemmas): the law's function, over numbers and lists, answers true. No conditions beyond the arguments' own kinds. -/
import Derived.Test.YtdcchnfndhkfaaaSFnPassesPlays20
import Derived.Test.YtdcchnfndhkfaaaVFnPassesPlays
namespace Go.Proofs.Ytdcchnfndhkfaaa.PureFnPassesPlays
open Go Go.RowKit Go.Proofs.Ytdcchnfndhkfaaa.PFnPassesPlays Go.Proofs.YtdcchnfndhkfaaaW.PrintWords Go.Proofs.YtdcchnfndhkfaaaW.PrintLast Go.Proofs.YtdcchnfndhkfaaaW.PrintMore Go.Proofs.Ytdcchnfndhkfaaa.Lib
set_option linter.unusedVariables false
set_option linter.unusedSimpArgs false
/-- A loop that counts up to n, and what is known of its answer. -/
theorem ev_for_ex {σ ρ : Type} (L : Nat → σ → Int → Option ρ) (n : Nat) (Inv : Nat → σ → Prop) (Post : ρ → Prop) (hstop : ∀ s, Inv n s → ∃ r, Ev (fun k => L k s (n : Int)) r ∧ Post r)
    (hgo : ∀ i s, i < n → Inv i s → (∀ s', Inv (i + 1) s' → ∃ r, Ev (fun k => L k s' ((i + 1 : Nat) : Int)) r ∧ Post r) → ∃ r, Ev (fun k => L k s (i : Int)) r ∧ Post r) :
    ∀ i s, i ≤ n → Inv i s → ∃ r, Ev (fun k => L k s (i : Int)) r ∧ Post r := by
  have key : ∀ d i : Nat, n - i = d → i ≤ n → ∀ s, Inv i s → ∃ r, Ev (fun k => L k s (i : Int)) r ∧ Post r := by
    intro d
    induction d with
    | zero =>
      intro i hd hi s hs
      obtain rfl : i = n := by omega
      exact hstop s hs
    | succ d ih =>
      intro i hd hi s hs
      exact hgo i s (by omega) hs (fun s' hs' => ih (i + 1) (by omega) (by omega) s' hs')
  intro i s hi hs
  exact key (n - i) i rfl hi s hs
theorem wn {i n : Nat} (h : i < n) (hn : n ≤ 9223372036854775807) : wrap64 ((i : Int) + 1) = ((i + 1 : Nat) : Int) := by unfold wrap64; omega
/-- Whatever holds at the end of a count, and at i if it holds at i + 1, holds from everywhere. -/
theorem count_up {σ : Type} (n : Nat) (Inv Q : Nat → σ → Prop) (hstop : ∀ s, Inv n s → Q n s) (hgo : ∀ i s, i < n → Inv i s → (∀ s', Inv (i + 1) s' → Q (i + 1) s') → Q i s) : ∀ i s, i ≤ n → Inv i s → Q i s := by
  have key : ∀ d i : Nat, n - i = d → i ≤ n → ∀ s, Inv i s → Q i s := by
    intro d
    induction d with
    | zero =>
      intro i hd hi s hs
      obtain rfl : i = n := by omega
      exact hstop s hs
    | succ d ih =>
      intro i hd hi s hs
      exact hgo i s (by omega) hs (fun s' hs' => ih (i + 1) (by omega) (by omega) s' hs')
  intro i s hi hs
  exact key (n - i) i rfl hi s hs

/-- A loop of checks whose rounds may call: what is known of the places before may be used. -/
theorem all_loop_g (L : Nat → Int → Option Bool) (n : Nat) (P : Nat → Prop) (fin r : Bool) (hr : r = true ↔ (∀ i, i < n → P i) ∧ fin = true) (hstop : (∀ i, i < n → P i) → Ev (fun k => L k (n : Int)) fin)
    (hgo : ∀ i : Nat, i < n → (∀ j, j < i → P j) → (P i → ∀ q, Ev (fun k => L k ((i + 1 : Nat) : Int)) q → Ev (fun k => L k (i : Int)) q) ∧ (¬ P i → Ev (fun k => L k (i : Int)) false)) : Ev (fun k => L k 0) r := by
  have key : ∀ d i : Nat, n - i = d → i ≤ n → (∀ j, j < i → P j) → Ev (fun k => L k (i : Int)) r := by
    intro d
    induction d with
    | zero =>
      intro i hd hi hp
      obtain rfl : i = n := by omega
      refine ev_eq (hstop hp) ?_
      rw [Bool.eq_iff_iff, hr]
      exact ⟨fun h => ⟨hp, h⟩, fun h => h.2⟩
    | succ d ih =>
      intro i hd hi hp
      have hlt : i < n := by omega
      by_cases hc : P i
      · refine (hgo i hlt hp).1 hc r (ih (i + 1) (by omega) (by omega) (fun j hj => ?_))
        by_cases e : j = i
        · exact e ▸ hc
        · exact hp j (by omega)
      · refine ev_eq ((hgo i hlt hp).2 hc) ?_
        cases hrr : r with
        | false => rfl
        | true => exact absurd ((hr.1 hrr).1 i hlt) hc
  exact key n 0 (by omega) (by omega) (fun j hj => absurd hj (by omega))
/-- A loop that leaves with 'bad' at the first place that is not as it should be, and else goes on behind the last. -/
theorem scan_loop {α : Type} (L : Nat → Int → Option α) (n : Nat) (C : Nat → Prop) (q bad : α) (hstop : (∀ j, j < n → C j) → Ev (fun k => L k (n : Int)) q) (hbad : ¬ (∀ j, j < n → C j) → q = bad)
    (hgo : ∀ k (j : Nat), j < n → (C j → L (k + 1) (j : Int) = L k ((j + 1 : Nat) : Int)) ∧ (¬ C j → L (k + 1) (j : Int) = some bad)) : Ev (fun k => L k 0) q := by
  have key : ∀ d i : Nat, n - i = d → i ≤ n → (∀ j, j < i → C j) → Ev (fun k => L k (i : Int)) q := by
    intro d
    induction d with
    | zero =>
      intro i hd hi hp
      obtain rfl : i = n := by omega
      exact hstop hp
    | succ d ih =>
      intro i hd hi hp
      have hlt : i < n := by omega
      by_cases hc : C i
      · refine Ev.step (fun k => (hgo k i hlt).1 hc) (ih (i + 1) (by omega) (by omega) (fun j hj => ?_))
        by_cases e : j = i
        · exact e ▸ hc
        · exact hp j (by omega)
      · exact Ev.step (fun k => (hgo k i hlt).2 hc) (ev_now (hbad (fun h => hc (h i hlt))).symm)
  exact key n 0 (by omega) (by omega) (fun j hj => absurd hj (by omega))
/-- Rounds that only go on. -/
theorem skip_loop {α : Type} (L : Nat → Int → Option α) (r : α) (a b : Nat) (hab : a ≤ b) (h : ∀ j : Nat, a ≤ j → j < b → Ev (fun k => L k ((j + 1 : Nat) : Int)) r → Ev (fun k => L k (j : Int)) r) (hb : Ev (fun k => L k (b : Int)) r) : Ev (fun k => L k (a : Int)) r := by
  have key : ∀ d i : Nat, b - i = d → a ≤ i → i ≤ b → Ev (fun k => L k (i : Int)) r := by
    intro d
    induction d with
    | zero =>
      intro i hd hi hi2
      obtain rfl : i = b := by omega
      exact hb
    | succ d ih =>
      intro i hd hi hi2
      exact h i hi (by omega) (ih (i + 1) (by omega) (by omega) (by omega))
  exact key (b - a) a rfl (Nat.le_refl _) hab
theorem first_or_none (C : Nat → Prop) (n : Nat) : (∀ j, j < n → ¬ C j) ∨ ∃ i, i < n ∧ C i ∧ ∀ j, j < i → ¬ C j := by
  induction n with
  | zero => exact .inl (fun j hj => absurd hj (by omega))
  | succ n ih =>
    rcases ih with h | ⟨i, hi, hc, h⟩
    · by_cases c : C n
      · exact .inr ⟨n, by omega, c, h⟩
      · refine .inl (fun j hj => ?_)
        by_cases e : j = n
        · exact e ▸ c
        · exact h j (by omega)
    · exact .inr ⟨i, by omega, hc, h⟩

def okH (x : S60) : Prop := 0 ≤ x.f0 ∧ x.f0 < 20 ∧ 0 ≤ x.f1 ∧ x.f1 < x.f2 ∧ x.f2 ≤ 2000
instance (x : S60) : Decidable (okH x) := by unfold okH; infer_instance
def befH (a b : S60) : Prop := a.f1 < b.f1 ∨ a.f1 = b.f1 ∧ a.f0 < b.f0
instance (a b : S60) : Decidable (befH a b) := by unfold befH; infer_instance
def shAt (l : List S60) (i : Nat) : Prop := okH (rd_T60 l i) ∧ (i > 0 → befH (rd_T60 l ((i : Int) - 1)) (rd_T60 l i)) ∧ ∀ j, j < i → (rd_T60 l j).f0 = (rd_T60 l i).f0 → (rd_T60 l j).f2 < (rd_T60 l i).f1
instance (l : List S60) (i : Nat) : Decidable (shAt l i) := by unfold shAt; infer_instance
def isSh (l : List S60) : Prop := l.length ≤ 60 ∧ ∀ i, i < l.length → shAt l i
instance (l : List S60) : Decidable (isSh l) := by unfold isSh; infer_instance
theorem rdH_take (l : List S60) (i j : Nat) (h : j < i) : rd_T60 (l.take i) (j : Int) = rd_T60 l (j : Int) := by
  unfold rd_T60
  rw [Int.toNat_natCast, List.getD_eq_getElem?_getD, List.getD_eq_getElem?_getD, List.getElem?_take_of_lt h]
theorem isSh_get {l : List S60} (h : isSh l) {i : Nat} (hi : i < l.length) : okH l[i] := by
  have := (h.2 i hi).1
  unfold rd_T60 at this
  rwa [rd_get hi] at this

theorem isHole_eq (a b c : Int) : impl_IsHole.f a b c = some (decide (0 ≤ a ∧ a < 20 ∧ 0 ≤ b ∧ b < c ∧ c ≤ 2000)) := by
  unfold impl_IsHole.f impl_isTrack.f
  repeat' split
  all_goals simp only [Option.bind_some, decide_eq_true_eq, Bool.false_eq_true, ↓reduceIte]
  all_goals (repeat' split)
  all_goals first | exact some_dec (by omega) (by omega) | exact some_dec_f (by omega)
theorem holeLess_eq (a b c a' b' c' : Int) : impl_holeLess.f a b c a' b' c' = some (decide (b < b' ∨ b = b' ∧ a < a')) := by
  unfold impl_holeLess.f
  split
  all_goals exact some_dec (by omega) (by omega)
theorem impl_isSh (l : List S60) (hl : l.length ≤ 1048576) : Ev (fun k => impl_IsSheet.f k l) (decide (isSh l)) := by
  unfold impl_IsSheet.f
  by_cases h60 : l.length ≤ 60
  · refine ev_neg (by omega) (all_loop_g (fun k i => impl_IsSheet.l0 k l l (l.length : Int) i) l.length (shAt l) true _ (by simp [isSh, h60]) (fun _ => ?_) (fun i hi _ => ?_))
    · refine Ev.step (f := fun _ => some true) (fun k => ?_) (Ev.now _)
      simp only [impl_IsSheet.l0]
      rw [if_neg (by omega)]
    · have e1 := wn hi (by omega)
      have hin : ∀ q, ((∀ j, j < i → (rd_T60 l j).f0 = (rd_T60 l i).f0 → (rd_T60 l j).f2 < (rd_T60 l i).f1) → Ev (fun k => impl_IsSheet.l0 k l l (l.length : Int) ((i + 1 : Nat) : Int)) q) → (¬ (∀ j, j < i → (rd_T60 l j).f0 = (rd_T60 l i).f0 → (rd_T60 l j).f2 < (rd_T60 l i).f1) → q = false) →
          Ev (fun k => impl_IsSheet.j1 k l (i : Int) l (l.length : Int) (i : Int) false ((rd_T60 l i).f0) ((rd_T60 l i).f1) ((rd_T60 l i).f2)) q := by
        intro q h1 h2
        have hlen : (l.take i).length = i := by rw [List.length_take]; omega
        refine Ev.step (f := fun k => impl_IsSheet.l1 k l l (l.length : Int) (i : Int) (l.take i) (((l.take i).length : Nat) : Int) 0 ((rd_T60 l i).f0) ((rd_T60 l i).f1) ((rd_T60 l i).f2)) (fun k => ?_) ?_
        · simp only [impl_IsSheet.j1, Option.bind_some, Int.toNat_natCast]
          rw [if_neg (by simp), if_pos (by omega), if_pos (by omega)]
        · refine scan_loop (fun k j => impl_IsSheet.l1 k l l (l.length : Int) (i : Int) (l.take i) (((l.take i).length : Nat) : Int) j ((rd_T60 l i).f0) ((rd_T60 l i).f1) ((rd_T60 l i).f2)) i _ q false (fun hc => Ev.step (fun k => ?_) (h1 hc)) h2 (fun k j hj => ?_)
          · simp only [impl_IsSheet.l1, e1]
            rw [if_neg (by omega)]
          · have e2 := wn hj (by omega)
            simp only [impl_IsSheet.l1, e2, rdH_take l i j hj]
            constructor <;> intro h <;> (repeat' split) <;> first | rfl | (exfalso; omega)
      constructor
      · intro hP q hq
        have hok := hP.1
        unfold okH at hok
        by_cases hz : (i : Int) > 0
        · have e2 : wrap64 ((i : Int) - 1) = i - 1 := by unfold wrap64; omega
          have hb := hP.2.1 (by omega)
          unfold befH at hb
          refine Ev.step (fun k => ?_) (hin q (fun _ => hq) (fun hc => absurd hP.2.2 hc))
          simp only [impl_IsSheet.l0, isHole_eq, holeLess_eq, Option.bind_some, e2]
          rw [if_pos (by omega), if_pos (by omega), if_pos (by omega), if_pos (decide_eq_true hok), if_pos hz, if_pos (by omega), if_pos (by omega), decide_eq_true hb]
          rfl
        · refine Ev.step (fun k => ?_) (hin q (fun _ => hq) (fun hc => absurd hP.2.2 hc))
          simp only [impl_IsSheet.l0, isHole_eq, Option.bind_some]
          rw [if_pos (by omega), if_pos (by omega), if_pos (by omega), if_pos (decide_eq_true hok), if_neg hz]
      · intro hP
        by_cases hok : okH (rd_T60 l i)
        · have hok' := hok
          unfold okH at hok'
          by_cases hz : (i : Int) > 0
          · have e2 : wrap64 ((i : Int) - 1) = i - 1 := by unfold wrap64; omega
            by_cases hb : befH (rd_T60 l ((i : Int) - 1)) (rd_T60 l i)
            · have hb' := hb
              unfold befH at hb'
              refine Ev.step (fun k => ?_) (hin false (fun hc => absurd ⟨hok, fun _ => hb, hc⟩ hP) (fun _ => rfl))
              simp only [impl_IsSheet.l0, isHole_eq, holeLess_eq, Option.bind_some, e2]
              rw [if_pos (by omega), if_pos (by omega), if_pos (by omega), if_pos (decide_eq_true hok'), if_pos hz, if_pos (by omega), if_pos (by omega), decide_eq_true hb']
              rfl
            · have hb' := hb
              unfold befH at hb'
              refine Ev.step (f := fun k => impl_IsSheet.j1 k l (i : Int) l (l.length : Int) (i : Int) true ((rd_T60 l i).f0) ((rd_T60 l i).f1) ((rd_T60 l i).f2)) (fun k => ?_) (Ev.step (f := fun _ => some false) (fun k => rfl) (Ev.now _))
              simp only [impl_IsSheet.l0, isHole_eq, holeLess_eq, Option.bind_some, e2]
              rw [if_pos (by omega), if_pos (by omega), if_pos (by omega), if_pos (decide_eq_true hok'), if_pos hz, if_pos (by omega), if_pos (by omega), decide_eq_false hb']
              rfl
          · refine Ev.step (fun k => ?_) (hin false (fun hc => absurd ⟨hok, fun h => absurd h (by omega), hc⟩ hP) (fun _ => rfl))
            simp only [impl_IsSheet.l0, isHole_eq, Option.bind_some]
            rw [if_pos (by omega), if_pos (by omega), if_pos (by omega), if_pos (decide_eq_true hok'), if_neg hz]
        · have hok' := hok
          unfold okH at hok'
          refine Ev.step (f := fun k => impl_IsSheet.j1 k l (i : Int) l (l.length : Int) (i : Int) true ((rd_T60 l i).f0) ((rd_T60 l i).f1) ((rd_T60 l i).f2)) (fun k => ?_) (Ev.step (f := fun _ => some false) (fun k => rfl) (Ev.now _))
          simp only [impl_IsSheet.l0, isHole_eq, Option.bind_some]
          rw [if_pos (by omega), if_pos (by omega), if_pos (by omega), if_neg (by simpa using hok')]
  · rw [decide_eq_false (fun h => h60 h.1)]
    exact ev_pos (by omega) (Ev.now _)

def okN (x : S35) : Prop := 24 ≤ x.f0 ∧ x.f0 ≤ 96 ∧ 0 ≤ x.f1 ∧ x.f1 ≤ 999 ∧ 1 ≤ x.f2 ∧ x.f2 ≤ 99
instance (x : S35) : Decidable (okN x) := by unfold okN; infer_instance
def befN (a b : S35) : Prop := a.f1 < b.f1 ∨ a.f1 = b.f1 ∧ a.f0 < b.f0
instance (a b : S35) : Decidable (befN a b) := by unfold befN; infer_instance
def scAt (l : List S35) (i : Nat) : Prop := okN (rd_T35 l i) ∧ (i > 0 → befN (rd_T35 l ((i : Int) - 1)) (rd_T35 l i)) ∧ ∀ j, j < i → (rd_T35 l j).f0 = (rd_T35 l i).f0 → (rd_T35 l j).f1 + (rd_T35 l j).f2 ≤ (rd_T35 l i).f1
instance (l : List S35) (i : Nat) : Decidable (scAt l i) := by unfold scAt; infer_instance
def isSc (l : List S35) : Prop := l.length ≤ 30 ∧ ∀ i, i < l.length → scAt l i
instance (l : List S35) : Decidable (isSc l) := by unfold isSc; infer_instance
theorem rdN_take (l : List S35) (i j : Nat) (h : j < i) : rd_T35 (l.take i) (j : Int) = rd_T35 l (j : Int) := by
  unfold rd_T35
  rw [Int.toNat_natCast, List.getD_eq_getElem?_getD, List.getD_eq_getElem?_getD, List.getElem?_take_of_lt h]
theorem isNote_eq (a b c : Int) : impl_IsNote.f a b c = some (decide (24 ≤ a ∧ a ≤ 96 ∧ 0 ≤ b ∧ b ≤ 999 ∧ 1 ≤ c ∧ c ≤ 99)) := by
  unfold impl_IsNote.f
  repeat' split
  all_goals first | exact some_dec (by omega) (by omega) | exact some_dec_f (by omega)
theorem noteLess_eq (a b c a' b' c' : Int) : impl_noteLess.f a b c a' b' c' = some (decide (b < b' ∨ b = b' ∧ a < a')) := by
  unfold impl_noteLess.f
  split
  all_goals exact some_dec (by omega) (by omega)
theorem impl_isSc (l : List S35) (hl : l.length ≤ 1048576) : Ev (fun k => impl_IsScore.f k l) (decide (isSc l)) := by
  unfold impl_IsScore.f
  by_cases h30 : l.length ≤ 30
  · refine ev_neg (by omega) (all_loop_g (fun k i => impl_IsScore.l0 k l l (l.length : Int) i) l.length (scAt l) true _ (by simp [isSc, h30]) (fun _ => ?_) (fun i hi hp => ?_))
    · refine Ev.step (f := fun _ => some true) (fun k => ?_) (Ev.now _)
      simp only [impl_IsScore.l0]
      rw [if_neg (by omega)]
    · have e1 := wn hi (by omega)
      have hin : ∀ q, ((∀ j, j < i → (rd_T35 l j).f0 = (rd_T35 l i).f0 → (rd_T35 l j).f1 + (rd_T35 l j).f2 ≤ (rd_T35 l i).f1) → Ev (fun k => impl_IsScore.l0 k l l (l.length : Int) ((i + 1 : Nat) : Int)) q) → (¬ (∀ j, j < i → (rd_T35 l j).f0 = (rd_T35 l i).f0 → (rd_T35 l j).f1 + (rd_T35 l j).f2 ≤ (rd_T35 l i).f1) → q = false) →
          Ev (fun k => impl_IsScore.j1 k l (i : Int) l (l.length : Int) (i : Int) false ((rd_T35 l i).f0) ((rd_T35 l i).f1) ((rd_T35 l i).f2)) q := by
        intro q h1 h2
        have hlen : (l.take i).length = i := by rw [List.length_take]; omega
        refine Ev.step (f := fun k => impl_IsScore.l1 k l l (l.length : Int) (i : Int) (l.take i) (((l.take i).length : Nat) : Int) 0 ((rd_T35 l i).f0) ((rd_T35 l i).f1) ((rd_T35 l i).f2)) (fun k => ?_) ?_
        · simp only [impl_IsScore.j1, Option.bind_some, Int.toNat_natCast]
          rw [if_neg (by simp), if_pos (by omega), if_pos (by omega)]
        · refine scan_loop (fun k j => impl_IsScore.l1 k l l (l.length : Int) (i : Int) (l.take i) (((l.take i).length : Nat) : Int) j ((rd_T35 l i).f0) ((rd_T35 l i).f1) ((rd_T35 l i).f2)) i _ q false (fun hc => Ev.step (fun k => ?_) (h1 hc)) h2 (fun k j hj => ?_)
          · simp only [impl_IsScore.l1, e1]
            rw [if_neg (by omega)]
          · have e2 := wn hj (by omega)
            have hj2 := (hp j hj).1
            unfold okN at hj2
            have e3 : wrap64 ((rd_T35 l j).f1 + (rd_T35 l j).f2) = (rd_T35 l j).f1 + (rd_T35 l j).f2 := by unfold wrap64; omega
            simp only [impl_IsScore.l1, impl_noteEnd.f, Option.bind_some, e2, e3, rdN_take l i j hj]
            constructor <;> intro h <;> (repeat' split) <;> first | rfl | (exfalso; omega)
      constructor
      · intro hP q hq
        have hok := hP.1
        unfold okN at hok
        by_cases hz : (i : Int) > 0
        · have e2 : wrap64 ((i : Int) - 1) = i - 1 := by unfold wrap64; omega
          have hb := hP.2.1 (by omega)
          unfold befN at hb
          refine Ev.step (fun k => ?_) (hin q (fun _ => hq) (fun hc => absurd hP.2.2 hc))
          simp only [impl_IsScore.l0, isNote_eq, noteLess_eq, Option.bind_some, e2]
          rw [if_pos (by omega), if_pos (by omega), if_pos (by omega), if_pos (decide_eq_true hok), if_pos hz, if_pos (by omega), if_pos (by omega), decide_eq_true hb]
          rfl
        · refine Ev.step (fun k => ?_) (hin q (fun _ => hq) (fun hc => absurd hP.2.2 hc))
          simp only [impl_IsScore.l0, isNote_eq, Option.bind_some]
          rw [if_pos (by omega), if_pos (by omega), if_pos (by omega), if_pos (decide_eq_true hok), if_neg hz]
      · intro hP
        by_cases hok : okN (rd_T35 l i)
        · have hok' := hok
          unfold okN at hok'
          by_cases hz : (i : Int) > 0
          · have e2 : wrap64 ((i : Int) - 1) = i - 1 := by unfold wrap64; omega
            by_cases hb : befN (rd_T35 l ((i : Int) - 1)) (rd_T35 l i)
            · have hb' := hb
              unfold befN at hb'
              refine Ev.step (fun k => ?_) (hin false (fun hc => absurd ⟨hok, fun _ => hb, hc⟩ hP) (fun _ => rfl))
              simp only [impl_IsScore.l0, isNote_eq, noteLess_eq, Option.bind_some, e2]
              rw [if_pos (by omega), if_pos (by omega), if_pos (by omega), if_pos (decide_eq_true hok'), if_pos hz, if_pos (by omega), if_pos (by omega), decide_eq_true hb']
              rfl
            · have hb' := hb
              unfold befN at hb'
              refine Ev.step (f := fun k => impl_IsScore.j1 k l (i : Int) l (l.length : Int) (i : Int) true ((rd_T35 l i).f0) ((rd_T35 l i).f1) ((rd_T35 l i).f2)) (fun k => ?_) (Ev.step (f := fun _ => some false) (fun k => rfl) (Ev.now _))
              simp only [impl_IsScore.l0, isNote_eq, noteLess_eq, Option.bind_some, e2]
              rw [if_pos (by omega), if_pos (by omega), if_pos (by omega), if_pos (decide_eq_true hok'), if_pos hz, if_pos (by omega), if_pos (by omega), decide_eq_false hb']
              rfl
          · refine Ev.step (fun k => ?_) (hin false (fun hc => absurd ⟨hok, fun h => absurd h (by omega), hc⟩ hP) (fun _ => rfl))
            simp only [impl_IsScore.l0, isNote_eq, Option.bind_some]
            rw [if_pos (by omega), if_pos (by omega), if_pos (by omega), if_pos (decide_eq_true hok'), if_neg hz]
        · have hok' := hok
          unfold okN at hok'
          refine Ev.step (f := fun k => impl_IsScore.j1 k l (i : Int) l (l.length : Int) (i : Int) true ((rd_T35 l i).f0) ((rd_T35 l i).f1) ((rd_T35 l i).f2)) (fun k => ?_) (Ev.step (f := fun _ => some false) (fun k => rfl) (Ev.now _))
          simp only [impl_IsScore.l0, isNote_eq, Option.bind_some]
          rw [if_pos (by omega), if_pos (by omega), if_pos (by omega), if_neg (by simpa using hok')]
  · rw [decide_eq_false (fun h => h30 h.1)]
    exact ev_pos (by omega) (Ev.now _)

theorem isPitch_eq (a : Int) : impl_isPitch.f a = some (decide (24 ≤ a ∧ a ≤ 96)) := by
  unfold impl_isPitch.f
  split <;> simp <;> omega

def inAt (l : List Int) (i : Nat) : Prop := 24 ≤ rd l i ∧ rd l i ≤ 96 ∧ (i > 0 → rd l ((i : Int) - 1) < rd l i)
instance (l : List Int) (i : Nat) : Decidable (inAt l i) := by unfold inAt; infer_instance
def isIn (l : List Int) (p : Int) : Prop := 1 ≤ l.length ∧ l.length ≤ 20 ∧ 1 ≤ p ∧ p ≤ 20 ∧ ∀ i, i < l.length → inAt l i
instance (l : List Int) (p : Int) : Decidable (isIn l p) := by unfold isIn; infer_instance
theorem impl_isIn (l : List Int) (p : Int) (hl : l.length ≤ 1048576) : Ev (fun k => impl_IsInstrument.f k l p) (decide (isIn l p)) := by
  unfold impl_IsInstrument.f
  by_cases h : 1 ≤ l.length ∧ l.length ≤ 20 ∧ 1 ≤ p ∧ p ≤ 20
  · refine ev_neg (by omega) (ev_neg (by omega) (ev_neg (by omega) (Ev.step (f := fun k => impl_IsInstrument.l0 k l (l.length : Int) 0 l p) (fun k => ?_) ?_)))
    · simp only [impl_IsInstrument.j0]
      rw [if_neg (by simp; omega)]
    · refine all_loop (fun k i => impl_IsInstrument.l0 k l (l.length : Int) i l p) l.length (inAt l) true _ (by simp [isIn, h]) (fun k => ?_) (fun k i hi => ?_)
      · simp only [impl_IsInstrument.l0]
        rw [if_neg (by omega)]
      · have e1 : wrap64 ((i : Int) + 1) = i + 1 := by unfold wrap64; omega
        simp only [impl_IsInstrument.l0, isPitch_eq, Option.bind_some, decide_eq_true_eq, e1]
        unfold inAt
        by_cases hz : (i : Int) > 0
        · have e2 : wrap64 ((i : Int) - 1) = i - 1 := by unfold wrap64; omega
          simp only [e2]
          constructor <;> intro h <;> (repeat' split) <;> first | rfl | (exfalso; omega)
        · constructor <;> intro h <;> (repeat' split) <;> first | rfl | (exfalso; omega)
  · have e : decide (isIn l p) = false := decide_eq_false (fun hp => h ⟨hp.1, hp.2.1, hp.2.2.1, hp.2.2.2.1⟩)
    rw [e]
    refine ev_ite (fun hc => Ev.step (f := fun _ => some false) (fun k => rfl) (Ev.now _)) (fun hc => ev_ite (fun hc => Ev.step (f := fun _ => some false) (fun k => rfl) (Ev.now _)) (fun hc => ev_ite (fun hc => Ev.step (f := fun _ => some false) (fun k => rfl) (Ev.now _)) (fun hc => Ev.step (f := fun _ => some false) (fun k => ?_) (Ev.now _))))
    simp only [impl_IsInstrument.j0]
    rw [if_pos (by simp; omega)]

theorem impl_can (pi : List Int) (rp : Int) (l : List S35) (s : List S60) (h1 : pi.length ≤ 1048576) (h2 : l.length ≤ 1048576) (h3 : s.length ≤ 1048576) : Ev (fun k => impl_canMatch.f k pi rp l s) (decide (isIn pi rp ∧ isSc l ∧ isSh s)) := by
  unfold impl_canMatch.f
  refine Ev.bind (impl_isIn pi rp h1) (ev_ite (fun c1 => Ev.bind (impl_isSc l h2) (ev_ite (fun c2 => Ev.bind (impl_isSh s h3) (ev_now ?_)) (fun c2 => ev_now ?_))) (fun c1 => ev_now ?_))
  · exact decide_eq_decide.2 ⟨fun c3 => ⟨of_decide_eq_true c1, of_decide_eq_true c2, c3⟩, fun c => c.2.2⟩
  · exact (decide_eq_false (fun c => c2 (decide_eq_true c.2.1))).symm
  · exact (decide_eq_false (fun c => c1 (decide_eq_true c.1))).symm
end Go.Proofs.Ytdcchnfndhkfaaa.PureFnPassesPlays
