/- The plain statement of FnStrikes (lemmas): the law's function, over numbers and lists, answers true. No conditions beyond the arguments' own kinds. -/
import Derived.Test.YtiekokdlcgpcdaaSFnStrikes13
import Derived.Test.YtiekokdlcgpcdaaVFnStrikes
namespace Go.Proofs.Ytiekokdlcgpcdaa.PureFnStrikes
open Go Go.RowKit Go.Proofs.Ytiekokdlcgpcdaa.PFnStrikes Go.Proofs.YtiekokdlcgpcdaaW.PrintWords Go.Proofs.YtiekokdlcgpcdaaW.PrintLast Go.Proofs.YtiekokdlcgpcdaaW.PrintMore Go.Proofs.Ytiekokdlcgpcdaa.Lib
set_option linter.unusedVariables false
set_option linter.unusedSimpArgs false
/-- A loop that counts up to n, and what is known of its answer. -/
theorem ev_for_ex {σ ρ : Type} (L : Nat → σ → Int → Option ρ) (n : Nat) (Inv : Nat → σ → Prop) (Post : ρ → Prop) (hstop : ∀ s, Inv n s → ∃ r, Ev (fun k => L k s (n : Int)) r ∧ Post r)
    (hgo : ∀ i s, i < n → Inv i s → (∀ s', Inv (i + 1) s' → ∃ r, Ev (fun k => L k s' ((i + 1 : Nat) : Int)) r ∧ Post r) → ∃ r, Ev (fun k => L k s (i : Int)) r ∧ Post r) :
    ∀ i s, i ≤ n → Inv i s → ∃ r, Ev (fun k => L k s (i : Int)) r ∧ Post r := by
  have key : ∀ d i : Nat, n - i = d → i ≤ n → ∀ s, Inv i s → ∃ r, Ev (fun k => L k s (i : Int)) r ∧ Post r := by
    intro d
    induction d with
    | zero =>
      intro i hd hi s hs
      obtain rfl : i = n := by omega
      exact hstop s hs
    | succ d ih =>
      intro i hd hi s hs
      exact hgo i s (by omega) hs (fun s' hs' => ih (i + 1) (by omega) (by omega) s' hs')
  intro i s hi hs
  exact key (n - i) i rfl hi s hs
theorem wn {i n : Nat} (h : i < n) (hn : n ≤ 9223372036854775807) : wrap64 ((i : Int) + 1) = ((i + 1 : Nat) : Int) := by unfold wrap64; omega
/-- Whatever holds at the end of a count, and at i if it holds at i + 1, holds from everywhere. -/
theorem count_up {σ : Type} (n : Nat) (Inv Q : Nat → σ → Prop) (hstop : ∀ s, Inv n s → Q n s) (hgo : ∀ i s, i < n → Inv i s → (∀ s', Inv (i + 1) s' → Q (i + 1) s') → Q i s) : ∀ i s, i ≤ n → Inv i s → Q i s := by
  have key : ∀ d i : Nat, n - i = d → i ≤ n → ∀ s, Inv i s → Q i s := by
    intro d
    induction d with
    | zero =>
      intro i hd hi s hs
      obtain rfl : i = n := by omega
      exact hstop s hs
    | succ d ih =>
      intro i hd hi s hs
      exact hgo i s (by omega) hs (fun s' hs' => ih (i + 1) (by omega) (by omega) s' hs')
  intro i s hi hs
  exact key (n - i) i rfl hi s hs

theorem sub_len {α : Type} [BEq α] [LawfulBEq α] : ∀ (a b : List α), a.Nodup → (∀ x ∈ a, x ∈ b) → a.length ≤ b.length := by
  intro a
  induction a with
  | nil => intro b _ _; exact Nat.zero_le _
  | cons x t ih =>
    intro b hn hs
    have hx : x ∈ b := hs x (List.mem_cons_self ..)
    have hn' := List.nodup_cons.1 hn
    have h := ih (b.erase x) hn'.2 (fun y hy => by
      have hne : y ≠ x := fun e => hn'.1 (e ▸ hy)
      exact (List.mem_erase_of_ne hne).2 (hs y (List.mem_cons_of_mem _ hy)))
    rw [List.length_erase_of_mem hx] at h
    have : 0 < b.length := List.length_pos_of_mem hx
    rw [List.length_cons]
    omega
/-- The strikes up to the i-th of its pitch that are less than the rest ahead of it. -/
def near (P S : Nat → Int) (rest : Int) (i : Nat) : List Nat := (List.range (i + 1)).filter fun j => decide (P j = P i ∧ S i - S j < rest)
def kept1 (P : Nat → Int) (S : Nat → Int) (T : Int → List Int) (rest : Int) (g : Nat → Int) (i : Nat) : Prop :=
  (∀ j, j < i → g j ∈ T (P j)) ∧ ∀ j k, j < k → k < i → g j = g k → rest ≤ S k - S j
theorem map_nodup {α β : Type} (f : α → β) : ∀ l : List α, l.Nodup → (∀ x ∈ l, ∀ y ∈ l, f x = f y → x = y) → (l.map f).Nodup := by
  intro l
  induction l with
  | nil => intro _ _; exact List.nodup_nil
  | cons a t ih =>
    intro hn hf
    have hn' := List.nodup_cons.1 hn
    rw [List.map_cons, List.nodup_cons]
    refine ⟨fun h => ?_, ih hn'.2 (fun x hx y hy => hf x (List.mem_cons_of_mem _ hx) y (List.mem_cons_of_mem _ hy))⟩
    obtain ⟨y, hy, e⟩ := List.mem_map.1 h
    exact hn'.1 (hf y (List.mem_cons_of_mem _ hy) a (List.mem_cons_self ..) e ▸ hy)
/-- Where strikes are given, there are as many teeth as are near. -/
theorem near_le {P S : Nat → Int} {T : Int → List Int} {rest : Int} {g : Nat → Int} {n i : Nat} (h : kept1 P S T rest g n) (hi : i < n) (hS : ∀ j k, j ≤ k → k < n → S j ≤ S k) : (near P S rest i).length ≤ (T (P i)).length := by
  have hm : ∀ j, j ∈ near P S rest i → j ≤ i ∧ P j = P i ∧ S i - S j < rest := fun j hj => by
    unfold near at hj
    have := List.mem_filter.1 hj
    have h1 := List.mem_range.1 this.1
    have h2 := of_decide_eq_true this.2
    exact ⟨by omega, h2⟩
  have hl : ((near P S rest i).map g).length = (near P S rest i).length := List.length_map ..
  rw [← hl]
  refine sub_len _ _ (map_nodup g _ (List.Nodup.sublist List.filter_sublist List.nodup_range) (fun x hx y hy e => ?_)) (fun x hx => ?_)
  · have a := hm x hx
    have b := hm y hy
    rcases Nat.lt_trichotomy x y with c | c | c
    · have := h.2 x y c (by omega) e
      have := hS y i b.1 hi
      omega
    · exact c
    · have := h.2 y x c (by omega) e.symm
      have := hS x i a.1 hi
      omega
  · obtain ⟨j, hj, e⟩ := List.mem_map.1 hx
    have a := hm j hj
    rw [← e, ← a.2.1]
    exact h.1 j (by omega)
/-- Where no tooth is free, more are near than there are teeth. -/
theorem near_gt {P S : Nat → Int} {T : Int → List Int} {rest : Int} {g : Nat → Int} {i : Nat} (h : kept1 P S T rest g i) (hr : 0 < rest) (hn : (T (P i)).Nodup) (hT : ∀ p q t, t ∈ T p → t ∈ T q → p = q) (hb : ∀ t ∈ T (P i), ∃ j, j < i ∧ g j = t ∧ S i - S j < rest) : (T (P i)).length < (near P S rest i).length := by
  have hl : (T (P i)).length ≤ (((near P S rest i).filter fun j => decide (j < i)).map g).length := by
    refine sub_len _ _ hn (fun t ht => ?_)
    obtain ⟨j, h1, h2, h3⟩ := hb t ht
    refine List.mem_map.2 ⟨j, List.mem_filter.2 ⟨List.mem_filter.2 ⟨List.mem_range.2 (by omega), decide_eq_true ⟨?_, h3⟩⟩, decide_eq_true h1⟩, h2⟩
    exact hT _ _ t (h2 ▸ h.1 j h1) ht
  rw [List.length_map] at hl
  have hs : (near P S rest i) = ((near P S rest i).filter fun j => decide (j < i)) ++ [i] := by
    unfold near
    rw [List.range_succ, List.filter_append, List.filter_append]
    have e1 : List.filter (fun j => decide (P j = P i ∧ S i - S j < rest)) [i] = [i] := by
      have hc : decide (P i = P i ∧ S i - S i < rest) = true := decide_eq_true ⟨rfl, by omega⟩
      show (match decide (P i = P i ∧ S i - S i < rest) with | true => i :: [] | false => []) = [i]
      rw [hc]
    have e2 : List.filter (fun j => decide (j < i)) [i] = [] := by
      show (match decide (i < i) with | true => i :: [] | false => []) = []
      rw [decide_eq_false (Nat.lt_irrefl i)]
    rw [e1, e2, List.append_nil]
    congr 1
    refine (List.filter_eq_self.2 (fun x hx => ?_)).symm
    exact decide_eq_true (List.mem_range.1 (List.mem_filter.1 hx).1)
  rw [hs, List.length_append, List.length_singleton]
  omega

theorem isPitch_eq (a : Int) : impl_isPitch.f a = some (decide (24 ≤ a ∧ a ≤ 96)) := by
  unfold impl_isPitch.f
  split <;> simp <;> omega

theorem l1In_eq (a b c : Int) : spec_l1In.f a b c = some (decide (b ≤ a ∧ a ≤ c)) := by
  unfold spec_l1In.f
  split <;> simp <;> omega

theorem ntPitch_eq (a : Int) : spec_ntPitch.f a = some (decide (24 ≤ a ∧ a ≤ 96)) := by
  unfold spec_ntPitch.f
  rw [l1In_eq]; rfl

def okS (l : List S45) (i : Nat) : Prop := 24 ≤ (rd_T45 l i).f0 ∧ (rd_T45 l i).f0 ≤ 96 ∧ 0 ≤ (rd_T45 l i).f1 ∧ (rd_T45 l i).f1 ≤ 2000 ∧ (i > 0 → (rd_T45 l ((i : Int) - 1)).f1 ≤ (rd_T45 l i).f1)
instance (l : List S45) (i : Nat) : Decidable (okS l i) := by unfold okS; infer_instance
def areS (l : List S45) : Prop := (∀ i, i < l.length → okS l i) ∧ l.length ≤ 40
instance (l : List S45) : Decidable (areS l) := by unfold areS; infer_instance
theorem areS_iff (l : List S45) : decide (areS l) = true ↔ (∀ i, i < l.length → okS l i) ∧ decide ((l.length : Int) ≤ 40) = true := by
  simp only [decide_eq_true_eq]
  unfold areS
  exact ⟨fun h => ⟨h.1, by omega⟩, fun h => ⟨h.1, by omega⟩⟩
theorem impl_areS (l : List S45) (hl : l.length ≤ 1048576) : Ev (fun k => impl_AreStrikes.f k l) (decide (areS l)) := by
  refine all_loop (fun k i => impl_AreStrikes.l0 k l l (l.length : Int) i) l.length (okS l) _ _ (areS_iff l) (fun k => ?_) (fun k i hi => ?_)
  · simp only [impl_AreStrikes.l0]
    rw [if_neg (by omega)]
  · have e1 : wrap64 ((i : Int) + 1) = i + 1 := by unfold wrap64; omega
    simp only [impl_AreStrikes.l0, isPitch_eq, Option.bind_some, decide_eq_true_eq, e1]
    unfold okS
    by_cases hz : (i : Int) > 0
    · have e2 : wrap64 ((i : Int) - 1) = i - 1 := by unfold wrap64; omega
      simp only [e2]
      constructor <;> intro h <;> (repeat' split) <;> first | rfl | (exfalso; omega)
    · constructor <;> intro h <;> (repeat' split) <;> first | rfl | (exfalso; omega)
theorem spec_areS (l : List S45) (hl : l.length ≤ 1048576) : Ev (fun k => spec_coStrikes.f k l) (decide (areS l)) := by
  refine all_loop (fun k i => spec_coStrikes.l0 k l l (l.length : Int) i) l.length (okS l) _ _ (areS_iff l) (fun k => ?_) (fun k i hi => ?_)
  · simp only [spec_coStrikes.l0]
    rw [if_neg (by omega)]
  · have e1 : wrap64 ((i : Int) + 1) = i + 1 := by unfold wrap64; omega
    simp only [spec_coStrikes.l0, ntPitch_eq, l1In_eq, Option.bind_some, decide_eq_true_eq, e1]
    unfold okS
    by_cases hz : (i : Int) > 0
    · have e2 : wrap64 ((i : Int) - 1) = i - 1 := by unfold wrap64; omega
      simp only [e2]
      constructor <;> intro h <;> (repeat' split) <;> first | rfl | (exfalso; omega)
    · constructor <;> intro h <;> (repeat' split) <;> first | rfl | (exfalso; omega)
/-- A loop of checks whose rounds may call: what is known of the places before may be used. -/
theorem all_loop_g (L : Nat → Int → Option Bool) (n : Nat) (P : Nat → Prop) (fin r : Bool) (hr : r = true ↔ (∀ i, i < n → P i) ∧ fin = true) (hstop : (∀ i, i < n → P i) → Ev (fun k => L k (n : Int)) fin)
    (hgo : ∀ i : Nat, i < n → (∀ j, j < i → P j) → (P i → ∀ q, Ev (fun k => L k ((i + 1 : Nat) : Int)) q → Ev (fun k => L k (i : Int)) q) ∧ (¬ P i → Ev (fun k => L k (i : Int)) false)) : Ev (fun k => L k 0) r := by
  have key : ∀ d i : Nat, n - i = d → i ≤ n → (∀ j, j < i → P j) → Ev (fun k => L k (i : Int)) r := by
    intro d
    induction d with
    | zero =>
      intro i hd hi hp
      obtain rfl : i = n := by omega
      refine ev_eq (hstop hp) ?_
      rw [Bool.eq_iff_iff, hr]
      exact ⟨fun h => ⟨hp, h⟩, fun h => h.2⟩
    | succ d ih =>
      intro i hd hi hp
      have hlt : i < n := by omega
      by_cases hc : P i
      · refine (hgo i hlt hp).1 hc r (ih (i + 1) (by omega) (by omega) (fun j hj => ?_))
        by_cases e : j = i
        · exact e ▸ hc
        · exact hp j (by omega)
      · refine ev_eq ((hgo i hlt hp).2 hc) ?_
        cases hrr : r with
        | false => rfl
        | true => exact absurd ((hr.1 hrr).1 i hlt) hc
  exact key n 0 (by omega) (by omega) (fun j hj => absurd hj (by omega))
/-- Rounds that only go on. -/
theorem skip_loop {α : Type} (L : Nat → Int → Option α) (r : α) (a b : Nat) (hab : a ≤ b) (h : ∀ j : Nat, a ≤ j → j < b → Ev (fun k => L k ((j + 1 : Nat) : Int)) r → Ev (fun k => L k (j : Int)) r) (hb : Ev (fun k => L k (b : Int)) r) : Ev (fun k => L k (a : Int)) r := by
  have key : ∀ d i : Nat, b - i = d → a ≤ i → i ≤ b → Ev (fun k => L k (i : Int)) r := by
    intro d
    induction d with
    | zero =>
      intro i hd hi hi2
      obtain rfl : i = b := by omega
      exact hb
    | succ d ih =>
      intro i hd hi hi2
      exact h i hi (by omega) (ih (i + 1) (by omega) (by omega) (by omega))
  exact key (b - a) a rfl (Nat.le_refl _) hab
theorem first_or_none (C : Nat → Prop) (n : Nat) : (∀ j, j < n → ¬ C j) ∨ ∃ i, i < n ∧ C i ∧ ∀ j, j < i → ¬ C j := by
  induction n with
  | zero => exact .inl (fun j hj => absurd hj (by omega))
  | succ n ih =>
    rcases ih with h | ⟨i, hi, hc, h⟩
    · by_cases c : C n
      · exact .inr ⟨n, by omega, c, h⟩
      · refine .inl (fun j hj => ?_)
        by_cases e : j = n
        · exact e ▸ c
        · exact h j (by omega)
    · exact .inr ⟨i, by omega, hc, h⟩

def combOwn (x : S41) : Prop := 24 ≤ x.f0 ∧ x.f0 ≤ 96 ∧ -50 ≤ x.f1 ∧ x.f1 ≤ 50 ∧ 0 ≤ x.f2 ∧ x.f2 ≤ 1
instance (x : S41) : Decidable (combOwn x) := by unfold combOwn; infer_instance
def combAt (l : List S41) (i : Nat) : Prop := combOwn (rd_T41 l i) ∧ (i > 0 → (rd_T41 l ((i : Int) - 1)).f0 ≤ (rd_T41 l i).f0) ∧ (i < 4 ∨ (rd_T41 l ((i : Int) - 4)).f0 < (rd_T41 l i).f0 ∨ (rd_T41 l i).f0 < (rd_T41 l ((i : Int) - 4)).f0)
instance (l : List S41) (i : Nat) : Decidable (combAt l i) := by unfold combAt; infer_instance
def isC (l : List S41) : Prop := 1 ≤ l.length ∧ l.length ≤ 40 ∧ ∀ i, i < l.length → combAt l i
instance (l : List S41) : Decidable (isC l) := by unfold isC; infer_instance
def pS (s : List S45) (j : Nat) : Int := (rd_T45 s (j : Int)).f0
def sS (s : List S45) (j : Nat) : Int := (rd_T45 s (j : Int)).f1
def teethL (l : List S41) (p : Int) : List Int := ((List.range l.length).filter fun t : Nat => decide ((rd_T41 l (t : Int)).f0 = p)).map fun t : Nat => (t : Int)
theorem mem_teethL {l : List S41} {p t : Int} : t ∈ teethL l p ↔ ∃ n : Nat, n < l.length ∧ t = (n : Int) ∧ (rd_T41 l (n : Int)).f0 = p := by
  unfold teethL
  rw [List.mem_map]
  constructor
  · rintro ⟨n, hn, rfl⟩
    have h := List.mem_filter.1 hn
    exact ⟨n, List.mem_range.1 h.1, rfl, of_decide_eq_true h.2⟩
  · rintro ⟨n, h1, rfl, h2⟩
    exact ⟨n, List.mem_filter.2 ⟨List.mem_range.2 h1, decide_eq_true h2⟩, rfl⟩
theorem nodup_teethL (l : List S41) (p : Int) : (teethL l p).Nodup := by
  unfold teethL
  exact map_nodup _ _ (List.Nodup.sublist List.filter_sublist List.nodup_range) (fun x _ y _ h => by omega)
theorem len_teethL (l : List S41) (p : Int) : (teethL l p).length ≤ l.length := by
  unfold teethL
  rw [List.length_map]
  have := List.length_filter_le (fun t : Nat => decide ((rd_T41 l (t : Int)).f0 = p)) (List.range l.length)
  rw [List.length_range] at this
  exact this
theorem apart_teethL (l : List S41) (p q t : Int) (h1 : t ∈ teethL l p) (h2 : t ∈ teethL l q) : p = q := by
  obtain ⟨n, _, e1, e2⟩ := mem_teethL.1 h1
  obtain ⟨m, _, e3, e4⟩ := mem_teethL.1 h2
  have : n = m := by omega
  subst this
  rw [← e2, e4]
theorem teeth_ev3 (l : List S41) (p : Int) (hl : l.length ≤ 1048576) : Ev (fun k => spec_coTeeth.f k l p) (teethL l p) ∧ Ev (fun k => impl_teethOf.f k l p) (teethL l p) := by
  unfold spec_coTeeth.f impl_teethOf.f
  refine count_up l.length (fun i (a : List Int) => a = ((List.range i).filter fun t : Nat => decide ((rd_T41 l (t : Int)).f0 = p)).map fun t : Nat => (t : Int)) (fun i a => Ev (fun k => spec_coTeeth.l0 k p a l (l.length : Int) (i : Int)) (teethL l p) ∧ Ev (fun k => impl_teethOf.l0 k p a l (l.length : Int) (i : Int)) (teethL l p)) (fun a ha => ?_) (fun i a hi ha ih => ?_) 0 [] (Nat.zero_le _) rfl
  · subst ha
    refine ⟨Ev.step (f := fun _ => some (teethL l p)) (fun k => ?_) (Ev.now _), Ev.step (f := fun _ => some (teethL l p)) (fun k => ?_) (Ev.now _)⟩
    · simp only [spec_coTeeth.l0]
      rw [if_neg (by omega)]
      rfl
    · simp only [impl_teethOf.l0]
      rw [if_neg (by omega)]
      rfl
  · have e1 := wn hi (by omega)
    have hlen : a.length ≤ i := by
      subst ha
      rw [List.length_map]
      have := List.length_filter_le (fun t : Nat => decide ((rd_T41 l (t : Int)).f0 = p)) (List.range i)
      rw [List.length_range] at this
      exact this
    by_cases c : (rd_T41 l i).f0 = p
    · obtain ⟨g1, g2⟩ := ih (a ++ [(i : Int)]) (by
        rw [ha, List.range_succ, List.filter_append, List.map_append]
        congr 1
        show _ = List.map _ (match decide ((rd_T41 l (i : Int)).f0 = p) with | true => i :: [] | false => [])
        rw [decide_eq_true c]
        rfl)
      refine ⟨Ev.step (fun k => ?_) g1, Ev.step (fun k => ?_) g2⟩
      · simp only [spec_coTeeth.l0, e1]
        rw [if_pos (by omega), if_pos (by omega), if_pos (by omega), if_pos c, if_pos (by omega)]
      · simp only [impl_teethOf.l0, e1]
        rw [if_pos (by omega), if_pos (by omega), if_pos (by omega), if_pos c, if_pos (by omega)]
    · obtain ⟨g1, g2⟩ := ih a (by
        rw [ha, List.range_succ, List.filter_append, List.map_append]
        have e : List.filter (fun t : Nat => decide ((rd_T41 l (t : Int)).f0 = p)) [i] = [] := by
          show (match decide ((rd_T41 l (i : Int)).f0 = p) with | true => i :: [] | false => []) = []
          rw [decide_eq_false c]
        rw [e, List.map_nil, List.append_nil])
      refine ⟨Ev.step (fun k => ?_) g1, Ev.step (fun k => ?_) g2⟩
      · simp only [spec_coTeeth.l0, e1]
        rw [if_pos (by omega), if_pos (by omega), if_pos (by omega), if_neg c]
      · simp only [impl_teethOf.l0, e1]
        rw [if_pos (by omega), if_pos (by omega), if_pos (by omega), if_neg c]
theorem wf_nat {n : Int} (h0 : 0 ≤ n) (h1 : n ≤ 1048576) : (Lit.int .i64 n).wf = true := wmk (by omega) (by omega)
theorem give_inner3 (l : List S41) (s : List S45) (rest step pitch : Int) (out x9 ts : List Int) (last : Int → Option Int) (i : Int) (B : Int → Prop) (Post : List Int × Bool → Prop) (hl : l.length ≤ 1048576) (hts : ts.length ≤ 1048576) (hin : ∀ x ∈ ts, 0 ≤ x ∧ x < l.length)
    (hs : 0 ≤ step ∧ step ≤ 2000) (ho : out.length ≤ 1048576) (hx : x9.length = l.length)
    (hB : ∀ t : Nat, t < l.length → (rest ≤ wrap64 (step - rd x9 (t : Int)) ↔ ¬ B (t : Int)))
    (hL : ∀ t : Nat, t < l.length → (last (t : Int) = none ∧ ¬ B (t : Int)) ∨ last (t : Int) = some (rd x9 (t : Int)))
    (hnone : (∀ t ∈ ts, B t) → Post ([], false))
    (hnext : ∀ g : Nat, g < l.length → (g : Int) ∈ ts → ¬ B (g : Int) → ∃ r : List Int × Bool, Ev (fun k => spec_coGive.l1 k l rest (out ++ [(g : Int)]) (x9.set g step) s (s.length : Int) (wrap64 (i + 1))) r ∧ Ev (fun k => impl_giveTeeth.l0 k l rest (out ++ [(g : Int)]) (impl_giveTeeth.upd last (g : Int) step) s (s.length : Int) (wrap64 (i + 1))) r ∧ Post r) :
    ∃ r : List Int × Bool, Ev (fun k => spec_coGive.l2 k l rest out x9 (-1) s (s.length : Int) i ts (ts.length : Int) 0 pitch step) r ∧ Ev (fun k => impl_giveTeeth.l1 k l rest out last s (s.length : Int) i step (-1) ts (ts.length : Int) 0) r ∧ Post r := by
  refine count_up ts.length (fun j (g : Int) => (g = -1 ∧ ∀ q, q < j → ∀ h : q < ts.length, B ts[q]) ∨ (∃ n : Nat, g = (n : Int) ∧ n < l.length ∧ (n : Int) ∈ ts ∧ ¬ B (n : Int))) (fun j g => ∃ r : List Int × Bool, Ev (fun k => spec_coGive.l2 k l rest out x9 g s (s.length : Int) i ts (ts.length : Int) (j : Int) pitch step) r ∧ Ev (fun k => impl_giveTeeth.l1 k l rest out last s (s.length : Int) i step g ts (ts.length : Int) (j : Int)) r ∧ Post r) (fun g hg => ?_) (fun j g hj hg ih => ?_) 0 (-1) (Nat.zero_le _) (.inl ⟨rfl, fun q h => absurd h (Nat.not_lt_zero _)⟩)
  · rcases hg with ⟨rfl, hb⟩ | ⟨n, rfl, hn, hm, hf⟩
    · refine ⟨([], false), Ev.step (f := fun _ => some ([], false)) (fun k => ?_) (Ev.now _), Ev.step (f := fun _ => some ([], false)) (fun k => ?_) (Ev.now _), hnone fun t ht => ?_⟩
      · simp only [spec_coGive.l2]
        rw [if_neg (by omega), if_pos (by omega)]
      · simp only [impl_giveTeeth.l1]
        rw [if_neg (by omega), if_pos (by omega)]
      · obtain ⟨q, hq, e⟩ := List.getElem_of_mem ht
        rw [← e]
        exact hb q hq hq
    · obtain ⟨r, q1, q2, q3⟩ := hnext n hn hm hf
      refine ⟨r, Ev.step (fun k => ?_) q1, Ev.step (fun k => ?_) q2, q3⟩
      · simp only [spec_coGive.l2, Int.toNat_natCast]
        rw [if_neg (by omega), if_neg (by omega), if_pos (by omega), if_pos (by omega), if_pos (by omega)]
      · simp only [impl_giveTeeth.l1]
        rw [if_neg (by omega), if_neg (by omega), if_pos (wf_nat (by omega) (by omega)), if_pos (wf_nat (by omega) (by omega)), if_pos (by omega)]
  · have e1 := wn hj (by omega)
    have r1 : rd ts (j : Int) = ts[j] := rd_get hj
    have hb := hin _ (List.getElem_mem hj)
    obtain ⟨n, hn⟩ : ∃ n : Nat, ts[j] = (n : Int) := ⟨ts[j].toNat, by omega⟩
    have hmem : (n : Int) ∈ ts := hn ▸ List.getElem_mem hj
    have hbj : ∀ h : j < ts.length, ts[j] = (n : Int) := fun _ => hn
    rw [hn] at r1 hb
    have hnl : n < l.length := by omega
    have key : ∀ c : Bool, (c = true ↔ (g < 0 ∧ (rest ≤ wrap64 (step - rd x9 (n : Int))))) →
        (∃ r : List Int × Bool, Ev (fun k => if c = true then spec_coGive.l2 k l rest out x9 (n : Int) s (s.length : Int) i ts (ts.length : Int) ((j + 1 : Nat) : Int) pitch step else spec_coGive.l2 k l rest out x9 g s (s.length : Int) i ts (ts.length : Int) ((j + 1 : Nat) : Int) pitch step) r ∧ Ev (fun k => if c = true then impl_giveTeeth.l1 k l rest out last s (s.length : Int) i step (n : Int) ts (ts.length : Int) ((j + 1 : Nat) : Int) else impl_giveTeeth.l1 k l rest out last s (s.length : Int) i step g ts (ts.length : Int) ((j + 1 : Nat) : Int)) r ∧ Post r) := by
      intro c hc
      cases c with
      | true =>
        obtain ⟨r, q1, q2, q3⟩ := ih (n : Int) (.inr ⟨n, rfl, hnl, hmem, (hB n hnl).1 (hc.1 rfl).2⟩)
        exact ⟨r, ev_pos rfl q1, ev_pos rfl q2, q3⟩
      | false =>
        obtain ⟨r, q1, q2, q3⟩ := ih g (by
          rcases hg with ⟨e, h⟩ | h
          · refine .inl ⟨e, fun q hq h' => ?_⟩
            by_cases e2 : q = j
            · subst e2
              rw [hbj h']
              refine Classical.byContradiction fun hnb => ?_
              exact Bool.noConfusion (hc.2 ⟨by omega, (hB n hnl).2 hnb⟩)
            · exact h q (by omega) h'
          · exact .inr h)
        exact ⟨r, ev_neg (by simp) q1, ev_neg (by simp) q2, q3⟩
    obtain ⟨r, q1, q2, q3⟩ := key (decide (g < 0 ∧ (rest ≤ wrap64 (step - rd x9 (n : Int))))) (by simp)
    refine ⟨r, Ev.step (fun k => ?_) q1, Ev.step (fun k => ?_) q2, q3⟩
    · simp only [spec_coGive.l2, e1, r1, decide_eq_true_eq]
      rw [if_pos (by omega), if_pos (by omega), if_pos (by omega)]
      by_cases c : g < 0
      · rw [if_pos c, if_pos (by omega), if_pos (by omega)]
        by_cases d : rest ≤ wrap64 (step - rd x9 (n : Int))
        · rw [if_pos d, if_pos ⟨c, d⟩]
        · rw [if_neg d, if_neg (fun h => d h.2)]
      · rw [if_neg c, if_neg (fun h => c h.1)]
    · simp only [impl_giveTeeth.l1, e1, r1, decide_eq_true_eq]
      rw [if_pos (by omega), if_pos (by omega), if_pos (by omega), if_pos (wf_nat (by omega) (by omega))]
      by_cases c : g < 0
      · rw [if_pos c]
        rcases hL n hnl with ⟨h1, h2⟩ | h1
        · rw [h1, if_neg (by simp), if_pos ⟨c, (hB n hnl).2 h2⟩]
        · rw [h1, if_pos (by simp), Option.getD_some]
          by_cases d : rest ≤ wrap64 (step - rd x9 (n : Int))
          · rw [if_pos d, if_pos ⟨c, d⟩]
          · rw [if_neg d, if_neg (fun h => d h.2)]
      · rw [if_neg c, if_neg (fun h => c h.1)]
end Go.Proofs.Ytiekokdlcgpcdaa.PureFnStrikes
