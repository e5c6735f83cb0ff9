/- The plain statement of FnExactIsRepair: the law's function, over numbers and lists, answers true. No conditions beyond the arguments' own kinds. -/
import Derived.Test.YtghdiijfpepmhaaRIsRepair11
import Derived.Test.YtghdiijfpepmhaaPureFnExactIsRepaira
namespace Go.Proofs.Ytghdiijfpepmhaa.PureFnExactIsRepair
open Go Go.RowKit Go.Proofs.Ytghdiijfpepmhaa.PFnExactIsRepair Go.Proofs.YtghdiijfpepmhaaW.PrintWords Go.Proofs.YtghdiijfpepmhaaW.PrintLast Go.Proofs.YtghdiijfpepmhaaW.PrintMore Go.Proofs.Ytghdiijfpepmhaa.Lib
set_option linter.unusedVariables false
set_option linter.unusedSimpArgs false
/-! rows of truth values and the grid that they are -/
def Rows (x : List (List Bool)) (G : Int → Int → Bool) : Prop := x.length = 20 ∧ ∀ t : Nat, t < 20 → (x.getD t []).length = 2000 ∧ ∀ s : Nat, s < 2000 → (x.getD t []).getD s false = G (t : Int) (s : Int)
theorem getD_set {α : Type} (x : List α) (t u : Nat) (v d : α) (ht : t < x.length) : (x.set t v).getD u d = if t = u then v else x.getD u d := by
  rw [List.getD_eq_getElem?_getD, List.getElem?_set]
  split
  · rename_i e
    subst e
    (try rw [if_pos ht])
    rfl
  · rw [List.getD_eq_getElem?_getD]
theorem Rows.congr {x : List (List Bool)} {G H : Int → Int → Bool} (h : Rows x G) (e : ∀ t s : Nat, t < 20 → s < 2000 → G (t : Int) (s : Int) = H (t : Int) (s : Int)) : Rows x H :=
  ⟨h.1, fun t ht => ⟨(h.2 t ht).1, fun s hs => ((h.2 t ht).2 s hs).trans (e t s ht hs)⟩⟩
theorem Rows.put {x : List (List Bool)} {G : Int → Int → Bool} (h : Rows x G) {t s : Nat} (ht : t < 20) (hs : s < 2000) : Rows (x.set t ((x.getD t []).set s true)) (fun a b => G a b || decide (a = (t : Int) ∧ b = (s : Int))) := by
  refine ⟨by rw [List.length_set]; exact h.1, fun u hu => ?_⟩
  rw [getD_set _ _ _ _ _ (by rw [h.1]; exact ht)]
  by_cases e : t = u
  · subst e
    rw [if_pos rfl]
    refine ⟨by rw [List.length_set]; exact (h.2 t ht).1, fun v hv => ?_⟩
    rw [getD_set _ _ _ _ _ (by rw [(h.2 t ht).1]; exact hs)]
    by_cases e : s = v
    · subst e
      simp
    · rw [if_neg e, (h.2 t ht).2 v hv]
      have : ¬ ((v : Int) = (s : Int)) := by omega
      simp [this]
  · rw [if_neg e]
    refine ⟨(h.2 u hu).1, fun v hv => ?_⟩
    rw [(h.2 u hu).2 v hv]
    have : ¬ ((u : Int) = (t : Int)) := by omega
    simp [this]
theorem Rows.fresh : ∀ (i : Nat) (x : List (List Bool)), x.length = 20 → i < 20 → (∀ t : Nat, t < i → x.getD t [] = List.replicate 2000 false) → (∀ t : Nat, t < i + 1 → (x.set i (List.replicate 2000 false)).getD t [] = List.replicate 2000 false) := by
  intro i x hx hi h t ht
  rw [getD_set _ _ _ _ _ (by omega)]
  split
  · rfl
  · exact h t (by omega)
theorem Rows.zero {x : List (List Bool)} (hx : x.length = 20) (h : ∀ t : Nat, t < 20 → x.getD t [] = List.replicate 2000 false) : Rows x (fun _ _ => false) := by
  refine ⟨hx, fun t ht => ?_⟩
  rw [h t ht]
  refine ⟨List.length_replicate, fun s hs => ?_⟩
  rw [List.getD_eq_getElem?_getD, List.getElem?_replicate]
  split <;> rfl
theorem open_l2 (l : List S47) (n i : Int) (t a e : Nat) (ht : t < 20) (he : e ≤ 2000) (G : Int → Int → Bool) (P : List (List Bool) → Prop)
    (hn : ∀ x, Rows x (fun u v => G u v || decide ((t : Int) = u ∧ (a : Int) ≤ v ∧ v < (e : Int))) → ∃ r, Ev (fun k => spec_rpOpen.l1 k x l n (wrap64 (i + 1))) r ∧ P r) :
    ∀ (m : Nat) (x : List (List Bool)), m ≤ e → (a ≤ m ∧ Rows x (fun u v => G u v || decide ((t : Int) = u ∧ (a : Int) ≤ v ∧ v < (m : Int)))) → ∃ r, Ev (fun k => spec_rpOpen.l2 k x (m : Int) l n i (t : Int) (a : Int) (e : Int)) r ∧ P r := by
  refine ev_for_ex (fun k x m => spec_rpOpen.l2 k x m l n i (t : Int) (a : Int) (e : Int)) e (fun m x => a ≤ m ∧ Rows x (fun u v => G u v || decide ((t : Int) = u ∧ (a : Int) ≤ v ∧ v < (m : Int)))) P ?_ ?_
  · intro x hx
    obtain ⟨r, h1, h2⟩ := hn x hx.2
    refine ⟨r, Ev.step (f := fun k => spec_rpOpen.l1 k x l n (wrap64 (i + 1))) (fun k => ?_) h1, h2⟩
    simp only [spec_rpOpen.l2]
    rw [if_neg (by omega)]
  · intro m x hm hx ih
    obtain ⟨r, h1, h2⟩ := ih (x.set t ((x.getD t []).set m true)) ⟨by omega, (hx.2.put ht (by omega)).congr (fun u v _ _ => by
      rw [Bool.or_assoc]
      congr 1
      rw [← Bool.decide_or]
      refine decide_eq_decide.mpr ⟨fun h => ?_, fun h => ?_⟩ <;> omega)⟩
    have q := (hx.2.2 t ht).1
    have q1 := hx.2.1
    refine ⟨r, Ev.step (f := fun k => spec_rpOpen.l2 k (x.set t ((x.getD t []).set m true)) ((m + 1 : Nat) : Int) l n i (t : Int) (a : Int) (e : Int)) (fun k => ?_) h1, h2⟩
    simp only [spec_rpOpen.l2]
    rw [if_pos (by omega), if_pos (by omega), if_pos (by omega), if_pos (by omega), if_pos (by show (m : Int) < (((x.getD (t : Int).toNat []).length : Nat) : Int); rw [Int.toNat_natCast, q]; omega), wn (by omega : m < 2000) (by omega)]
    rfl
theorem open_l1 (l : List S47) (hl : l.length ≤ 1048576) (hk : ∀ x ∈ l, grid.okH x) : ∀ (i : Nat) (x : List (List Bool)), i ≤ l.length → Rows x (grid.openAt (l.take i)) → ∃ r, Ev (fun k => spec_rpOpen.l1 k x l (l.length : Int) (i : Int)) r ∧ Rows r (grid.openAt l) := by
  refine ev_for_ex (fun k x i => spec_rpOpen.l1 k x l (l.length : Int) i) l.length (fun i x => Rows x (grid.openAt (l.take i))) (fun r => Rows r (grid.openAt l)) ?_ ?_
  · intro x hx
    rw [List.take_length] at hx
    refine ⟨x, Ev.step (f := fun _ => some x) (fun k => ?_) (ev_now rfl), hx⟩
    simp only [spec_rpOpen.l1]
    rw [if_neg (by omega)]
  · intro i x hi hx ih
    have ho := hk _ (List.getElem_mem hi)
    obtain ⟨o1, o2, o3, o4⟩ := ho
    have et : l.take (i + 1) = l.take i ++ [l[i]] := by rw [List.take_succ_eq_append_getElem hi]
    have e0 : rd_T47 l (i : Int) = l[i] := rd_get hi
    by_cases hz : l[i].f1 ≤ l[i].f2
    · have f0 : l[i].f0 = ((l[i].f0.toNat : Nat) : Int) := by omega
      have f1 : l[i].f1 = ((l[i].f1.toNat : Nat) : Int) := by omega
      have f2 : l[i].f2 = ((l[i].f2.toNat : Nat) : Int) := by omega
      obtain ⟨r, h1, h2⟩ := open_l2 l (l.length : Int) (i : Int) l[i].f0.toNat l[i].f1.toNat l[i].f2.toNat (by omega) (by omega) (grid.openAt (l.take i)) (fun r => Rows r (grid.openAt l))
        (fun x hx => by
          rw [wn hi (by omega)]
          refine ih x ?_
          rw [et]
          refine hx.congr fun u v _ _ => ?_
          rw [grid.openAt_snoc, ← f0, ← f1, ← f2])
        l[i].f1.toNat x (by omega) ⟨Nat.le_refl _, hx.congr fun u v _ _ => by
          have : ¬ (((l[i].f0.toNat : Nat) : Int) = (u : Int) ∧ ((l[i].f1.toNat : Nat) : Int) ≤ (v : Int) ∧ (v : Int) < ((l[i].f1.toNat : Nat) : Int)) := by omega
          rw [decide_eq_false this, Bool.or_false]⟩
      rw [← f0, ← f1, ← f2] at h1
      refine ⟨r, Ev.step (f := fun k => spec_rpOpen.l2 k x l[i].f1 l (l.length : Int) (i : Int) l[i].f0 l[i].f1 l[i].f2) (fun k => ?_) h1, h2⟩
      simp only [spec_rpOpen.l1]
      rw [if_pos (by omega), if_pos (by omega), if_pos (by omega), e0]
    · obtain ⟨r, h1, h2⟩ := ih x (by
        rw [et]
        refine hx.congr fun u v _ _ => ?_
        rw [grid.openAt_snoc]
        have : ¬ (l[i].f0 = (u : Int) ∧ l[i].f1 ≤ (v : Int) ∧ (v : Int) < l[i].f2) := by omega
        rw [decide_eq_false this, Bool.or_false])
      refine ⟨r, Ev.step (f := fun k => spec_rpOpen.l2 k x l[i].f1 l (l.length : Int) (i : Int) l[i].f0 l[i].f1 l[i].f2) (fun k => ?_) (Ev.step (f := fun k => spec_rpOpen.l1 k x l (l.length : Int) ((i + 1 : Nat) : Int)) (fun k => ?_) h1), h2⟩
      · simp only [spec_rpOpen.l1]
        rw [if_pos (by omega), if_pos (by omega), if_pos (by omega), e0]
      · simp only [spec_rpOpen.l2]
        rw [if_neg (by omega), wn hi (by omega)]
theorem spec_open (l : List S47) (hl : l.length ≤ 1048576) (hk : ∀ x ∈ l, grid.okH x) : ∃ r, Ev (fun k => spec_rpOpen.f k l) r ∧ Rows r (grid.openAt l) := by
  have h0 : ∀ (i : Nat) (x : List (List Bool)), i ≤ 20 → (x.length = 20 ∧ ∀ t : Nat, t < i → x.getD t [] = List.replicate 2000 false) → ∃ r, Ev (fun k => spec_rpOpen.l0 k l x ((20 : Nat) : Int) (i : Int)) r ∧ Rows r (grid.openAt l) := by
    refine ev_for_ex (fun k x i => spec_rpOpen.l0 k l x ((20 : Nat) : Int) i) 20 (fun i x => x.length = 20 ∧ ∀ t : Nat, t < i → x.getD t [] = List.replicate 2000 false) (fun r => Rows r (grid.openAt l)) ?_ ?_
    · intro x hx
      obtain ⟨r, h1, h2⟩ := open_l1 l hl hk 0 x (Nat.zero_le _) ((Rows.zero hx.1 hx.2).congr fun _ _ _ _ => rfl)
      refine ⟨r, Ev.step (f := fun k => spec_rpOpen.l1 k x l (l.length : Int) ((0 : Nat) : Int)) (fun k => ?_) h1, h2⟩
      simp only [spec_rpOpen.l0]
      rw [if_neg (by omega)]
      rfl
    · intro i x hi hx ih
      obtain ⟨r, h1, h2⟩ := ih (x.set i (List.replicate 2000 false)) ⟨by rw [List.length_set]; exact hx.1, Rows.fresh i x hx.1 hi hx.2⟩
      refine ⟨r, Ev.step (f := fun k => spec_rpOpen.l0 k l (x.set i (List.replicate 2000 false)) ((20 : Nat) : Int) ((i + 1 : Nat) : Int)) (fun k => ?_) h1, h2⟩
      have q1 := hx.1
      simp only [spec_rpOpen.l0]
      rw [if_pos (by omega), if_pos (by omega), if_pos (by omega), if_pos (by omega), wn hi (by omega)]
      rfl
  obtain ⟨r, h1, h2⟩ := h0 0 (List.replicate 20 []) (Nat.zero_le _) ⟨List.length_replicate, fun t ht => absurd ht (Nat.not_lt_zero _)⟩
  refine ⟨r, ?_, h2⟩
  unfold spec_rpOpen.f
  refine ev_pos (by omega) (ev_call rfl ?_)
  rw [show (((List.replicate 20 ([] : List Bool)).length : Nat) : Int) = ((20 : Nat) : Int) from by rw [List.length_replicate]]
  exact h1

/-! ranges: rows of a track, a first step and the step behind the last -/
def okRw (x : List Int) : Prop := x.length = 3 ∧ 0 ≤ rd x 0 ∧ rd x 0 < 20 ∧ 0 ≤ rd x 1 ∧ rd x 1 < rd x 2 ∧ rd x 2 ≤ 2000
instance (x : List Int) : Decidable (okRw x) := by unfold okRw; infer_instance
def areR (l : List (List Int)) : Prop := (∀ x ∈ l, okRw x) ∧ l.length ≤ 200
instance (l : List (List Int)) : Decidable (areR l) := by unfold areR; infer_instance
theorem areR_iff (l : List (List Int)) : decide (areR l) = true ↔ (∀ i : Nat, i < l.length → okRw (l.getD i [])) ∧ decide ((l.length : Int) ≤ 200) = true := by
  rw [decide_eq_true_eq, decide_eq_true_eq]
  unfold areR
  constructor
  · rintro ⟨h1, h2⟩
    refine ⟨fun i hi => ?_, by omega⟩
    rw [List.getD_eq_getElem?_getD, List.getElem?_eq_getElem hi]
    exact h1 _ (List.getElem_mem hi)
  · rintro ⟨h1, h2⟩
    refine ⟨fun x hx => ?_, by omega⟩
    obtain ⟨i, hi, rfl⟩ := List.getElem_of_mem hx
    have := h1 i hi
    rw [List.getD_eq_getElem?_getD, List.getElem?_eq_getElem hi] at this
    exact this
theorem impl_areR (l : List (List Int)) (hl : l.length ≤ 1048576) : Ev (fun k => impl_areRanges.f k l) (decide (areR l)) := by
  unfold impl_areRanges.f
  refine all_loop (fun k i => impl_areRanges.l0 k l l (l.length : Int) i) l.length (fun i => okRw (l.getD i [])) (decide ((l.length : Int) ≤ 200)) _ (areR_iff l) (fun k => ?_) (fun k i hi => ?_)
  · simp only [impl_areRanges.l0]
    rw [if_neg (by omega)]
  · have hu : impl_areRanges.l0 (k + 1) l l (l.length : Int) (i : Int) = if ((l.getD i []).length : Int) = 3 then (if 0 < ((l.getD i []).length : Int) then (if 1 < ((l.getD i []).length : Int) then (if 2 < ((l.getD i []).length : Int) then ((impl_IsHole.f (rd (l.getD i []) 0) (rd (l.getD i []) 1) (rd (l.getD i []) 2)).bind fun t => if t = true then impl_areRanges.l0 k l l (l.length : Int) ((i : Int) + 1) else some false) else none) else none) else none) else some false := by
      simp only [impl_areRanges.l0, show wrap64 ((i : Int) + 1) = (i : Int) + 1 from by unfold wrap64; omega]
      rw [if_pos (by omega), if_pos (by omega), if_pos (by omega)]
      rfl
    rw [hu]
    unfold okRw
    by_cases h3 : (l.getD i []).length = 3
    · rw [if_pos (by omega), if_pos (by omega), if_pos (by omega), if_pos (by omega), isHole_eq, Option.bind_some]
      constructor
      · intro h
        rw [if_pos (decide_eq_true ⟨h.2.1, h.2.2.1, h.2.2.2.1, h.2.2.2.2.1, h.2.2.2.2.2⟩)]
      · intro h
        rw [if_neg (by rw [decide_eq_true_eq]; exact fun q => h ⟨h3, q⟩)]
    · rw [if_neg (by omega)]
      exact ⟨fun h => absurd h.1 h3, fun _ => rfl⟩
theorem spec_areR (l : List (List Int)) (hl : l.length ≤ 1048576) : Ev (fun k => spec_rpGood.f k l) (decide (areR l)) := by
  unfold spec_rpGood.f
  refine all_loop (fun k i => spec_rpGood.l0 k l l (l.length : Int) i) l.length (fun i => okRw (l.getD i [])) (decide ((l.length : Int) ≤ 200)) _ (areR_iff l) (fun k => ?_) (fun k i hi => ?_)
  · simp only [spec_rpGood.l0]
    rw [if_neg (by omega)]
  · have hu : spec_rpGood.l0 (k + 1) l l (l.length : Int) (i : Int) = if ((l.getD i []).length : Int) = 3 then (if 0 < ((l.getD i []).length : Int) then (if 1 < ((l.getD i []).length : Int) then (if 2 < ((l.getD i []).length : Int) then ((spec_shHole.f (rd (l.getD i []) 0) (rd (l.getD i []) 1) (rd (l.getD i []) 2)).bind fun t => if t = true then spec_rpGood.l0 k l l (l.length : Int) ((i : Int) + 1) else some false) else none) else none) else none) else some false := by
      simp only [spec_rpGood.l0, show wrap64 ((i : Int) + 1) = (i : Int) + 1 from by unfold wrap64; omega]
      rw [if_pos (by omega), if_pos (by omega), if_pos (by omega)]
      rfl
    rw [hu]
    unfold okRw
    by_cases h3 : (l.getD i []).length = 3
    · rw [if_pos (by omega), if_pos (by omega), if_pos (by omega), if_pos (by omega), shHole_eq, Option.bind_some]
      constructor
      · intro h
        rw [if_pos (decide_eq_true ⟨h.2.1, h.2.2.1, h.2.2.2.1, h.2.2.2.2.1, h.2.2.2.2.2⟩)]
      · intro h
        rw [if_neg (by rw [decide_eq_true_eq]; exact fun q => h ⟨h3, q⟩)]
    · rw [if_neg (by omega)]
      exact ⟨fun h => absurd h.1 h3, fun _ => rfl⟩

/-! ints: to, eq -/
theorem toIntS (l : List Int) (hl : l.length ≤ 1048576) : Ev (fun k => laws_toIntS.f k l) l := by
  unfold laws_toIntS.f
  refine ev_pos (by omega) (ev_pos (by omega) ?_)
  have h := map_loop (fun k ys i => laws_toIntS.l0 k l ys i) l (0 : Int) (0 : Int) (fun k x => some x) (fun b => b) (fun x => x) (fun k ys i => rfl) (fun x _ => ev_const rfl) (by omega)
  simpa using h

theorem eqIntS (l : List Int) (hl : l.length ≤ 1048576) : Ev (fun k => laws_eqIntS.f k l l) true := by
  unfold laws_eqIntS.f
  refine ev_pos rfl ?_
  refine same_loop (fun k i => laws_eqIntS.l0 k l l i) l (0 : Int) (fun k x => some true) (fun k i => ?_) (fun x _ => ev_const rfl) (by omega)
  simp only [laws_eqIntS.l0, Option.bind_some, ↓reduceIte]

/-! rows of ints: sizes, copies -/
theorem toIntSS (l : List (List Int)) (hl : l.length ≤ 1048576) (hx : ∀ x ∈ l, x.length ≤ 1048576) : Ev (fun k => laws_toIntSS.f k l) l := by
  unfold laws_toIntSS.f
  refine ev_pos (by omega) (ev_pos (by omega) ?_)
  have h := map_loop (fun k ys i => laws_toIntSS.l0 k l ys i) l ([] : List Int) ([] : List Int) (fun k x => laws_toIntS.f k x) (fun b => b) (fun x => x) (fun k ys i => rfl) (fun x hm => toIntS x (hx x hm)) (by omega)
  simpa using h
theorem szIntSS (l : List (List Int)) (b : Int) (hb : 0 ≤ b ∧ b ≤ 1048576) (hl : l.length ≤ 9223372036854775807) (hx : ∀ x ∈ l, x.length ≤ 9223372036854775807) :
    ∃ r, Ev (fun k => laws_szIntSS.f k l b) r ∧ (r < 0 ∨ (l.length ≤ 1048576 ∧ (∀ x ∈ l, x.length ≤ 1048576) ∧ 0 ≤ r ∧ r ≤ b)) := by
  have e : wrap64 (b - (l.length : Int)) = b - l.length := by unfold wrap64; omega
  unfold laws_szIntSS.f
  rw [e]
  by_cases h : b - (l.length : Int) < 0
  · exact ⟨-1, ev_pos h (Ev.now _), .inl (by omega)⟩
  · have key := count_up l.length (fun i (a : Int) => 0 ≤ a ∧ a ≤ b) (fun i a => ∃ r, Ev (fun k => laws_szIntSS.l0 k l a (i : Int)) r ∧ (r < 0 ∨ (∀ x ∈ l.drop i, x.length ≤ 1048576) ∧ 0 ≤ r ∧ r ≤ b)) (fun a ha => ?_) (fun i a hi ha ih => ?_) 0 (b - (l.length : Int)) (Nat.zero_le _) ⟨by omega, by omega⟩
    · obtain ⟨r, h1, h2⟩ := key
      rw [List.drop_zero] at h2
      exact ⟨r, ev_neg h h1, h2.imp id (fun h2 => ⟨by omega, h2⟩)⟩
    · refine ⟨a, Ev.step (f := fun _ => some a) (fun k => ?_) (Ev.now _), .inr ⟨by rw [List.drop_length]; simp, ha⟩⟩
      simp only [laws_szIntSS.l0]
      rw [if_neg (by omega)]
    · have e1 := wn hi (by omega)
      have hxi := hx _ (List.getElem_mem hi)
      have es : laws_szIntS.f l[i] a = some (if (l[i].length : Int) ≤ a then a - l[i].length else -1) := by
        have e2 : wrap64 (a - (l[i].length : Int)) = a - l[i].length := by unfold wrap64; omega
        simp only [laws_szIntS.f, e2]
        by_cases c : (l[i].length : Int) ≤ a
        · rw [if_neg (by omega), if_pos c]
        · rw [if_pos (by omega), if_neg c]
      have hu : ∀ k, laws_szIntSS.l0 (k + 1) l a (i : Int) = (laws_szIntS.f l[i] a).bind fun t => if t < 0 then some (-1) else laws_szIntSS.l0 k l t ((i + 1 : Nat) : Int) := fun k => by
        simp only [laws_szIntSS.l0, e1]
        rw [if_pos (by omega), if_pos (by omega)]
        show (laws_szIntS.f (l.getD (i : Int).toNat []) a).bind _ = _
        rw [rd_get hi]
      rw [List.drop_eq_getElem_cons hi]
      by_cases c : (l[i].length : Int) ≤ a
      · obtain ⟨r, h1, h2⟩ := ih (a - l[i].length) ⟨by omega, by omega⟩
        refine ⟨r, Ev.step (fun k => ?_) h1, h2.imp id (fun h2 => ⟨fun x hm => ?_, h2.2⟩)⟩
        · rw [hu, es, if_pos c, Option.bind_some, if_neg (by omega)]
        · rcases List.mem_cons.1 hm with rfl | hm
          · omega
          · exact h2.1 x hm
      · refine ⟨-1, Ev.step (f := fun _ => some (-1)) (fun k => ?_) (Ev.now _), .inl (by omega)⟩
        rw [hu, es, if_neg c, Option.bind_some, if_pos (by omega)]
theorem sameIntSS (l : List (List Int)) (hl : l.length ≤ 140737488355328) (h : ∀ x ∈ l, x.length ≤ 1048576) : Ev (fun k => laws_eqIntSS.f k l l) true := by
  unfold laws_eqIntSS.f
  refine ev_pos rfl ?_
  refine same_loop (fun k i => laws_eqIntSS.l0 k l l i) l [] (fun k x => laws_eqIntS.f k x x) (fun k i => ?_) (fun x hx => eqIntS x (h x hx)) hl
  simp only [laws_eqIntSS.l0]
  rfl

theorem all_l0 (t : List (List Bool)) (G : Int → Int → Bool) (hR : Rows t G) (op : Bool) (tr b : Int) (ht0 : 0 ≤ tr) (ht1 : tr < 20) (hb : b ≤ 2000) : ∀ (n : Nat) (m : Int), (b - m).toNat = n → 0 ≤ m → Ev (fun k => spec_rpAll.l0 k t tr b op m) (grid.allB G op tr m b)
  | 0, m, hn, h0 => by
    rw [grid.allB_stop (by omega)]
    refine Ev.step (f := fun _ => some true) (fun k => ?_) (Ev.now _)
    simp only [spec_rpAll.l0]
    rw [if_neg (by omega)]
  | n + 1, m, hn, h0 => by
    have hm : m < b := by omega
    rw [grid.allB_step hm]
    have hv : (t.getD tr.toNat []).getD m.toNat false = G tr m := by
      have h1 := (hR.2 tr.toNat (by omega)).2 m.toNat (by omega)
      rw [Int.toNat_of_nonneg ht0, Int.toNat_of_nonneg h0] at h1
      exact h1
    have hl := (hR.2 tr.toNat (by omega)).1
    have hx : ∀ k, spec_rpAll.l0 (k + 1) t tr b op m = if (G tr m != op) = true then some false else spec_rpAll.l0 k t tr b op (m + 1) := fun k => by
      have hq := hR.1
      simp only [spec_rpAll.l0]
      rw [if_pos hm, if_pos ht0, if_pos (by omega), if_pos h0, if_pos (by show m < (((t.getD tr.toNat []).length : Nat) : Int); rw [hl]; omega), show wrap64 (m + 1) = m + 1 from by unfold wrap64; omega]
      show (if (((t.getD tr.toNat []).getD m.toNat false) != op) = true then _ else _) = _
      rw [hv]
    by_cases hq : G tr m = op
    · refine Ev.step (f := fun k => spec_rpAll.l0 k t tr b op (m + 1)) (fun k => by rw [hx, if_neg (by simp [hq])]) ?_
      rw [show (G tr m == op) = true from by simp [hq], Bool.true_and]
      exact all_l0 t G hR op tr b ht0 ht1 hb n (m + 1) (by omega) (by omega)
    · refine Ev.step (f := fun _ => some false) (fun k => by rw [hx, if_pos (by simp [hq])]) ?_
      rw [show (G tr m == op) = false from by simp [hq], Bool.false_and]
      exact Ev.now _
theorem all_f (t : List (List Bool)) (G : Int → Int → Bool) (hR : Rows t G) (op : Bool) (tr a b : Int) (ht0 : 0 ≤ tr) (ht1 : tr < 20) (ha : 0 ≤ a) (hb : b ≤ 2000) : Ev (fun k => spec_rpAll.f k t tr a b op) (grid.allB G op tr a b) := all_l0 t G hR op tr b ht0 ht1 hb _ a rfl ha
theorem sh_ok {l : List S47} (h : isSh l) : ∀ x ∈ l, grid.okH x := fun x hx => by
  obtain ⟨i, hi, e⟩ := List.getElem_of_mem hx
  obtain ⟨h1, h2, h3, h4, h5⟩ := isSh_get h hi
  rw [← e]
  exact ⟨h1, h2, h3, h5⟩
theorem sh_all {l : List S47} (h : isSh l) : l.all grid.okHB = true := List.all_eq_true.2 fun x hx => by
  have := sh_ok h x hx
  unfold grid.okH at this
  unfold grid.okHB
  exact decide_eq_true this

theorem spec_two (a b : List S47) (h1 : a.length ≤ 1048576) (h2 : b.length ≤ 1048576) : Ev (fun k => spec_rpTwo.f k a b) (decide (isSh a ∧ isSh b)) := by
  unfold spec_rpTwo.f
  by_cases ha : isSh a
  · refine Ev.bind (spec_isSh a h1) (ev_pos (decide_eq_true ha) (Ev.bind (spec_isSh b h2) (ev_now ?_)))
    exact decide_eq_decide.mpr ⟨fun h => ⟨ha, h⟩, fun h => h.2⟩
  · refine Ev.bind (spec_isSh a h1) (ev_neg (by simpa using ha) (ev_now ?_))
    exact (decide_eq_false (fun h : isSh a ∧ isSh b => ha h.1)).symm
theorem rw_all {l : List (List Int)} (h : areR l) : l.all grid.okRB = true := List.all_eq_true.2 fun x hx => by
  obtain ⟨h1, h2, h3, h4, h5, h6⟩ := h.1 x hx
  unfold grid.okRB
  exact decide_eq_true ⟨h1, h2, h3, h4, by omega, by omega, h6⟩
theorem in_ev (t : List (List Bool)) (G : Int → Int → Bool) (hR : Rows t G) (op : Bool) : ∀ xs : List (List Int), (∀ x ∈ xs, okRw x) → Ev (fun k => grid.rpIn k t op xs) (grid.allIn G op xs)
  | [], _ => Ev.now _
  | x :: xs, hx => by
    obtain ⟨h1, h2, h3, h4, h5, h6⟩ := hx x List.mem_cons_self
    have ih := in_ev t G hR op xs (fun y hy => hx y (List.mem_cons_of_mem _ hy))
    unfold grid.rpIn
    have e : grid.allIn G op (x :: xs) = (grid.allB G op (rd x 0) (rd x 1) (rd x 2) && grid.allIn G op xs) := by simp [grid.allIn]
    rw [e]
    refine ev_pos h1 (Ev.bind (all_f t G hR op (rd x 0) (rd x 1) (rd x 2) h2 h3 h4 h6) ?_)
    cases grid.allB G op (rd x 0) (rd x 1) (rd x 2) with
    | true => exact ev_pos rfl (by rw [Bool.true_and]; exact ih)
    | false => exact ev_neg (by simp) (Ev.now _)
theorem ap_rows (op : Bool) (h : List (List Bool)) (G : Int → Int → Bool) (hR : Rows h G) (x : List Int) (hx : okRw x) : grid.apOk h x ∧ Rows (grid.apTo op h x (rd x 2)) (grid.rgOne op G x) := by
  obtain ⟨h1, h2, h3, h4, h5, h6⟩ := hx
  obtain ⟨t, ht⟩ : ∃ t : Nat, t = (rd x 0).toNat := ⟨_, rfl⟩
  have et : rd x 0 = (t : Int) := by omega
  have hl := hR.2 t (by omega)
  refine ⟨⟨h1, h2, by rw [hR.1]; omega, h4, by omega, by rw [← ht, hl.1]; omega, by omega⟩, by rw [grid.apTo_length]; exact hR.1, fun u hu => ?_⟩
  unfold grid.apTo
  rw [← ht, getD_set _ _ _ _ _ (by rw [hR.1]; omega)]
  by_cases e : t = u
  · subst e
    rw [if_pos rfl]
    refine ⟨by rw [grid.apRow_length]; exact hl.1, fun s hs => ?_⟩
    have hg := hl.2 s hs
    have hsl : s < (h.getD t []).length := by rw [hl.1]; exact hs
    unfold grid.apRow
    rw [List.getD_eq_getElem?_getD, List.getElem?_mapIdx, List.getElem?_eq_getElem hsl]
    rw [List.getD_eq_getElem?_getD, List.getElem?_eq_getElem hsl] at hg
    simp only [Option.map_some, Option.getD_some] at hg ⊢
    unfold grid.rgOne grid.rgTo
    by_cases q : rd x 1 ≤ (s : Int) ∧ (s : Int) < rd x 2
    · rw [if_pos q, if_pos ⟨et, q⟩]
    · rw [if_neg q, if_neg (fun q' => q q'.2)]
      exact hg
  · rw [if_neg e]
    refine ⟨(hR.2 u hu).1, fun s hs => ?_⟩
    rw [(hR.2 u hu).2 s hs]
    unfold grid.rgOne grid.rgTo
    rw [if_neg (fun q => e (by omega))]
theorem ap_all (op : Bool) : ∀ (xs : List (List Int)) (h : List (List Bool)) (G : Int → Int → Bool), Rows h G → (∀ x ∈ xs, okRw x) → ∃ h', grid.apAll op xs h = some h' ∧ Rows h' (grid.rgAll op G xs)
  | [], h, G, hR, _ => ⟨h, rfl, hR⟩
  | x :: xs, h, G, hR, hx => by
    obtain ⟨h1, h2⟩ := ap_rows op h G hR x (hx x List.mem_cons_self)
    obtain ⟨h', h3, h4⟩ := ap_all op xs _ _ h2 (fun y hy => hx y (List.mem_cons_of_mem _ hy))
    refine ⟨h', ?_, h4⟩
    unfold grid.apAll
    rw [if_pos h1]
    exact h3
theorem same_rows {h t : List (List Bool)} {G H : Int → Int → Bool} (hh : Rows h G) (ht : Rows t H) : grid.rpFit h t = true ∧ decide (h = t) = grid.same G H := by
  constructor
  · unfold grid.rpFit
    have e1 := hh.1
    have e2 := ht.1
    simp only [Bool.and_eq_true, decide_eq_true_eq, List.all_eq_true, List.mem_range]
    refine ⟨⟨by omega, by omega⟩, fun i hi => ?_⟩
    have q1 := (hh.2 i (by omega)).1
    have q2 := (ht.2 i (by omega)).1
    exact ⟨by omega, by omega⟩
  · rw [Bool.eq_iff_iff, decide_eq_true_eq]
    unfold grid.same
    simp only [List.all_eq_true, List.mem_range, beq_iff_eq]
    constructor
    · intro e t' ht' s hs
      rw [← (hh.2 t' ht').2 s hs, ← (ht.2 t' ht').2 s hs, e]
    · intro e
      refine grid.rows_all (hh.1.trans ht.1.symm) (fun i hi => ?_)
      have e1 := hh.1
      have q1 := (hh.2 i (by omega)).1
      have q2 := (ht.2 i (by omega)).1
      refine grid.like_all (q1.trans q2.symm) (fun s hs => ?_)
      rw [(hh.2 i (by omega)).2 s (by omega), (ht.2 i (by omega)).2 s (by omega)]
      exact e i (by omega) s (by omega)
theorem rep (a b : List S47) (p c : List (List Int)) (h1 : a.length ≤ 1048576) (h2 : b.length ≤ 1048576) (h3 : p.length ≤ 1048576) (h4 : c.length ≤ 1048576) :
    ∃ r : Bool × Bool, Ev (fun k => spec_IsRepair.f k a b p c) r ∧ Ev (fun k => impl_IsRepair.f k a b p c) r := by
  unfold spec_IsRepair.f impl_IsRepair.f
  have i1 := impl_isSh a h1
  have i2 := impl_isSh b h2
  have i3 := impl_areR p h3
  have i4 := impl_areR c h4
  by_cases hs : isSh a ∧ isSh b
  · have st := spec_two a b h1 h2
    rw [decide_eq_true hs] at st
    rw [decide_eq_true hs.1] at i1
    rw [decide_eq_true hs.2] at i2
    by_cases hp : areR p
    · have sp := spec_areR p h3
      rw [decide_eq_true hp] at sp i3
      by_cases hc : areR c
      · have sc := spec_areR c h4
        rw [decide_eq_true hc] at sc i4
        have hall : (a.all grid.okHB && b.all grid.okHB && p.all grid.okRB && c.all grid.okRB) = true := by rw [sh_all hs.1, sh_all hs.2, rw_all hp, rw_all hc]; rfl
        obtain ⟨t, ht, hT⟩ := spec_open b h2 (sh_ok hs.2)
        obtain ⟨h, hh, hH⟩ := spec_open a h1 (sh_ok hs.1)
        obtain ⟨g1, hg1, hG1⟩ := ap_all false p h _ hH hp.1
        obtain ⟨g2, hg2, hG2⟩ := ap_all true c g1 _ hG1 hc.1
        obtain ⟨e1, e2⟩ := same_rows hG2 hT
        have n1 := in_ev t _ hT false p hp.1
        have n2 := in_ev t _ hT true c hc.1
        refine ⟨if grid.allIn (grid.openAt b) false p = true then (if grid.allIn (grid.openAt b) true c = true then (grid.same (grid.rgAll true (grid.rgAll false (grid.openAt a) p) c) (grid.openAt b), true) else (false, true)) else (false, true), ?_, Ev.bind i1 (ev_pos rfl (Ev.bind i2 (ev_pos rfl (Ev.bind i3 (ev_pos rfl (Ev.bind i4 (ev_pos rfl (ev_pos hall (Ev.now _)))))))))⟩
        refine Ev.bind st (ev_pos rfl (Ev.bind sp (ev_pos rfl (Ev.bind sc (ev_pos rfl (Ev.bind ht (Ev.bind n1 ?_)))))))
        cases grid.allIn (grid.openAt b) false p with
        | false => exact ev_neg (by simp) (Ev.now _)
        | true =>
          rw [if_pos rfl]
          refine ev_pos rfl (Ev.bind n2 ?_)
          cases grid.allIn (grid.openAt b) true c with
          | false => exact ev_neg (by simp) (Ev.now _)
          | true =>
            rw [if_pos rfl, ← e2]
            exact ev_pos rfl (Ev.bind hh (ev_call hg1 (ev_call hg2 (ev_pos e1 (Ev.now _)))))
      · have sc := spec_areR c h4
        rw [decide_eq_false hc] at sc i4
        exact ⟨(false, false), Ev.bind st (ev_pos rfl (Ev.bind sp (ev_pos rfl (Ev.bind sc (ev_neg (by simp) (Ev.now _)))))), Ev.bind i1 (ev_pos rfl (Ev.bind i2 (ev_pos rfl (Ev.bind i3 (ev_pos rfl (Ev.bind i4 (ev_neg (by simp) (Ev.now _))))))))⟩
    · have sp := spec_areR p h3
      rw [decide_eq_false hp] at sp i3
      exact ⟨(false, false), Ev.bind st (ev_pos rfl (Ev.bind sp (ev_neg (by simp) (Ev.now _)))), Ev.bind i1 (ev_pos rfl (Ev.bind i2 (ev_pos rfl (Ev.bind i3 (ev_neg (by simp) (Ev.now _))))))⟩
  · have st := spec_two a b h1 h2
    rw [decide_eq_false hs] at st
    refine ⟨(false, false), Ev.bind st (ev_neg (by simp) (Ev.now _)), ?_⟩
    by_cases ha : isSh a
    · have hb : ¬ isSh b := fun h => hs ⟨ha, h⟩
      rw [decide_eq_true ha] at i1
      rw [decide_eq_false hb] at i2
      exact Ev.bind i1 (ev_pos rfl (Ev.bind i2 (ev_neg (by simp) (Ev.now _))))
    · rw [decide_eq_false ha] at i1
      exact Ev.bind i1 (ev_neg (by simp) (Ev.now _))
theorem FnExactIsRepair (l0 l1 : List (S49)) (l2 l3 : List (List Int)) (w0 : (l0.length ≤ maxLen ∧ ∀ y1 ∈ l0, ((Lit.int .i64 y1.f0).wf = true ∧ (Lit.int .i64 y1.f1).wf = true ∧ (Lit.int .i64 y1.f2).wf = true))) (w1 : (l1.length ≤ maxLen ∧ ∀ y1 ∈ l1, ((Lit.int .i64 y1.f0).wf = true ∧ (Lit.int .i64 y1.f1).wf = true ∧ (Lit.int .i64 y1.f2).wf = true))) (w2 : (l2.length ≤ maxLen ∧ ∀ y1 ∈ l2, (y1.length ≤ maxLen ∧ ∀ y2 ∈ y1, (Lit.int .i64 y2).wf = true))) (w3 : (l3.length ≤ maxLen ∧ ∀ y1 ∈ l3, (y1.length ≤ maxLen ∧ ∀ y2 ∈ y1, (Lit.int .i64 y2).wf = true))) :
    ∃ k, laws_FnExactIsRepair.f k l0 l1 l2 l3 = some true := by
  have hm0 := w0.1
  have hm1 := w1.1
  have hm2 := w2.1
  have hm3 := w3.1
  have hn2 := fun x hx => (w2.2 x hx).1
  have hn3 := fun x hx => (w3.2 x hx).1
  unfold maxLen at hm0 hm1 hm2 hm3 hn2 hn3
  refine Ev.rounds (g := fun k => laws_FnExactIsRepair.f k l0 l1 l2 l3) ?_
  unfold laws_FnExactIsRepair.f
  refine ev_call (szHoleS _ _ (by omega) (by omega)) (ev_ite (fun _ => Ev.now _) (fun c0 => ?_))
  have hl0 : (l0.length : Int) ≤ 1048576 := by
    split at c0 <;> omega
  rw [if_pos hl0] at c0 ⊢
  refine ev_call (szHoleS _ _ (by omega) (by omega)) (ev_ite (fun _ => Ev.now _) (fun c1 => ?_))
  have hl1 : (l1.length : Int) ≤ 1048576 - (l0.length : Int) := by
    split at c1 <;> omega
  rw [if_pos hl1] at c1 ⊢
  obtain ⟨b2, s2, t2⟩ := szIntSS l2 (1048576 - (l0.length : Int) - (l1.length : Int)) (by omega) (by omega) (fun x hx => by have := hn2 x hx; omega)
  refine Ev.bind s2 (ev_ite (fun _ => Ev.now _) (fun c2 => ?_))
  obtain ⟨k2, m2, u2, v2⟩ := t2.resolve_left c2
  obtain ⟨b3, s3, t3⟩ := szIntSS l3 b2 (by omega) (by omega) (fun x hx => by have := hn3 x hx; omega)
  refine Ev.bind s3 (ev_ite (fun _ => Ev.now _) (fun c3 => ?_))
  obtain ⟨k3, m3, _, _⟩ := t3.resolve_left c3
  have i0 := toHoleS l0 (by omega)
  have i1 := toHoleS l1 (by omega)
  have i2 := toIntSS l2 k2 m2
  have i3 := toIntSS l3 k3 m3
  have k0 : (l0.map cvH).length ≤ 1048576 := by simp; omega
  have k1 : (l1.map cvH).length ≤ 1048576 := by simp; omega
  obtain ⟨r, g1, g2⟩ := rep (l0.map cvH) (l1.map cvH) l2 l3 k0 k1 k2 k3
  refine Ev.bind i0 (Ev.bind i1 (Ev.bind i2 (Ev.bind i3 (Ev.bind g1 (Ev.bind i0 (Ev.bind i1 (Ev.bind i2 (Ev.bind i3 (Ev.bind g2 (ev_neg (by simp) ?_))))))))))
  rw [show (r.2 != r.2) = false from by simp]
  refine Ev.step (f := fun k => if false = true then (some false) else ((laws_toHoleS.f k l0).bind fun t1 => ((laws_eqHoleS.f k (l0.map cvH) t1).bind fun b1 => (if b1 = true then ((laws_toHoleS.f k l1).bind fun t2 => ((laws_eqHoleS.f k (l1.map cvH) t2).bind fun b2 => (if b2 = true then ((laws_toIntSS.f k l2).bind fun t3 => ((laws_eqIntSS.f k l2 t3).bind fun b3 => (if b3 = true then ((laws_toIntSS.f k l3).bind fun t4 => ((laws_eqIntSS.f k l3 t4).bind fun b4 => (if b4 = true then (some true) else (some false)))) else (some false)))) else (some false)))) else (some false))))) (fun k => rfl) ?_
  exact ev_neg (by simp) (Ev.bind i0 (Ev.bind (eqHoleS _ k0) (ev_pos rfl (Ev.bind i1 (Ev.bind (eqHoleS _ k1) (ev_pos rfl (Ev.bind i2 (Ev.bind (sameIntSS _ (by omega) m2) (ev_pos rfl (Ev.bind i3 (Ev.bind (sameIntSS _ (by omega) m3) (ev_pos rfl (Ev.now _)))))))))))))
end Go.Proofs.Ytghdiijfpepmhaa.PureFnExactIsRepair
