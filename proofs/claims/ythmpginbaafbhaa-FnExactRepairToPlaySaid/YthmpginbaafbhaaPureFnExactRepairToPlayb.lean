/- The plain statement of FnExactRepairToPlay (lemmas): the law's function, over numbers and lists, answers true. No conditions beyond the arguments' own kinds. -/
import Derived.Test.YthmpginbaafbhaaSRepairToPlay22
import Derived.Test.YthmpginbaafbhaaPureFnExactRepairToPlaya
namespace Go.Proofs.Ythmpginbaafbhaa.PureFnExactRepairToPlay
open Go Go.RowKit Go.Proofs.Ythmpginbaafbhaa.PFnExactRepairToPlay Go.Proofs.YthmpginbaafbhaaW.PrintWords Go.Proofs.YthmpginbaafbhaaW.PrintLast Go.Proofs.YthmpginbaafbhaaW.PrintMore Go.Proofs.Ythmpginbaafbhaa.Lib
set_option linter.unusedVariables false
set_option linter.unusedSimpArgs false
def Rows (x : List (List Bool)) (G : Int → Int → Bool) : Prop := x.length = 20 ∧ ∀ t : Nat, t < 20 → (x.getD t []).length = 2000 ∧ ∀ s : Nat, s < 2000 → (x.getD t []).getD s false = G (t : Int) (s : Int)
theorem getD_set {α : Type} (x : List α) (t u : Nat) (v d : α) (ht : t < x.length) : (x.set t v).getD u d = if t = u then v else x.getD u d := by
  rw [List.getD_eq_getElem?_getD, List.getElem?_set]
  split
  · rename_i e
    subst e
    (try rw [if_pos ht])
    rfl
  · rw [List.getD_eq_getElem?_getD]
theorem Rows.congr {x : List (List Bool)} {G H : Int → Int → Bool} (h : Rows x G) (e : ∀ t s : Nat, t < 20 → s < 2000 → G (t : Int) (s : Int) = H (t : Int) (s : Int)) : Rows x H :=
  ⟨h.1, fun t ht => ⟨(h.2 t ht).1, fun s hs => ((h.2 t ht).2 s hs).trans (e t s ht hs)⟩⟩
theorem Rows.put {x : List (List Bool)} {G : Int → Int → Bool} (h : Rows x G) {t s : Nat} (ht : t < 20) (hs : s < 2000) : Rows (x.set t ((x.getD t []).set s true)) (fun a b => G a b || decide (a = (t : Int) ∧ b = (s : Int))) := by
  refine ⟨by rw [List.length_set]; exact h.1, fun u hu => ?_⟩
  rw [getD_set _ _ _ _ _ (by rw [h.1]; exact ht)]
  by_cases e : t = u
  · subst e
    rw [if_pos rfl]
    refine ⟨by rw [List.length_set]; exact (h.2 t ht).1, fun v hv => ?_⟩
    rw [getD_set _ _ _ _ _ (by rw [(h.2 t ht).1]; exact hs)]
    by_cases e : s = v
    · subst e
      simp
    · rw [if_neg e, (h.2 t ht).2 v hv]
      have : ¬ ((v : Int) = (s : Int)) := by omega
      simp [this]
  · rw [if_neg e]
    refine ⟨(h.2 u hu).1, fun v hv => ?_⟩
    rw [(h.2 u hu).2 v hv]
    have : ¬ ((u : Int) = (t : Int)) := by omega
    simp [this]
theorem Rows.fresh : ∀ (i : Nat) (x : List (List Bool)), x.length = 20 → i < 20 → (∀ t : Nat, t < i → x.getD t [] = List.replicate 2000 false) → (∀ t : Nat, t < i + 1 → (x.set i (List.replicate 2000 false)).getD t [] = List.replicate 2000 false) := by
  intro i x hx hi h t ht
  rw [getD_set _ _ _ _ _ (by omega)]
  split
  · rfl
  · exact h t (by omega)
theorem Rows.zero {x : List (List Bool)} (hx : x.length = 20) (h : ∀ t : Nat, t < 20 → x.getD t [] = List.replicate 2000 false) : Rows x (fun _ _ => false) := by
  refine ⟨hx, fun t ht => ?_⟩
  rw [h t ht]
  refine ⟨List.length_replicate, fun s hs => ?_⟩
  rw [List.getD_eq_getElem?_getD, List.getElem?_replicate]
  split <;> rfl
theorem open_l2 (l : List S51) (n i : Int) (t a e : Nat) (ht : t < 20) (he : e ≤ 2000) (G : Int → Int → Bool) (P : List (List Bool) → Prop)
    (hn : ∀ x, Rows x (fun u v => G u v || decide ((t : Int) = u ∧ (a : Int) ≤ v ∧ v < (e : Int))) → ∃ r, Ev (fun k => spec_rpOpen.l1 k x l n (wrap64 (i + 1))) r ∧ P r) :
    ∀ (m : Nat) (x : List (List Bool)), m ≤ e → (a ≤ m ∧ Rows x (fun u v => G u v || decide ((t : Int) = u ∧ (a : Int) ≤ v ∧ v < (m : Int)))) → ∃ r, Ev (fun k => spec_rpOpen.l2 k x (m : Int) l n i (t : Int) (a : Int) (e : Int)) r ∧ P r := by
  refine ev_for_ex (fun k x m => spec_rpOpen.l2 k x m l n i (t : Int) (a : Int) (e : Int)) e (fun m x => a ≤ m ∧ Rows x (fun u v => G u v || decide ((t : Int) = u ∧ (a : Int) ≤ v ∧ v < (m : Int)))) P ?_ ?_
  · intro x hx
    obtain ⟨r, h1, h2⟩ := hn x hx.2
    refine ⟨r, Ev.step (f := fun k => spec_rpOpen.l1 k x l n (wrap64 (i + 1))) (fun k => ?_) h1, h2⟩
    simp only [spec_rpOpen.l2]
    rw [if_neg (by omega)]
  · intro m x hm hx ih
    obtain ⟨r, h1, h2⟩ := ih (x.set t ((x.getD t []).set m true)) ⟨by omega, (hx.2.put ht (by omega)).congr (fun u v _ _ => by
      rw [Bool.or_assoc]
      congr 1
      rw [← Bool.decide_or]
      refine decide_eq_decide.mpr ⟨fun h => ?_, fun h => ?_⟩ <;> omega)⟩
    have q := (hx.2.2 t ht).1
    have q1 := hx.2.1
    refine ⟨r, Ev.step (f := fun k => spec_rpOpen.l2 k (x.set t ((x.getD t []).set m true)) ((m + 1 : Nat) : Int) l n i (t : Int) (a : Int) (e : Int)) (fun k => ?_) h1, h2⟩
    simp only [spec_rpOpen.l2]
    rw [if_pos (by omega), if_pos (by omega), if_pos (by omega), if_pos (by omega), if_pos (by show (m : Int) < (((x.getD (t : Int).toNat []).length : Nat) : Int); rw [Int.toNat_natCast, q]; omega), wn (by omega : m < 2000) (by omega)]
    rfl
theorem open_l1 (l : List S51) (hl : l.length ≤ 1048576) (hk : ∀ x ∈ l, grid.okH x) : ∀ (i : Nat) (x : List (List Bool)), i ≤ l.length → Rows x (grid.openAt (l.take i)) → ∃ r, Ev (fun k => spec_rpOpen.l1 k x l (l.length : Int) (i : Int)) r ∧ Rows r (grid.openAt l) := by
  refine ev_for_ex (fun k x i => spec_rpOpen.l1 k x l (l.length : Int) i) l.length (fun i x => Rows x (grid.openAt (l.take i))) (fun r => Rows r (grid.openAt l)) ?_ ?_
  · intro x hx
    rw [List.take_length] at hx
    refine ⟨x, Ev.step (f := fun _ => some x) (fun k => ?_) (ev_now rfl), hx⟩
    simp only [spec_rpOpen.l1]
    rw [if_neg (by omega)]
  · intro i x hi hx ih
    have ho := hk _ (List.getElem_mem hi)
    obtain ⟨o1, o2, o3, o4⟩ := ho
    have et : l.take (i + 1) = l.take i ++ [l[i]] := by rw [List.take_succ_eq_append_getElem hi]
    have e0 : rd_T51 l (i : Int) = l[i] := rd_get hi
    by_cases hz : l[i].f1 ≤ l[i].f2
    · have f0 : l[i].f0 = ((l[i].f0.toNat : Nat) : Int) := by omega
      have f1 : l[i].f1 = ((l[i].f1.toNat : Nat) : Int) := by omega
      have f2 : l[i].f2 = ((l[i].f2.toNat : Nat) : Int) := by omega
      obtain ⟨r, h1, h2⟩ := open_l2 l (l.length : Int) (i : Int) l[i].f0.toNat l[i].f1.toNat l[i].f2.toNat (by omega) (by omega) (grid.openAt (l.take i)) (fun r => Rows r (grid.openAt l))
        (fun x hx => by
          rw [wn hi (by omega)]
          refine ih x ?_
          rw [et]
          refine hx.congr fun u v _ _ => ?_
          rw [grid.openAt_snoc, ← f0, ← f1, ← f2])
        l[i].f1.toNat x (by omega) ⟨Nat.le_refl _, hx.congr fun u v _ _ => by
          have : ¬ (((l[i].f0.toNat : Nat) : Int) = (u : Int) ∧ ((l[i].f1.toNat : Nat) : Int) ≤ (v : Int) ∧ (v : Int) < ((l[i].f1.toNat : Nat) : Int)) := by omega
          rw [decide_eq_false this, Bool.or_false]⟩
      rw [← f0, ← f1, ← f2] at h1
      refine ⟨r, Ev.step (f := fun k => spec_rpOpen.l2 k x l[i].f1 l (l.length : Int) (i : Int) l[i].f0 l[i].f1 l[i].f2) (fun k => ?_) h1, h2⟩
      simp only [spec_rpOpen.l1]
      rw [if_pos (by omega), if_pos (by omega), if_pos (by omega), e0]
    · obtain ⟨r, h1, h2⟩ := ih x (by
        rw [et]
        refine hx.congr fun u v _ _ => ?_
        rw [grid.openAt_snoc]
        have : ¬ (l[i].f0 = (u : Int) ∧ l[i].f1 ≤ (v : Int) ∧ (v : Int) < l[i].f2) := by omega
        rw [decide_eq_false this, Bool.or_false])
      refine ⟨r, Ev.step (f := fun k => spec_rpOpen.l2 k x l[i].f1 l (l.length : Int) (i : Int) l[i].f0 l[i].f1 l[i].f2) (fun k => ?_) (Ev.step (f := fun k => spec_rpOpen.l1 k x l (l.length : Int) ((i + 1 : Nat) : Int)) (fun k => ?_) h1), h2⟩
      · simp only [spec_rpOpen.l1]
        rw [if_pos (by omega), if_pos (by omega), if_pos (by omega), e0]
      · simp only [spec_rpOpen.l2]
        rw [if_neg (by omega), wn hi (by omega)]
theorem spec_open (l : List S51) (hl : l.length ≤ 1048576) (hk : ∀ x ∈ l, grid.okH x) : ∃ r, Ev (fun k => spec_rpOpen.f k l) r ∧ Rows r (grid.openAt l) := by
  have h0 : ∀ (i : Nat) (x : List (List Bool)), i ≤ 20 → (x.length = 20 ∧ ∀ t : Nat, t < i → x.getD t [] = List.replicate 2000 false) → ∃ r, Ev (fun k => spec_rpOpen.l0 k l x ((20 : Nat) : Int) (i : Int)) r ∧ Rows r (grid.openAt l) := by
    refine ev_for_ex (fun k x i => spec_rpOpen.l0 k l x ((20 : Nat) : Int) i) 20 (fun i x => x.length = 20 ∧ ∀ t : Nat, t < i → x.getD t [] = List.replicate 2000 false) (fun r => Rows r (grid.openAt l)) ?_ ?_
    · intro x hx
      obtain ⟨r, h1, h2⟩ := open_l1 l hl hk 0 x (Nat.zero_le _) ((Rows.zero hx.1 hx.2).congr fun _ _ _ _ => rfl)
      refine ⟨r, Ev.step (f := fun k => spec_rpOpen.l1 k x l (l.length : Int) ((0 : Nat) : Int)) (fun k => ?_) h1, h2⟩
      simp only [spec_rpOpen.l0]
      rw [if_neg (by omega)]
      rfl
    · intro i x hi hx ih
      obtain ⟨r, h1, h2⟩ := ih (x.set i (List.replicate 2000 false)) ⟨by rw [List.length_set]; exact hx.1, Rows.fresh i x hx.1 hi hx.2⟩
      refine ⟨r, Ev.step (f := fun k => spec_rpOpen.l0 k l (x.set i (List.replicate 2000 false)) ((20 : Nat) : Int) ((i + 1 : Nat) : Int)) (fun k => ?_) h1, h2⟩
      have q1 := hx.1
      simp only [spec_rpOpen.l0]
      rw [if_pos (by omega), if_pos (by omega), if_pos (by omega), if_pos (by omega), wn hi (by omega)]
      rfl
  obtain ⟨r, h1, h2⟩ := h0 0 (List.replicate 20 []) (Nat.zero_le _) ⟨List.length_replicate, fun t ht => absurd ht (Nat.not_lt_zero _)⟩
  refine ⟨r, ?_, h2⟩
  unfold spec_rpOpen.f
  refine ev_pos (by omega) (ev_call rfl ?_)
  rw [show (((List.replicate 20 ([] : List Bool)).length : Nat) : Int) = ((20 : Nat) : Int) from by rw [List.length_replicate]]
  exact h1

def tailOf (t : Int) (st : List (List Int) × Int) (s : Int) : List (List Int) := st.1 ++ (if st.2 < 0 then [] else [[t, st.2, s]])
/-- Rows of three that end ahead of step s of track t. -/
def ahead (t s : Int) (o : List (List Int)) : Prop := ∀ x ∈ o, ∃ a b c : Int, x = [a, b, c] ∧ (a < t ∨ a = t ∧ c < s)
theorem ahead_step (h : Int → Int → Bool) (t : Int) (st : List (List Int) × Int) (s : Int) (ha : ahead t s st.1) : ahead t (s + 1) (grid.grStep h t st s).1 := by
  have h1 : ahead t (s + 1) st.1 := fun x hx => by
    obtain ⟨a, b, c, e, h⟩ := ha x hx
    exact ⟨a, b, c, e, by omega⟩
  unfold grid.grStep
  split
  · exact h1
  · split
    · intro x hx
      rcases List.mem_append.1 hx with hx | hx
      · exact h1 x hx
      · obtain rfl := List.mem_singleton.1 hx
        exact ⟨t, st.2, s, rfl, by omega⟩
    · exact h1
theorem ahead_grS (h : Int → Int → Bool) (t : Int) (o : List (List Int)) (ho : ahead t 0 o) : ∀ s : Nat, ahead t (s : Int) (grid.grS h t o s).1 := by
  intro s
  induction s with
  | zero => exact ho
  | succ s ih => exact ahead_step h t _ (s : Int) ih
theorem ahead_grT (h : Int → Int → Bool) : ∀ t : Nat, ahead (t : Int) 0 (grid.grT h t) := by
  intro t
  induction t with
  | zero => intro x hx; cases hx
  | succ t ih =>
    intro x hx
    obtain ⟨a, b, c, e, h1⟩ := ahead_grS h (t : Int) _ ih 2001 x hx
    exact ⟨a, b, c, e, by omega⟩
theorem tail_none {t : Int} {st : List (List Int) × Int} {s : Int} (c : st.2 < 0) : tailOf t st s = st.1 := by
  unfold tailOf
  rw [if_pos c, List.append_nil]
theorem tail_some {t : Int} {st : List (List Int) × Int} {s : Int} (c : ¬ st.2 < 0) : tailOf t st s = st.1 ++ [[t, st.2, s]] := by
  unfold tailOf
  rw [if_neg c]
theorem step_on {h : Int → Int → Bool} {t : Int} {st : List (List Int) × Int} {s : Int} (hs : h t s = true) (h1 : s < 2000) : grid.grStep h t st s = (st.1, if st.2 < 0 then s else st.2) := by
  unfold grid.grStep
  rw [if_pos ⟨h1, hs⟩]
theorem step_shut {h : Int → Int → Bool} {t : Int} {st : List (List Int) × Int} {s : Int} (hs : ¬ (s < 2000 ∧ h t s = true)) (c : ¬ st.2 < 0) : grid.grStep h t st s = (st.1 ++ [[t, st.2, s]], -1) := by
  unfold grid.grStep
  rw [if_neg hs, if_pos (by omega)]
theorem step_none {h : Int → Int → Bool} {t : Int} {st : List (List Int) × Int} {s : Int} (hs : ¬ (s < 2000 ∧ h t s = true)) (c : st.2 < 0) : grid.grStep h t st s = st := by
  unfold grid.grStep
  rw [if_neg hs, if_neg (by omega)]
theorem tail_skip (h : Int → Int → Bool) (t : Int) (st : List (List Int) × Int) (s : Int) (hs : h t s = false) : tailOf t (grid.grStep h t st s) (s + 1) = tailOf t st s := by
  have hn : ¬ (s < 2000 ∧ h t s = true) := by simp [hs]
  by_cases c : st.2 < 0
  · rw [step_none hn c, tail_none c, tail_none c]
  · rw [step_shut hn c, tail_none (show (-1 : Int) < 0 by omega), tail_some c]
theorem tail_new (h : Int → Int → Bool) (t : Int) (st : List (List Int) × Int) (s : Int) (hs : h t s = true) (h0 : 0 ≤ s) (h1 : s < 2000) (c : st.2 < 0) : tailOf t st s = st.1 ∧ tailOf t (grid.grStep h t st s) (s + 1) = st.1 ++ [[t, s, s + 1]] := by
  refine ⟨tail_none c, ?_⟩
  rw [step_on hs h1, if_pos c, tail_some (show ¬ (s : Int) < 0 by omega)]
theorem tail_more (h : Int → Int → Bool) (t : Int) (st : List (List Int) × Int) (s : Int) (hs : h t s = true) (h1 : s < 2000) (c : ¬ st.2 < 0) : tailOf t st s = st.1 ++ [[t, st.2, s]] ∧ tailOf t (grid.grStep h t st s) (s + 1) = st.1 ++ [[t, st.2, s + 1]] := by
  refine ⟨tail_some c, ?_⟩
  rw [step_on hs h1, if_neg c, tail_some (show ¬ st.2 < 0 from c)]
theorem tail_end (h : Int → Int → Bool) (t : Int) (o : List (List Int)) : tailOf t (grid.grS h t o 2000) 2000 = (grid.grS h t o 2001).1 := by
  have e : grid.grS h t o 2001 = grid.grStep h t (grid.grS h t o 2000) ((2000 : Nat) : Int) := rfl
  rw [e]
  generalize grid.grS h t o 2000 = st
  have hn : ¬ (((2000 : Nat) : Int) < 2000 ∧ h t ((2000 : Nat) : Int) = true) := by omega
  by_cases c : st.2 < 0
  · rw [step_none hn c, tail_none c]
  · rw [step_shut hn c, tail_some c]
    rfl

theorem getD_last (D : List (List Int)) (x : List Int) : (D ++ [x]).getD D.length [] = x := by
  rw [List.getD_eq_getElem?_getD, List.getElem?_append_right (Nat.le_refl _), Nat.sub_self]
  rfl
theorem j2_more (k : Nat) (x5 x6 : List (List Bool)) (D : List (List Int)) (t f s n t' m : Int) (hs : 0 ≤ s ∧ s < 2000) (hD : D.length < 1000000) :
    spec_rpRanges.j2 (k + 1) x5 x6 (D ++ [[t, f, s]]) t s n t' m s false = spec_rpRanges.l1 k x5 x6 (D ++ [[t, f, s + 1]]) t n t' m (wrap64 (s + 1)) := by
  have hl : (((D ++ [[t, f, s]]).length : Nat) : Int) = ((D.length + 1 : Nat) : Int) := by rw [List.length_append]; rfl
  have hw : wrap64 (((D.length + 1 : Nat) : Int) - 1) = ((D.length : Nat) : Int) := by unfold wrap64; omega
  have hg : (D ++ [[t, f, s]]).getD ((D.length : Nat) : Int).toNat [] = [t, f, s] := by rw [Int.toNat_natCast, getD_last]
  have hs1 : wrap64 (s + 1) = s + 1 := wid (by omega) (by omega)
  simp only [spec_rpRanges.j2]
  rw [if_neg (by simp), hl, hw, if_pos (by omega), if_pos (by omega), if_pos (by omega),
    if_pos (by show (0 : Int) < ((((D ++ [[t, f, s]]).getD ((D.length : Nat) : Int).toNat []).length : Nat) : Int); rw [hg]; simp only [List.length_cons, List.length_nil]; omega),
    if_pos (by show (((D ++ [[t, f, s]]).getD ((D.length : Nat) : Int).toNat []).getD (0 : Int).toNat 0) = t; rw [hg]; rfl),
    if_pos (by show (2 : Int) < ((((D ++ [[t, f, s]]).getD ((D.length : Nat) : Int).toNat []).length : Nat) : Int); rw [hg]; simp only [List.length_cons, List.length_nil]; omega),
    if_pos (by show (((D ++ [[t, f, s]]).getD ((D.length : Nat) : Int).toNat []).getD (2 : Int).toNat 0) = s; rw [hg]; rfl)]
  refine congrArg (fun z => spec_rpRanges.l1 k x5 x6 z t n t' m (wrap64 (s + 1))) ?_
  show (D ++ [[t, f, s]]).set ((D.length : Nat) : Int).toNat (((D ++ [[t, f, s]]).getD ((D.length : Nat) : Int).toNat []).set (2 : Int).toNat (wrap64 ((((D ++ [[t, f, s]]).getD ((D.length : Nat) : Int).toNat []).getD (2 : Int).toNat 0) + 1))) = _
  rw [hg, Int.toNat_natCast, List.set_append_right _ _ (Nat.le_refl _), Nat.sub_self]
  show D ++ [[t, f, wrap64 (s + 1)]] = _
  rw [hs1]
theorem j2_empty (k : Nat) (x5 x6 : List (List Bool)) (t s n t' m : Int) (hs : 0 ≤ s ∧ s < 2000) :
    spec_rpRanges.j2 (k + 1) x5 x6 [] t s n t' m s false = spec_rpRanges.l1 k x5 x6 [[t, s, s + 1]] t n t' m (wrap64 (s + 1)) := by
  have hs1 : wrap64 (s + 1) = s + 1 := wid (by omega) (by omega)
  simp only [spec_rpRanges.j2]
  rw [if_neg (by simp), if_neg (by simp), if_pos (by simp), hs1]
  rfl
theorem j2_new (k : Nat) (x5 x6 : List (List Bool)) (D : List (List Int)) (a b c t s n t' m : Int) (hs : 0 ≤ s ∧ s < 2000) (hD : D.length < 1000000) (hx : a < t ∨ a = t ∧ c < s) :
    spec_rpRanges.j2 (k + 1) x5 x6 (D ++ [[a, b, c]]) t s n t' m s false = spec_rpRanges.l1 k x5 x6 (D ++ [[a, b, c]] ++ [[t, s, s + 1]]) t n t' m (wrap64 (s + 1)) := by
  have hl : (((D ++ [[a, b, c]]).length : Nat) : Int) = ((D.length + 1 : Nat) : Int) := by rw [List.length_append]; rfl
  have hl' : (D ++ [[a, b, c]]).length = D.length + 1 := by rw [List.length_append]; rfl
  have hw : wrap64 (((D.length + 1 : Nat) : Int) - 1) = ((D.length : Nat) : Int) := by unfold wrap64; omega
  have hg : (D ++ [[a, b, c]]).getD ((D.length : Nat) : Int).toNat [] = [a, b, c] := by rw [Int.toNat_natCast, getD_last]
  have hs1 : wrap64 (s + 1) = s + 1 := wid (by omega) (by omega)
  simp only [spec_rpRanges.j2]
  rw [if_neg (by simp), hl, hw, if_pos (by omega), if_pos (by omega), if_pos (by omega),
    if_pos (by show (0 : Int) < ((((D ++ [[a, b, c]]).getD ((D.length : Nat) : Int).toNat []).length : Nat) : Int); rw [hg]; simp only [List.length_cons, List.length_nil]; omega)]
  by_cases e : a = t
  · rw [if_pos (by show (((D ++ [[a, b, c]]).getD ((D.length : Nat) : Int).toNat []).getD (0 : Int).toNat 0) = t; rw [hg]; exact e),
      if_pos (by show (2 : Int) < ((((D ++ [[a, b, c]]).getD ((D.length : Nat) : Int).toNat []).length : Nat) : Int); rw [hg]; simp only [List.length_cons, List.length_nil]; omega),
      if_neg (by show ¬ (((D ++ [[a, b, c]]).getD ((D.length : Nat) : Int).toNat []).getD (2 : Int).toNat 0) = s; rw [hg]; show ¬ c = s; omega), if_pos (by omega), hs1]
  · rw [if_neg (by show ¬ (((D ++ [[a, b, c]]).getD ((D.length : Nat) : Int).toNat []).getD (0 : Int).toNat 0) = t; rw [hg]; exact e), if_pos (by omega), hs1]
theorem j2_put (k : Nat) (x5 x6 : List (List Bool)) (h : Int → Int → Bool) (t : Int) (st : List (List Int) × Int) (s n t' m : Int) (hs : 0 ≤ s ∧ s < 2000) (hh : h t s = true) (ha : ahead t s st.1) (hl : st.1.length < 1000000) :
    spec_rpRanges.j2 (k + 1) x5 x6 (tailOf t st s) t s n t' m s false = spec_rpRanges.l1 k x5 x6 (tailOf t (grid.grStep h t st s) (s + 1)) t n t' m (wrap64 (s + 1)) := by
  by_cases c : st.2 < 0
  · obtain ⟨e1, e2⟩ := tail_new h t st s hh hs.1 hs.2 c
    rw [e1, e2]
    rcases List.eq_nil_or_concat st.1 with e | ⟨D, x, e⟩
    · rw [e]
      exact j2_empty k x5 x6 t s n t' m hs
    · obtain ⟨a, b, c, ex, hx⟩ := ha x (by rw [e]; simp)
      subst ex
      rw [e] at hl ⊢
      rw [List.concat_eq_append] at hl ⊢
      rw [List.length_append] at hl
      exact j2_new k x5 x6 D a b c t s n t' m hs (by omega) hx
  · obtain ⟨e1, e2⟩ := tail_more h t st s hh hs.2 c
    rw [e1, e2]
    exact j2_more k x5 x6 st.1 t st.2 s n t' m hs hl
theorem j2_skip (k : Nat) (x5 x6 : List (List Bool)) (x7 : List (List Int)) (t s n t' m : Int) : spec_rpRanges.j2 (k + 1) x5 x6 x7 t s n t' m s true = spec_rpRanges.l1 k x5 x6 x7 t n t' m (wrap64 (s + 1)) := by
  simp only [spec_rpRanges.j2]
  rw [if_pos trivial]
end Go.Proofs.Ythmpginbaafbhaa.PureFnExactRepairToPlay
