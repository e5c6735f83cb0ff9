/- The plain statement of FnExactApplyPatches: the law's function, over numbers and lists, answers true. No conditions beyond the arguments' own kinds. -/
import Derived.Test.YtghdiijfpepmhaaSApplyPatchesL
import Derived.Test.YtghdiijfpepmhaaPureFnExactApplyPatchesa
namespace Go.Proofs.Ytghdiijfpepmhaa.PureFnExactApplyPatches
open Go Go.RowKit Go.Proofs.Ytghdiijfpepmhaa.PFnExactApplyPatches Go.Proofs.YtghdiijfpepmhaaW.PrintWords Go.Proofs.YtghdiijfpepmhaaW.PrintLast Go.Proofs.YtghdiijfpepmhaaW.PrintMore Go.Proofs.Ytghdiijfpepmhaa.Lib
set_option linter.unusedVariables false
set_option linter.unusedSimpArgs false
def Rows (x : List (List Bool)) (G : Int → Int → Bool) : Prop := x.length = 20 ∧ ∀ t : Nat, t < 20 → (x.getD t []).length = 2000 ∧ ∀ s : Nat, s < 2000 → (x.getD t []).getD s false = G (t : Int) (s : Int)
theorem getD_set {α : Type} (x : List α) (t u : Nat) (v d : α) (ht : t < x.length) : (x.set t v).getD u d = if t = u then v else x.getD u d := by
  rw [List.getD_eq_getElem?_getD, List.getElem?_set]
  split
  · rename_i e
    subst e
    (try rw [if_pos ht])
    rfl
  · rw [List.getD_eq_getElem?_getD]
theorem Rows.congr {x : List (List Bool)} {G H : Int → Int → Bool} (h : Rows x G) (e : ∀ t s : Nat, t < 20 → s < 2000 → G (t : Int) (s : Int) = H (t : Int) (s : Int)) : Rows x H :=
  ⟨h.1, fun t ht => ⟨(h.2 t ht).1, fun s hs => ((h.2 t ht).2 s hs).trans (e t s ht hs)⟩⟩
theorem Rows.put {x : List (List Bool)} {G : Int → Int → Bool} (h : Rows x G) {t s : Nat} (ht : t < 20) (hs : s < 2000) : Rows (x.set t ((x.getD t []).set s true)) (fun a b => G a b || decide (a = (t : Int) ∧ b = (s : Int))) := by
  refine ⟨by rw [List.length_set]; exact h.1, fun u hu => ?_⟩
  rw [getD_set _ _ _ _ _ (by rw [h.1]; exact ht)]
  by_cases e : t = u
  · subst e
    rw [if_pos rfl]
    refine ⟨by rw [List.length_set]; exact (h.2 t ht).1, fun v hv => ?_⟩
    rw [getD_set _ _ _ _ _ (by rw [(h.2 t ht).1]; exact hs)]
    by_cases e : s = v
    · subst e
      simp
    · rw [if_neg e, (h.2 t ht).2 v hv]
      have : ¬ ((v : Int) = (s : Int)) := by omega
      simp [this]
  · rw [if_neg e]
    refine ⟨(h.2 u hu).1, fun v hv => ?_⟩
    rw [(h.2 u hu).2 v hv]
    have : ¬ ((u : Int) = (t : Int)) := by omega
    simp [this]
theorem Rows.fresh : ∀ (i : Nat) (x : List (List Bool)), x.length = 20 → i < 20 → (∀ t : Nat, t < i → x.getD t [] = List.replicate 2000 false) → (∀ t : Nat, t < i + 1 → (x.set i (List.replicate 2000 false)).getD t [] = List.replicate 2000 false) := by
  intro i x hx hi h t ht
  rw [getD_set _ _ _ _ _ (by omega)]
  split
  · rfl
  · exact h t (by omega)
theorem Rows.zero {x : List (List Bool)} (hx : x.length = 20) (h : ∀ t : Nat, t < 20 → x.getD t [] = List.replicate 2000 false) : Rows x (fun _ _ => false) := by
  refine ⟨hx, fun t ht => ?_⟩
  rw [h t ht]
  refine ⟨List.length_replicate, fun s hs => ?_⟩
  rw [List.getD_eq_getElem?_getD, List.getElem?_replicate]
  split <;> rfl
theorem open_l2 (l : List S47) (n i : Int) (t a e : Nat) (ht : t < 20) (he : e ≤ 2000) (G : Int → Int → Bool) (P : List (List Bool) → Prop)
    (hn : ∀ x, Rows x (fun u v => G u v || decide ((t : Int) = u ∧ (a : Int) ≤ v ∧ v < (e : Int))) → ∃ r, Ev (fun k => spec_rpOpen.l1 k x l n (wrap64 (i + 1))) r ∧ P r) :
    ∀ (m : Nat) (x : List (List Bool)), m ≤ e → (a ≤ m ∧ Rows x (fun u v => G u v || decide ((t : Int) = u ∧ (a : Int) ≤ v ∧ v < (m : Int)))) → ∃ r, Ev (fun k => spec_rpOpen.l2 k x (m : Int) l n i (t : Int) (a : Int) (e : Int)) r ∧ P r := by
  refine ev_for_ex (fun k x m => spec_rpOpen.l2 k x m l n i (t : Int) (a : Int) (e : Int)) e (fun m x => a ≤ m ∧ Rows x (fun u v => G u v || decide ((t : Int) = u ∧ (a : Int) ≤ v ∧ v < (m : Int)))) P ?_ ?_
  · intro x hx
    obtain ⟨r, h1, h2⟩ := hn x hx.2
    refine ⟨r, Ev.step (f := fun k => spec_rpOpen.l1 k x l n (wrap64 (i + 1))) (fun k => ?_) h1, h2⟩
    simp only [spec_rpOpen.l2]
    rw [if_neg (by omega)]
  · intro m x hm hx ih
    obtain ⟨r, h1, h2⟩ := ih (x.set t ((x.getD t []).set m true)) ⟨by omega, (hx.2.put ht (by omega)).congr (fun u v _ _ => by
      rw [Bool.or_assoc]
      congr 1
      rw [← Bool.decide_or]
      refine decide_eq_decide.mpr ⟨fun h => ?_, fun h => ?_⟩ <;> omega)⟩
    have q := (hx.2.2 t ht).1
    have q1 := hx.2.1
    refine ⟨r, Ev.step (f := fun k => spec_rpOpen.l2 k (x.set t ((x.getD t []).set m true)) ((m + 1 : Nat) : Int) l n i (t : Int) (a : Int) (e : Int)) (fun k => ?_) h1, h2⟩
    simp only [spec_rpOpen.l2]
    rw [if_pos (by omega), if_pos (by omega), if_pos (by omega), if_pos (by omega), if_pos (by show (m : Int) < (((x.getD (t : Int).toNat []).length : Nat) : Int); rw [Int.toNat_natCast, q]; omega), wn (by omega : m < 2000) (by omega)]
    rfl
theorem open_l1 (l : List S47) (hl : l.length ≤ 1048576) (hk : ∀ x ∈ l, grid.okH x) : ∀ (i : Nat) (x : List (List Bool)), i ≤ l.length → Rows x (grid.openAt (l.take i)) → ∃ r, Ev (fun k => spec_rpOpen.l1 k x l (l.length : Int) (i : Int)) r ∧ Rows r (grid.openAt l) := by
  refine ev_for_ex (fun k x i => spec_rpOpen.l1 k x l (l.length : Int) i) l.length (fun i x => Rows x (grid.openAt (l.take i))) (fun r => Rows r (grid.openAt l)) ?_ ?_
  · intro x hx
    rw [List.take_length] at hx
    refine ⟨x, Ev.step (f := fun _ => some x) (fun k => ?_) (ev_now rfl), hx⟩
    simp only [spec_rpOpen.l1]
    rw [if_neg (by omega)]
  · intro i x hi hx ih
    have ho := hk _ (List.getElem_mem hi)
    obtain ⟨o1, o2, o3, o4⟩ := ho
    have et : l.take (i + 1) = l.take i ++ [l[i]] := by rw [List.take_succ_eq_append_getElem hi]
    have e0 : rd_T47 l (i : Int) = l[i] := rd_get hi
    by_cases hz : l[i].f1 ≤ l[i].f2
    · have f0 : l[i].f0 = ((l[i].f0.toNat : Nat) : Int) := by omega
      have f1 : l[i].f1 = ((l[i].f1.toNat : Nat) : Int) := by omega
      have f2 : l[i].f2 = ((l[i].f2.toNat : Nat) : Int) := by omega
      obtain ⟨r, h1, h2⟩ := open_l2 l (l.length : Int) (i : Int) l[i].f0.toNat l[i].f1.toNat l[i].f2.toNat (by omega) (by omega) (grid.openAt (l.take i)) (fun r => Rows r (grid.openAt l))
        (fun x hx => by
          rw [wn hi (by omega)]
          refine ih x ?_
          rw [et]
          refine hx.congr fun u v _ _ => ?_
          rw [grid.openAt_snoc, ← f0, ← f1, ← f2])
        l[i].f1.toNat x (by omega) ⟨Nat.le_refl _, hx.congr fun u v _ _ => by
          have : ¬ (((l[i].f0.toNat : Nat) : Int) = (u : Int) ∧ ((l[i].f1.toNat : Nat) : Int) ≤ (v : Int) ∧ (v : Int) < ((l[i].f1.toNat : Nat) : Int)) := by omega
          rw [decide_eq_false this, Bool.or_false]⟩
      rw [← f0, ← f1, ← f2] at h1
      refine ⟨r, Ev.step (f := fun k => spec_rpOpen.l2 k x l[i].f1 l (l.length : Int) (i : Int) l[i].f0 l[i].f1 l[i].f2) (fun k => ?_) h1, h2⟩
      simp only [spec_rpOpen.l1]
      rw [if_pos (by omega), if_pos (by omega), if_pos (by omega), e0]
    · obtain ⟨r, h1, h2⟩ := ih x (by
        rw [et]
        refine hx.congr fun u v _ _ => ?_
        rw [grid.openAt_snoc]
        have : ¬ (l[i].f0 = (u : Int) ∧ l[i].f1 ≤ (v : Int) ∧ (v : Int) < l[i].f2) := by omega
        rw [decide_eq_false this, Bool.or_false])
      refine ⟨r, Ev.step (f := fun k => spec_rpOpen.l2 k x l[i].f1 l (l.length : Int) (i : Int) l[i].f0 l[i].f1 l[i].f2) (fun k => ?_) (Ev.step (f := fun k => spec_rpOpen.l1 k x l (l.length : Int) ((i + 1 : Nat) : Int)) (fun k => ?_) h1), h2⟩
      · simp only [spec_rpOpen.l1]
        rw [if_pos (by omega), if_pos (by omega), if_pos (by omega), e0]
      · simp only [spec_rpOpen.l2]
        rw [if_neg (by omega), wn hi (by omega)]
theorem spec_open (l : List S47) (hl : l.length ≤ 1048576) (hk : ∀ x ∈ l, grid.okH x) : ∃ r, Ev (fun k => spec_rpOpen.f k l) r ∧ Rows r (grid.openAt l) := by
  have h0 : ∀ (i : Nat) (x : List (List Bool)), i ≤ 20 → (x.length = 20 ∧ ∀ t : Nat, t < i → x.getD t [] = List.replicate 2000 false) → ∃ r, Ev (fun k => spec_rpOpen.l0 k l x ((20 : Nat) : Int) (i : Int)) r ∧ Rows r (grid.openAt l) := by
    refine ev_for_ex (fun k x i => spec_rpOpen.l0 k l x ((20 : Nat) : Int) i) 20 (fun i x => x.length = 20 ∧ ∀ t : Nat, t < i → x.getD t [] = List.replicate 2000 false) (fun r => Rows r (grid.openAt l)) ?_ ?_
    · intro x hx
      obtain ⟨r, h1, h2⟩ := open_l1 l hl hk 0 x (Nat.zero_le _) ((Rows.zero hx.1 hx.2).congr fun _ _ _ _ => rfl)
      refine ⟨r, Ev.step (f := fun k => spec_rpOpen.l1 k x l (l.length : Int) ((0 : Nat) : Int)) (fun k => ?_) h1, h2⟩
      simp only [spec_rpOpen.l0]
      rw [if_neg (by omega)]
      rfl
    · intro i x hi hx ih
      obtain ⟨r, h1, h2⟩ := ih (x.set i (List.replicate 2000 false)) ⟨by rw [List.length_set]; exact hx.1, Rows.fresh i x hx.1 hi hx.2⟩
      refine ⟨r, Ev.step (f := fun k => spec_rpOpen.l0 k l (x.set i (List.replicate 2000 false)) ((20 : Nat) : Int) ((i + 1 : Nat) : Int)) (fun k => ?_) h1, h2⟩
      have q1 := hx.1
      simp only [spec_rpOpen.l0]
      rw [if_pos (by omega), if_pos (by omega), if_pos (by omega), if_pos (by omega), wn hi (by omega)]
      rfl
  obtain ⟨r, h1, h2⟩ := h0 0 (List.replicate 20 []) (Nat.zero_le _) ⟨List.length_replicate, fun t ht => absurd ht (Nat.not_lt_zero _)⟩
  refine ⟨r, ?_, h2⟩
  unfold spec_rpOpen.f
  refine ev_pos (by omega) (ev_call rfl ?_)
  rw [show (((List.replicate 20 ([] : List Bool)).length : Nat) : Int) = ((20 : Nat) : Int) from by rw [List.length_replicate]]
  exact h1

def tailOf (t : Int) (st : List (List Int) × Int) (s : Int) : List (List Int) := st.1 ++ (if st.2 < 0 then [] else [[t, st.2, s]])
/-- Rows of three that end ahead of step s of track t. -/
def ahead (t s : Int) (o : List (List Int)) : Prop := ∀ x ∈ o, ∃ a b c : Int, x = [a, b, c] ∧ (a < t ∨ a = t ∧ c < s)
theorem ahead_step (h : Int → Int → Bool) (t : Int) (st : List (List Int) × Int) (s : Int) (ha : ahead t s st.1) : ahead t (s + 1) (grid.grStep h t st s).1 := by
  have h1 : ahead t (s + 1) st.1 := fun x hx => by
    obtain ⟨a, b, c, e, h⟩ := ha x hx
    exact ⟨a, b, c, e, by omega⟩
  unfold grid.grStep
  split
  · exact h1
  · split
    · intro x hx
      rcases List.mem_append.1 hx with hx | hx
      · exact h1 x hx
      · obtain rfl := List.mem_singleton.1 hx
        exact ⟨t, st.2, s, rfl, by omega⟩
    · exact h1
theorem ahead_grS (h : Int → Int → Bool) (t : Int) (o : List (List Int)) (ho : ahead t 0 o) : ∀ s : Nat, ahead t (s : Int) (grid.grS h t o s).1 := by
  intro s
  induction s with
  | zero => exact ho
  | succ s ih => exact ahead_step h t _ (s : Int) ih
theorem ahead_grT (h : Int → Int → Bool) : ∀ t : Nat, ahead (t : Int) 0 (grid.grT h t) := by
  intro t
  induction t with
  | zero => intro x hx; cases hx
  | succ t ih =>
    intro x hx
    obtain ⟨a, b, c, e, h1⟩ := ahead_grS h (t : Int) _ ih 2001 x hx
    exact ⟨a, b, c, e, by omega⟩
theorem tail_none {t : Int} {st : List (List Int) × Int} {s : Int} (c : st.2 < 0) : tailOf t st s = st.1 := by
  unfold tailOf
  rw [if_pos c, List.append_nil]
theorem tail_some {t : Int} {st : List (List Int) × Int} {s : Int} (c : ¬ st.2 < 0) : tailOf t st s = st.1 ++ [[t, st.2, s]] := by
  unfold tailOf
  rw [if_neg c]
theorem step_on {h : Int → Int → Bool} {t : Int} {st : List (List Int) × Int} {s : Int} (hs : h t s = true) (h1 : s < 2000) : grid.grStep h t st s = (st.1, if st.2 < 0 then s else st.2) := by
  unfold grid.grStep
  rw [if_pos ⟨h1, hs⟩]
theorem step_shut {h : Int → Int → Bool} {t : Int} {st : List (List Int) × Int} {s : Int} (hs : ¬ (s < 2000 ∧ h t s = true)) (c : ¬ st.2 < 0) : grid.grStep h t st s = (st.1 ++ [[t, st.2, s]], -1) := by
  unfold grid.grStep
  rw [if_neg hs, if_pos (by omega)]
theorem step_none {h : Int → Int → Bool} {t : Int} {st : List (List Int) × Int} {s : Int} (hs : ¬ (s < 2000 ∧ h t s = true)) (c : st.2 < 0) : grid.grStep h t st s = st := by
  unfold grid.grStep
  rw [if_neg hs, if_neg (by omega)]
theorem tail_skip (h : Int → Int → Bool) (t : Int) (st : List (List Int) × Int) (s : Int) (hs : h t s = false) : tailOf t (grid.grStep h t st s) (s + 1) = tailOf t st s := by
  have hn : ¬ (s < 2000 ∧ h t s = true) := by simp [hs]
  by_cases c : st.2 < 0
  · rw [step_none hn c, tail_none c, tail_none c]
  · rw [step_shut hn c, tail_none (show (-1 : Int) < 0 by omega), tail_some c]
theorem tail_new (h : Int → Int → Bool) (t : Int) (st : List (List Int) × Int) (s : Int) (hs : h t s = true) (h0 : 0 ≤ s) (h1 : s < 2000) (c : st.2 < 0) : tailOf t st s = st.1 ∧ tailOf t (grid.grStep h t st s) (s + 1) = st.1 ++ [[t, s, s + 1]] := by
  refine ⟨tail_none c, ?_⟩
  rw [step_on hs h1, if_pos c, tail_some (show ¬ (s : Int) < 0 by omega)]
theorem tail_more (h : Int → Int → Bool) (t : Int) (st : List (List Int) × Int) (s : Int) (hs : h t s = true) (h1 : s < 2000) (c : ¬ st.2 < 0) : tailOf t st s = st.1 ++ [[t, st.2, s]] ∧ tailOf t (grid.grStep h t st s) (s + 1) = st.1 ++ [[t, st.2, s + 1]] := by
  refine ⟨tail_some c, ?_⟩
  rw [step_on hs h1, if_neg c, tail_some (show ¬ st.2 < 0 from c)]
theorem tail_end (h : Int → Int → Bool) (t : Int) (o : List (List Int)) : tailOf t (grid.grS h t o 2000) 2000 = (grid.grS h t o 2001).1 := by
  have e : grid.grS h t o 2001 = grid.grStep h t (grid.grS h t o 2000) ((2000 : Nat) : Int) := rfl
  rw [e]
  generalize grid.grS h t o 2000 = st
  have hn : ¬ (((2000 : Nat) : Int) < 2000 ∧ h t ((2000 : Nat) : Int) = true) := by omega
  by_cases c : st.2 < 0
  · rw [step_none hn c, tail_none c]
  · rw [step_shut hn c, tail_some c]
    rfl

def okRw (x : List Int) : Prop := x.length = 3 ∧ 0 ≤ rd x 0 ∧ rd x 0 < 20 ∧ 0 ≤ rd x 1 ∧ rd x 1 < rd x 2 ∧ rd x 2 ≤ 2000
instance (x : List Int) : Decidable (okRw x) := by unfold okRw; infer_instance
def areR (l : List (List Int)) : Prop := (∀ x ∈ l, okRw x) ∧ l.length ≤ 200
instance (l : List (List Int)) : Decidable (areR l) := by unfold areR; infer_instance
theorem areR_iff (l : List (List Int)) : decide (areR l) = true ↔ (∀ i : Nat, i < l.length → okRw (l.getD i [])) ∧ decide ((l.length : Int) ≤ 200) = true := by
  rw [decide_eq_true_eq, decide_eq_true_eq]
  unfold areR
  constructor
  · rintro ⟨h1, h2⟩
    refine ⟨fun i hi => ?_, by omega⟩
    rw [List.getD_eq_getElem?_getD, List.getElem?_eq_getElem hi]
    exact h1 _ (List.getElem_mem hi)
  · rintro ⟨h1, h2⟩
    refine ⟨fun x hx => ?_, by omega⟩
    obtain ⟨i, hi, rfl⟩ := List.getElem_of_mem hx
    have := h1 i hi
    rw [List.getD_eq_getElem?_getD, List.getElem?_eq_getElem hi] at this
    exact this
theorem impl_areR (l : List (List Int)) (hl : l.length ≤ 1048576) : Ev (fun k => impl_areRanges.f k l) (decide (areR l)) := by
  unfold impl_areRanges.f
  refine all_loop (fun k i => impl_areRanges.l0 k l l (l.length : Int) i) l.length (fun i => okRw (l.getD i [])) (decide ((l.length : Int) ≤ 200)) _ (areR_iff l) (fun k => ?_) (fun k i hi => ?_)
  · simp only [impl_areRanges.l0]
    rw [if_neg (by omega)]
  · have hu : impl_areRanges.l0 (k + 1) l l (l.length : Int) (i : Int) = if ((l.getD i []).length : Int) = 3 then (if 0 < ((l.getD i []).length : Int) then (if 1 < ((l.getD i []).length : Int) then (if 2 < ((l.getD i []).length : Int) then ((impl_IsHole.f (rd (l.getD i []) 0) (rd (l.getD i []) 1) (rd (l.getD i []) 2)).bind fun t => if t = true then impl_areRanges.l0 k l l (l.length : Int) ((i : Int) + 1) else some false) else none) else none) else none) else some false := by
      simp only [impl_areRanges.l0, show wrap64 ((i : Int) + 1) = (i : Int) + 1 from by unfold wrap64; omega]
      rw [if_pos (by omega), if_pos (by omega), if_pos (by omega)]
      rfl
    rw [hu]
    unfold okRw
    by_cases h3 : (l.getD i []).length = 3
    · rw [if_pos (by omega), if_pos (by omega), if_pos (by omega), if_pos (by omega), isHole_eq, Option.bind_some]
      constructor
      · intro h
        rw [if_pos (decide_eq_true ⟨h.2.1, h.2.2.1, h.2.2.2.1, h.2.2.2.2.1, h.2.2.2.2.2⟩)]
      · intro h
        rw [if_neg (by rw [decide_eq_true_eq]; exact fun q => h ⟨h3, q⟩)]
    · rw [if_neg (by omega)]
      exact ⟨fun h => absurd h.1 h3, fun _ => rfl⟩
theorem spec_areR (l : List (List Int)) (hl : l.length ≤ 1048576) : Ev (fun k => spec_rpGood.f k l) (decide (areR l)) := by
  unfold spec_rpGood.f
  refine all_loop (fun k i => spec_rpGood.l0 k l l (l.length : Int) i) l.length (fun i => okRw (l.getD i [])) (decide ((l.length : Int) ≤ 200)) _ (areR_iff l) (fun k => ?_) (fun k i hi => ?_)
  · simp only [spec_rpGood.l0]
    rw [if_neg (by omega)]
  · have hu : spec_rpGood.l0 (k + 1) l l (l.length : Int) (i : Int) = if ((l.getD i []).length : Int) = 3 then (if 0 < ((l.getD i []).length : Int) then (if 1 < ((l.getD i []).length : Int) then (if 2 < ((l.getD i []).length : Int) then ((spec_shHole.f (rd (l.getD i []) 0) (rd (l.getD i []) 1) (rd (l.getD i []) 2)).bind fun t => if t = true then spec_rpGood.l0 k l l (l.length : Int) ((i : Int) + 1) else some false) else none) else none) else none) else some false := by
      simp only [spec_rpGood.l0, show wrap64 ((i : Int) + 1) = (i : Int) + 1 from by unfold wrap64; omega]
      rw [if_pos (by omega), if_pos (by omega), if_pos (by omega)]
      rfl
    rw [hu]
    unfold okRw
    by_cases h3 : (l.getD i []).length = 3
    · rw [if_pos (by omega), if_pos (by omega), if_pos (by omega), if_pos (by omega), shHole_eq, Option.bind_some]
      constructor
      · intro h
        rw [if_pos (decide_eq_true ⟨h.2.1, h.2.2.1, h.2.2.2.1, h.2.2.2.2.1, h.2.2.2.2.2⟩)]
      · intro h
        rw [if_neg (by rw [decide_eq_true_eq]; exact fun q => h ⟨h3, q⟩)]
    · rw [if_neg (by omega)]
      exact ⟨fun h => absurd h.1 h3, fun _ => rfl⟩

theorem toIntS (l : List Int) (hl : l.length ≤ 1048576) : Ev (fun k => laws_toIntS.f k l) l := by
  unfold laws_toIntS.f
  refine ev_pos (by omega) (ev_pos (by omega) ?_)
  have h := map_loop (fun k ys i => laws_toIntS.l0 k l ys i) l (0 : Int) (0 : Int) (fun k x => some x) (fun b => b) (fun x => x) (fun k ys i => rfl) (fun x _ => ev_const rfl) (by omega)
  simpa using h

theorem eqIntS (l : List Int) (hl : l.length ≤ 1048576) : Ev (fun k => laws_eqIntS.f k l l) true := by
  unfold laws_eqIntS.f
  refine ev_pos rfl ?_
  refine same_loop (fun k i => laws_eqIntS.l0 k l l i) l (0 : Int) (fun k x => some true) (fun k i => ?_) (fun x _ => ev_const rfl) (by omega)
  simp only [laws_eqIntS.l0, Option.bind_some, ↓reduceIte]

theorem toIntSS (l : List (List Int)) (hl : l.length ≤ 1048576) (hx : ∀ x ∈ l, x.length ≤ 1048576) : Ev (fun k => laws_toIntSS.f k l) l := by
  unfold laws_toIntSS.f
  refine ev_pos (by omega) (ev_pos (by omega) ?_)
  have h := map_loop (fun k ys i => laws_toIntSS.l0 k l ys i) l ([] : List Int) ([] : List Int) (fun k x => laws_toIntS.f k x) (fun b => b) (fun x => x) (fun k ys i => rfl) (fun x hm => toIntS x (hx x hm)) (by omega)
  simpa using h
theorem sameIntSS (l : List (List Int)) (hl : l.length ≤ 140737488355328) (h : ∀ x ∈ l, x.length ≤ 1048576) : Ev (fun k => laws_eqIntSS.f k l l) true := by
  unfold laws_eqIntSS.f
  refine ev_pos rfl ?_
  refine same_loop (fun k i => laws_eqIntSS.l0 k l l i) l [] (fun k x => laws_eqIntS.f k x x) (fun k i => ?_) (fun x hx => eqIntS x (h x hx)) hl
  simp only [laws_eqIntSS.l0]
  rfl

theorem markIntS (l : List Int) (a : Int) (h0 : 0 ≤ a) (h1 : a ≤ 1099511627776) (hl : l.length ≤ 1048576) : Ev (fun k => laws_markIntS.f k l a) (a + l.length, (List.range l.length).map fun j : Nat => a + (j : Int)) := by
  unfold laws_markIntS.f
  have key : ∀ (d i : Nat) (ys : List Int), l.length - i = d → i ≤ l.length → ys.length = l.length → (∀ j, j < i → ys[j]? = some (a + (j : Int))) →
      Ev (fun k => laws_markIntS.l0 k ys (a + (i : Int)) (i : Int)) (a + l.length, (List.range l.length).map fun j : Nat => a + (j : Int)) := by
    intro d
    induction d with
    | zero =>
      intro i ys hd hi hy hp
      obtain rfl : i = l.length := by omega
      refine Ev.step (f := fun _ => some (a + (l.length : Int), ys)) (fun k => ?_) (ev_now ?_)
      · simp only [laws_markIntS.l0]
        rw [if_neg (by omega)]
      · congr 1
        refine List.ext_getElem? fun j => ?_
        by_cases hj : j < l.length
        · rw [hp j hj]; simp [hj]
        · rw [List.getElem?_eq_none (by omega), List.getElem?_eq_none (by simp; omega)]
    | succ d ih =>
      intro i ys hd hi hy hp
      have e1 : wrap64 ((i : Int) + 1) = ((i + 1 : Nat) : Int) := by unfold wrap64; omega
      have e2 : wrap64 (a + (i : Int) + 1) = a + ((i + 1 : Nat) : Int) := by unfold wrap64; omega
      refine Ev.step (f := fun k => laws_markIntS.l0 k (ys.set i (a + (i : Int))) (a + ((i + 1 : Nat) : Int)) ((i + 1 : Nat) : Int)) (fun k => ?_) (ih (i + 1) _ (by omega) (by omega) (by rw [List.length_set]; exact hy) (fun j hj => ?_))
      · simp only [laws_markIntS.l0, e1, e2, Int.toNat_natCast]
        rw [if_pos (by omega), if_pos (by omega)]
      · by_cases e : j = i
        · subst e
          rw [List.getElem?_set_self (by omega)]
        · rw [List.getElem?_set_ne (by omega)]
          exact hp j (by omega)
  have := key l.length 0 l (by omega) (by omega) rfl (fun j hj => absurd hj (by omega))
  simpa using this

/-- How many numbers there are in rows. -/
def totR : List (List Int) → Nat
  | [] => 0
  | x :: xs => x.length + totR xs
/-- Rows marked from a on. -/
def markedR : Int → List (List Int) → List (List Int)
  | _, [] => []
  | a, x :: xs => ((List.range x.length).map fun j : Nat => a + (j : Int)) :: markedR (a + (x.length : Nat)) xs
theorem at_mid (D : List (List Int)) (x : List Int) (xs : List (List Int)) : (D ++ x :: xs).getD ((D.length : Nat) : Int).toNat [] = x := by
  rw [Int.toNat_natCast, List.getD_eq_getElem?_getD, List.getElem?_append_right (Nat.le_refl _), Nat.sub_self]
  rfl
theorem markRows (R : List (List Int)) : ∀ (D : List (List Int)) (a : Int), 0 ≤ a → a + (totR R : Nat) ≤ 1099511627776 → D.length + R.length ≤ 1099511627776 → (∀ x ∈ R, x.length ≤ 1048576) →
    Ev (fun k => laws_markIntSS.l0 k (D ++ R) a (D.length : Int)) (a + (totR R : Nat), D ++ markedR a R) := by
  induction R with
  | nil =>
    intro D a h0 h1 h2 h3
    refine Ev.step (f := fun _ => some (a, D)) (fun k => ?_) (ev_now (by simp [totR, markedR]))
    simp only [laws_markIntSS.l0, List.append_nil]
    rw [if_neg (by omega)]
  | cons x xs ih =>
    intro D a h0 h1 h2 h3
    have hx := h3 x List.mem_cons_self
    have ht : totR (x :: xs) = x.length + totR xs := rfl
    rw [ht] at h1 ⊢
    have hD : D.length < (D ++ x :: xs).length := by rw [List.length_append, List.length_cons]; omega
    have e1 : wrap64 (((D.length : Nat) : Int) + 1) = ((D.length + 1 : Nat) : Int) := by simp only [List.length_cons] at h2; unfold wrap64; omega
    refine Ev.step (f := fun k => (laws_markIntS.f k x a).bind fun bt => laws_markIntSS.l0 k (D ++ bt.2 :: xs) bt.1 ((D.length + 1 : Nat) : Int)) (fun k => ?_) ?_
    · simp only [laws_markIntSS.l0]
      rw [if_pos (by omega), if_pos (by omega), at_mid, e1]
      congr 1
      funext bt
      rw [Int.toNat_natCast, List.set_append_right _ _ (Nat.le_refl _), Nat.sub_self]
      rfl
    · refine Ev.bind (f := fun k bt => laws_markIntSS.l0 k (D ++ bt.2 :: xs) bt.1 ((D.length + 1 : Nat) : Int)) (markIntS x a h0 (by omega) hx) ?_
      have := ih (D ++ [(List.range x.length).map fun j : Nat => a + (j : Int)]) (a + (x.length : Nat)) (by omega) (by omega) (by simp only [List.length_append, List.length_cons, List.length_nil] at h2 ⊢; omega) (fun y hy => h3 y (List.mem_cons_of_mem _ hy))
      simp only [List.append_assoc, List.singleton_append, List.length_append, List.length_singleton] at this
      refine ev_eq this ?_
      simp only [markedR]
      congr 1
      omega
theorem markIntSS (l : List (List Int)) (hl : l.length ≤ 1048576) (h : ∀ x ∈ l, x.length ≤ 1048576) (ht : totR l ≤ 1073741824) : Ev (fun k => laws_markIntSS.f k l 1) (1 + (totR l : Nat), markedR 1 l) := by
  have := markRows l [] 1 (by omega) (by omega) (by simp; omega) h
  simpa [laws_markIntSS.f] using this

theorem totR_cons (x : List Int) (xs : List (List Int)) : totR (x :: xs) = x.length + totR xs := rfl
theorem szRows (l : List (List Int)) (b : Int) (hb : 0 ≤ b ∧ b ≤ 1048576) (hl : l.length ≤ 9223372036854775807) (hx : ∀ x ∈ l, x.length ≤ 9223372036854775807) :
    ∃ r, Ev (fun k => laws_szIntSS.f k l b) r ∧ (r < 0 ∨ (l.length ≤ 1048576 ∧ (∀ x ∈ l, x.length ≤ 1048576) ∧ totR l ≤ 1048576)) := by
  have e : wrap64 (b - (l.length : Int)) = b - l.length := by unfold wrap64; omega
  unfold laws_szIntSS.f
  rw [e]
  by_cases h : b - (l.length : Int) < 0
  · exact ⟨-1, ev_pos h (Ev.now _), .inl (by omega)⟩
  · have key := count_up l.length (fun i (a : Int) => 0 ≤ a ∧ a ≤ b) (fun i a => ∃ r, Ev (fun k => laws_szIntSS.l0 k l a (i : Int)) r ∧ (r < 0 ∨ (∀ x ∈ l.drop i, x.length ≤ 1048576) ∧ 0 ≤ r ∧ r + (totR (l.drop i) : Nat) = a)) (fun a ha => ?_) (fun i a hi ha ih => ?_) 0 (b - (l.length : Int)) (Nat.zero_le _) ⟨by omega, by omega⟩
    · obtain ⟨r, h1, h2⟩ := key
      rw [List.drop_zero] at h2
      exact ⟨r, ev_neg h h1, h2.imp id (fun h2 => ⟨by omega, h2.1, by omega⟩)⟩
    · refine ⟨a, Ev.step (f := fun _ => some a) (fun k => ?_) (Ev.now _), .inr ⟨by rw [List.drop_length]; simp, ha.1, by rw [List.drop_length]; simp [totR]⟩⟩
      simp only [laws_szIntSS.l0]
      rw [if_neg (by omega)]
    · have e1 := wn hi (by omega)
      have hxi := hx _ (List.getElem_mem hi)
      have es : laws_szIntS.f l[i] a = some (if (l[i].length : Int) ≤ a then a - l[i].length else -1) := by
        have e2 : wrap64 (a - (l[i].length : Int)) = a - l[i].length := by unfold wrap64; omega
        simp only [laws_szIntS.f, e2]
        by_cases c : (l[i].length : Int) ≤ a
        · rw [if_neg (by omega), if_pos c]
        · rw [if_pos (by omega), if_neg c]
      have hu : ∀ k, laws_szIntSS.l0 (k + 1) l a (i : Int) = (laws_szIntS.f l[i] a).bind fun t => if t < 0 then some (-1) else laws_szIntSS.l0 k l t ((i + 1 : Nat) : Int) := fun k => by
        simp only [laws_szIntSS.l0, e1]
        rw [if_pos (by omega), if_pos (by omega)]
        show (laws_szIntS.f (l.getD (i : Int).toNat []) a).bind _ = _
        rw [rd_get hi]
      rw [List.drop_eq_getElem_cons hi, totR_cons]
      by_cases c : (l[i].length : Int) ≤ a
      · obtain ⟨r, h1, h2⟩ := ih (a - l[i].length) ⟨by omega, by omega⟩
        refine ⟨r, Ev.step (fun k => ?_) h1, h2.imp id (fun h2 => ⟨fun x hm => ?_, h2.2.1, by have := h2.2.2; omega⟩)⟩
        · rw [hu, es, if_pos c, Option.bind_some, if_neg (by omega)]
        · rcases List.mem_cons.1 hm with rfl | hm
          · omega
          · exact h2.1 x hm
      · refine ⟨-1, Ev.step (f := fun _ => some (-1)) (fun k => ?_) (Ev.now _), .inl (by omega)⟩
        rw [hu, es, if_neg c, Option.bind_some, if_pos (by omega)]
theorem markIntSSa (l : List (List Int)) (a : Int) (h0 : 0 ≤ a) (ha : a ≤ 1073741824) (hl : l.length ≤ 1048576) (h : ∀ x ∈ l, x.length ≤ 1048576) (ht : totR l ≤ 1073741824) : Ev (fun k => laws_markIntSS.f k l a) (a + (totR l : Nat), markedR a l) := by
  have := markRows l [] a h0 (by omega) (by simp; omega) h
  simpa [laws_markIntSS.f] using this

theorem markHoleS (l : List S47) (a : Int) (h0 : 0 ≤ a) (h1 : a ≤ 1099511627776) (hl : l.length ≤ 1048576) : Ev (fun k => laws_markHoleS.f k l a) (a + (3 : Nat) * (l.length : Nat), (List.range l.length).map fun j : Nat => (⟨a + (3 : Nat) * j, a + (3 : Nat) * j + 1, a + (3 : Nat) * j + 2⟩ : S47)) := by
  unfold laws_markHoleS.f
  refine mark_ev (fun k ys a i => laws_markHoleS.l0 k ys a i) (fun a => (⟨a, a + 1, a + 2⟩ : S47)) 3 (by omega) l.length hl (fun k ys a hy => ?_) (fun k ys a i hy hi g0 g1 => ?_) l rfl a h0 h1
  · simp only [laws_markHoleS.l0]
    rw [if_neg (by omega)]
  · have e1 : wrap64 ((i : Int) + 1) = i + 1 := by unfold wrap64; omega
    have e2 : wrap64 (a + 1) = a + 1 := by unfold wrap64; omega
    have e3 : wrap64 (a + 1 + 1) = a + 2 := by unfold wrap64; omega
    have e4 : wrap64 (a + 2 + 1) = a + (3 : Nat) := by unfold wrap64; omega
    have hi2 : i < ys.length := by omega
    simp only [laws_markHoleS.l0, Option.bind_some, Int.toNat_natCast, rd_T47, e1, e2, e3, e4]
    rw [if_pos (by omega), if_pos (by omega)]
    simp [List.getElem?_set_self hi2, List.set_set, hi2]

theorem heldHoleS (n : Nat) (a : Int) (h0 : 0 ≤ a) (h1 : a ≤ 1099511627776) (hl : n ≤ 1048576) : Ev (fun k => laws_heldHoleS.f k ((List.range n).map fun j : Nat => (⟨a + (3 : Nat) * j, a + (3 : Nat) * j + 1, a + (3 : Nat) * j + 2⟩ : S47)) a) (a + (3 : Nat) * n) := by
  unfold laws_heldHoleS.f
  refine held_ev (fun k a i => laws_heldHoleS.l0 k _ a i) (fun a => (⟨a, a + 1, a + 2⟩ : S47)) 3 (by omega) n hl a h0 h1 (fun k a => ?_) (fun k b i hi hb g0 g1 => ?_)
  · simp only [laws_heldHoleS.l0]
    rw [if_neg (by simp)]
  · have hi' : i < n := by simpa using hi
    have e1 : wrap64 ((i : Int) + 1) = i + 1 := by unfold wrap64; omega
    have e2 : wrap64 (b + 1) = b + 1 := by unfold wrap64; omega
    have e3 : wrap64 (b + 1 + 1) = b + 2 := by unfold wrap64; omega
    have e4 : wrap64 (b + 2 + 1) = b + (3 : Nat) := by unfold wrap64; omega
    simp only [laws_heldHoleS.l0, rd_T47, e1, e2, e3, e4]
    rw [rd_get hi, hb]
    rw [if_pos (by simp; omega), if_pos (by omega), if_pos rfl, if_pos rfl, if_pos rfl]

theorem mapLast (D : List (List Int)) (x : List Int) : rd_T47 ((D ++ [x]).map grid.holeOf) ((D.length : Nat) : Int) = grid.holeOf x := by
  unfold rd_T47
  rw [Int.toNat_natCast, List.getD_eq_getElem?_getD, List.map_append, List.getElem?_append_right (by simp), List.length_map, Nat.sub_self]
  rfl
theorem setLast (D : List (List Int)) (x y : List Int) : ((D ++ [x]).map grid.holeOf).set D.length (grid.holeOf y) = (D ++ [y]).map grid.holeOf := by
  rw [List.map_append, List.map_append, List.set_append_right _ _ (by simp), List.length_map, Nat.sub_self]
  rfl
theorem hole3 (a b c : Int) : grid.holeOf [a, b, c] = ⟨a, b, c⟩ := rfl
/-- One step that is on, behind rows that don't touch it: a new hole. -/
theorem sl_new (k : Nat) (D : List (List Int)) (t s : Int) (h : List (List Bool)) (n tt : Int) (row : List Bool) (hrl : row.length = 2000) (h0 : 0 ≤ s) (h1 : s < 2000) (hon : rdOf false row s = true) (hD : D.length ≤ 100000) (ha : ahead t s D) :
    spec_rpSheet.l1 (k + 1) (D.map grid.holeOf) t h n tt row 2000 s = spec_rpSheet.l1 k ((D ++ [[t, s, s + 1]]).map grid.holeOf) t h n tt row 2000 (s + 1) := by
  have e1 : wrap64 (s + 1) = s + 1 := by unfold wrap64; omega
  have hm : (D.map grid.holeOf ++ [(⟨t, s, s + 1⟩ : S47)]) = (D ++ [[t, s, s + 1]]).map grid.holeOf := by rw [List.map_append]; rfl
  have hl : (D.map grid.holeOf).length = D.length := List.length_map _
  simp only [spec_rpSheet.l1, e1, hon, hl]
  rw [if_pos h1, if_pos h0, if_pos (by omega), if_pos trivial]
  by_cases hz : (D.length : Int) > 0
  · obtain ⟨D', x, rfl⟩ : ∃ D' x, D = D' ++ [x] := ⟨D.dropLast, D.getLast (by intro e; rw [e] at hz; simp at hz), (List.dropLast_concat_getLast _).symm⟩
    have e0 : (D' ++ [x]).length = D'.length + 1 := by simp
    have hw : wrap64 (((D' ++ [x]).length : Int) - 1) = ((D'.length : Nat) : Int) := by rw [e0]; unfold wrap64; omega
    rw [if_pos hz]
    simp only [hw, mapLast]
    rw [if_pos (by omega), if_pos (by rw [e0]; omega)]
    obtain ⟨a, b, c, rfl, hac⟩ := ha x (List.mem_append_right _ List.mem_cons_self)
    rw [hole3]
    by_cases q : a = t
    · rw [if_pos q, if_neg (by show ¬ c = s; omega), if_pos (by simp at hD ⊢; omega), hm]
    · rw [if_neg q, if_pos (by simp at hD ⊢; omega), hm]
  · rw [if_neg hz, if_pos (by omega), hm]
theorem sl_more (k : Nat) (D : List (List Int)) (t f s : Int) (h : List (List Bool)) (n tt : Int) (row : List Bool) (hrl : row.length = 2000) (h0 : 0 ≤ s) (h1 : s < 2000) (hon : rdOf false row s = true) (hD : D.length ≤ 100000) :
    spec_rpSheet.l1 (k + 1) ((D ++ [[t, f, s]]).map grid.holeOf) t h n tt row 2000 s = spec_rpSheet.l1 k ((D ++ [[t, f, s + 1]]).map grid.holeOf) t h n tt row 2000 (s + 1) := by
  have e1 : wrap64 (s + 1) = s + 1 := by unfold wrap64; omega
  have hl : ((D ++ [[t, f, s]]).map grid.holeOf).length = D.length + 1 := by simp
  have hw : wrap64 (((D.length + 1 : Nat) : Int) - 1) = ((D.length : Nat) : Int) := by unfold wrap64; omega
  simp only [spec_rpSheet.l1, e1, hon, hl, hw, mapLast, hole3]
  rw [if_pos h1, if_pos h0, if_pos (by omega), if_pos trivial, if_pos (by omega), if_pos (by omega), if_pos (by omega), if_pos trivial, if_pos trivial, Int.toNat_natCast, ← hole3, setLast]
theorem sl_off (k : Nat) (out : List S47) (t s : Int) (h : List (List Bool)) (n tt : Int) (row : List Bool) (hrl : row.length = 2000) (h0 : 0 ≤ s) (h1 : s < 2000) (hoff : rdOf false row s = false) :
    spec_rpSheet.l1 (k + 1) out t h n tt row 2000 s = spec_rpSheet.l1 k out t h n tt row 2000 (s + 1) := by
  have e1 : wrap64 (s + 1) = s + 1 := by unfold wrap64; omega
  simp only [spec_rpSheet.l1, e1, hoff]
  rw [if_pos h1, if_pos h0, if_pos (by omega), if_neg (by simp)]
theorem sheet_l1 (h : List (List Bool)) (G : Int → Int → Bool) (hR : Rows h G) (t : Nat) (ht : t < 20) (r : List S47 × Bool) (hn : Ev (fun k => spec_rpSheet.l0 k ((grid.grT G (t + 1)).map grid.holeOf) h ((20 : Nat) : Int) ((t + 1 : Nat) : Int)) r) :
    ∀ s : Nat, s ≤ 2000 → Ev (fun k => spec_rpSheet.l1 k ((tailOf (t : Int) (grid.grS G (t : Int) (grid.grT G t) s) (s : Int)).map grid.holeOf) (t : Int) h ((20 : Nat) : Int) (t : Int) (h.getD t []) 2000 (s : Int)) r := by
  have hrow := hR.2 t ht
  have key := count_up 2000 (fun _ (_ : Unit) => True) (fun s _ => Ev (fun k => spec_rpSheet.l1 k ((tailOf (t : Int) (grid.grS G (t : Int) (grid.grT G t) s) (s : Int)).map grid.holeOf) (t : Int) h ((20 : Nat) : Int) (t : Int) (h.getD t []) 2000 (s : Int)) r) (fun _ _ => ?_) (fun s _ hs _ ih => ?_)
  · exact fun s hs => key s () hs trivial
  · have e := tail_end G (t : Int) (grid.grT G t)
    refine Ev.step (f := fun k => spec_rpSheet.l0 k ((grid.grT G (t + 1)).map grid.holeOf) h ((20 : Nat) : Int) ((t + 1 : Nat) : Int)) (fun k => ?_) hn
    simp only [spec_rpSheet.l1]
    rw [if_neg (by omega), wn ht (by omega), show tailOf (t : Int) (grid.grS G (t : Int) (grid.grT G t) 2000) ((2000 : Nat) : Int) = grid.grT G (t + 1) from e]
  · have ih := ih () trivial
    have hv : rdOf false (h.getD t []) (s : Int) = G (t : Int) (s : Int) := by unfold rdOf; rw [Int.toNat_natCast]; exact hrow.2 s hs
    have es : grid.grS G (t : Int) (grid.grT G t) (s + 1) = grid.grStep G (t : Int) (grid.grS G (t : Int) (grid.grT G t) s) (s : Int) := rfl
    have ec : ((s + 1 : Nat) : Int) = (s : Int) + 1 := by omega
    have hlen := grid.grS_len G (t : Int) (grid.grT G t) s
    have hlt := grid.grT_len G t
    rw [es, ec] at ih
    cases hg : G (t : Int) (s : Int) with
    | false =>
      rw [tail_skip G _ _ _ hg] at ih
      exact Ev.step (fun k => sl_off k _ _ _ _ _ _ _ hrow.1 (by omega) (by omega) (hv.trans hg)) ih
    | true =>
      by_cases c : (grid.grS G (t : Int) (grid.grT G t) s).2 < 0
      · obtain ⟨e1, e2⟩ := tail_new G (t : Int) _ (s : Int) hg (by omega) (by omega) c
        rw [e2] at ih
        rw [e1]
        exact Ev.step (fun k => sl_new k _ _ _ _ _ _ _ hrow.1 (by omega) (by omega) (hv.trans hg) (by omega) (ahead_grS G (t : Int) _ (ahead_grT G t) s)) ih
      · obtain ⟨e1, e2⟩ := tail_more G (t : Int) _ (s : Int) hg (by omega) c
        rw [e2] at ih
        rw [e1]
        exact Ev.step (fun k => sl_more k _ _ _ _ _ _ _ _ hrow.1 (by omega) (by omega) (hv.trans hg) (by omega)) ih
theorem sheet_f (h : List (List Bool)) (G : Int → Int → Bool) (hR : Rows h G) (r : List S47 × Bool) (hr : Ev (fun k => if ((grid.rowsG G).length : Int) > 60 then some (([] : List S47), false) else (spec_shSorted.f k (grid.rowsG G)).bind fun b => some (b.1, b.2)) r) : Ev (fun k => spec_rpSheet.f k h) r := by
  have key := count_up 20 (fun _ (_ : Unit) => True) (fun t _ => Ev (fun k => spec_rpSheet.l0 k ((grid.grT G t).map grid.holeOf) h ((20 : Nat) : Int) (t : Int)) r) (fun _ _ => ?_) (fun t _ ht _ ih => ?_)
  · unfold spec_rpSheet.f
    rw [hR.1]
    exact key 0 () (Nat.zero_le _) trivial
  · refine Ev.step (fun k => ?_) hr
    simp only [spec_rpSheet.l0]
    rw [if_neg (by omega)]
    rfl
  · have h1 := sheet_l1 h G hR t ht r (ih () trivial) 0 (Nat.zero_le _)
    have e0 : tailOf (t : Int) (grid.grS G (t : Int) (grid.grT G t) 0) ((0 : Nat) : Int) = grid.grT G t := tail_none (by show (-1 : Int) < 0; omega)
    rw [e0] at h1
    refine Ev.step (fun k => ?_) h1
    have hq := hR.1
    have hl := (hR.2 t ht).1
    simp only [spec_rpSheet.l0]
    rw [if_pos (by omega), if_pos (by omega), if_pos (by omega)]
    show spec_rpSheet.l1 k _ _ h _ _ (h.getD (t : Int).toNat []) (((h.getD (t : Int).toNat []).length : Nat) : Int) 0 = _
    rw [Int.toNat_natCast, hl]
    rfl

theorem down_gt (x : S47) (out : List S47) : ∀ n i, sho.downTo x out n ≤ i → i < n → stab.ltH x (out.getD i z47) = true
  | 0, i, _, h => absurd h (Nat.not_lt_zero _)
  | n + 1, i, h1, h2 => by
    unfold sho.downTo at h1
    by_cases c : stab.ltH x (out.getD n z47) = true
    · rw [if_pos c] at h1
      by_cases e : i = n
      · rw [e]; exact c
      · exact down_gt x out n i h1 (by omega)
    · rw [if_neg c] at h1; omega
theorem down_le (x : S47) (out : List S47) : ∀ n, 0 < sho.downTo x out n → stab.ltH x (out.getD (sho.downTo x out n - 1) z47) = false
  | 0, h => absurd h (by simp [sho.downTo])
  | n + 1, h => by
    unfold sho.downTo at h ⊢
    by_cases c : stab.ltH x (out.getD n z47) = true
    · rw [if_pos c] at h ⊢
      exact down_le x out n h
    · rw [if_neg c]
      simpa using c
theorem insAt_eq (x : S47) (out : List S47) : sho.insAt x out = out.take (sho.downTo x out out.length) ++ x :: out.drop (sho.downTo x out out.length) := by
  unfold sho.insAt
  rw [List.nil_append, List.append_assoc]
  rfl
theorem insAt_perm (x : S47) (out : List S47) : (sho.insAt x out).Perm (out ++ [x]) := by
  rw [insAt_eq]
  refine List.perm_middle.trans ((List.Perm.cons x ?_).trans (List.perm_append_singleton x out).symm)
  rw [List.take_append_drop]
theorem insAt_sorted (x : S47) (out : List S47) (hs : out.Pairwise fun a b => stab.ltH b a = false) : (sho.insAt x out).Pairwise fun a b => stab.ltH b a = false := by
  obtain ⟨k, hk⟩ : ∃ k, k = sho.downTo x out out.length := ⟨_, rfl⟩
  have hkl : k ≤ out.length := hk ▸ sho.downTo_le x out out.length
  have hg : ∀ i (h : i < out.length), k ≤ i → stab.ltH x out[i] = true := fun i h h1 => by
    have := down_gt x out out.length i (hk ▸ h1) h
    rw [List.getD_eq_getElem?_getD, List.getElem?_eq_getElem h] at this
    exact this
  have hl : ∀ i (h : i < out.length), i < k → stab.ltH x out[i] = false := fun i h h1 => by
    have h2 := down_le x out out.length (hk ▸ (by omega))
    rw [← hk, List.getD_eq_getElem?_getD, List.getElem?_eq_getElem (by omega)] at h2
    by_cases e : i = k - 1
    · subst e; exact h2
    · exact stab.swoH.ntrans _ _ _ h2 (List.pairwise_iff_getElem.1 hs i (k - 1) h (by omega) (by omega))
  rw [insAt_eq, ← hk]
  refine List.pairwise_append.2 ⟨hs.sublist (List.take_sublist _ _), List.pairwise_cons.2 ⟨fun z hz => ?_, hs.sublist (List.drop_sublist _ _)⟩, fun a ha b hb => ?_⟩
  · obtain ⟨i, hi, rfl⟩ := List.getElem_of_mem hz
    rw [List.getElem_drop]
    exact stab.swoH.asymmA (hg _ (by rw [List.length_drop] at hi; omega) (by omega))
  · obtain ⟨i, hi, rfl⟩ := List.getElem_of_mem ha
    rw [List.length_take] at hi
    rw [List.getElem_take]
    rcases List.mem_cons.1 hb with rfl | hb
    · exact hl i (by omega) (by omega)
    · obtain ⟨j, hj, rfl⟩ := List.getElem_of_mem hb
      rw [List.length_drop] at hj
      rw [List.getElem_drop]
      exact List.pairwise_iff_getElem.1 hs i (k + j) (by omega) (by omega) (by omega)
theorem insAll_ok (l : List S47) : (sho.insAll l).Perm l ∧ (sho.insAll l).Pairwise fun a b => stab.ltH b a = false := by
  have key : ∀ (l o : List S47), o.Pairwise (fun a b => stab.ltH b a = false) → (l.foldl (fun out x => sho.insAt x out) o).Perm (o ++ l) ∧ (l.foldl (fun out x => sho.insAt x out) o).Pairwise fun a b => stab.ltH b a = false := by
    intro l
    induction l with
    | nil => intro o h; exact ⟨by rw [List.append_nil]; exact List.Perm.refl _, h⟩
    | cons x xs ih =>
      intro o h
      obtain ⟨h1, h2⟩ := ih (sho.insAt x o) (insAt_sorted x o h)
      refine ⟨h1.trans ?_, h2⟩
      have := (insAt_perm x o).append_right xs
      rwa [List.append_assoc] at this
  exact key l [] List.Pairwise.nil
theorem insAll_sortH (l : List S47) (hk : (l.map shs.keyH).Nodup) : sho.insAll l = shs.sortH l := shs.sortH_eq (insAll_ok l).1 hk (insAll_ok l).2
/-- Rows of a grid in order: by track, then by the first step. -/
def rowLt (x y : List Int) : Prop := rd x 0 < rd y 0 ∨ rd x 0 = rd y 0 ∧ rd x 1 < rd y 1
theorem rows_step (h : Int → Int → Bool) (t : Int) (st : List (List Int) × Int) (s : Int) (hp : st.1.Pairwise rowLt) (ha : ∀ x ∈ st.1, rd x 0 < t ∨ rd x 0 = t ∧ rd x 1 < (if st.2 < 0 then s else st.2)) (hb : st.2 = -1 ∨ 0 ≤ st.2 ∧ st.2 < s) (h0 : 0 ≤ s) :
    (grid.grStep h t st s).1.Pairwise rowLt ∧ ∀ x ∈ (grid.grStep h t st s).1, rd x 0 < t ∨ rd x 0 = t ∧ rd x 1 < (if (grid.grStep h t st s).2 < 0 then s + 1 else (grid.grStep h t st s).2) := by
  unfold grid.grStep
  split
  · refine ⟨hp, fun x hx => ?_⟩
    have := ha x hx
    show _ ∨ _ ∧ rd x 1 < (if (if st.2 < 0 then s else st.2) < 0 then s + 1 else (if st.2 < 0 then s else st.2))
    split at this <;> (repeat' split) <;> omega
  · split
    · rename_i c
      refine ⟨List.pairwise_append.2 ⟨hp, List.pairwise_singleton _ _, fun x hx y hy => ?_⟩, fun x hx => ?_⟩
      · rw [List.mem_singleton.1 hy]
        have := ha x hx
        rw [if_neg (by omega)] at this
        unfold rowLt
        show _ < t ∨ _ = t ∧ _ < st.2
        omega
      · show _ ∨ _ ∧ rd x 1 < (if (-1 : Int) < 0 then s + 1 else -1)
        rw [if_pos (by omega)]
        rcases List.mem_append.1 hx with hx | hx
        · have := ha x hx
          rw [if_neg (by omega)] at this
          omega
        · rw [List.mem_singleton.1 hx]
          right
          show t = t ∧ st.2 < s + 1
          omega
    · rename_i c
      refine ⟨hp, fun x hx => ?_⟩
      have := ha x hx
      rw [if_pos (by omega)] at this ⊢
      omega
theorem rows_grS (h : Int → Int → Bool) (t : Nat) (o : List (List Int)) (hp : o.Pairwise rowLt) (ha : ∀ x ∈ o, rd x 0 < (t : Int)) : ∀ s : Nat, (grid.grS h t o s).1.Pairwise rowLt ∧ ∀ x ∈ (grid.grS h t o s).1, rd x 0 < (t : Int) ∨ rd x 0 = (t : Int) ∧ rd x 1 < (if (grid.grS h t o s).2 < 0 then (s : Int) else (grid.grS h t o s).2) := by
  intro s
  induction s with
  | zero => exact ⟨hp, fun x hx => .inl (ha x hx)⟩
  | succ s ih =>
    have := rows_step h t _ (s : Int) ih.1 ih.2 (grid.grS_snd h t o s) (by omega)
    have ec : ((s + 1 : Nat) : Int) = (s : Int) + 1 := by omega
    rw [ec]
    exact this
theorem rows_grT (h : Int → Int → Bool) : ∀ t : Nat, (grid.grT h t).Pairwise rowLt ∧ ∀ x ∈ grid.grT h t, rd x 0 < (t : Int) := by
  intro t
  induction t with
  | zero => exact ⟨List.Pairwise.nil, fun x hx => by cases hx⟩
  | succ t ih =>
    have := rows_grS h t _ ih.1 ih.2 2001
    refine ⟨this.1, fun x hx => ?_⟩
    have h2 := this.2 x hx
    omega
theorem keys_nodup (G : Int → Int → Bool) : ((grid.rowsG G).map shs.keyH).Nodup := by
  unfold grid.rowsG
  rw [List.map_map]
  refine List.pairwise_map.2 ((rows_grT (fun t s => G t s) 20).1.imp (fun {x y} hxy e => ?_))
  have e' : (rd x 1, rd x 0) = (rd y 1, rd y 0) := e
  have e1 := congrArg Prod.fst e'
  have e2 := congrArg Prod.snd e'
  unfold rowLt at hxy
  simp only at e1 e2
  omega

theorem sh_ok {l : List S47} (h : isSh l) : ∀ x ∈ l, grid.okH x := fun x hx => by
  obtain ⟨i, hi, e⟩ := List.getElem_of_mem hx
  obtain ⟨h1, h2, h3, h4, h5⟩ := isSh_get h hi
  rw [← e]
  exact ⟨h1, h2, h3, h5⟩
theorem sh_all {l : List S47} (h : isSh l) : l.all grid.okHB = true := List.all_eq_true.2 fun x hx => by
  have := sh_ok h x hx
  unfold grid.okH at this
  unfold grid.okHB
  exact decide_eq_true this

theorem rw_all {l : List (List Int)} (h : areR l) : l.all grid.okRB = true := List.all_eq_true.2 fun x hx => by
  obtain ⟨h1, h2, h3, h4, h5, h6⟩ := h.1 x hx
  unfold grid.okRB
  exact decide_eq_true ⟨h1, h2, h3, h4, by omega, by omega, h6⟩
theorem ap_rows (op : Bool) (h : List (List Bool)) (G : Int → Int → Bool) (hR : Rows h G) (x : List Int) (hx : okRw x) : grid.apOk h x ∧ Rows (grid.apTo op h x (rd x 2)) (grid.rgOne op G x) := by
  obtain ⟨h1, h2, h3, h4, h5, h6⟩ := hx
  obtain ⟨t, ht⟩ : ∃ t : Nat, t = (rd x 0).toNat := ⟨_, rfl⟩
  have et : rd x 0 = (t : Int) := by omega
  have hl := hR.2 t (by omega)
  refine ⟨⟨h1, h2, by rw [hR.1]; omega, h4, by omega, by rw [← ht, hl.1]; omega, by omega⟩, by rw [grid.apTo_length]; exact hR.1, fun u hu => ?_⟩
  unfold grid.apTo
  rw [← ht, getD_set _ _ _ _ _ (by rw [hR.1]; omega)]
  by_cases e : t = u
  · subst e
    rw [if_pos rfl]
    refine ⟨by rw [grid.apRow_length]; exact hl.1, fun s hs => ?_⟩
    have hg := hl.2 s hs
    have hsl : s < (h.getD t []).length := by rw [hl.1]; exact hs
    unfold grid.apRow
    rw [List.getD_eq_getElem?_getD, List.getElem?_mapIdx, List.getElem?_eq_getElem hsl]
    rw [List.getD_eq_getElem?_getD, List.getElem?_eq_getElem hsl] at hg
    simp only [Option.map_some, Option.getD_some] at hg ⊢
    unfold grid.rgOne grid.rgTo
    by_cases q : rd x 1 ≤ (s : Int) ∧ (s : Int) < rd x 2
    · rw [if_pos q, if_pos ⟨et, q⟩]
    · rw [if_neg q, if_neg (fun q' => q q'.2)]
      exact hg
  · rw [if_neg e]
    refine ⟨(hR.2 u hu).1, fun s hs => ?_⟩
    rw [(hR.2 u hu).2 s hs]
    unfold grid.rgOne grid.rgTo
    rw [if_neg (fun q => e (by omega))]
theorem ap_all (op : Bool) : ∀ (xs : List (List Int)) (h : List (List Bool)) (G : Int → Int → Bool), Rows h G → (∀ x ∈ xs, okRw x) → ∃ h', grid.apAll op xs h = some h' ∧ Rows h' (grid.rgAll op G xs)
  | [], h, G, hR, _ => ⟨h, rfl, hR⟩
  | x :: xs, h, G, hR, hx => by
    obtain ⟨h1, h2⟩ := ap_rows op h G hR x (hx x List.mem_cons_self)
    obtain ⟨h', h3, h4⟩ := ap_all op xs _ _ h2 (fun y hy => hx y (List.mem_cons_of_mem _ hy))
    refine ⟨h', ?_, h4⟩
    unfold grid.apAll
    rw [if_pos h1]
    exact h3
def resH (L : List S47) : List S47 × Bool := if (L.length : Int) > 60 then ([], false) else if isSh (shs.sortH L) then (shs.sortH L, true) else ([], false)
theorem resH_len (L : List S47) : (resH L).1.length ≤ 60 := by
  unfold resH
  split
  · exact Nat.zero_le _
  · split
    · show (shs.sortH L).length ≤ 60
      rw [shs.sortH_len]; omega
    · exact Nat.zero_le _
theorem rowsG_len (G : Int → Int → Bool) : (grid.rowsG G).length ≤ 40020 := by unfold grid.rowsG; rw [List.length_map]; exact grid.gr_len _
theorem impl_sheet (G : Int → Int → Bool) : Ev (fun k => impl_sheetOf.f k (grid.rowsG G)) (resH (grid.rowsG G)) := by
  unfold impl_sheetOf.f resH
  by_cases h : ((grid.rowsG G).length : Int) > 60
  · rw [if_pos h]
    exact ev_pos (by omega) (Ev.now _)
  · rw [if_neg h]
    refine ev_neg (by omega) (ev_pos (keys_nodup G) (Ev.bind (impl_isSh _ (by rw [shs.sortH_len]; have := rowsG_len G; omega)) (ev_now ?_)))
    by_cases q : isSh (shs.sortH (grid.rowsG G))
    · rw [if_pos q, if_pos (decide_eq_true q)]
    · rw [if_neg q, if_neg (by simpa using q)]
theorem spec_sheet (h : List (List Bool)) (G : Int → Int → Bool) (hR : Rows h G) : Ev (fun k => spec_rpSheet.f k h) (resH (grid.rowsG G)) := by
  refine sheet_f h G hR _ ?_
  have hl := rowsG_len G
  unfold resH
  by_cases c : ((grid.rowsG G).length : Int) > 60
  · rw [if_pos c]
    exact ev_pos c (Ev.now _)
  · rw [if_neg c]
    refine ev_neg c ?_
    unfold spec_shSorted.f
    rw [insAll_sortH _ (keys_nodup G)]
    refine Ev.bind (ev_pos (by omega) (Ev.bind (spec_isSh _ (by rw [shs.sortH_len]; omega)) (Ev.now _))) (ev_now ?_)
    by_cases q : isSh (shs.sortH (grid.rowsG G))
    · rw [if_pos q, if_pos (decide_eq_true q)]
    · rw [if_neg q, if_neg (by simpa using q)]
theorem ac (l : List S47) (p : List (List Int)) (h1 : l.length ≤ 1048576) (h2 : p.length ≤ 1048576) :
    ∃ r : List S47 × Bool, Ev (fun k => spec_ApplyPatches.f k l p) r ∧ Ev (fun k => impl_ApplyPatches.f k l p) r ∧ r.1.length ≤ 60 := by
  unfold spec_ApplyPatches.f impl_ApplyPatches.f impl_applied.f
  have i1 := impl_isSh l h1
  have i2 := impl_areR p h2
  have s1 := spec_isSh l h1
  have s2 := spec_areR p h2
  by_cases hs : isSh l
  · rw [decide_eq_true hs] at i1 s1
    by_cases hp : areR p
    · rw [decide_eq_true hp] at i2 s2
      obtain ⟨h, hh, hH⟩ := spec_open l h1 (sh_ok hs)
      obtain ⟨g1, hg1, hG1⟩ := ap_all false p h _ hH hp.1
      have hall : (l.all grid.okHB && p.all grid.okRB) = true := by rw [sh_all hs, rw_all hp]; rfl
      exact ⟨resH (grid.rowsG (grid.rgAll false (grid.openAt l) p)), Ev.bind s1 (ev_pos rfl (Ev.bind s2 (ev_pos rfl (Ev.bind hh (ev_call hg1 (spec_sheet g1 _ hG1)))))), Ev.bind (Ev.bind i1 (ev_pos rfl (Ev.bind i2 (ev_pos rfl (ev_pos hall (impl_sheet _)))))) (Ev.now _), resH_len _⟩
    · rw [decide_eq_false hp] at i2 s2
      exact ⟨([], false), Ev.bind s1 (ev_pos rfl (Ev.bind s2 (ev_neg (by simp) (Ev.now _)))), Ev.bind (Ev.bind i1 (ev_pos rfl (Ev.bind i2 (ev_neg (by simp) (Ev.now _))))) (Ev.now _), Nat.zero_le _⟩
  · rw [decide_eq_false hs] at i1 s1
    exact ⟨([], false), Ev.bind s1 (ev_neg (by simp) (Ev.now _)), Ev.bind (Ev.bind i1 (ev_neg (by simp) (Ev.now _))) (Ev.now _), Nat.zero_le _⟩
theorem FnExactApplyPatches (l0 : List (S49)) (l1 : List (List Int)) (w0 : (l0.length ≤ maxLen ∧ ∀ y1 ∈ l0, ((Lit.int .i64 y1.f0).wf = true ∧ (Lit.int .i64 y1.f1).wf = true ∧ (Lit.int .i64 y1.f2).wf = true))) (w1 : (l1.length ≤ maxLen ∧ ∀ y1 ∈ l1, (y1.length ≤ maxLen ∧ ∀ y2 ∈ y1, (Lit.int .i64 y2).wf = true))) :
    ∃ k, laws_FnExactApplyPatches.f k l0 l1 = some true := by
  have hm0 := w0.1
  have hm1 := w1.1
  have hn1 := fun x hx => (w1.2 x hx).1
  unfold maxLen at hm0 hm1 hn1
  refine Ev.rounds (g := fun k => laws_FnExactApplyPatches.f k l0 l1) ?_
  unfold laws_FnExactApplyPatches.f
  refine ev_call (szHoleS _ _ (by omega) (by omega)) (ev_ite (fun _ => Ev.now _) (fun c0 => ?_))
  have hl0 : (l0.length : Int) ≤ 1048576 := by
    split at c0 <;> omega
  rw [if_pos hl0] at c0 ⊢
  obtain ⟨b1, s1, t1⟩ := szRows l1 (1048576 - (l0.length : Int)) (by omega) (by omega) (fun x hx => by have := hn1 x hx; omega)
  refine Ev.bind s1 (ev_ite (fun _ => Ev.now _) (fun c1 => ?_))
  obtain ⟨k1, m1, u1⟩ := t1.resolve_left c1
  have i0 := toHoleS l0 (by omega)
  have i1 := toIntSS l1 k1 m1
  have k0 : (l0.map cvH).length ≤ 1048576 := by simp; omega
  obtain ⟨r, g1, g2, g3⟩ := ac (l0.map cvH) l1 k0 k1
  have hr : r.1.length ≤ 1048576 := by omega
  have x0 := markHoleS (l0.map cvH) 1 (by omega) (by omega) k0
  have x1 := markIntSSa l1 (1 + (3 : Nat) * ((l0.map cvH).length : Nat)) (by omega) (by omega) k1 m1 (by omega)
  have x2 := markHoleS r.1 1 (by omega) (by omega) hr
  have x3 := heldHoleS r.1.length 1 (by omega) (by omega) hr
  have er := eqHoleS r.1 hr
  refine Ev.bind i0 (Ev.bind i1 (Ev.bind g1 (Ev.bind i0 (Ev.bind i1 (Ev.bind g2 (Ev.bind er (ev_pos rfl (ev_pos rfl ?_))))))))
  refine Ev.bind i0 (Ev.bind (eqHoleS _ k0) (ev_pos rfl (Ev.bind i1 (Ev.bind (sameIntSS _ (by omega) m1) (ev_pos rfl ?_)))))
  refine Ev.bind x0 (Ev.bind x1 (ev_neg (by show ¬ (_ : Int) < 0; omega) (Ev.bind er (ev_pos rfl ?_))))
  exact Ev.bind x2 (Ev.bind x3 (ev_neg (by omega) (ev_pos rfl (Ev.bind i0 (Ev.bind i1 (Ev.bind g2 (Ev.bind er (ev_pos rfl (ev_pos rfl (Ev.bind x3 (ev_neg (by omega) (ev_pos rfl (Ev.now _)))))))))))))
end Go.Proofs.Ytghdiijfpepmhaa.PureFnExactApplyPatches
