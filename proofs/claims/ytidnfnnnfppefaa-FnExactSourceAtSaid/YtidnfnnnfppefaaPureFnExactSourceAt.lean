/- The plain statement of FnExactSourceAt: the law's function, over numbers and lists, answers true. No conditions beyond the arguments' own kinds. -/
import Derived.Test.YtidnfnnnfppefaaPFnExactSourceAtx3
import Derived.Test.YtidnfnnnfppefaaLib
namespace Go.Proofs.Ytidnfnnnfppefaa.PureFnExactSourceAt
open Go Go.RowKit Go.Proofs.Ytidnfnnnfppefaa.PFnExactSourceAt Go.Proofs.YtidnfnnnfppefaaW.PrintWords Go.Proofs.YtidnfnnnfppefaaW.PrintLast Go.Proofs.YtidnfnnnfppefaaW.PrintMore Go.Proofs.Ytidnfnnnfppefaa.Lib
set_option linter.unusedVariables false
set_option linter.unusedSimpArgs false
/-- A loop that counts up to n, and what is known of its answer. -/
theorem ev_for_ex {σ ρ : Type} (L : Nat → σ → Int → Option ρ) (n : Nat) (Inv : Nat → σ → Prop) (Post : ρ → Prop) (hstop : ∀ s, Inv n s → ∃ r, Ev (fun k => L k s (n : Int)) r ∧ Post r)
    (hgo : ∀ i s, i < n → Inv i s → (∀ s', Inv (i + 1) s' → ∃ r, Ev (fun k => L k s' ((i + 1 : Nat) : Int)) r ∧ Post r) → ∃ r, Ev (fun k => L k s (i : Int)) r ∧ Post r) :
    ∀ i s, i ≤ n → Inv i s → ∃ r, Ev (fun k => L k s (i : Int)) r ∧ Post r := by
  have key : ∀ d i : Nat, n - i = d → i ≤ n → ∀ s, Inv i s → ∃ r, Ev (fun k => L k s (i : Int)) r ∧ Post r := by
    intro d
    induction d with
    | zero =>
      intro i hd hi s hs
      obtain rfl : i = n := by omega
      exact hstop s hs
    | succ d ih =>
      intro i hd hi s hs
      exact hgo i s (by omega) hs (fun s' hs' => ih (i + 1) (by omega) (by omega) s' hs')
  intro i s hi hs
  exact key (n - i) i rfl hi s hs
theorem wn {i n : Nat} (h : i < n) (hn : n ≤ 9223372036854775807) : wrap64 ((i : Int) + 1) = ((i + 1 : Nat) : Int) := by unfold wrap64; omega

theorem l1In_eq (a b c : Int) : spec_l1In.f a b c = some (decide (b ≤ a ∧ a ≤ c)) := by
  unfold spec_l1In.f
  split <;> simp <;> omega

/-! editions -/
def cvE (x : S88) : S86 := ⟨x.f0, x.f1, x.f2⟩
theorem toPartS (l : List S88) (hl : l.length ≤ 1048576) : Ev (fun k => laws_toPartS.f k l) (l.map cvE) := by
  unfold laws_toPartS.f
  refine ev_pos (by omega) (ev_pos (by omega) ?_)
  exact map_loop (fun k ys i => laws_toPartS.l0 k l ys i) l z88 z86 (fun k x => laws_toPart.f x.f0 x.f1 x.f2) (fun bt => ⟨bt.1, bt.2.1, bt.2.2⟩) (fun x => (x.f0, x.f1, x.f2)) (fun k ys i => rfl) (fun x _ => ev_const rfl) (by omega)
theorem eqPartS (l : List S86) (hl : l.length ≤ 1048576) : Ev (fun k => laws_eqPartS.f k l l) true := by
  unfold laws_eqPartS.f
  refine ev_pos rfl ?_
  exact same_loop (fun k i => laws_eqPartS.l0 k l l i) l z86 (fun k x => laws_eqPart.f x.f0 x.f1 x.f2 x.f0 x.f1 x.f2) (fun k i => rfl) (fun x _ => ev_const (by simp [laws_eqPart.f])) (by omega)
theorem szPartS (l : List S88) (hl : l.length ≤ 9223372036854775807) : laws_szPartS.f l 1048576 = some (if l.length ≤ 1048576 then 1048576 - (l.length : Int) else -1) := by
  have e : wrap64 (1048576 - (l.length : Int)) = 1048576 - l.length := by unfold wrap64; omega
  simp only [laws_szPartS.f, e]
  repeat' split
  all_goals first | rfl | (exfalso; omega)
/-- The sum of the parts' lengths, as the machine adds it. -/
def edLen (l : List S86) : Int := l.foldl (fun s x => wrap64 (s + wrap64 (x.f2 - x.f1))) 0
def okE (src : Int) (x : S86) : Prop := 0 ≤ x.f0 ∧ x.f0 < src ∧ 0 ≤ x.f1 ∧ x.f1 < x.f2 ∧ x.f2 ≤ 2000
instance (src : Int) (x : S86) : Decidable (okE src x) := by unfold okE; infer_instance
def isE (src : Int) (l : List S86) : Prop := 1 ≤ src ∧ src ≤ 4 ∧ l.length ≤ 12 ∧ (∀ i, i < l.length → okE src (rd_T86 l i)) ∧ edLen l ≤ 2000
instance (src : Int) (l : List S86) : Decidable (isE src l) := by unfold isE; infer_instance
theorem impl_len (l : List S86) (hl : l.length ≤ 1048576) : Ev (fun k => impl_editionLength.f k l) (edLen l) := by
  unfold impl_editionLength.f
  refine fold_loop (fun k s i => impl_editionLength.l0 k s l (l.length : Int) i) l (fun s x => wrap64 (s + wrap64 (x.f2 - x.f1))) id (fun k s => ?_) (fun k s i h => ?_) 0
  · simp only [impl_editionLength.l0]
    rw [if_neg (by omega)]; rfl
  · have e1 : wrap64 ((i : Int) + 1) = i + 1 := by unfold wrap64; omega
    simp only [impl_editionLength.l0, e1]
    rw [if_pos (by omega), if_pos (by omega), if_pos (by omega)]
    unfold rd_T86
    rw [rd_get h]
theorem impl_isE (l : List S86) (src : Int) (hl : l.length ≤ 1048576) : Ev (fun k => impl_AreParts.f k l src) (decide (isE src l)) := by
  unfold impl_AreParts.f
  by_cases h : 1 ≤ src ∧ src ≤ 4 ∧ l.length ≤ 12
  · refine ev_neg (by omega) (ev_neg (by omega) (Ev.step (f := fun k => impl_AreParts.l0 k l src l (l.length : Int) 0) (fun k => ?_) ?_))
    · simp only [impl_AreParts.j0]
      rw [if_neg (by simp; omega)]
    · refine all_loop_ev (fun k i => impl_AreParts.l0 k l src l (l.length : Int) i) l.length (fun i => okE src (rd_T86 l i)) (decide (edLen l ≤ 2000)) _ (by simp [isE, h]) (fun _ => ?_) (fun k i hi => ?_)
      · refine Ev.step (f := fun k => (impl_editionLength.f k l).bind fun t131 => (some (decide (t131 ≤ 2000)))) (fun k => ?_) (Ev.bind (impl_len l hl) (Ev.now _))
        simp only [impl_AreParts.l0]
        rw [if_neg (by omega)]
      · have e1 : wrap64 ((i : Int) + 1) = i + 1 := by unfold wrap64; omega
        simp only [impl_AreParts.l0, e1]
        unfold okE
        constructor <;> intro h <;> (repeat' split) <;> first | rfl | (exfalso; omega)
  · have e : decide (isE src l) = false := decide_eq_false (fun hp => h ⟨hp.1, hp.2.1, hp.2.2.1⟩)
    rw [e]
    refine ev_ite (fun hc => Ev.step (f := fun _ => some false) (fun k => rfl) (Ev.now _)) (fun hc => ev_ite (fun hc => Ev.step (f := fun _ => some false) (fun k => rfl) (Ev.now _)) (fun hc => Ev.step (f := fun _ => some false) (fun k => ?_) (Ev.now _)))
    simp only [impl_AreParts.j0]
    rw [if_pos (by simp; omega)]

theorem spec_len (l : List S86) (hl : l.length ≤ 1048576) : Ev (fun k => spec_edLength.f k l) (edLen l) := by
  unfold spec_edLength.f
  refine fold_loop (fun k s i => spec_edLength.l0 k s l (l.length : Int) i) l (fun s x => wrap64 (s + wrap64 (x.f2 - x.f1))) id (fun k s => ?_) (fun k s i h => ?_) 0
  · simp only [spec_edLength.l0]
    rw [if_neg (by omega)]; rfl
  · have e1 : wrap64 ((i : Int) + 1) = i + 1 := by unfold wrap64; omega
    simp only [spec_edLength.l0, e1]
    rw [if_pos (by omega), if_pos (by omega), if_pos (by omega)]
    unfold rd_T86
    rw [rd_get h]
theorem edPart_eq (a b c : Int) : spec_edPart.f a b c = some (decide (0 ≤ a ∧ a ≤ 3 ∧ 0 ≤ b ∧ b < c ∧ c ≤ 2000)) := by
  unfold spec_edPart.f spec_shStep.f
  simp only [l1In_eq, Option.bind_some, decide_eq_true_eq]
  by_cases h : 0 ≤ b ∧ b ≤ 1999
  · have e : wrap64 (b + 1) = b + 1 := by unfold wrap64; omega
    rw [e]
    repeat' split
    all_goals first | exact some_dec (by omega) (by omega) | exact some_dec_f (by omega)
  · rw [if_neg h]
    split
    all_goals exact some_dec_f (by omega)
/-- Good parts, whatever the number of sources. -/
theorem spec_good (l : List S86) (hl : l.length ≤ 1048576) : Ev (fun k => spec_edGood.f k l) (decide (isE 4 l)) := by
  unfold spec_edGood.f
  refine all_loop_ev (fun k i => spec_edGood.l0 k l l (l.length : Int) i) l.length (fun i => okE 4 (rd_T86 l i)) (decide (l.length ≤ 12 ∧ edLen l ≤ 2000)) _ ?_ (fun _ => ?_) (fun k i hi => ?_)
  · simp [isE]
    exact ⟨fun ⟨a, b, c⟩ => ⟨b, a, c⟩, fun ⟨a, b, c⟩ => ⟨b, a, c⟩⟩
  · refine Ev.step (f := fun k => if (l.length : Int) ≤ 12 then ((spec_edLength.f k l).bind fun t111 => (some (decide (t111 ≤ 2000)))) else (some false)) (fun k => ?_) (ev_ite (fun h => Ev.bind (spec_len l hl) (ev_now ?_)) (fun h => ev_now ?_))
    · simp only [spec_edGood.l0]
      rw [if_neg (by omega)]
    · simp; omega
    · simp; omega
  · have e1 : wrap64 ((i : Int) + 1) = i + 1 := by unfold wrap64; omega
    simp only [spec_edGood.l0, edPart_eq, Option.bind_some, decide_eq_true_eq, e1]
    unfold okE
    constructor <;> intro h <;> (repeat' split) <;> first | rfl | (exfalso; omega)

theorem isE_mem {src : Int} {l : List S86} (h : isE src l) : ∀ x ∈ l, okE src x := by
  intro x hx
  obtain ⟨i, hi, rfl⟩ := List.mem_iff_getElem.1 hx
  have := h.2.2.2.1 i hi
  unfold rd_T86 at this
  rwa [rd_get hi] at this
/-- The sum of the parts' lengths. -/
def sumLen (l : List S86) : Int := (l.map fun x => x.f2 - x.f1).sum
theorem sumLen_nil : sumLen [] = 0 := rfl
theorem sumLen_cons (x : S86) (l : List S86) : sumLen (x :: l) = x.f2 - x.f1 + sumLen l := by simp [sumLen]
theorem sumLen_nonneg {src : Int} {l : List S86} (h : ∀ x ∈ l, okE src x) : 0 ≤ sumLen l := by
  induction l with
  | nil => simp [sumLen]
  | cons x l ih =>
    rw [sumLen_cons]
    have := h x List.mem_cons_self
    have := ih (fun y hy => h y (List.mem_cons_of_mem _ hy))
    unfold okE at *
    omega
theorem foldLen {src : Int} (l : List S86) : ∀ (s : Int), 0 ≤ s → s + 2000 * l.length ≤ 9000000000 → (∀ x ∈ l, okE src x) → l.foldl (fun s x => wrap64 (s + wrap64 (x.f2 - x.f1))) s = s + sumLen l := by
  induction l with
  | nil => intro s _ _ _; simp [sumLen]
  | cons x l ih =>
    intro s h0 h1 h
    have hx := h x List.mem_cons_self
    unfold okE at hx
    rw [List.length_cons] at h1
    have e1 : wrap64 (x.f2 - x.f1) = x.f2 - x.f1 := by unfold wrap64; omega
    have e2 : wrap64 (s + (x.f2 - x.f1)) = s + (x.f2 - x.f1) := by unfold wrap64; omega
    rw [List.foldl_cons, e1, e2, ih _ (by omega) (by omega) (fun y hy => h y (List.mem_cons_of_mem _ hy)), sumLen_cons]
    omega
theorem edLen_eq {src : Int} {l : List S86} (hl : l.length ≤ 1000) (h : ∀ x ∈ l, okE src x) : edLen l = sumLen l := by
  unfold edLen
  rw [foldLen l 0 (by omega) (by omega) h]
  omega

/-- Where a step of an edition comes from. -/
def srcAt : List S86 → Int → Int × Int × Bool
  | [], _ => (0, 0, false)
  | p :: ps, s => if s < p.f2 - p.f1 then (p.f0, p.f1 + s, true) else srcAt ps (s - (p.f2 - p.f1))
theorem srcAt_far {src : Int} (l : List S86) : ∀ s : Int, (∀ x ∈ l, okE src x) → sumLen l ≤ s → srcAt l s = (0, 0, false) := by
  induction l with
  | nil => intro s _ _; rfl
  | cons x l ih =>
    intro s h hs
    rw [sumLen_cons] at hs
    have := sumLen_nonneg (fun y hy => h y (List.mem_cons_of_mem _ hy))
    simp only [srcAt]
    rw [if_neg (by omega), ih _ (fun y hy => h y (List.mem_cons_of_mem _ hy)) (by omega)]
theorem impl_src {src : Int} (l : List S86) (hl : l.length ≤ 1048576) (h : ∀ x ∈ l, okE src x) (s : Int) (h0 : 0 ≤ s) (h1 : s ≤ 9223372036854775807) : Ev (fun k => impl_SourceAt.l0 k s l (l.length : Int) 0) (srcAt l s) := by
  refine ev_for (fun k s i => impl_SourceAt.l0 k s l (l.length : Int) i) l.length (fun _ s => 0 ≤ s ∧ s ≤ 9223372036854775807) (fun i s => srcAt (l.drop i) s) (fun s hs => ?_) (fun i s hi hs ih => ?_) 0 s (Nat.zero_le _) ⟨h0, h1⟩
  · rw [List.drop_length]
    refine Ev.step (f := fun _ => some (0, 0, false)) (fun k => ?_) (Ev.now _)
    simp only [impl_SourceAt.l0]
    rw [if_neg (by omega)]
  · have e1 := wn hi (by omega)
    have hx := h _ (List.getElem_mem hi)
    have er : rd_T86 l (i : Int) = l[i] := by unfold rd_T86; rw [rd_get hi]
    rw [List.drop_eq_getElem_cons hi]
    unfold okE at hx
    have e2 : wrap64 (l[i].f2 - l[i].f1) = l[i].f2 - l[i].f1 := by unfold wrap64; omega
    simp only [srcAt]
    by_cases c : s < l[i].f2 - l[i].f1
    · rw [if_pos c]
      have e3 : wrap64 (l[i].f1 + s) = l[i].f1 + s := by unfold wrap64; omega
      refine Ev.step (f := fun _ => some (l[i].f0, l[i].f1 + s, true)) (fun k => ?_) (Ev.now _)
      simp only [impl_SourceAt.l0, er, e2, e3]
      rw [if_pos (by omega), if_pos (by omega), if_pos (by omega), if_pos c]
    · rw [if_neg c]
      have e3 : wrap64 (s - (l[i].f2 - l[i].f1)) = s - (l[i].f2 - l[i].f1) := by unfold wrap64; omega
      refine Ev.step (fun k => ?_) (ih (s - (l[i].f2 - l[i].f1)) ⟨by omega, by omega⟩)
      simp only [impl_SourceAt.l0, er, e1, e2, e3]
      rw [if_pos (by omega), if_pos (by omega), if_pos (by omega), if_neg c]
theorem spec_src {src : Int} (l : List S86) (hl : l.length ≤ 1048576) (h : ∀ x ∈ l, okE src x) : ∀ (d i : Nat) (s : Int), l.length - i = d → 0 ≤ s → s < sumLen (l.drop i) → s ≤ 9223372036854775807 →
    ∃ (j : Nat) (v : Int), Ev (fun k => spec_edSource.l0 k l s (i : Int)) ((j : Int), v) ∧ j < l.length ∧ srcAt (l.drop i) s = ((rd_T86 l j).f0, v, true) := by
  intro d
  induction d with
  | zero =>
    intro i s hd h0 h1 _
    rw [List.drop_of_length_le (by omega), sumLen_nil] at h1
    omega
  | succ d ih =>
    intro i s hd h0 h1 h2
    have hi : i < l.length := by omega
    have e1 := wn hi (by omega)
    have hx := h _ (List.getElem_mem hi)
    have er : rd_T86 l (i : Int) = l[i] := by unfold rd_T86; rw [rd_get hi]
    rw [List.drop_eq_getElem_cons hi] at h1 ⊢
    rw [sumLen_cons] at h1
    unfold okE at hx
    have e2 : wrap64 (l[i].f2 - l[i].f1) = l[i].f2 - l[i].f1 := by unfold wrap64; omega
    simp only [srcAt]
    by_cases c : s < l[i].f2 - l[i].f1
    · have e3 : wrap64 (l[i].f1 + s) = l[i].f1 + s := by unfold wrap64; omega
      refine ⟨i, l[i].f1 + s, Ev.step (f := fun _ => some ((i : Int), l[i].f1 + s)) (fun k => ?_) (Ev.now _), hi, by rw [if_pos c, er]⟩
      simp only [spec_edSource.l0, er, e2, e3]
      rw [if_pos (by omega), if_pos (by omega), if_neg (by omega)]
    · have e3 : wrap64 (s - (l[i].f2 - l[i].f1)) = s - (l[i].f2 - l[i].f1) := by unfold wrap64; omega
      obtain ⟨j, v, g1, g2, g3⟩ := ih (i + 1) (s - (l[i].f2 - l[i].f1)) (by omega) (by omega) (by omega) (by omega)
      refine ⟨j, v, Ev.step (fun k => ?_) g1, g2, by rw [if_neg c, g3]⟩
      simp only [spec_edSource.l0, er, e1, e2, e3]
      rw [if_pos (by omega), if_pos (by omega), if_pos (by omega)]
def srcR (l : List S86) (s : Int) : Int × Int × Bool := if isE 4 l ∧ 0 ≤ s then srcAt l s else (0, 0, false)
theorem impl_sa (l : List S86) (s : Int) (hl : l.length ≤ 1048576) (hs : s ≤ 9223372036854775807) : Ev (fun k => impl_SourceAt.f k l s) (srcR l s) := by
  unfold impl_SourceAt.f impl_isEdition.f srcR
  refine Ev.bind (Ev.bind (f := fun _ t => some t) (impl_isE l 4 hl) (Ev.now _)) (ev_ite (fun h => ?_) (fun h => ?_))
  · have hg := of_decide_eq_true h
    by_cases c : 0 ≤ s
    · rw [if_pos ⟨hg, c⟩]
      refine Ev.step (f := fun k => impl_SourceAt.l0 k s l (l.length : Int) 0) (fun k => ?_) (impl_src l hl (isE_mem hg) s c hs)
      simp only [impl_SourceAt.j0]
      rw [if_neg (by simp; omega)]
    · rw [if_neg (fun h => c h.2)]
      refine Ev.step (f := fun _ => some (0, 0, false)) (fun k => ?_) (Ev.now _)
      simp only [impl_SourceAt.j0]
      rw [if_pos (by simp; omega)]
  · rw [if_neg (fun hh => h (decide_eq_true hh.1))]
    exact Ev.step (f := fun _ => some (0, 0, false)) (fun k => rfl) (Ev.now _)
theorem spec_sa (l : List S86) (s : Int) (hl : l.length ≤ 1048576) (hs : s ≤ 9223372036854775807) : Ev (fun k => spec_SourceAt.f k l s) (srcR l s) := by
  unfold spec_SourceAt.f spec_edHas.f srcR
  by_cases hg : isE 4 l
  · have hm := isE_mem hg
    have hlen := edLen_eq (by have := hg.2.2.1; omega) hm
    have hle := hg.2.2.2.2
    have hnn := sumLen_nonneg hm
    have e1 : wrap64 (edLen l - 1) = sumLen l - 1 := by unfold wrap64; omega
    by_cases c : 0 ≤ s ∧ s ≤ sumLen l - 1
    · rw [if_pos ⟨hg, c.1⟩]
      obtain ⟨j, v, g1, g2, g3⟩ := spec_src l hl hm l.length 0 s rfl c.1 (by rw [List.drop_zero]; omega) hs
      rw [List.drop_zero] at g3
      refine Ev.bind (a := true) (Ev.bind (spec_good l hl) (ev_pos (decide_eq_true hg) (Ev.bind (spec_len l hl) (ev_call (l1In_eq _ _ _) (ev_now ?_))))) (ev_pos rfl (Ev.bind (g := fun k => spec_edSource.f k l s) g1 ?_))
      · rw [e1]; exact decide_eq_true c
      · rw [g3]
        exact ev_pos (by omega) (ev_pos (by show (j : Int) < _; omega) (Ev.now _))
    · have er : (if isE 4 l ∧ 0 ≤ s then srcAt l s else (0, 0, false)) = (0, 0, false) := by
        split
        · rename_i hh
          exact srcAt_far l s hm (by omega)
        · rfl
      rw [er]
      refine Ev.bind (a := false) (Ev.bind (spec_good l hl) (ev_pos (decide_eq_true hg) (Ev.bind (spec_len l hl) (ev_call (l1In_eq _ _ _) (ev_now ?_))))) (ev_neg (by simp) (Ev.now _))
      rw [e1]; exact decide_eq_false c
  · rw [if_neg (fun hh => hg hh.1)]
    exact Ev.bind (a := false) (Ev.bind (spec_good l hl) (ev_neg (by simpa using hg) (Ev.now _))) (ev_neg (by simp) (Ev.now _))
theorem FnExactSourceAt (l0 : List (S88)) (a1 : Int) (w0 : (l0.length ≤ maxLen ∧ ∀ y1 ∈ l0, ((Lit.int .i64 y1.f0).wf = true ∧ (Lit.int .i64 y1.f1).wf = true ∧ (Lit.int .i64 y1.f2).wf = true))) (w1 : (Lit.int .i64 a1).wf = true) :
    ∃ k, laws_FnExactSourceAt.f k l0 a1 = some true := by
  obtain ⟨hm, _⟩ := w0
  unfold maxLen at hm
  have hs := (wb w1).2
  refine Ev.rounds (g := fun k => laws_FnExactSourceAt.f k l0 a1) ?_
  unfold laws_FnExactSourceAt.f
  refine ev_call (szPartS _ (by omega)) ?_
  by_cases hl : l0.length ≤ 1048576
  · rw [if_pos hl]
    refine ev_neg (by omega) ?_
    have h1 := toPartS l0 hl
    have hl2 : (l0.map cvE).length ≤ 1048576 := by simpa using hl
    exact Ev.bind h1 (Ev.bind (spec_sa _ a1 hl2 hs) (Ev.bind h1 (Ev.bind (impl_sa _ a1 hl2 hs) (ev_pos rfl (ev_pos rfl (Ev.step (fun k => rfl) (ev_neg (by simp) (Ev.bind h1 (Ev.bind (eqPartS _ hl2) (ev_pos rfl (Ev.now _)))))))))))
  · rw [if_neg hl]
    exact ev_pos (by omega) (Ev.now _)

end Go.Proofs.Ytidnfnnnfppefaa.PureFnExactSourceAt
