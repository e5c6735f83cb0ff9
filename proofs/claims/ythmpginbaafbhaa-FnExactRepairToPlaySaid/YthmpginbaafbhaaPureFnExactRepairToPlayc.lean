/- The plain statement of FnExactRepairToPlay (lemmas): the law's function, over numbers and lists, answers true. No conditions beyond the arguments' own kinds. -/
import Derived.Test.YthmpginbaafbhaaSRepairToPlay22
import Derived.Test.YthmpginbaafbhaaPureFnExactRepairToPlayb
namespace Go.Proofs.Ythmpginbaafbhaa.PureFnExactRepairToPlay
open Go Go.RowKit Go.Proofs.Ythmpginbaafbhaa.PFnExactRepairToPlay Go.Proofs.YthmpginbaafbhaaW.PrintWords Go.Proofs.YthmpginbaafbhaaW.PrintLast Go.Proofs.YthmpginbaafbhaaW.PrintMore Go.Proofs.Ythmpginbaafbhaa.Lib
set_option linter.unusedVariables false
set_option linter.unusedSimpArgs false
theorem ranges_l1 (x5 x6 : List (List Bool)) (A B : Int → Int → Bool) (hA : Rows x5 A) (hB : Rows x6 B) (t : Nat) (ht : t < 20) (P : List (List Int)) (n : Int)
    (hn : Ev (fun k => spec_rpRanges.l0 k x5 x6 (grid.grT (fun u v => A u v && !B u v) (t + 1)) n ((t + 1 : Nat) : Int)) P) :
    ∀ (s : Nat) (x7 : List (List Int)), s ≤ 2000 → x7 = tailOf (t : Int) (grid.grS (fun u v => A u v && !B u v) (t : Int) (grid.grT (fun u v => A u v && !B u v) t) s) (s : Int) → Ev (fun k => spec_rpRanges.l1 k x5 x6 x7 (t : Int) n (t : Int) ((2000 : Nat) : Int) (s : Int)) P := by
  refine ev_for (fun k x7 s => spec_rpRanges.l1 k x5 x6 x7 (t : Int) n (t : Int) ((2000 : Nat) : Int) s) 2000 (fun s x7 => x7 = tailOf (t : Int) (grid.grS (fun u v => A u v && !B u v) (t : Int) (grid.grT (fun u v => A u v && !B u v) t) s) (s : Int)) (fun _ _ => P) ?_ ?_
  · intro x7 e
    subst e
    have e := tail_end (fun u v => A u v && !B u v) (t : Int) (grid.grT (fun u v => A u v && !B u v) t)
    refine Ev.step (f := fun k => spec_rpRanges.l0 k x5 x6 (grid.grT (fun u v => A u v && !B u v) (t + 1)) n ((t + 1 : Nat) : Int)) (fun k => ?_) hn
    simp only [spec_rpRanges.l1]
    rw [if_neg (by omega), wn ht (by omega)]
    exact congrArg (fun z => spec_rpRanges.l0 k x5 x6 z n ((t + 1 : Nat) : Int)) e
  · intro s x7 hs e ih
    subst e
    have qa := hA.1
    have qb := hB.1
    obtain ⟨a1, a2⟩ := hA.2 t ht
    obtain ⟨b1, b2⟩ := hB.2 t ht
    have a3 := a2 s hs
    have b3 := b2 s hs
    have hst := ahead_grS (fun u v => A u v && !B u v) (t : Int) (grid.grT (fun u v => A u v && !B u v) t) (ahead_grT _ t) s
    have hl1 := grid.grS_len (fun u v => A u v && !B u v) (t : Int) (grid.grT (fun u v => A u v && !B u v) t) s
    have hl2 := grid.grT_len (fun u v => A u v && !B u v) t
    have go := ih _ rfl
    have es : grid.grS (fun u v => A u v && !B u v) (t : Int) (grid.grT (fun u v => A u v && !B u v) t) (s + 1) = grid.grStep (fun u v => A u v && !B u v) (t : Int) (grid.grS (fun u v => A u v && !B u v) (t : Int) (grid.grT (fun u v => A u v && !B u v) t) s) (s : Int) := rfl
    rw [es] at go
    generalize hg : grid.grS (fun u v => A u v && !B u v) (t : Int) (grid.grT (fun u v => A u v && !B u v) t) s = st at hst hl1 go ⊢
    have p1 : ∀ z : List Bool, z = x5.getD t [] → (s : Int) < ((z.length : Nat) : Int) := fun z hz => by rw [hz, a1]; omega
    have p2 : ∀ z : List Bool, z = x6.getD t [] → (s : Int) < ((z.length : Nat) : Int) := fun z hz => by rw [hz, b1]; omega
    cases hv : A (t : Int) (s : Int) with
    | false =>
      have hh : (fun u v => A u v && !B u v) (t : Int) (s : Int) = false := by show (A (t : Int) (s : Int) && !B (t : Int) (s : Int)) = false; rw [hv]; rfl
      rw [show (((s + 1 : Nat) : Nat) : Int) = (s : Int) + 1 from by omega, tail_skip _ _ _ _ hh] at go
      refine Ev.step (f := fun k => spec_rpRanges.j2 k x5 x6 (tailOf (t : Int) st (s : Int)) (t : Int) (s : Int) n (t : Int) ((2000 : Nat) : Int) (s : Int) true) (fun k => ?_) (Ev.step (f := fun k => spec_rpRanges.l1 k x5 x6 (tailOf (t : Int) st (s : Int)) (t : Int) n (t : Int) ((2000 : Nat) : Int) ((s : Int) + 1)) (fun k => ?_) go)
      · simp only [spec_rpRanges.l1]
        rw [if_pos (by omega), if_pos (by omega), if_pos (by omega), if_pos (by omega), if_pos (p1 _ (by show x5.getD (t : Int).toNat [] = _; rw [Int.toNat_natCast])),
          if_neg (by show ¬ ((x5.getD (t : Int).toNat []).getD (s : Int).toNat false) = true; rw [Int.toNat_natCast, Int.toNat_natCast, a3, hv]; simp)]
      · rw [j2_skip, wid (by omega) (by omega)]
    | true =>
      have hb : ∀ k, spec_rpRanges.l1 (k + 1) x5 x6 (tailOf (t : Int) st (s : Int)) (t : Int) n (t : Int) ((2000 : Nat) : Int) (s : Int) = spec_rpRanges.j2 k x5 x6 (tailOf (t : Int) st (s : Int)) (t : Int) (s : Int) n (t : Int) ((2000 : Nat) : Int) (s : Int) (B (t : Int) (s : Int)) := fun k => by
        simp only [spec_rpRanges.l1]
        rw [if_pos (by omega), if_pos (by omega), if_pos (by omega), if_pos (by omega), if_pos (p1 _ (by show x5.getD (t : Int).toNat [] = _; rw [Int.toNat_natCast])),
          if_pos (by show ((x5.getD (t : Int).toNat []).getD (s : Int).toNat false) = true; rw [Int.toNat_natCast, Int.toNat_natCast, a3, hv]), if_pos (by omega), if_pos (p2 _ (by show x6.getD (t : Int).toNat [] = _; rw [Int.toNat_natCast]))]
        refine congrArg (fun z => spec_rpRanges.j2 k x5 x6 (tailOf (t : Int) st (s : Int)) (t : Int) (s : Int) n (t : Int) ((2000 : Nat) : Int) (s : Int) z) ?_
        show ((x6.getD (t : Int).toNat []).getD (s : Int).toNat false) = _
        rw [Int.toNat_natCast, Int.toNat_natCast, b3]
      refine Ev.step hb ?_
      cases hw : B (t : Int) (s : Int) with
      | true =>
        have hh : (fun u v => A u v && !B u v) (t : Int) (s : Int) = false := by show (A (t : Int) (s : Int) && !B (t : Int) (s : Int)) = false; rw [hv, hw]; rfl
        rw [show (((s + 1 : Nat) : Nat) : Int) = (s : Int) + 1 from by omega, tail_skip _ _ _ _ hh] at go
        refine Ev.step (f := fun k => spec_rpRanges.l1 k x5 x6 (tailOf (t : Int) st (s : Int)) (t : Int) n (t : Int) ((2000 : Nat) : Int) ((s : Int) + 1)) (fun k => ?_) go
        rw [j2_skip, wid (by omega) (by omega)]
      | false =>
        have hh : (fun u v => A u v && !B u v) (t : Int) (s : Int) = true := by show (A (t : Int) (s : Int) && !B (t : Int) (s : Int)) = true; rw [hv, hw]; rfl
        rw [show (((s + 1 : Nat) : Nat) : Int) = (s : Int) + 1 from by omega] at go
        refine Ev.step (f := fun k => spec_rpRanges.l1 k x5 x6 (tailOf (t : Int) (grid.grStep (fun u v => A u v && !B u v) (t : Int) st (s : Int)) ((s : Int) + 1)) (t : Int) n (t : Int) ((2000 : Nat) : Int) ((s : Int) + 1)) (fun k => ?_) go
        rw [j2_put k x5 x6 (fun u v => A u v && !B u v) _ _ _ _ _ _ ⟨by omega, by omega⟩ hh hst (by omega), wid (by omega) (by omega)]
theorem ranges_l0 (x5 x6 : List (List Bool)) (A B : Int → Int → Bool) (hA : Rows x5 A) (hB : Rows x6 B) :
    Ev (fun k => spec_rpRanges.l0 k x5 x6 [] ((20 : Nat) : Int) ((0 : Nat) : Int)) (grid.gr (fun u v => A u v && !B u v)) := by
  refine ev_for (fun k x7 t => spec_rpRanges.l0 k x5 x6 x7 ((20 : Nat) : Int) t) 20 (fun t x7 => x7 = grid.grT (fun u v => A u v && !B u v) t) (fun _ _ => grid.gr (fun u v => A u v && !B u v)) ?_ ?_ 0 [] (Nat.zero_le _) rfl
  · intro x7 e
    refine Ev.step (f := fun _ => some x7) (fun k => ?_) (ev_now e)
    simp only [spec_rpRanges.l0]
    rw [if_neg (by omega)]
  · intro t x7 ht e ih
    subst e
    have q1 := hA.1
    refine Ev.step (f := fun k => spec_rpRanges.l1 k x5 x6 (grid.grT (fun u v => A u v && !B u v) t) (t : Int) ((20 : Nat) : Int) (t : Int) ((2000 : Nat) : Int) ((0 : Nat) : Int)) (fun k => ?_) (ranges_l1 x5 x6 A B hA hB t ht _ _ (ih _ rfl) 0 _ (Nat.zero_le _) ?_)
    · simp only [spec_rpRanges.l0]
      rw [if_pos (by omega), if_pos (by omega), if_pos (by omega)]
      refine congrArg (fun z => spec_rpRanges.l1 k x5 x6 (grid.grT (fun u v => A u v && !B u v) t) (t : Int) ((20 : Nat) : Int) (t : Int) z 0) ?_
      show (((x5.getD (t : Int).toNat []).length : Nat) : Int) = _
      rw [Int.toNat_natCast, (hA.2 t ht).1]
    · unfold tailOf
      show _ = grid.grT (fun u v => A u v && !B u v) t ++ (if (-1 : Int) < 0 then [] else _)
      rw [if_pos (by omega), List.append_nil]
theorem spec_ranges (l0 l1 : List S51) (h0 : l0.length ≤ 1048576) (h1 : l1.length ≤ 1048576) (k0 : ∀ x ∈ l0, grid.okH x) (k1 : ∀ x ∈ l1, grid.okH x) :
    Ev (fun k => spec_rpRanges.f k l0 l1) (grid.gr (fun u v => grid.openAt l0 u v && !grid.openAt l1 u v)) := by
  unfold spec_rpRanges.f
  obtain ⟨a, a1, a2⟩ := spec_open l0 h0 k0
  obtain ⟨b, b1, b2⟩ := spec_open l1 h1 k1
  refine Ev.bind a1 (Ev.bind b1 ?_)
  rw [a2.1]
  exact ranges_l0 a b _ _ a2 b2

theorem all_l0 (t : List (List Bool)) (G : Int → Int → Bool) (hR : Rows t G) (op : Bool) (tr b : Int) (ht0 : 0 ≤ tr) (ht1 : tr < 20) (hb : b ≤ 2000) : ∀ (n : Nat) (m : Int), (b - m).toNat = n → 0 ≤ m → Ev (fun k => spec_rpAll.l0 k t tr b op m) (grid.allB G op tr m b)
  | 0, m, hn, h0 => by
    rw [grid.allB_stop (by omega)]
    refine Ev.step (f := fun _ => some true) (fun k => ?_) (Ev.now _)
    simp only [spec_rpAll.l0]
    rw [if_neg (by omega)]
  | n + 1, m, hn, h0 => by
    have hm : m < b := by omega
    rw [grid.allB_step hm]
    have hv : (t.getD tr.toNat []).getD m.toNat false = G tr m := by
      have h1 := (hR.2 tr.toNat (by omega)).2 m.toNat (by omega)
      rw [Int.toNat_of_nonneg ht0, Int.toNat_of_nonneg h0] at h1
      exact h1
    have hl := (hR.2 tr.toNat (by omega)).1
    have hx : ∀ k, spec_rpAll.l0 (k + 1) t tr b op m = if (G tr m != op) = true then some false else spec_rpAll.l0 k t tr b op (m + 1) := fun k => by
      have hq := hR.1
      simp only [spec_rpAll.l0]
      rw [if_pos hm, if_pos ht0, if_pos (by omega), if_pos h0, if_pos (by show m < (((t.getD tr.toNat []).length : Nat) : Int); rw [hl]; omega), show wrap64 (m + 1) = m + 1 from by unfold wrap64; omega]
      show (if (((t.getD tr.toNat []).getD m.toNat false) != op) = true then _ else _) = _
      rw [hv]
    by_cases hq : G tr m = op
    · refine Ev.step (f := fun k => spec_rpAll.l0 k t tr b op (m + 1)) (fun k => by rw [hx, if_neg (by simp [hq])]) ?_
      rw [show (G tr m == op) = true from by simp [hq], Bool.true_and]
      exact all_l0 t G hR op tr b ht0 ht1 hb n (m + 1) (by omega) (by omega)
    · refine Ev.step (f := fun _ => some false) (fun k => by rw [hx, if_pos (by simp [hq])]) ?_
      rw [show (G tr m == op) = false from by simp [hq], Bool.false_and]
      exact Ev.now _
theorem all_f (t : List (List Bool)) (G : Int → Int → Bool) (hR : Rows t G) (op : Bool) (tr a b : Int) (ht0 : 0 ≤ tr) (ht1 : tr < 20) (ha : 0 ≤ a) (hb : b ≤ 2000) : Ev (fun k => spec_rpAll.f k t tr a b op) (grid.allB G op tr a b) := all_l0 t G hR op tr b ht0 ht1 hb _ a rfl ha
theorem jrY_ok {o : List (List Int)} (ho : ∀ z ∈ o, grid.okR z) (h : 0 < o.length) : grid.okR (grid.jrY o) := ho _ (by
  unfold grid.jrY
  rw [List.getD_eq_getElem?_getD, List.getElem?_eq_getElem (by omega)]
  exact List.getElem_mem _)
theorem rj_step (t : List (List Bool)) (G : Int → Int → Bool) (hR : Rows t G) (op : Bool) (x y : Int) (o : List (List Int)) (ho : ∀ z ∈ o, grid.okR z) (r : List Int) (hr : grid.okR r) : Ev (fun k => grid.rjStep k t op x y o r) (grid.jrStep G op x y o r) := by
  unfold grid.rjStep grid.jrStep
  refine ev_pos hr.1 ?_
  by_cases hc : 0 < o.length ∧ rd (grid.jrY o) 0 = rd r 0 ∧ wrap64 (wrap64 (rd r 1 - rd (grid.jrY o) 2) * y) < x
  · have hy := jrY_ok ho hc.1
    refine ev_pos hc (Ev.bind (all_f t G hR op (rd r 0) (rd (grid.jrY o) 2) (rd r 1) hr.2.1 hr.2.2.1 hy.2.2.2.2.2.1 hr.2.2.2.2.1) (ev_now ?_))
    by_cases hq : grid.allB G op (rd r 0) (rd (grid.jrY o) 2) (rd r 1) = true
    · rw [if_pos hq, if_pos ⟨hc.1, hc.2.1, hc.2.2, hq⟩]
    · rw [if_neg hq, if_neg (fun h => hq h.2.2.2)]
  · refine ev_neg hc ?_
    rw [if_neg (fun h => hc ⟨h.1, h.2.1, h.2.2.1⟩)]
    exact Ev.now _
theorem rj_fold (t : List (List Bool)) (G : Int → Int → Bool) (hR : Rows t G) (op : Bool) (x y : Int) : ∀ (xs o : List (List Int)), (∀ z ∈ xs, grid.okR z) → (∀ z ∈ o, grid.okR z) → Ev (fun k => grid.rjFold k t op x y xs o) (xs.foldl (grid.jrStep G op x y) o)
  | [], o, _, _ => Ev.now _
  | r :: xs, o, hx, ho => by
    have hr := hx r List.mem_cons_self
    exact Ev.bind (rj_step t G hR op x y o ho r hr) (rj_fold t G hR op x y xs _ (fun z hz => hx z (List.mem_cons_of_mem _ hz)) (grid.jrStep_ok ho hr))
theorem spec_join (xs : List (List Int)) (b : List S51) (op : Bool) (x y : Int) (hb : b.length ≤ 1048576) (hk : ∀ z ∈ b, grid.okH z) (hx : ∀ z ∈ xs, grid.okR z) (hl : xs.length ≤ 100000) :
    Ev (fun k => spec_rpJoin.f k xs b op x y) (grid.jr (grid.openAt b) op x y xs, grid.jrCost x y (grid.jr (grid.openAt b) op x y xs)) := by
  unfold spec_rpJoin.f
  obtain ⟨t, h1, hR⟩ := spec_open b hb hk
  exact ev_pos hl (Ev.bind h1 (Ev.bind (rj_fold t _ hR op x y xs [] hx (fun z hz => absurd hz List.not_mem_nil)) (Ev.now _)))
def cst (x : Int) : Bool := decide (0 ≤ x ∧ x ≤ 100)
theorem spec_cst (x : Int) : spec_l1In.f x 0 100 = some (cst x) := by
  unfold spec_l1In.f cst
  by_cases h : x ≥ 0
  · rw [if_pos h]; simp [h]
  · rw [if_neg h]; simp; omega
theorem impl_cst (x : Int) : impl_isCost.f x = some (cst x) := by
  unfold impl_isCost.f cst
  by_cases h : x ≥ 0
  · rw [if_pos h]; simp [h]
  · rw [if_neg h]; simp; omega
theorem sh_ok {l : List S51} (h : isSh l) : ∀ x ∈ l, grid.okH x := fun x hx => by
  obtain ⟨i, hi, e⟩ := List.getElem_of_mem hx
  obtain ⟨h1, h2, h3, h4, h5⟩ := isSh_get h hi
  rw [← e]
  exact ⟨h1, h2, h3, h5⟩
theorem sh_all {l : List S51} (h : isSh l) : l.all grid.okHB = true := List.all_eq_true.2 fun x hx => by
  have := sh_ok h x hx
  unfold grid.okH at this
  unfold grid.okHB
  exact decide_eq_true this

theorem impl_can (a b : List S51) (h1 : a.length ≤ 1048576) (h2 : b.length ≤ 1048576) (x y : Int) : Ev (fun k => impl_canRepair.f k a b x y) (decide (isSh a ∧ isSh b) && (cst x && cst y)) := by
  unfold impl_canRepair.f
  by_cases ha : isSh a
  · by_cases hb : isSh b
    · refine Ev.bind (impl_isSh a h1) (ev_pos (decide_eq_true ha) (Ev.bind (impl_isSh b h2) (ev_pos (decide_eq_true hb) (ev_call (impl_cst x) ?_))))
      rw [decide_eq_true (⟨ha, hb⟩ : isSh a ∧ isSh b), Bool.true_and]
      cases hx : cst x with
      | true => exact ev_pos rfl (ev_call (impl_cst y) (ev_now rfl))
      | false => exact ev_neg (by simp) (ev_now rfl)
    · refine Ev.bind (impl_isSh a h1) (ev_pos (decide_eq_true ha) (Ev.bind (impl_isSh b h2) (ev_neg (by simpa using hb) (ev_now ?_))))
      rw [decide_eq_false (fun h : isSh a ∧ isSh b => hb h.2), Bool.false_and]
  · refine Ev.bind (impl_isSh a h1) (ev_neg (by simpa using ha) (ev_now ?_))
    rw [decide_eq_false (fun h : isSh a ∧ isSh b => ha h.1), Bool.false_and]
theorem spec_costs (x y : Int) : spec_rpCosts.f x y = some (cst x && cst y) := by
  unfold spec_rpCosts.f
  rw [spec_cst, spec_cst]
  cases cst x <;> rfl
theorem impl_pat (a b : List S51) (h1 : a.length ≤ 1048576) (h2 : b.length ≤ 1048576) (x y : Int) (ha : isSh a) (hb : isSh b) (hc : (cst x && cst y) = true) :
    Ev (fun k => impl_PatchesFor.f k a b x y) (grid.jr (grid.openAt b) false x y (grid.gr (fun u v => grid.openAt a u v && !grid.openAt b u v)), grid.jrCost x y (grid.jr (grid.openAt b) false x y (grid.gr (fun u v => grid.openAt a u v && !grid.openAt b u v))), true) := by
  have hi := impl_can a b h1 h2 x y
  rw [decide_eq_true (⟨ha, hb⟩ : isSh a ∧ isSh b), Bool.true_and, hc] at hi
  have hm : impl_mustChange.f a b = some (grid.gr (fun u v => grid.openAt a u v && !grid.openAt b u v)) := by
    unfold impl_mustChange.f
    rw [if_pos (by rw [sh_all ha, sh_all hb]; rfl)]
  unfold impl_PatchesFor.f
  exact Ev.bind hi (ev_pos rfl (ev_call hm (ev_pos ⟨Nat.le_trans (grid.gr_len _) (by decide), sh_all hb⟩ (Ev.now _))))
theorem impl_cut (a b : List S51) (h1 : a.length ≤ 1048576) (h2 : b.length ≤ 1048576) (x y : Int) (ha : isSh a) (hb : isSh b) (hc : (cst x && cst y) = true) :
    Ev (fun k => impl_CutsFor.f k a b x y) (grid.jr (grid.openAt b) true x y (grid.gr (fun u v => grid.openAt b u v && !grid.openAt a u v)), grid.jrCost x y (grid.jr (grid.openAt b) true x y (grid.gr (fun u v => grid.openAt b u v && !grid.openAt a u v))), true) := by
  have hi := impl_can a b h1 h2 x y
  rw [decide_eq_true (⟨ha, hb⟩ : isSh a ∧ isSh b), Bool.true_and, hc] at hi
  have hm : impl_mustChange.f b a = some (grid.gr (fun u v => grid.openAt b u v && !grid.openAt a u v)) := by
    unfold impl_mustChange.f
    rw [if_pos (by rw [sh_all hb, sh_all ha]; rfl)]
  unfold impl_CutsFor.f
  exact Ev.bind hi (ev_pos rfl (ev_call hm (ev_pos ⟨Nat.le_trans (grid.gr_len _) (by decide), sh_all hb⟩ (Ev.now _))))
theorem rcost (a b : List S51) (h1 : a.length ≤ 1048576) (h2 : b.length ≤ 1048576) (x y : Int) (ha : isSh a) (hb : isSh b) (hc : (cst x && cst y) = true) :
    ∃ r : Int, Ev (fun k => spec_rpCost.f k a b x y) r ∧ Ev (fun k => impl_repairCost.f k a b x y) r := by
  have hr1 := spec_ranges a b h1 h2 (sh_ok ha) (sh_ok hb)
  have hr2 := spec_ranges b a h2 h1 (sh_ok hb) (sh_ok ha)
  have hj1 := spec_join _ b false x y h2 (sh_ok hb) (grid.gr_okR (fun u v => grid.openAt a u v && !grid.openAt b u v)) (Nat.le_trans (grid.gr_len _) (by decide))
  have hj2 := spec_join _ b true x y h2 (sh_ok hb) (grid.gr_okR (fun u v => grid.openAt b u v && !grid.openAt a u v)) (Nat.le_trans (grid.gr_len _) (by decide))
  refine ⟨wrap64 (grid.jrCost x y (grid.jr (grid.openAt b) false x y (grid.gr (fun u v => grid.openAt a u v && !grid.openAt b u v))) + grid.jrCost x y (grid.jr (grid.openAt b) true x y (grid.gr (fun u v => grid.openAt b u v && !grid.openAt a u v)))), ?_, ?_⟩
  · unfold spec_rpCost.f
    exact Ev.bind hr1 (Ev.bind hj1 (Ev.bind hr2 (Ev.bind hj2 (Ev.now _))))
  · unfold impl_repairCost.f
    exact Ev.bind (impl_pat a b h1 h2 x y ha hb hc) (Ev.bind (impl_cut a b h1 h2 x y ha hb hc) (Ev.now _))
end Go.Proofs.Ythmpginbaafbhaa.PureFnExactRepairToPlay
