/- The plain statement of FnExactMustOpen: the law's function, over numbers and lists, answers true. No conditions beyond the arguments' own kinds. -/
import Derived.Test.YtjniaiobnbdhhaaRMustOpenL
import Derived.Test.YtjniaiobnbdhhaaPureFnExactMustOpenb
namespace Go.Proofs.Ytjniaiobnbdhhaa.PureFnExactMustOpen
open Go Go.RowKit Go.Proofs.Ytjniaiobnbdhhaa.PFnExactMustOpen Go.Proofs.YtjniaiobnbdhhaaW.PrintWords Go.Proofs.YtjniaiobnbdhhaaW.PrintLast Go.Proofs.YtjniaiobnbdhhaaW.PrintMore Go.Proofs.Ytjniaiobnbdhhaa.Lib
set_option linter.unusedVariables false
set_option linter.unusedSimpArgs false
theorem ranges_l1 (x5 x6 : List (List Bool)) (A B : Int → Int → Bool) (hA : Rows x5 A) (hB : Rows x6 B) (t : Nat) (ht : t < 20) (P : List (List Int)) (n : Int)
    (hn : Ev (fun k => spec_rpRanges.l0 k x5 x6 (grid.grT (fun u v => A u v && !B u v) (t + 1)) n ((t + 1 : Nat) : Int)) P) :
    ∀ (s : Nat) (x7 : List (List Int)), s ≤ 2000 → x7 = tailOf (t : Int) (grid.grS (fun u v => A u v && !B u v) (t : Int) (grid.grT (fun u v => A u v && !B u v) t) s) (s : Int) → Ev (fun k => spec_rpRanges.l1 k x5 x6 x7 (t : Int) n (t : Int) ((2000 : Nat) : Int) (s : Int)) P := by
  refine ev_for (fun k x7 s => spec_rpRanges.l1 k x5 x6 x7 (t : Int) n (t : Int) ((2000 : Nat) : Int) s) 2000 (fun s x7 => x7 = tailOf (t : Int) (grid.grS (fun u v => A u v && !B u v) (t : Int) (grid.grT (fun u v => A u v && !B u v) t) s) (s : Int)) (fun _ _ => P) ?_ ?_
  · intro x7 e
    subst e
    have e := tail_end (fun u v => A u v && !B u v) (t : Int) (grid.grT (fun u v => A u v && !B u v) t)
    refine Ev.step (f := fun k => spec_rpRanges.l0 k x5 x6 (grid.grT (fun u v => A u v && !B u v) (t + 1)) n ((t + 1 : Nat) : Int)) (fun k => ?_) hn
    simp only [spec_rpRanges.l1]
    rw [if_neg (by omega), wn ht (by omega)]
    exact congrArg (fun z => spec_rpRanges.l0 k x5 x6 z n ((t + 1 : Nat) : Int)) e
  · intro s x7 hs e ih
    subst e
    have qa := hA.1
    have qb := hB.1
    obtain ⟨a1, a2⟩ := hA.2 t ht
    obtain ⟨b1, b2⟩ := hB.2 t ht
    have a3 := a2 s hs
    have b3 := b2 s hs
    have hst := ahead_grS (fun u v => A u v && !B u v) (t : Int) (grid.grT (fun u v => A u v && !B u v) t) (ahead_grT _ t) s
    have hl1 := grid.grS_len (fun u v => A u v && !B u v) (t : Int) (grid.grT (fun u v => A u v && !B u v) t) s
    have hl2 := grid.grT_len (fun u v => A u v && !B u v) t
    have go := ih _ rfl
    have es : grid.grS (fun u v => A u v && !B u v) (t : Int) (grid.grT (fun u v => A u v && !B u v) t) (s + 1) = grid.grStep (fun u v => A u v && !B u v) (t : Int) (grid.grS (fun u v => A u v && !B u v) (t : Int) (grid.grT (fun u v => A u v && !B u v) t) s) (s : Int) := rfl
    rw [es] at go
    generalize hg : grid.grS (fun u v => A u v && !B u v) (t : Int) (grid.grT (fun u v => A u v && !B u v) t) s = st at hst hl1 go ⊢
    have p1 : ∀ z : List Bool, z = x5.getD t [] → (s : Int) < ((z.length : Nat) : Int) := fun z hz => by rw [hz, a1]; omega
    have p2 : ∀ z : List Bool, z = x6.getD t [] → (s : Int) < ((z.length : Nat) : Int) := fun z hz => by rw [hz, b1]; omega
    cases hv : A (t : Int) (s : Int) with
    | false =>
      have hh : (fun u v => A u v && !B u v) (t : Int) (s : Int) = false := by show (A (t : Int) (s : Int) && !B (t : Int) (s : Int)) = false; rw [hv]; rfl
      rw [show (((s + 1 : Nat) : Nat) : Int) = (s : Int) + 1 from by omega, tail_skip _ _ _ _ hh] at go
      refine Ev.step (f := fun k => spec_rpRanges.j2 k x5 x6 (tailOf (t : Int) st (s : Int)) (t : Int) (s : Int) n (t : Int) ((2000 : Nat) : Int) (s : Int) true) (fun k => ?_) (Ev.step (f := fun k => spec_rpRanges.l1 k x5 x6 (tailOf (t : Int) st (s : Int)) (t : Int) n (t : Int) ((2000 : Nat) : Int) ((s : Int) + 1)) (fun k => ?_) go)
      · simp only [spec_rpRanges.l1]
        rw [if_pos (by omega), if_pos (by omega), if_pos (by omega), if_pos (by omega), if_pos (p1 _ (by show x5.getD (t : Int).toNat [] = _; rw [Int.toNat_natCast])),
          if_neg (by show ¬ ((x5.getD (t : Int).toNat []).getD (s : Int).toNat false) = true; rw [Int.toNat_natCast, Int.toNat_natCast, a3, hv]; simp)]
      · rw [j2_skip, wid (by omega) (by omega)]
    | true =>
      have hb : ∀ k, spec_rpRanges.l1 (k + 1) x5 x6 (tailOf (t : Int) st (s : Int)) (t : Int) n (t : Int) ((2000 : Nat) : Int) (s : Int) = spec_rpRanges.j2 k x5 x6 (tailOf (t : Int) st (s : Int)) (t : Int) (s : Int) n (t : Int) ((2000 : Nat) : Int) (s : Int) (B (t : Int) (s : Int)) := fun k => by
        simp only [spec_rpRanges.l1]
        rw [if_pos (by omega), if_pos (by omega), if_pos (by omega), if_pos (by omega), if_pos (p1 _ (by show x5.getD (t : Int).toNat [] = _; rw [Int.toNat_natCast])),
          if_pos (by show ((x5.getD (t : Int).toNat []).getD (s : Int).toNat false) = true; rw [Int.toNat_natCast, Int.toNat_natCast, a3, hv]), if_pos (by omega), if_pos (p2 _ (by show x6.getD (t : Int).toNat [] = _; rw [Int.toNat_natCast]))]
        refine congrArg (fun z => spec_rpRanges.j2 k x5 x6 (tailOf (t : Int) st (s : Int)) (t : Int) (s : Int) n (t : Int) ((2000 : Nat) : Int) (s : Int) z) ?_
        show ((x6.getD (t : Int).toNat []).getD (s : Int).toNat false) = _
        rw [Int.toNat_natCast, Int.toNat_natCast, b3]
      refine Ev.step hb ?_
      cases hw : B (t : Int) (s : Int) with
      | true =>
        have hh : (fun u v => A u v && !B u v) (t : Int) (s : Int) = false := by show (A (t : Int) (s : Int) && !B (t : Int) (s : Int)) = false; rw [hv, hw]; rfl
        rw [show (((s + 1 : Nat) : Nat) : Int) = (s : Int) + 1 from by omega, tail_skip _ _ _ _ hh] at go
        refine Ev.step (f := fun k => spec_rpRanges.l1 k x5 x6 (tailOf (t : Int) st (s : Int)) (t : Int) n (t : Int) ((2000 : Nat) : Int) ((s : Int) + 1)) (fun k => ?_) go
        rw [j2_skip, wid (by omega) (by omega)]
      | false =>
        have hh : (fun u v => A u v && !B u v) (t : Int) (s : Int) = true := by show (A (t : Int) (s : Int) && !B (t : Int) (s : Int)) = true; rw [hv, hw]; rfl
        rw [show (((s + 1 : Nat) : Nat) : Int) = (s : Int) + 1 from by omega] at go
        refine Ev.step (f := fun k => spec_rpRanges.l1 k x5 x6 (tailOf (t : Int) (grid.grStep (fun u v => A u v && !B u v) (t : Int) st (s : Int)) ((s : Int) + 1)) (t : Int) n (t : Int) ((2000 : Nat) : Int) ((s : Int) + 1)) (fun k => ?_) go
        rw [j2_put k x5 x6 (fun u v => A u v && !B u v) _ _ _ _ _ _ ⟨by omega, by omega⟩ hh hst (by omega), wid (by omega) (by omega)]
theorem ranges_l0 (x5 x6 : List (List Bool)) (A B : Int → Int → Bool) (hA : Rows x5 A) (hB : Rows x6 B) :
    Ev (fun k => spec_rpRanges.l0 k x5 x6 [] ((20 : Nat) : Int) ((0 : Nat) : Int)) (grid.gr (fun u v => A u v && !B u v)) := by
  refine ev_for (fun k x7 t => spec_rpRanges.l0 k x5 x6 x7 ((20 : Nat) : Int) t) 20 (fun t x7 => x7 = grid.grT (fun u v => A u v && !B u v) t) (fun _ _ => grid.gr (fun u v => A u v && !B u v)) ?_ ?_ 0 [] (Nat.zero_le _) rfl
  · intro x7 e
    refine Ev.step (f := fun _ => some x7) (fun k => ?_) (ev_now e)
    simp only [spec_rpRanges.l0]
    rw [if_neg (by omega)]
  · intro t x7 ht e ih
    subst e
    have q1 := hA.1
    refine Ev.step (f := fun k => spec_rpRanges.l1 k x5 x6 (grid.grT (fun u v => A u v && !B u v) t) (t : Int) ((20 : Nat) : Int) (t : Int) ((2000 : Nat) : Int) ((0 : Nat) : Int)) (fun k => ?_) (ranges_l1 x5 x6 A B hA hB t ht _ _ (ih _ rfl) 0 _ (Nat.zero_le _) ?_)
    · simp only [spec_rpRanges.l0]
      rw [if_pos (by omega), if_pos (by omega), if_pos (by omega)]
      refine congrArg (fun z => spec_rpRanges.l1 k x5 x6 (grid.grT (fun u v => A u v && !B u v) t) (t : Int) ((20 : Nat) : Int) (t : Int) z 0) ?_
      show (((x5.getD (t : Int).toNat []).length : Nat) : Int) = _
      rw [Int.toNat_natCast, (hA.2 t ht).1]
    · unfold tailOf
      show _ = grid.grT (fun u v => A u v && !B u v) t ++ (if (-1 : Int) < 0 then [] else _)
      rw [if_pos (by omega), List.append_nil]
theorem spec_ranges (l0 l1 : List S117) (h0 : l0.length ≤ 1048576) (h1 : l1.length ≤ 1048576) (k0 : ∀ x ∈ l0, grid.okH x) (k1 : ∀ x ∈ l1, grid.okH x) :
    Ev (fun k => spec_rpRanges.f k l0 l1) (grid.gr (fun u v => grid.openAt l0 u v && !grid.openAt l1 u v)) := by
  unfold spec_rpRanges.f
  obtain ⟨a, a1, a2⟩ := spec_open l0 h0 k0
  obtain ⟨b, b1, b2⟩ := spec_open l1 h1 k1
  refine Ev.bind a1 (Ev.bind b1 ?_)
  rw [a2.1]
  exact ranges_l0 a b _ _ a2 b2

theorem sh_ok {l : List S117} (h : isSh l) : ∀ x ∈ l, grid.okH x := fun x hx => by
  obtain ⟨i, hi, e⟩ := List.getElem_of_mem hx
  obtain ⟨h1, h2, h3, h4, h5⟩ := isSh_get h hi
  rw [← e]
  exact ⟨h1, h2, h3, h5⟩
theorem sh_all {l : List S117} (h : isSh l) : l.all grid.okHB = true := List.all_eq_true.2 fun x hx => by
  have := sh_ok h x hx
  unfold grid.okH at this
  unfold grid.okHB
  exact decide_eq_true this
theorem mc (a b : List S117) (h1 : a.length ≤ 1048576) (h2 : b.length ≤ 1048576) :
    ∃ r : List (List Int) × Bool, Ev (fun k => spec_MustOpen.f k a b) r ∧ Ev (fun k => impl_MustOpen.f k a b) r ∧ r.1.length ≤ 1048576 ∧ ∀ x ∈ r.1, x.length ≤ 3 := by
  unfold spec_MustOpen.f impl_MustOpen.f spec_rpTwo.f
  by_cases ha : isSh a
  · by_cases hb : isSh b
    · have hr := spec_ranges b a h2 h1 (sh_ok hb) (sh_ok ha)
      have hi : impl_mustChange.f b a = some (grid.gr (fun u v => grid.openAt b u v && !grid.openAt a u v)) := by
        unfold impl_mustChange.f
        rw [if_pos (by rw [sh_all ha, sh_all hb]; rfl)]
      refine ⟨(grid.gr (fun u v => grid.openAt b u v && !grid.openAt a u v), true), Ev.bind (Ev.bind (spec_isSh a h1) (ev_pos (decide_eq_true ha) (Ev.bind (spec_isSh b h2) (ev_now (decide_eq_true hb))))) (ev_pos rfl (Ev.bind hr (Ev.now _))), Ev.bind (impl_isSh a h1) (ev_pos (decide_eq_true ha) (Ev.bind (impl_isSh b h2) (ev_pos (decide_eq_true hb) (ev_call hi (Ev.now _))))), ?_, fun x hx => Nat.le_of_eq (gr_rows _ x hx)⟩
      have := grid.grT_len (fun u v => grid.openAt b u v && !grid.openAt a u v) 20
      show (grid.grT _ 20).length ≤ _
      omega
    · exact ⟨([], false), Ev.bind (Ev.bind (spec_isSh a h1) (ev_pos (decide_eq_true ha) (Ev.bind (spec_isSh b h2) (ev_now (decide_eq_false hb))))) (ev_neg (by simp) (Ev.now _)), Ev.bind (impl_isSh a h1) (ev_pos (decide_eq_true ha) (Ev.bind (impl_isSh b h2) (ev_neg (by simpa using hb) (Ev.now _)))), Nat.zero_le _, fun x h => by cases h⟩
  · exact ⟨([], false), Ev.bind (Ev.bind (spec_isSh a h1) (ev_neg (by simpa using ha) (Ev.now _))) (ev_neg (by simp) (Ev.now _)), Ev.bind (impl_isSh a h1) (ev_neg (by simpa using ha) (Ev.now _)), Nat.zero_le _, fun x h => by cases h⟩
theorem FnExactMustOpen (l0 l1 : List (S119)) (w0 : (l0.length ≤ maxLen ∧ ∀ y1 ∈ l0, ((Lit.int .i64 y1.f0).wf = true ∧ (Lit.int .i64 y1.f1).wf = true ∧ (Lit.int .i64 y1.f2).wf = true))) (w1 : (l1.length ≤ maxLen ∧ ∀ y1 ∈ l1, ((Lit.int .i64 y1.f0).wf = true ∧ (Lit.int .i64 y1.f1).wf = true ∧ (Lit.int .i64 y1.f2).wf = true))) :
    ∃ k, laws_FnExactMustOpen.f k l0 l1 = some true := by
  have hm0 := w0.1
  have hm1 := w1.1
  unfold maxLen at hm0 hm1
  refine Ev.rounds (g := fun k => laws_FnExactMustOpen.f k l0 l1) ?_
  unfold laws_FnExactMustOpen.f
  refine ev_call (szHoleS _ _ (by omega) (by omega)) (ev_ite (fun _ => Ev.now _) (fun c0 => ?_))
  have hl0 : (l0.length : Int) ≤ 1048576 := by
    split at c0 <;> omega
  rw [if_pos hl0] at c0 ⊢
  refine ev_call (szHoleS _ _ (by omega) (by omega)) (ev_ite (fun _ => Ev.now _) (fun c1 => ?_))
  have hl1 : (l1.length : Int) ≤ 1048576 - (l0.length : Int) := by
    split at c1 <;> omega
  have i0 := toHoleS l0 (by omega)
  have i1 := toHoleS l1 (by omega)
  have k0 : (l0.map cvH).length ≤ 1048576 := by simp; omega
  have k1 : (l1.map cvH).length ≤ 1048576 := by simp; omega
  obtain ⟨r, g1, g2, g3, g4⟩ := mc (l0.map cvH) (l1.map cvH) k0 k1
  have m0 := markHoleS (l0.map cvH) 1 (by omega) (by omega) k0
  have m1 := markHoleS (l1.map cvH) (1 + (3 : Nat) * ((l0.map cvH).length : Nat)) (by omega) (by omega) k1
  have q3 : ∀ x ∈ r.1, x.length ≤ 1048576 := fun x hx => by have := g4 x hx; omega
  have qt : totR r.1 ≤ 1073741824 := by have := totR_le 3 r.1 g4; omega
  have e1 := eqIntSS r.1 (by omega) q3
  have e2 := markIntSS r.1 g3 q3 qt
  have e3 := heldIntSS r.1 g3 q3 qt
  refine Ev.bind i0 (Ev.bind i1 (Ev.bind g1 (Ev.bind i0 (Ev.bind i1 (Ev.bind g2 (Ev.bind e1 (ev_pos rfl (ev_pos rfl ?_))))))))
  refine Ev.bind i0 (Ev.bind (eqHoleS _ k0) (ev_pos rfl (Ev.bind i1 (Ev.bind (eqHoleS _ k1) (ev_pos rfl (Ev.bind m0 (Ev.bind m1 (ev_neg (by show ¬ (_ : Int) < 0; omega) (Ev.bind e1 (ev_pos rfl ?_))))))))))
  exact Ev.bind e2 (Ev.bind e3 (ev_neg (by omega) (ev_pos rfl (Ev.bind i0 (Ev.bind i1 (Ev.bind g2 (Ev.bind e1 (ev_pos rfl (ev_pos rfl (Ev.bind e3 (ev_neg (by omega) (ev_pos rfl (Ev.now _)))))))))))))
end Go.Proofs.Ytjniaiobnbdhhaa.PureFnExactMustOpen
