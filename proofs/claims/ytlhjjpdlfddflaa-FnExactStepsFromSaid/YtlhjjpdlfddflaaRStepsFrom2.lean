/- The walks of functions that FnExactStepsFrom reaches: what they return is what the plain functions of the same names say. Laid by a program of this session after the kit's print. No conditions beyond the arguments' being read. -/
import Derived.Test.YtlhjjpdlfddflaaRStepsFrom0
import Derived.Test.YtlhjjpdlfddflaaRStepsFrom1
namespace Go.Proofs.Ytlhjjpdlfddflaa.PFnExactStepsFrom
open Go.RowKit Go.Proofs.YtlhjjpdlfddflaaW.PrintWords Go.Proofs.YtlhjjpdlfddflaaW.PrintLast Go.Proofs.YtlhjjpdlfddflaaW.PrintMore
attribute [local go_sem] max2_int min2_int max_two min_two max_three min_three max_four min_four   -- for this text's walks alone
set_option linter.unusedVariables false
set_option linter.unusedSimpArgs false

/-! ### impl_AreParts: function 20 -/
mutual
def impl_AreParts.j0 : Nat → List (S33) → Int → Bool → Option (Bool)
  | 0, _, _, _ => none
  | k + 1, x0, x1, x17 => if x17 = true then (some false) else (impl_AreParts.l0 k x0 x1 x0 (x0.length : Int) 0)
def impl_AreParts.l0 : Nat → List (S33) → Int → List (S33) → Int → Int → Option (Bool)
  | 0, _, _, _, _, _ => none
  | k + 1, x0, x1, x18, x19, x20 => if x20 < x19 then (if 0 ≤ x20 then (if x20 < (x18.length : Int) then (if ((rd_T33 x18 x20).f0) < 0 then (some false) else (if ((rd_T33 x18 x20).f0) ≥ x1 then (some false) else (if ((rd_T33 x18 x20).f1) < 0 then (some false) else (if ((rd_T33 x18 x20).f1) ≥ ((rd_T33 x18 x20).f2) then (some false) else (if ((rd_T33 x18 x20).f2) > 2000 then (some false) else (impl_AreParts.l0 k x0 x1 x18 x19 (wrap64 (x20 + 1)))))))) else (none)) else (none)) else ((impl_editionLength.f k x0).bind fun t131 => (some (decide (t131 ≤ 2000))))
end
def impl_AreParts.f (k : Nat) (l0 : List (S33)) (a1 : Int) : Option (Bool) := if a1 < 1 then (impl_AreParts.j0 k l0 a1 true) else (if a1 > 4 then (impl_AreParts.j0 k l0 a1 true) else (impl_AreParts.j0 k l0 a1 (decide ((l0.length : Int) > 12))))
theorem impl_AreParts.mono_l : ∀ k, (∀ y0 y1 y2, LeO (impl_AreParts.j0 k y0 y1 y2) (impl_AreParts.j0 (k + 1) y0 y1 y2)) ∧ (∀ y0 y1 y2 y3 y4, LeO (impl_AreParts.l0 k y0 y1 y2 y3 y4) (impl_AreParts.l0 (k + 1) y0 y1 y2 y3 y4))
  | 0 => ⟨fun _ _ _ r h => by simp [impl_AreParts.j0] at h, fun _ _ _ _ _ r h => by simp [impl_AreParts.l0] at h⟩
  | k + 1 => by
    obtain ⟨ih0, ih1⟩ := impl_AreParts.mono_l k
    refine ⟨?_, ?_⟩
    · intro y0 y1 y2
      unfold impl_AreParts.j0
      repeat' first
      | (with_reducible exact ih0 _ _ _)
      | (with_reducible exact ih1 _ _ _ _ _)
      | (with_reducible exact impl_editionLength.mono _ _)
      | (with_reducible exact LeO.refl _)
      | (with_reducible exact LeO.none _)
      | (with_reducible refine LeO.ite ?_ ?_)
      | (with_reducible refine LeO.bind ?_ (fun _ => ?_))
      | exact ih0 _ _ _
      | exact ih1 _ _ _ _ _
      | exact impl_editionLength.mono _ _
      | exact LeO.none _
      | refine LeO.ite ?_ ?_
      | refine LeO.bind ?_ (fun _ => ?_)
    · intro y0 y1 y2 y3 y4
      unfold impl_AreParts.l0
      repeat' first
      | (with_reducible exact ih0 _ _ _)
      | (with_reducible exact ih1 _ _ _ _ _)
      | (with_reducible exact impl_editionLength.mono _ _)
      | (with_reducible exact LeO.refl _)
      | (with_reducible exact LeO.none _)
      | (with_reducible refine LeO.ite ?_ ?_)
      | (with_reducible refine LeO.bind ?_ (fun _ => ?_))
      | exact ih0 _ _ _
      | exact ih1 _ _ _ _ _
      | exact impl_editionLength.mono _ _
      | exact LeO.none _
      | refine LeO.ite ?_ ?_
      | refine LeO.bind ?_ (fun _ => ?_)
theorem impl_AreParts.mono : ∀ a0 a1 k, LeO (impl_AreParts.f k a0 a1) (impl_AreParts.f (k + 1) a0 a1) := by
  intro a0 a1 k
  obtain ⟨ih0, ih1⟩ := impl_AreParts.mono_l k
  unfold impl_AreParts.f
  repeat' first
      | (with_reducible exact ih0 _ _ _)
      | (with_reducible exact ih1 _ _ _ _ _)
      | (with_reducible exact impl_editionLength.mono _ _)
      | (with_reducible exact LeO.refl _)
      | (with_reducible exact LeO.none _)
      | (with_reducible refine LeO.ite ?_ ?_)
      | (with_reducible refine LeO.bind ?_ (fun _ => ?_))
      | exact ih0 _ _ _
      | exact ih1 _ _ _ _ _
      | exact impl_editionLength.mono _ _
      | exact LeO.none _
      | refine LeO.ite ?_ ?_
      | refine LeO.bind ?_ (fun _ => ?_)
set_option maxHeartbeats 8000000 in
set_option maxRecDepth 100000 in
theorem impl_AreParts.calls (k : Nat) (A0 : Option Addr) (c0 : Nat) (l0 : List (S33)) (a1 : Int) (r : Bool) (w : World) (hr0 : Kd.C k33 w A0 l0.length l0) (hc0 : l0.length ≤ c0) (h : impl_AreParts.f k l0 a1 = some r) :
    Calls Try.prog 20 #[.slice A0 l0.length c0, .int .i64 a1] w fun e w' => e = .returned (.bool r) ∧ Below w.heap.size w w' := by
  have hu33 := Try.underlying33
  have HR0 := Aside0.mk hr0
  have HC0 := Aside0.mk hc0
  clear hr0 hc0
  have HB := Aside0.mk (Below.refl w.heap.size w)
  have H : (if a1 < 1 then (impl_AreParts.j0 k l0 a1 true) else (if a1 > 4 then (impl_AreParts.j0 k l0 a1 true) else (impl_AreParts.j0 k l0 a1 (decide ((l0.length : Int) > 12))))) = some r := h
  clear h
  have HC3 := Aside0.mk H
  clear H
  go_enter Try.func20, Try.ntmps20
  go_upto_region 1 with (fail)
  go_cut [17] (fun v17 wc => ∃ (kq : Nat) (x17_2 : Bool), v17 = .bool x17_2 ∧ Aside0 (impl_AreParts.j0 kq l0 a1 x17_2 = some r) ∧ Aside0 (kq ≤ k) ∧ Aside0 (Below w.heap.size w wc))
  case first =>
    have H := HC3.out
    clear HC3
    by_cases c4 : a1 < 1
    · rw [if_pos c4] at H
      have c4b0 : decide (a1 < 1) = true := decide_eq_true c4
      clear c4
      (first | rw [c4b0] | (simp only [i64_w, i32_w]; rw [c4b0]) | skip)
      have H' := Aside0.mk H
      clear H
      go_wp2
      go_meet
      case rel => exact ⟨_, (true), (by first | rfl | (simp; done) | (simp [*]; done)), H', ⟨by first | omega | exact Nat.le_refl _⟩, ⟨by repeat (first | (with_reducible first | exact HB.out | apply below_alloc | apply pw_below_drewN | apply below_drew1) | exact HB.out)⟩⟩
    · rw [if_neg c4] at H
      have c4b0 : decide (a1 < 1) = false := decide_eq_false c4
      clear c4
      (first | rw [c4b0] | (simp only [i64_w, i32_w]; rw [c4b0]) | skip)
      by_cases c5 : a1 > 4
      · rw [if_pos c5] at H
        have c5b0 : decide (4 < a1) = true := decide_eq_true c5
        clear c5
        have H' := Aside0.mk H
        clear H
        go_wp2
        go_meet
        case rel => exact ⟨_, (true), (by first | rfl | (simp; done) | (simp [*]; done)), H', ⟨by first | omega | exact Nat.le_refl _⟩, ⟨by repeat (first | (with_reducible first | exact HB.out | apply below_alloc | apply pw_below_drewN | apply below_drew1) | exact HB.out)⟩⟩
      · rw [if_neg c5] at H
        have c5b0 : decide (4 < a1) = false := decide_eq_false c5
        clear c5
        have H' := Aside0.mk H
        clear H
        go_wp2
        go_meet
        case rel => exact ⟨_, (decide ((l0.length : Int) > 12)), (by first | rfl | (simp; done) | (simp [*]; done)), H', ⟨by first | omega | exact Nat.le_refl _⟩, ⟨by repeat (first | (with_reducible first | exact HB.out | apply below_alloc | apply pw_below_drewN | apply below_drew1) | exact HB.out)⟩⟩
  case rest =>
    clear HC3
    try clear c2
    try clear p2
    try clear c4
    try clear c4b0
    try clear c5
    try clear c5b0
    obtain ⟨kq, x17_2, rfl, HA, HJ2, HB⟩ := hcut
    cases kq with
    | zero => exact absurd HA.out (by simp [impl_AreParts.j0])
    | succ kj2 =>
      have H := HA.out
      clear HA
      simp only [impl_AreParts.j0] at H
      by_cases c6 : x17_2 = true
      · subst c6
        have H1 : (some false) = some r := by rw [if_pos rfl] at H; exact H
        clear H
        have H := H1
        clear H1
        obtain rfl := Option.some.inj H
        go_wp2
        go_ret
        exact ⟨by first | rfl | (simp [errW_none, errW_some] <;> rfl) | (simp [*, errW_none, errW_some] <;> rfl), by repeat (first | (with_reducible first | exact HB.out | apply below_alloc | apply pw_below_drewN | apply below_drew1) | exact HB.out)⟩
      · replace c6 := Bool.eq_false_iff.mpr c6
        subst c6
        have H1 : (impl_AreParts.l0 kj2 l0 a1 l0 (l0.length : Int) 0) = some r := by rw [if_neg (show ¬ (false = true) by decide)] at H; exact H
        clear H
        have H := H1
        clear H1
        have H' := Aside0.mk H
        clear H
        go_wp2
        go_loopg [20] kj2 (fun kq v20 w' => ∃ (x20_2 : Int), v20 = .int .i64 x20_2 ∧ Aside0 (impl_AreParts.l0 kq l0 a1 l0 (l0.length : Int) x20_2 = some r) ∧ Aside0 (kq ≤ kj2) ∧ Aside0 (Below w.heap.size w w'))
        case atStart => exact ⟨(0), (by first | rfl | (simp; done) | (simp [*]; done)), H', ⟨Nat.le_refl _⟩, ⟨by repeat (first | (with_reducible first | exact HB.out | apply below_alloc | apply pw_below_drewN | apply below_drew1) | exact HB.out)⟩⟩
        case round =>
          clear H'
          try clear c2
          try clear p2
          try clear c4
          try clear c4b0
          try clear c5
          try clear c5b0
          try clear c6
          try clear p2
          obtain ⟨x20_2, rfl, HA, HK2, HB⟩ := hrel
          cases gk with
          | zero => exact absurd HA.out (by simp [impl_AreParts.l0])
          | succ k2 =>
            have H := HA.out
            clear HA
            simp only [impl_AreParts.l0] at H
            by_cases c7 : x20_2 < (l0.length : Int)
            · rw [if_pos c7] at H
              have c7b0 : decide (x20_2 < (l0.length : Int)) = true := decide_eq_true c7
              clear c7
              by_cases c8 : 0 ≤ x20_2
              · rw [if_pos c8] at H
                have c8b0 : decide (0 ≤ x20_2) = true := decide_eq_true c8
                clear c8
                by_cases c9 : x20_2 < (l0.length : Int)
                · rw [if_pos c9] at H
                  have c9b0 : decide (x20_2 < (l0.length : Int)) = true := decide_eq_true c9
                  clear c9
                  by_cases c10 : ((rd_T33 l0 x20_2).f0) < 0
                  · rw [if_pos c10] at H
                    have c10b0 : decide (((rd_T33 l0 x20_2).f0) < 0) = true := decide_eq_true c10
                    clear c10
                    obtain rfl := Option.some.inj H
                    have p129 : 0 ≤ (x20_2 : Int) := of_decide_eq_true (by first | (with_reducible assumption) | assumption)
                    have q129 : x20_2 < (l0.length : Int) := of_decide_eq_true (by first | (with_reducible assumption) | assumption)
                    obtain ⟨ad129, e129, hx129_0, hx129_1, hx129_2⟩ := at_T33 HR0.out x20_2 p129 q129
                    cases e129
                    replace hx129_0 := (HB.out.cell (World.block_lt_of_cell? w _ hx129_0)).trans hx129_0
                    replace hx129_1 := (HB.out.cell (World.block_lt_of_cell? w _ hx129_1)).trans hx129_1
                    replace hx129_2 := (HB.out.cell (World.block_lt_of_cell? w _ hx129_2)).trans hx129_2
                    replace p129 := eq_true p129
                    replace q129 := eq_true q129
                    go_wp2_with (first | ((with_reducible refine gate_dst (N := 6) rfl ?_); (try (refine gate_guard (by rfl) ?_; dsimp only)); refine box_event ?hg (N := 6) ?hd (cs := #[.int .i64 0, .int .i64 0, .int .i64 0]) (t := 33) ?hr ?_; (case hd => rfl); (case hg => rfl); (case hr => first | (go_simp; done) | (go_simp; rfl)); intro gb130 hg w11 hbox hb; have n0_ := Aside0.mk (below_step (by repeat (first | (with_reducible first | exact HB.out | apply below_alloc | apply pw_below_drewN | apply below_drew1) | exact HB.out)) hb); have n1_ := Aside0.mk (hbox); have n2_ := Aside0.mk ((by rw [hg]; exact (below_size (by repeat (first | (with_reducible first | exact HB.out | apply below_alloc | apply pw_below_drewN | apply below_drew1) | exact HB.out))) : w.heap.size ≤ gb130)); have n3_ := Aside0.mk ((by rw [hg]; exact (below_size (by repeat (first | (with_reducible first | exact HB.out | apply below_alloc | apply pw_below_drewN | apply below_drew1) | exact HB.out))) : w.heap.size ≤ gb130)); clear HB; have HB := n0_; have BK130 := n1_; have GW130 := n2_; have GE130 := n3_; clear n0_ n1_ n2_ n3_; clear hb hbox hg; have hcz12_0 : w11.cell? ⟨gb130, 0, none⟩ = some (.int .i64 0) := (blk_cell BK130.out 0).trans rfl; have hcz12_1 : w11.cell? ⟨gb130, 1, none⟩ = some (.int .i64 0) := (blk_cell BK130.out 1).trans rfl; have hcz12_2 : w11.cell? ⟨gb130, 2, none⟩ = some (.int .i64 0) := (blk_cell BK130.out 2).trans rfl; have hfz12_0 := blk_frozen BK130.out 0; have hfz12_1 := blk_frozen BK130.out 1; have hfz12_2 := blk_frozen BK130.out 2))
                    go_ret
                    exact ⟨by first | rfl | (simp [errW_none, errW_some] <;> rfl) | (simp [*, errW_none, errW_some] <;> rfl), by repeat (first | (with_reducible first | exact HB.out | apply below_alloc | apply pw_below_drewN | apply below_drew1 | refine below_set ?_ GE130.out) | exact HB.out)⟩
                  · rw [if_neg c10] at H
                    have c10b0 : decide (((rd_T33 l0 x20_2).f0) < 0) = false := decide_eq_false c10
                    clear c10
                    by_cases c13 : ((rd_T33 l0 x20_2).f0) ≥ a1
                    · rw [if_pos c13] at H
                      have c13b0 : decide (a1 ≤ ((rd_T33 l0 x20_2).f0)) = true := decide_eq_true c13
                      clear c13
                      obtain rfl := Option.some.inj H
                      have p129 : 0 ≤ (x20_2 : Int) := of_decide_eq_true (by first | (with_reducible assumption) | assumption)
                      have q129 : x20_2 < (l0.length : Int) := of_decide_eq_true (by first | (with_reducible assumption) | assumption)
                      obtain ⟨ad129, e129, hx129_0, hx129_1, hx129_2⟩ := at_T33 HR0.out x20_2 p129 q129
                      cases e129
                      replace hx129_0 := (HB.out.cell (World.block_lt_of_cell? w _ hx129_0)).trans hx129_0
                      replace hx129_1 := (HB.out.cell (World.block_lt_of_cell? w _ hx129_1)).trans hx129_1
                      replace hx129_2 := (HB.out.cell (World.block_lt_of_cell? w _ hx129_2)).trans hx129_2
                      replace p129 := eq_true p129
                      replace q129 := eq_true q129
                      go_wp2_with (first | ((with_reducible refine gate_dst (N := 6) rfl ?_); (try (refine gate_guard (by rfl) ?_; dsimp only)); refine box_event ?hg (N := 6) ?hd (cs := #[.int .i64 0, .int .i64 0, .int .i64 0]) (t := 33) ?hr ?_; (case hd => rfl); (case hg => rfl); (case hr => first | (go_simp; done) | (go_simp; rfl)); intro gb130 hg w14 hbox hb; have n0_ := Aside0.mk (below_step (by repeat (first | (with_reducible first | exact HB.out | apply below_alloc | apply pw_below_drewN | apply below_drew1) | exact HB.out)) hb); have n1_ := Aside0.mk (hbox); have n2_ := Aside0.mk ((by rw [hg]; exact (below_size (by repeat (first | (with_reducible first | exact HB.out | apply below_alloc | apply pw_below_drewN | apply below_drew1) | exact HB.out))) : w.heap.size ≤ gb130)); have n3_ := Aside0.mk ((by rw [hg]; exact (below_size (by repeat (first | (with_reducible first | exact HB.out | apply below_alloc | apply pw_below_drewN | apply below_drew1) | exact HB.out))) : w.heap.size ≤ gb130)); clear HB; have HB := n0_; have BK130 := n1_; have GW130 := n2_; have GE130 := n3_; clear n0_ n1_ n2_ n3_; clear hb hbox hg; have hcz15_0 : w14.cell? ⟨gb130, 0, none⟩ = some (.int .i64 0) := (blk_cell BK130.out 0).trans rfl; have hcz15_1 : w14.cell? ⟨gb130, 1, none⟩ = some (.int .i64 0) := (blk_cell BK130.out 1).trans rfl; have hcz15_2 : w14.cell? ⟨gb130, 2, none⟩ = some (.int .i64 0) := (blk_cell BK130.out 2).trans rfl; have hfz15_0 := blk_frozen BK130.out 0; have hfz15_1 := blk_frozen BK130.out 1; have hfz15_2 := blk_frozen BK130.out 2))
                      go_ret
                      exact ⟨by first | rfl | (simp [errW_none, errW_some] <;> rfl) | (simp [*, errW_none, errW_some] <;> rfl), by repeat (first | (with_reducible first | exact HB.out | apply below_alloc | apply pw_below_drewN | apply below_drew1 | refine below_set ?_ GE130.out) | exact HB.out)⟩
                    · rw [if_neg c13] at H
                      have c13b0 : decide (a1 ≤ ((rd_T33 l0 x20_2).f0)) = false := decide_eq_false c13
                      clear c13
                      by_cases c16 : ((rd_T33 l0 x20_2).f1) < 0
                      · rw [if_pos c16] at H
                        have c16b0 : decide (((rd_T33 l0 x20_2).f1) < 0) = true := decide_eq_true c16
                        clear c16
                        obtain rfl := Option.some.inj H
                        have p129 : 0 ≤ (x20_2 : Int) := of_decide_eq_true (by first | (with_reducible assumption) | assumption)
                        have q129 : x20_2 < (l0.length : Int) := of_decide_eq_true (by first | (with_reducible assumption) | assumption)
                        obtain ⟨ad129, e129, hx129_0, hx129_1, hx129_2⟩ := at_T33 HR0.out x20_2 p129 q129
                        cases e129
                        replace hx129_0 := (HB.out.cell (World.block_lt_of_cell? w _ hx129_0)).trans hx129_0
                        replace hx129_1 := (HB.out.cell (World.block_lt_of_cell? w _ hx129_1)).trans hx129_1
                        replace hx129_2 := (HB.out.cell (World.block_lt_of_cell? w _ hx129_2)).trans hx129_2
                        replace p129 := eq_true p129
                        replace q129 := eq_true q129
                        go_wp2_with (first | ((with_reducible refine gate_dst (N := 6) rfl ?_); (try (refine gate_guard (by rfl) ?_; dsimp only)); refine box_event ?hg (N := 6) ?hd (cs := #[.int .i64 0, .int .i64 0, .int .i64 0]) (t := 33) ?hr ?_; (case hd => rfl); (case hg => rfl); (case hr => first | (go_simp; done) | (go_simp; rfl)); intro gb130 hg w17 hbox hb; have n0_ := Aside0.mk (below_step (by repeat (first | (with_reducible first | exact HB.out | apply below_alloc | apply pw_below_drewN | apply below_drew1) | exact HB.out)) hb); have n1_ := Aside0.mk (hbox); have n2_ := Aside0.mk ((by rw [hg]; exact (below_size (by repeat (first | (with_reducible first | exact HB.out | apply below_alloc | apply pw_below_drewN | apply below_drew1) | exact HB.out))) : w.heap.size ≤ gb130)); have n3_ := Aside0.mk ((by rw [hg]; exact (below_size (by repeat (first | (with_reducible first | exact HB.out | apply below_alloc | apply pw_below_drewN | apply below_drew1) | exact HB.out))) : w.heap.size ≤ gb130)); clear HB; have HB := n0_; have BK130 := n1_; have GW130 := n2_; have GE130 := n3_; clear n0_ n1_ n2_ n3_; clear hb hbox hg; have hcz18_0 : w17.cell? ⟨gb130, 0, none⟩ = some (.int .i64 0) := (blk_cell BK130.out 0).trans rfl; have hcz18_1 : w17.cell? ⟨gb130, 1, none⟩ = some (.int .i64 0) := (blk_cell BK130.out 1).trans rfl; have hcz18_2 : w17.cell? ⟨gb130, 2, none⟩ = some (.int .i64 0) := (blk_cell BK130.out 2).trans rfl; have hfz18_0 := blk_frozen BK130.out 0; have hfz18_1 := blk_frozen BK130.out 1; have hfz18_2 := blk_frozen BK130.out 2))
                        go_ret
                        exact ⟨by first | rfl | (simp [errW_none, errW_some] <;> rfl) | (simp [*, errW_none, errW_some] <;> rfl), by repeat (first | (with_reducible first | exact HB.out | apply below_alloc | apply pw_below_drewN | apply below_drew1 | refine below_set ?_ GE130.out) | exact HB.out)⟩
                      · rw [if_neg c16] at H
                        have c16b0 : decide (((rd_T33 l0 x20_2).f1) < 0) = false := decide_eq_false c16
                        clear c16
                        by_cases c19 : ((rd_T33 l0 x20_2).f1) ≥ ((rd_T33 l0 x20_2).f2)
                        · rw [if_pos c19] at H
                          have c19b0 : decide (((rd_T33 l0 x20_2).f2) ≤ ((rd_T33 l0 x20_2).f1)) = true := decide_eq_true c19
                          clear c19
                          obtain rfl := Option.some.inj H
                          have p129 : 0 ≤ (x20_2 : Int) := of_decide_eq_true (by first | (with_reducible assumption) | assumption)
                          have q129 : x20_2 < (l0.length : Int) := of_decide_eq_true (by first | (with_reducible assumption) | assumption)
                          obtain ⟨ad129, e129, hx129_0, hx129_1, hx129_2⟩ := at_T33 HR0.out x20_2 p129 q129
                          cases e129
                          replace hx129_0 := (HB.out.cell (World.block_lt_of_cell? w _ hx129_0)).trans hx129_0
                          replace hx129_1 := (HB.out.cell (World.block_lt_of_cell? w _ hx129_1)).trans hx129_1
                          replace hx129_2 := (HB.out.cell (World.block_lt_of_cell? w _ hx129_2)).trans hx129_2
                          replace p129 := eq_true p129
                          replace q129 := eq_true q129
                          go_wp2_with (first | ((with_reducible refine gate_dst (N := 6) rfl ?_); (try (refine gate_guard (by rfl) ?_; dsimp only)); refine box_event ?hg (N := 6) ?hd (cs := #[.int .i64 0, .int .i64 0, .int .i64 0]) (t := 33) ?hr ?_; (case hd => rfl); (case hg => rfl); (case hr => first | (go_simp; done) | (go_simp; rfl)); intro gb130 hg w20 hbox hb; have n0_ := Aside0.mk (below_step (by repeat (first | (with_reducible first | exact HB.out | apply below_alloc | apply pw_below_drewN | apply below_drew1) | exact HB.out)) hb); have n1_ := Aside0.mk (hbox); have n2_ := Aside0.mk ((by rw [hg]; exact (below_size (by repeat (first | (with_reducible first | exact HB.out | apply below_alloc | apply pw_below_drewN | apply below_drew1) | exact HB.out))) : w.heap.size ≤ gb130)); have n3_ := Aside0.mk ((by rw [hg]; exact (below_size (by repeat (first | (with_reducible first | exact HB.out | apply below_alloc | apply pw_below_drewN | apply below_drew1) | exact HB.out))) : w.heap.size ≤ gb130)); clear HB; have HB := n0_; have BK130 := n1_; have GW130 := n2_; have GE130 := n3_; clear n0_ n1_ n2_ n3_; clear hb hbox hg; have hcz21_0 : w20.cell? ⟨gb130, 0, none⟩ = some (.int .i64 0) := (blk_cell BK130.out 0).trans rfl; have hcz21_1 : w20.cell? ⟨gb130, 1, none⟩ = some (.int .i64 0) := (blk_cell BK130.out 1).trans rfl; have hcz21_2 : w20.cell? ⟨gb130, 2, none⟩ = some (.int .i64 0) := (blk_cell BK130.out 2).trans rfl; have hfz21_0 := blk_frozen BK130.out 0; have hfz21_1 := blk_frozen BK130.out 1; have hfz21_2 := blk_frozen BK130.out 2))
                          go_ret
                          exact ⟨by first | rfl | (simp [errW_none, errW_some] <;> rfl) | (simp [*, errW_none, errW_some] <;> rfl), by repeat (first | (with_reducible first | exact HB.out | apply below_alloc | apply pw_below_drewN | apply below_drew1 | refine below_set ?_ GE130.out) | exact HB.out)⟩
                        · rw [if_neg c19] at H
                          have c19b0 : decide (((rd_T33 l0 x20_2).f2) ≤ ((rd_T33 l0 x20_2).f1)) = false := decide_eq_false c19
                          clear c19
                          by_cases c22 : ((rd_T33 l0 x20_2).f2) > 2000
                          · rw [if_pos c22] at H
                            have c22b0 : decide (2000 < ((rd_T33 l0 x20_2).f2)) = true := decide_eq_true c22
                            clear c22
                            obtain rfl := Option.some.inj H
                            have p129 : 0 ≤ (x20_2 : Int) := of_decide_eq_true (by first | (with_reducible assumption) | assumption)
                            have q129 : x20_2 < (l0.length : Int) := of_decide_eq_true (by first | (with_reducible assumption) | assumption)
                            obtain ⟨ad129, e129, hx129_0, hx129_1, hx129_2⟩ := at_T33 HR0.out x20_2 p129 q129
                            cases e129
                            replace hx129_0 := (HB.out.cell (World.block_lt_of_cell? w _ hx129_0)).trans hx129_0
                            replace hx129_1 := (HB.out.cell (World.block_lt_of_cell? w _ hx129_1)).trans hx129_1
                            replace hx129_2 := (HB.out.cell (World.block_lt_of_cell? w _ hx129_2)).trans hx129_2
                            replace p129 := eq_true p129
                            replace q129 := eq_true q129
                            go_wp2_with (first | ((with_reducible refine gate_dst (N := 6) rfl ?_); (try (refine gate_guard (by rfl) ?_; dsimp only)); refine box_event ?hg (N := 6) ?hd (cs := #[.int .i64 0, .int .i64 0, .int .i64 0]) (t := 33) ?hr ?_; (case hd => rfl); (case hg => rfl); (case hr => first | (go_simp; done) | (go_simp; rfl)); intro gb130 hg w23 hbox hb; have n0_ := Aside0.mk (below_step (by repeat (first | (with_reducible first | exact HB.out | apply below_alloc | apply pw_below_drewN | apply below_drew1) | exact HB.out)) hb); have n1_ := Aside0.mk (hbox); have n2_ := Aside0.mk ((by rw [hg]; exact (below_size (by repeat (first | (with_reducible first | exact HB.out | apply below_alloc | apply pw_below_drewN | apply below_drew1) | exact HB.out))) : w.heap.size ≤ gb130)); have n3_ := Aside0.mk ((by rw [hg]; exact (below_size (by repeat (first | (with_reducible first | exact HB.out | apply below_alloc | apply pw_below_drewN | apply below_drew1) | exact HB.out))) : w.heap.size ≤ gb130)); clear HB; have HB := n0_; have BK130 := n1_; have GW130 := n2_; have GE130 := n3_; clear n0_ n1_ n2_ n3_; clear hb hbox hg; have hcz24_0 : w23.cell? ⟨gb130, 0, none⟩ = some (.int .i64 0) := (blk_cell BK130.out 0).trans rfl; have hcz24_1 : w23.cell? ⟨gb130, 1, none⟩ = some (.int .i64 0) := (blk_cell BK130.out 1).trans rfl; have hcz24_2 : w23.cell? ⟨gb130, 2, none⟩ = some (.int .i64 0) := (blk_cell BK130.out 2).trans rfl; have hfz24_0 := blk_frozen BK130.out 0; have hfz24_1 := blk_frozen BK130.out 1; have hfz24_2 := blk_frozen BK130.out 2))
                            go_ret
                            exact ⟨by first | rfl | (simp [errW_none, errW_some] <;> rfl) | (simp [*, errW_none, errW_some] <;> rfl), by repeat (first | (with_reducible first | exact HB.out | apply below_alloc | apply pw_below_drewN | apply below_drew1 | refine below_set ?_ GE130.out) | exact HB.out)⟩
                          · rw [if_neg c22] at H
                            have c22b0 : decide (2000 < ((rd_T33 l0 x20_2).f2)) = false := decide_eq_false c22
                            clear c22
                            have H' := Aside0.mk H
                            clear H
                            have p129 : 0 ≤ (x20_2 : Int) := of_decide_eq_true (by first | (with_reducible assumption) | assumption)
                            have q129 : x20_2 < (l0.length : Int) := of_decide_eq_true (by first | (with_reducible assumption) | assumption)
                            obtain ⟨ad129, e129, hx129_0, hx129_1, hx129_2⟩ := at_T33 HR0.out x20_2 p129 q129
                            cases e129
                            replace hx129_0 := (HB.out.cell (World.block_lt_of_cell? w _ hx129_0)).trans hx129_0
                            replace hx129_1 := (HB.out.cell (World.block_lt_of_cell? w _ hx129_1)).trans hx129_1
                            replace hx129_2 := (HB.out.cell (World.block_lt_of_cell? w _ hx129_2)).trans hx129_2
                            replace p129 := eq_true p129
                            replace q129 := eq_true q129
                            go_wp2_with (first | ((with_reducible refine gate_dst (N := 6) rfl ?_); (try (refine gate_guard (by rfl) ?_; dsimp only)); refine box_event ?hg (N := 6) ?hd (cs := #[.int .i64 0, .int .i64 0, .int .i64 0]) (t := 33) ?hr ?_; (case hd => rfl); (case hg => rfl); (case hr => first | (go_simp; done) | (go_simp; rfl)); intro gb130 hg w25 hbox hb; have n0_ := Aside0.mk (below_step (by repeat (first | (with_reducible first | exact HB.out | apply below_alloc | apply pw_below_drewN | apply below_drew1) | exact HB.out)) hb); have n1_ := Aside0.mk (hbox); have n2_ := Aside0.mk ((by rw [hg]; exact (below_size (by repeat (first | (with_reducible first | exact HB.out | apply below_alloc | apply pw_below_drewN | apply below_drew1) | exact HB.out))) : w.heap.size ≤ gb130)); have n3_ := Aside0.mk ((by rw [hg]; exact (below_size (by repeat (first | (with_reducible first | exact HB.out | apply below_alloc | apply pw_below_drewN | apply below_drew1) | exact HB.out))) : w.heap.size ≤ gb130)); clear HB; have HB := n0_; have BK130 := n1_; have GW130 := n2_; have GE130 := n3_; clear n0_ n1_ n2_ n3_; clear hb hbox hg; have hcz26_0 : w25.cell? ⟨gb130, 0, none⟩ = some (.int .i64 0) := (blk_cell BK130.out 0).trans rfl; have hcz26_1 : w25.cell? ⟨gb130, 1, none⟩ = some (.int .i64 0) := (blk_cell BK130.out 1).trans rfl; have hcz26_2 : w25.cell? ⟨gb130, 2, none⟩ = some (.int .i64 0) := (blk_cell BK130.out 2).trans rfl; have hfz26_0 := blk_frozen BK130.out 0; have hfz26_1 := blk_frozen BK130.out 1; have hfz26_2 := blk_frozen BK130.out 2))
                            go_roundg k2
                            case measure => have := HJ2.out; have := HK2.out; omega
                            case rel => exact ⟨(wrap64 (x20_2 + 1)), (by first | rfl | (simp; done) | (simp [*]; done)), H', ⟨by have := HJ2.out; have := HK2.out; omega⟩, ⟨by repeat (first | (with_reducible first | exact HB.out | apply below_alloc | apply pw_below_drewN | apply below_drew1 | refine below_set ?_ GE130.out) | exact HB.out)⟩⟩
                · rw [if_neg c9] at H
                  exact absurd H (by simp)
              · rw [if_neg c8] at H
                exact absurd H (by simp)
            · rw [if_neg c7] at H
              have c7b0 : decide (x20_2 < (l0.length : Int)) = false := decide_eq_false c7
              clear c7
              replace H := Option.bind_eq_some_iff.mp H
              obtain ⟨t131, A270, H⟩ := H
              replace H : (some (decide (t131 ≤ 2000))) = some r := H
              have A27 := Aside0.mk A270
              clear A270
              obtain rfl := Option.some.inj H
              go_wp2_with (first | ((with_reducible refine gate_callee (f := 16) rfl ?_); refine goesL_ (some 52) rfl rfl Try.func16 (by kernel_rfl) rfl #[.slice A0 l0.length c0] rfl (by (try simp only [List.map_toArray, List.map_cons, List.map_nil]); first | done | rfl | (simp only [List.length_drop, List.length_take]; rfl)) ?_; (with_reducible refine (impl_editionLength.calls k2 _ _ l0 t131 _ ?side1 ?side2 A27.out).mono ?_); (case side1 => repeat (first | exact (Kd.C_below HR0.out HB.out) | (with_reducible refine Kd.C_alloc ?_ _) | (with_reducible refine Kd.C_drewN ?_ _) | (with_reducible refine Kd.C_drew ?_))); (case side2 => exact HC0.out); rintro e w28 ⟨rfl, hb⟩; refine ⟨_, rfl, ?_⟩; have n0_ := Aside0.mk (below_step (by repeat (first | (with_reducible first | exact HB.out | apply below_alloc | apply pw_below_drewN | apply below_drew1) | exact HB.out)) hb); clear HB; have HB := n0_; clear n0_; (try clear hb); (try clear hb2); (try clear hk); (try clear hi)))
              go_ret
              exact ⟨by first | rfl | (simp [errW_none, errW_some] <;> rfl) | (simp [*, errW_none, errW_some] <;> rfl), by repeat (first | (with_reducible first | exact HB.out | apply below_alloc | apply pw_below_drewN | apply below_drew1) | exact HB.out)⟩

/-! ### impl_isEdition: function 12 -/
def impl_isEdition.f (k : Nat) (l0 : List (S33)) : Option (Bool) := (impl_AreParts.f k l0 4).bind fun t132 => (some t132)
theorem impl_isEdition.mono : ∀ a0 k, LeO (impl_isEdition.f k a0) (impl_isEdition.f (k + 1) a0) := by
  intro a0 k
  unfold impl_isEdition.f
  repeat' first
      | (with_reducible exact impl_AreParts.mono _ _ _)
      | (with_reducible exact LeO.refl _)
      | (with_reducible exact LeO.none _)
      | (with_reducible refine LeO.ite ?_ ?_)
      | (with_reducible refine LeO.bind ?_ (fun _ => ?_))
      | exact impl_AreParts.mono _ _ _
      | exact LeO.none _
      | refine LeO.ite ?_ ?_
      | refine LeO.bind ?_ (fun _ => ?_)
set_option maxHeartbeats 8000000 in
set_option maxRecDepth 100000 in
theorem impl_isEdition.calls (k : Nat) (A0 : Option Addr) (c0 : Nat) (l0 : List (S33)) (r : Bool) (w : World) (hr0 : Kd.C k33 w A0 l0.length l0) (hc0 : l0.length ≤ c0) (h : impl_isEdition.f k l0 = some r) :
    Calls Try.prog 12 #[.slice A0 l0.length c0] w fun e w' => e = .returned (.bool r) ∧ Below w.heap.size w w' := by
  have HR0 := Aside0.mk hr0
  have HC0 := Aside0.mk hc0
  clear hr0 hc0
  have HB := Aside0.mk (Below.refl w.heap.size w)
  have H : ((impl_AreParts.f k l0 4).bind fun t132 => (some t132)) = some r := h
  clear h
  replace H := Option.bind_eq_some_iff.mp H
  obtain ⟨t132, A20, H⟩ := H
  replace H : (some t132) = some r := H
  have A2 := Aside0.mk A20
  clear A20
  obtain rfl := Option.some.inj H
  go_enter Try.func12, Try.ntmps12
  go_wp2_with (first | ((with_reducible refine gate_callee (f := 20) rfl ?_); refine goesL_ (some 4) rfl rfl Try.func20 (by kernel_rfl) rfl #[.slice A0 l0.length c0, .int .i64 4] rfl (by (try simp only [List.map_toArray, List.map_cons, List.map_nil]); first | done | rfl | (simp only [List.length_drop, List.length_take]; rfl)) ?_; (with_reducible refine (impl_AreParts.calls k _ _ l0 4 t132 _ ?side1 ?side2 A2.out).mono ?_); (case side1 => repeat (first | exact HR0.out | (with_reducible refine Kd.C_alloc ?_ _) | (with_reducible refine Kd.C_drewN ?_ _) | (with_reducible refine Kd.C_drew ?_))); (case side2 => exact HC0.out); rintro e w3 ⟨rfl, hb⟩; refine ⟨_, rfl, ?_⟩; have n0_ := Aside0.mk (below_step (by repeat (first | (with_reducible first | exact HB.out | apply below_alloc | apply pw_below_drewN | apply below_drew1) | exact HB.out)) hb); clear HB; have HB := n0_; clear n0_; (try clear hb); (try clear hb2); (try clear hk); (try clear hi)))
  go_ret
  exact ⟨by first | rfl | (simp [errW_none, errW_some] <;> rfl) | (simp [*, errW_none, errW_some] <;> rfl), by repeat (first | (with_reducible first | exact HB.out | apply below_alloc | apply pw_below_drewN | apply below_drew1) | exact HB.out)⟩

-- NOT PRINTED: function 21 (impl_Part_21)

-- NOT PRINTED: function 13 (impl_Part_13)

/-! ### impl_Part_14: function 14 -/
def impl_Part_14.f (l0 : List (S33)) : Option (List (S33)) := if l0.length < 5864062014806 then some l0 else none
set_option maxHeartbeats 8000000 in
set_option maxRecDepth 100000 in
theorem impl_Part_14.calls (A0 : Option Addr) (c0 : Nat) (l0 : List (S33)) (r : List (S33)) (w : World) (hr0 : Kd.C k33 w A0 l0.length l0) (hc0 : l0.length ≤ c0) (h : impl_Part_14.f l0 = some r) :
    Calls Try.prog 14 #[.slice A0 l0.length c0] w fun e w' => ∃ v0_ : Value, e = .returned (v0_) ∧ Kd.R k33 33 w' w.heap.size (fun _ => True) v0_ r ∧ Below w.heap.size w w' := by
  have hlt : l0.length < 5864062014806 := by
    by_cases c : l0.length < 5864062014806
    · exact c
    · rw [impl_Part_14.f, if_neg c] at h; cases h
  rw [impl_Part_14.f, if_pos hlt] at h
  obtain rfl := Option.some.inj h
  clear h
  have HL := Aside0.mk hlt
  have HR0 := Aside0.mk hr0
  have HB := Aside0.mk (Below.refl w.heap.size w)
  have hq : ∀ (w : World) (a : Option Addr) (l c : Nat), (binOp .eql 26 (.slice a l c) (.slice none 0 0)).run Try.prog w = .ok (.bool a.isNone) w := fun w a l c => Go.Lib.run_eql_slice_nil w _ _ a l c _ _ Try.underlying26
  rcases A0 with _ | ad
  · have h0 : l0 = [] := by
      rcases Nat.eq_zero_or_pos l0.length with h0 | h0
      · exact List.eq_nil_of_length_eq_zero h0
      · obtain ⟨ad, h, _⟩ := hr0.2.2 h0
        cases h
    subst h0
    clear hr0 hlt hc0
    go_enter Try.func14, Try.ntmps14
    go_wp2
    go_ret
    exact ⟨_, rfl, Kd.R_nil _ _ _ _ _, HB.out⟩
  · clear hr0 hlt hc0
    go_enter Try.func14, Try.ntmps14
    go_wp2_with (first | ((with_reducible refine gate_dst (N := 5) rfl ?_); refine Kd.R_lit k33 _ 33 ?hg (N := 5) ?hd (xs := ([] : List (S33))) (inner := []) (ok := fun _ => True) (okp := fun _ => True) ?hr ?hp (fun _ hk => hk) trivial (Below.refl _ _) (Nat.le_refl _) (by simp) ?_; (case hd => rfl); (case hg => rfl); (case hr => first | (go_simp; done) | (go_simp; rfl)); (case hp => exact (Reps.none _ _)); intro v115 w15 ho16 hb hg_ hnew_; clear hg_ hnew_; have n0_ := Aside0.mk (Kd.R_lower ho16 (below_size HB.out)); have n1_ := Aside0.mk (below_step HB.out hb); clear HB; have HO116 := n0_; have HB := n1_; clear n0_ n1_; clear hb ho16) | ((with_reducible refine gate_builtin (b := .append) (xs := #[.tmp 5, .tmp 6]) rfl ?_); at_builtin; refine Kd.R_append_rows k33 (w0 := w) w.heap.size rfl (.tmp 5) (.tmp 6) 26 33 (.agg #[(.int .i64 0), (.int .i64 0), (.int .i64 0)]) 24 rfl Try.underlying26 info33 rfl (by decide) (by omega) v115 [] l0 _ _ _ (fun _ => True) (fun _ => False) rfl rfl ?aO ?aR (fun _ _ h => h) (fun _ h => h.elim) ?aF ?aB ?aS ?aL ?_; (case aR => exact (Kd.C_below HR0.out HB.out)); (case aB => exact HB.out); (case aF => exact (fun _ _ => trivial)); (case aO => exact HO116.out); (case aS => exact (below_size HB.out)); (case aL => have := HL.out; simp only [List.length_nil]; omega); intro v118 w17 ho hb hg hat; have n0_ := Aside0.mk (hb); have n1_ := Aside0.mk (ho); clear HB; clear HO116; have HB := n0_; have HO119 := n1_; clear n0_ n1_; clear ho hb hg hat))
    go_ret
    exact ⟨_, rfl, HO119.out, HB.out⟩

/-! ### impl.StepsFrom with its closure, slices.IndexFunc and slices.DeleteFunc at parts -/
namespace stepsfrom
def keeps (s : Int) (x : S33) : Bool := decide (x.f0 = s)
set_option maxHeartbeats 8000000 in
set_option maxRecDepth 100000 in
theorem own1.calls (f0 f1 f2 s : Int) (cb : Nat) (w : World) (hc : w.cell? ⟨cb, 0, none⟩ = some (.int .i64 s)) :
    Calls Try.prog 15 #[.agg #[.int .i64 f0, .int .i64 f1, .int .i64 f2], .pointer (some ⟨cb, 0, none⟩)] w fun e w' => e = .returned (.bool (!decide (f0 = s))) ∧ Below w.heap.size w w' := by
  have hu := Try.underlying33
  have HB := Aside0.mk (Below.refl w.heap.size w)
  have HC := Aside0.mk hc
  clear hc
  go_enter Try.func15, Try.ntmps15
  go_wp2_with (first | ((with_reducible refine gate_dst (N := 2) rfl ?_); refine box_event ?hg (N := 2) ?hd (cs := #[.int .i64 f0, .int .i64 f1, .int .i64 f2]) (t := 33) ?hr ?_; (case hd => rfl); (case hg => rfl); (case hr => first | (go_simp; done) | (go_simp; rfl)); intro gx hgx w2 hbox hb; have hq_ := pw_cell_below hb HC.out; have n1_ := Aside0.mk (below_step HB.out hb); have hcx : w2.cell? ⟨gx, 0, none⟩ = some (.int .i64 f0) := (blk_cell hbox 0).trans rfl; clear HB HC hb hbox hgx; have HB := n1_; clear n1_))
  go_ret
  exact ⟨by first | rfl | simp, by repeat (first | exact HB.out | apply below_alloc | apply pw_below_drewN | apply below_drew1)⟩
/-- What slices.IndexFunc answers: the place of the first part of another source. -/
def Found (s : Int) (l : List S33) (r : Int) : Prop := (r = -1 ∧ ∀ x ∈ l, x.f0 = s) ∨ ∃ i : Nat, r = i ∧ i < l.length ∧ (∀ x ∈ l.take i, x.f0 = s) ∧ (rd_T33 l i).f0 ≠ s
theorem rd_mem {l : List S33} {i : Int} (h0 : 0 ≤ i) (h : i.toNat < l.length) : l[i.toNat]? = some (rd_T33 l i) := by
  show _ = some (l.getD i.toNat _)
  rw [List.getD_eq_getElem?_getD, List.getElem?_eq_getElem h]
  rfl
set_option maxHeartbeats 8000000 in
set_option maxRecDepth 100000 in
theorem index.calls (s : Int) (cb : Nat) (A0 : Option Addr) (c0 : Nat) (l0 : List S33) (w : World) (hr0 : Kd.C k33 w A0 l0.length l0) (hc : w.cell? ⟨cb, 0, none⟩ = some (.int .i64 s)) :
    Calls Try.prog 21 #[.slice A0 l0.length c0, .func (.func 15) #[] #[.pointer (some ⟨cb, 0, none⟩)]] w fun e w' => ∃ r : Int, e = .returned (.int .i64 r) ∧ Found s l0 r ∧ Below w.heap.size w w' := by
  have hu := Try.underlying33
  have HR0 := Aside0.mk hr0
  have HC := Aside0.mk hc
  have HL := Aside0.mk hr0.2.1
  have HB := Aside0.mk (Below.refl w.heap.size w)
  clear hr0 hc
  go_enter Try.func21, Try.ntmps21
  go_wp2
  go_loopw [8] (fun v wr => ∃ i : Int, Aside0 (0 ≤ i ∧ i ≤ l0.length) ∧ v = .int .i64 i ∧ Aside0 (∀ x ∈ l0.take i.toNat, x.f0 = s) ∧ Aside0 (Below w.heap.size w wr)) (fun v _ => ((l0.length : Int) - intOf v).toNat)
  case atStart => exact ⟨0, ⟨by omega⟩, rfl, ⟨fun x hx => absurd hx (by simp)⟩, HB⟩
  case round =>
    clear HB
    obtain ⟨i, hi, rfl, HT, HB⟩ := hrel
    by_cases q : i < (l0.length : Int)
    · have p : 0 ≤ i := hi.out.1
      have hlt : i.toNat < l0.length := by omega
      obtain ⟨ad, e, hx0, hx1, hx2⟩ := at_T33 HR0.out i p q
      cases e
      replace hx0 := (HB.out.cell (World.block_lt_of_cell? w _ hx0)).trans hx0
      replace hx1 := (HB.out.cell (World.block_lt_of_cell? w _ hx1)).trans hx1
      replace hx2 := (HB.out.cell (World.block_lt_of_cell? w _ hx2)).trans hx2
      have HX := Aside0.mk (rd_mem p hlt)
      obtain ⟨x, hx⟩ : ∃ x, x = rd_T33 l0 i := ⟨_, rfl⟩
      rw [← hx] at hx0 hx1 hx2 HX
      have HXE := Aside0.mk hx
      clear hx
      have HLT := Aside0.mk (show 0 ≤ i ∧ i < l0.length from ⟨p, q⟩)
      clear hlt
      have HCC := Aside0.mk ((HB.out.cell (World.block_lt_of_cell? w _ HC.out)).trans HC.out)
      have qb : decide (i < (l0.length : Int)) = true := decide_eq_true q
      replace p := eq_true p
      replace q := eq_true q
      by_cases e : x.f0 = s
      · have he : (!decide (x.f0 = s)) = false := by rw [decide_eq_true e]; rfl
        have HE := Aside0.mk he
        have HEE := Aside0.mk e
        clear he e
        go_wp2_with (first | (go_at_call 15; refine (own1.calls x.f0 x.f1 x.f2 s cb _ HCC.out).mono ?_; rintro e w_ ⟨rfl, hb⟩; rw [HE.out]; have n1_ := Aside0.mk (below_step HB.out hb); clear HB HCC hb; have HB := n1_; clear n1_))
        go_roundw
        case rel => exact ⟨i + 1, ⟨by have := HLT.out; omega⟩, (by first | rfl | (congr 1; have := HLT.out; have := HL.out; unfold wrap64; omega)), ⟨fun y hy => by
          have h0 := HLT.out.1
          rw [show (i + 1).toNat = i.toNat + 1 by omega, List.take_add_one, HX.out] at hy
          rcases List.mem_append.1 hy with h1 | h1
          · exact HT.out y h1
          · have : y = x := by simpa using h1
            rw [this]; exact HEE.out⟩, ⟨by repeat (first | exact HB.out | apply below_alloc | apply pw_below_drewN | apply below_drew1)⟩⟩
        case measure => have h1 := HLT.out; have h2 := HL.out; have hw : wrap64 (i + 1) = i + 1 := (by unfold wrap64; omega); simp [intOf, hw]; omega
      · have he : (!decide (x.f0 = s)) = true := by rw [decide_eq_false e]; rfl
        have HE := Aside0.mk he
        have HEE := Aside0.mk e
        clear he e
        go_wp2_with (first | (go_at_call 15; refine (own1.calls x.f0 x.f1 x.f2 s cb _ HCC.out).mono ?_; rintro e w_ ⟨rfl, hb⟩; rw [HE.out]; have n1_ := Aside0.mk (below_step HB.out hb); clear HB HCC hb; have HB := n1_; clear n1_))
        go_ret
        exact ⟨i, rfl, .inr ⟨i.toNat, by have := HLT.out; omega, by have := HLT.out; omega, HT.out, by have h := HLT.out; rw [show ((i.toNat : Nat) : Int) = i by omega, ← HXE.out]; exact HEE.out⟩, by repeat (first | exact HB.out | apply below_alloc | apply pw_below_drewN | apply below_drew1)⟩
    · have qb : decide (i < (l0.length : Int)) = false := decide_eq_false q
      have HQ := Aside0.mk q
      clear q
      go_wp2
      go_ret
      exact ⟨-1, rfl, .inl ⟨rfl, by
        have h1 := hi.out
        have h2 := HQ.out
        have h3 := HT.out
        rwa [List.take_of_length_le (by omega)] at h3⟩, by repeat (first | exact HB.out | apply below_alloc | apply pw_below_drewN | apply below_drew1)⟩
end stepsfrom
/-! #### slices.DeleteFunc -/
namespace stepsfrom
theorem cell_move {w w1 : World} {p : Addr} (h : w1.heap[p.block]? = w.heap[p.block]?) : w1.cell? p = w.cell? p := by
  simp only [World.cell?, h]
theorem filter_step {l : List S33} {s : Int} {i j : Int} {dk : List S33} {x : S33} (h : dk.take i.toNat = (l.take j.toNat).filter (keeps s)) (h0 : 0 ≤ i) (hij : i < j) (hj : j < l.length) (hlen : dk.length = l.length) (hx : l[j.toNat]? = some x) :
    (keeps s x = true → (dk.set i.toNat x).take (i + 1).toNat = (l.take (j + 1).toNat).filter (keeps s)) ∧ (keeps s x = false → dk.take i.toNat = (l.take (j + 1).toNat).filter (keeps s)) := by
  have e1 : (i + 1).toNat = i.toNat + 1 := by omega
  have e2 : (j + 1).toNat = j.toNat + 1 := by omega
  have e3 : l.take (j.toNat + 1) = l.take j.toNat ++ [x] := by rw [List.take_add_one, hx]; rfl
  have hi : i.toNat < (dk.set i.toNat x).length := by rw [List.length_set]; omega
  constructor
  · intro hk
    rw [e1, e2, e3, List.filter_append, ← h, List.take_succ_eq_append_getElem hi, List.getElem_set_self, List.take_set_of_le (Nat.le_refl _)]
    congr 1
    simp [hk]
  · intro hk
    rw [e2, e3, List.filter_append, ← h]
    simp [hk]
/-- What is read up to a place is not touched by what is stored behind it. -/
theorem C_before {w : World} {g n cap m o : Nat} {dk : List S33} {vs : List Value} {base : Nat} {ok : Nat → Prop} (h : Kd.R k33 33 w base ok (.slice (some ⟨g, 0, none⟩) n cap) dk) (hm : m ≤ dk.length) (ho : m * 3 ≤ o) :
    Kd.C k33 (w.setCells g o vs) (some ⟨g, 0, none⟩) (dk.take m).length (dk.take m) := by
  have hC := Kd.C_take (Kd.R_reads' h).2.2 hm
  refine ⟨hC.1, hC.2.1, fun hp => ?_⟩
  obtain ⟨ad, e, hc⟩ := hC.2.2 hp
  cases e
  refine ⟨_, rfl, fun j p hj => ?_⟩
  obtain ⟨c, hl, hK, hcell⟩ := hc j p hj
  have hjm : j < m := by
    have h1 := (List.getElem?_eq_some_iff.1 hj).1
    rw [List.length_take] at h1
    omega
  refine ⟨c, hl, ?_, fun i u hu => ?_⟩
  · obtain rfl := k33_open hK
    exact k33_mk _ _
  · have hi : i < c.length := (List.getElem?_eq_some_iff.1 hu).1
    have hl3 : c.length = 3 := hl
    rw [← hcell i u hu]
    refine World.cell?_setCells_out g vs o w _ (fun _ _ => ?_)
    have h1 := hcell i u hu
    have e1 : ((⟨g, 0, none⟩ : Addr).add (j * (k33).sz + i)) = ⟨g, j * 3 + i, none⟩ := by
      rw [add_plain]; rfl
    rw [e1]
    left
    show j * 3 + i < o
    omega
theorem clear_run {w : World} {g o m c : Nat} {ty : TypeId} (hm : 0 < m) (hc : ∀ j, j < m * 3 → (w.cell? ⟨g, o + j, none⟩).isSome = true) (hf : ∀ j, j < m * 3 → w.frozen? ⟨g, o + j, none⟩ = false) :
    ∃ vs, (Builtin.clear_ #[26] ty #[.slice (some ⟨g, o, none⟩) m c]).run Try.prog w = .ok (.tuple #[]) (w.setCells g o vs) := by
  refine ⟨(Builtin.zeroCells (Value.cells (.agg #[(.int .i64 0), (.int .i64 0), (.int .i64 0)])) m).toList, ?_⟩
  have hv : ∀ w, (zeroValue 33).run Try.prog w = .ok (.agg #[(.int .i64 0), (.int .i64 0), (.int .i64 0)]) w := fun w => rfl
  have hlen : (Builtin.zeroCells (Value.cells (.agg #[(.int .i64 0), (.int .i64 0), (.int .i64 0)])) m).toList.length = m * 3 := by
    simp [Builtin.zeroCells, Value.cells]
  have hone : ∀ v ∈ (Builtin.zeroCells (Value.cells (.agg #[(.int .i64 0), (.int .i64 0), (.int .i64 0)])) m).toList, v.oneCell' = true := by
    intro v hv'
    simp only [Builtin.zeroCells, Array.toList_map, List.mem_map, Array.mem_toList_iff] at hv'
    obtain ⟨i, _, rfl⟩ := hv'
    have e : (Value.cells (.agg #[(.int .i64 0), (.int .i64 0), (.int .i64 0)])) = #[(.int .i64 0), (.int .i64 0), (.int .i64 0)] := rfl
    rw [e]
    have h3 : i % 3 < 3 := Nat.mod_lt _ (by omega)
    show (#[(Value.int .i64 0), (.int .i64 0), (.int .i64 0)][i % 3]!).oneCell' = true
    generalize i % 3 = q at h3
    match q, h3 with
    | 0, _ => rfl
    | 1, _ => rfl
    | 2, _ => rfl
  have hst := run_storeCells_cells (P := Try.prog) g o (Builtin.zeroCells (Value.cells (.agg #[(.int .i64 0), (.int .i64 0), (.int .i64 0)])) m).toList 0 w (by rw [hlen]; simpa using hc) (by rw [hlen]; simpa using hf) hone
  simp only [Nat.add_zero] at hst
  obtain ⟨m', rfl⟩ : ∃ m', m = m' + 1 := ⟨m - 1, by omega⟩
  simp [Builtin.clear_, run_underlying Try.underlying26, hv, hst]
end stepsfrom
namespace stepsfrom
/-- The row as it stands before round j: what is kept of the first j parts lies in front; from j on all is as it was. -/
structure Inv (s : Int) (l : List S33) (i j : Int) (dk : List S33) : Prop where
  i0 : 0 ≤ i
  lt : i < j
  le : j ≤ l.length
  len : dk.length = l.length
  front : dk.take i.toNat = (l.take j.toNat).filter (keeps s)
  rest : ∀ t, j.toNat ≤ t → dk[t]? = l[t]?
theorem Inv.keep {s : Int} {l : List S33} {i j : Int} {dk : List S33} (h : Inv s l i j dk) {x : S33} (hj : j < l.length) (hx : l[j.toNat]? = some x) (hk : x.f0 = s) : Inv s l (i + 1) (j + 1) (dk.set i.toNat x) := by
  have h0 := h.i0
  have h1 := h.lt
  refine ⟨by omega, by omega, by omega, by rw [List.length_set]; exact h.len, (filter_step h.front h0 h1 hj h.len hx).1 (decide_eq_true hk), fun t ht => ?_⟩
  rw [List.getElem?_set_ne (by omega)]
  exact h.rest t (by omega)
theorem Inv.drop {s : Int} {l : List S33} {i j : Int} {dk : List S33} (h : Inv s l i j dk) {x : S33} (hj : j < l.length) (hx : l[j.toNat]? = some x) (hk : ¬ x.f0 = s) : Inv s l i (j + 1) dk := by
  have h0 := h.i0
  have h1 := h.lt
  exact ⟨h0, by omega, by omega, h.len, (filter_step h.front h0 h1 hj h.len hx).2 (decide_eq_false hk), fun t ht => h.rest t (by omega)⟩
theorem Inv.start {s : Int} {l : List S33} {i : Nat} (h : i < l.length) (hb : ∀ x ∈ l.take i, x.f0 = s) (hn : (rd_T33 l i).f0 ≠ s) : Inv s l (i : Int) ((i : Int) + 1) l := by
  refine ⟨by omega, by omega, by omega, rfl, ?_, fun _ _ => rfl⟩
  have hx := rd_mem (l := l) (i := (i : Int)) (by omega) (by omega)
  rw [show ((i : Int) + 1).toNat = i + 1 by omega, List.take_add_one]
  simp only [Int.toNat_natCast] at hx
  rw [hx, List.filter_append, List.filter_eq_self.2 (show ∀ x ∈ l.take i, keeps s x = true from fun x hx => decide_eq_true (hb x hx))]
  have : keeps s (rd_T33 l i) = false := decide_eq_false hn
  simp [this]
theorem Inv.done {s : Int} {l : List S33} {i j : Int} {dk : List S33} (h : Inv s l i j dk) (hj : ¬ j < l.length) : dk.take i.toNat = l.filter (keeps s) := by
  have h1 := h.le
  have h2 := h.front
  rwa [List.take_of_length_le (l := l) (by omega)] at h2
theorem below_cells {g : Nat} {a : World} (hg : a.heap.size ≤ g) : ∀ (vs : List Value) (o : Nat) (w : World), Below a.heap.size a w → Below a.heap.size a (w.setCells g o vs)
  | [], _, _, h => h
  | v :: vs, o, w, h => below_cells hg vs (o + 1) (w.setCell ⟨g, o, none⟩ v) (below_set h hg)
theorem frozen_all {w : World} {base g n cap : Nat} {ok : Nat → Prop} {dk : List S33} (h : Kd.R k33 33 w base ok (.slice (some ⟨g, 0, none⟩) n cap) dk) (o : Nat) (hg : g < w.heap.size) : w.frozen? ⟨g, o, none⟩ = false := by
  obtain ⟨cells, hc⟩ := Kd.R_typed h g rfl
  exact blk_frozen hc o
theorem cells_in {w : World} {base g n cap : Nat} {ok : Nat → Prop} {dk : List S33} (h : Kd.R k33 33 w base ok (.slice (some ⟨g, 0, none⟩) n cap) dk) (o : Nat) (ho : o < n * 3) : (w.cell? ⟨g, o, none⟩).isSome = true := by
  obtain ⟨c, hl, hM, hcc, _⟩ := Kd.R_elem h z33 ((o / 3 : Nat) : Int) (by omega) (by omega)
  have hl3 : c.length = 3 := hl
  have h1 : o % 3 < c.length := by omega
  have := hcc (o % 3) c[o % 3] (List.getElem?_eq_getElem h1)
  have e : ((((o / 3 : Nat) : Int)).toNat * (k33).sz + o % 3) = o := by
    show ((((o / 3 : Nat) : Int)).toNat * 3 + o % 3) = o
    omega
  rw [e] at this
  rw [this]
  rfl
end stepsfrom
/-! #### the walk of slices.DeleteFunc -/
namespace stepsfrom
theorem found_all {s : Int} {l : List S33} {r : Int} (h : ∀ x ∈ l, x.f0 = s) (hf : Found s l r) : r = -1 := by
  rcases hf with ⟨e, _⟩ | ⟨i, _, hi, _, hn⟩
  · exact e
  · refine absurd (h _ ?_) hn
    have := rd_mem (l := l) (i := (i : Int)) (by omega) (by omega)
    exact List.mem_of_getElem? this
theorem found_not {s : Int} {l : List S33} {r : Int} (h : ¬ ∀ x ∈ l, x.f0 = s) (hf : Found s l r) : ∃ i : Nat, r = i ∧ i < l.length ∧ Inv s l (i : Int) ((i : Int) + 1) l := by
  rcases hf with ⟨_, ha⟩ | ⟨i, e, hi, hb, hn⟩
  · exact absurd ha h
  · exact ⟨i, e, hi, Inv.start hi hb hn⟩
set_option maxHeartbeats 8000000 in
set_option maxRecDepth 100000 in
theorem delete.calls (s : Int) (cb : Nat) (v : Value) (l : List S33) (w0 w : World) (HO : Kd.R k33 33 w w0.heap.size (fun _ => True) v l) (hc : w.cell? ⟨cb, 0, none⟩ = some (.int .i64 s)) (hne : ∀ k, v.ownBlock = some k → k ≠ cb) (hB : Below w0.heap.size w0 w) :
    Calls Try.prog 13 #[v, .func (.func 15) #[] #[.pointer (some ⟨cb, 0, none⟩)]] w fun e w' => ∃ A c, e = .returned (.slice A (l.filter (keeps s)).length c) ∧ (l.filter (keeps s)).length ≤ c ∧ Kd.C k33 w' A (l.filter (keeps s)).length (l.filter (keeps s)) ∧ Below w0.heap.size w0 w' := by
  have hu := Try.underlying33
  obtain ⟨A0, c0, rfl⟩ := Kd.R_slice HO
  obtain ⟨_, hlc, hC⟩ := Kd.R_reads' HO
  have HLC := Aside0.mk hlc
  have HMX := Aside0.mk hC.2.1
  have HII := Aside0.mk (index.calls s cb A0 c0 l w hC hc)
  have HR := Aside0.mk HO
  have HC := Aside0.mk hc
  have HN := Aside0.mk hne
  have HB := Aside0.mk hB
  clear hC hlc HO hc hne hB
  by_cases hall : ∀ x ∈ l, x.f0 = s
  · have HALL := Aside0.mk hall
    have HFI := Aside0.mk (show l.filter (keeps s) = l from List.filter_eq_self.2 (fun x hx => decide_eq_true (hall x hx)))
    clear hall
    go_enter Try.func13, Try.ntmps13
    go_wp2_with (first | (go_at_call 21; refine HII.out.mono ?_; rintro e w1 ⟨r, rfl, hf, hb⟩; obtain rfl := found_all HALL.out hf; have n0_ := Aside0.mk (Kd.R_below HR.out hb); have n1_ := Aside0.mk (below_step HB.out hb); clear HII HR HB HC hb hf; have HR := n0_; have HB := n1_; clear n0_ n1_))
    go_ret
    rw [HFI.out]
    exact ⟨A0, c0, rfl, HLC.out, (Kd.R_reads' HR.out).2.2, HB.out⟩
  · have HALL := Aside0.mk hall
    clear hall
    go_enter Try.func13, Try.ntmps13
    go_wp2_with (first | (go_at_call 21; refine HII.out.mono ?_; rintro e w1 ⟨r, rfl, hf, hb⟩; obtain ⟨i0, rfl, hi0, hinv⟩ := found_not HALL.out hf; have HI0 := Aside0.mk hi0; have HV0 := Aside0.mk hinv; have hm1 : ((i0 : Int) == -1) = false := beq_eq_false_iff_ne.2 (by omega); have n0_ := Aside0.mk (Kd.R_below HR.out hb); have n1_ := Aside0.mk (below_step HB.out hb); have n2_ := Aside0.mk (pw_cell_below hb HC.out); clear HII HR HB HC hb hf hi0 hinv; have HR := n0_; have HB := n1_; have HC := n2_; clear n0_ n1_ n2_))
    obtain ⟨g, cap, eo, gb, gl, cl⟩ := Kd.R_form HR.out (by have := HI0.out; omega)
    cases eo
    have HGB := Aside0.mk gb
    clear gb gl cl
    go_loopw [5, 6] (fun v5 v6 wr => ∃ (i j : Int) (dk : List S33), Aside0 (Inv s l i j dk) ∧ v5 = .int .i64 i ∧ v6 = .int .i64 j ∧ Aside0 (Kd.R k33 33 wr w0.heap.size (fun _ => True) (.slice (some ⟨g, 0, none⟩) l.length c0) dk) ∧ Aside0 (wr.cell? ⟨cb, 0, none⟩ = some (.int .i64 s)) ∧ Aside0 (Below w0.heap.size w0 wr)) (fun _ v6 _ => ((l.length : Int) - intOf v6).toNat)
    case atStart => exact ⟨(i0 : Int), (i0 : Int) + 1, l, HV0, rfl, (by congr 1; have := HI0.out; have := HMX.out; unfold wrap64; omega), HR, HC, HB⟩
    case round =>
      clear HR HC HB hm1 HV0
      obtain ⟨i, j, dk, HV, rfl, rfl, HR, HC, HB⟩ := hrel
      by_cases q : j < (l.length : Int)
      · have p : 0 ≤ j := by have := HV.out.i0; have := HV.out.lt; omega
        have HJ := Aside0.mk (show 0 ≤ j ∧ j < l.length from ⟨p, q⟩)
        have hjl := HV.out.rest j.toNat (Nat.le_refl _)
        have HX := Aside0.mk (show l[j.toNat]? = some (rd_T33 dk j) from by rw [← hjl]; exact rd_mem p (by rw [HV.out.len]; omega))
        clear hjl
        obtain ⟨ce, hcl, hM, hcc, hfr⟩ := Kd.R_elem HR.out z33 j p q
        obtain rfl := k33_openM hM
        have hx0 : wr.cell? ⟨g, j.toNat * 3, none⟩ = some (.int .i64 (rd_T33 dk j).f0) := hcc 0 _ rfl
        have hx1 : wr.cell? ⟨g, j.toNat * 3 + 1, none⟩ = some (.int .i64 (rd_T33 dk j).f1) := hcc 1 _ rfl
        have hx2 : wr.cell? ⟨g, j.toNat * 3 + 2, none⟩ = some (.int .i64 (rd_T33 dk j).f2) := hcc 2 _ rfl
        obtain ⟨x, hx⟩ : ∃ x, x = rd_T33 dk j := ⟨_, rfl⟩
        rw [← hx] at hx0 hx1 hx2 HX
        clear hcl hM hcc hfr hx
        have qb : decide (j < (l.length : Int)) = true := decide_eq_true q
        replace p := eq_true p
        replace q := eq_true q
        by_cases e : x.f0 = s
        · have HE := Aside0.mk (show (!decide (x.f0 = s)) = false by rw [decide_eq_true e]; rfl)
          have HEE := Aside0.mk e
          have p2 : 0 ≤ i := HV.out.i0
          have q2 : i < (l.length : Int) := by have := HV.out.lt; have := HJ.out; omega
          have HI := Aside0.mk (show 0 ≤ i ∧ i < l.length from ⟨p2, q2⟩)
          replace p2 := eq_true p2
          replace q2 := eq_true q2
          clear e
          go_wp2_with (first | ((with_reducible refine gate_dst (N := 7) rfl ?_); refine box_event ?hg (N := 7) ?hd (cs := #[.int .i64 0, .int .i64 0, .int .i64 0]) (t := 33) ?hr ?_; (case hd => rfl); (case hg => rfl); (case hr => first | (go_simp; done) | (go_simp; rfl)); intro gx hgx w2 hbox hb; have n0_ := Aside0.mk (Kd.R_below (Kd.R_elderB HR.out gx (Nat.le_of_eq hgx.symm)) hb); have n1_ := Aside0.mk (below_step HB.out hb); have n2_ := Aside0.mk (pw_cell_below hb HC.out); have HCG := Aside0.mk (show cb ≠ gx from by rw [hgx]; exact Nat.ne_of_lt (World.block_lt_of_cell? _ _ HC.out)); have HGX := Aside0.mk (by rw [hgx]; exact below_size HB.out : w0.heap.size ≤ gx); have BX := Aside0.mk hbox; replace hx0 := pw_cell_below hb hx0; replace hx1 := pw_cell_below hb hx1; replace hx2 := pw_cell_below hb hx2; clear HR HB HC hb hbox hgx; have HR := n0_; have HB := n1_; have HC := n2_; clear n0_ n1_ n2_; have hcx0 : w2.cell? ⟨gx, 0, none⟩ = some (.int .i64 0) := (blk_cell BX.out 0).trans rfl; have hcx1 : w2.cell? ⟨gx, 1, none⟩ = some (.int .i64 0) := (blk_cell BX.out 1).trans rfl; have hcx2 : w2.cell? ⟨gx, 2, none⟩ = some (.int .i64 0) := (blk_cell BX.out 2).trans rfl; have hfx0 := blk_frozen BX.out 0; have hfx1 := blk_frozen BX.out 1; have hfx2 := blk_frozen BX.out 2) | (go_at_call 15; refine (own1.calls x.f0 x.f1 x.f2 s cb _ ?hc).mono ?_; (case hc => exact (cell_move (((((Kept.refl _ (fun k => k = gx)).setCell (p := ⟨gx, 0, none⟩) (.inl rfl) _).setCell (p := ⟨gx, 1, none⟩) (.inl rfl) _).setCell (p := ⟨gx, 2, none⟩) (.inl rfl) _).2 cb (World.block_lt_of_cell? _ _ HC.out) HCG.out)).trans HC.out); rintro e w_ ⟨rfl, hb⟩; rw [HE.out]; have n0_ := Aside0.mk (Kd.R_below (Kd.R_mono (Kd.R_kept HR.out ((((Kept.refl _ (fun k => k = gx)).setCell (p := ⟨gx, 0, none⟩) (.inl rfl) _).setCell (p := ⟨gx, 1, none⟩) (.inl rfl) _).setCell (p := ⟨gx, 2, none⟩) (.inl rfl) _) (fun k hk => hk.2)) (fun _ _ => trivial)) hb); have n1_ := Aside0.mk (below_step (below_set (below_set (below_set HB.out HGX.out) HGX.out) HGX.out) hb); have n2_ := Aside0.mk (pw_cell_below hb ((cell_move (((((Kept.refl _ (fun k => k = gx)).setCell (p := ⟨gx, 0, none⟩) (.inl rfl) _).setCell (p := ⟨gx, 1, none⟩) (.inl rfl) _).setCell (p := ⟨gx, 2, none⟩) (.inl rfl) _).2 cb (World.block_lt_of_cell? _ _ HC.out) HCG.out)).trans HC.out)); have BY := Aside0.mk (blk_below (blk_put (cs := #[.int .i64 x.f0, .int .i64 x.f1, .int .i64 0]) (blk_put (cs := #[.int .i64 x.f0, .int .i64 0, .int .i64 0]) (blk_put (cs := #[.int .i64 0, .int .i64 0, .int .i64 0]) BX.out 0 (.int .i64 x.f0) rfl) 1 (.int .i64 x.f1) rfl) 2 (.int .i64 x.f2) rfl) hb); clear HR HB HC hb BX hcx0 hcx1 hcx2 hfx0 hfx1 hfx2 hx0 hx1 hx2; have HR := n0_; have HB := n1_; have HC := n2_; clear n0_ n1_ n2_; have hz0 : w_.cell? ⟨gx, 0, none⟩ = some (.int .i64 x.f0) := (blk_cell BY.out 0).trans rfl; have hz1 : w_.cell? ⟨gx, 1, none⟩ = some (.int .i64 x.f1) := (blk_cell BY.out 1).trans rfl; have hz2 : w_.cell? ⟨gx, 2, none⟩ = some (.int .i64 x.f2) := (blk_cell BY.out 2).trans rfl; obtain ⟨cf, hcl, hM, hcc, hfr⟩ := Kd.R_elem HR.out z33 i HI.out.1 HI.out.2; obtain rfl := k33_openM hM; have HP := Aside0.mk (Kd.R_seg HR.out i HI.out.1 HI.out.2 (seg := [.int .i64 x.f0, .int .i64 x.f1, .int .i64 x.f2]) (j := 0) hcl hcc (show 3 ≤ 3 from by decide) (x' := x) (k33_mkM _ _ _ x) (fun _ hk => hk)); have hy0 : w_.cell? ⟨g, i.toNat * 3, none⟩ = _ := hcc 0 _ rfl; have hy1 : w_.cell? ⟨g, i.toNat * 3 + 1, none⟩ = _ := hcc 1 _ rfl; have hy2 : w_.cell? ⟨g, i.toNat * 3 + 2, none⟩ = _ := hcc 2 _ rfl; have hf0 : w_.frozen? ⟨g, i.toNat * 3, none⟩ = false := hfr 0; have hf1 : w_.frozen? ⟨g, i.toNat * 3 + 1, none⟩ = false := hfr 1; have hf2 : w_.frozen? ⟨g, i.toNat * 3 + 2, none⟩ = false := hfr 2; clear hcl hM hcc hfr))
          go_roundw
          case rel => exact ⟨i + 1, j + 1, dk.set i.toNat x, ⟨HV.out.keep HJ.out.2 HX.out HEE.out⟩, (by first | rfl | (congr 1; have := HI.out; have := HMX.out; unfold wrap64; omega)), (by first | rfl | (congr 1; have := HJ.out; have := HMX.out; unfold wrap64; omega)), ⟨HP.out.1⟩, ⟨(cell_move (((((Kept.refl w_ (fun k => k = g)).setCell (p := ⟨g, i.toNat * 3, none⟩) (.inl rfl) _).setCell (p := ⟨g, i.toNat * 3 + 1, none⟩) (.inl rfl) _).setCell (p := ⟨g, i.toNat * 3 + 2, none⟩) (.inl rfl) _).2 cb (World.block_lt_of_cell? _ _ HC.out) (fun e => HN.out g rfl e.symm))).trans HC.out⟩, ⟨below_set (below_set (below_set HB.out HGB.out) HGB.out) HGB.out⟩⟩
          case measure => have h1 := HJ.out; have h2 := HMX.out; have hw : wrap64 (j + 1) = j + 1 := (by unfold wrap64; omega); simp [intOf, hw]; omega
        · have HE := Aside0.mk (show (!decide (x.f0 = s)) = true by rw [decide_eq_false e]; rfl)
          have HEE := Aside0.mk e
          clear e
          go_wp2_with (first | ((with_reducible refine gate_dst (N := 7) rfl ?_); refine box_event ?hg (N := 7) ?hd (cs := #[.int .i64 0, .int .i64 0, .int .i64 0]) (t := 33) ?hr ?_; (case hd => rfl); (case hg => rfl); (case hr => first | (go_simp; done) | (go_simp; rfl)); intro gx hgx w2 hbox hb; have n0_ := Aside0.mk (Kd.R_below (Kd.R_elderB HR.out gx (Nat.le_of_eq hgx.symm)) hb); have n1_ := Aside0.mk (below_step HB.out hb); have n2_ := Aside0.mk (pw_cell_below hb HC.out); have HCG := Aside0.mk (show cb ≠ gx from by rw [hgx]; exact Nat.ne_of_lt (World.block_lt_of_cell? _ _ HC.out)); have HGX := Aside0.mk (by rw [hgx]; exact below_size HB.out : w0.heap.size ≤ gx); have BX := Aside0.mk hbox; replace hx0 := pw_cell_below hb hx0; replace hx1 := pw_cell_below hb hx1; replace hx2 := pw_cell_below hb hx2; clear HR HB HC hb hbox hgx; have HR := n0_; have HB := n1_; have HC := n2_; clear n0_ n1_ n2_; have hcx0 : w2.cell? ⟨gx, 0, none⟩ = some (.int .i64 0) := (blk_cell BX.out 0).trans rfl; have hcx1 : w2.cell? ⟨gx, 1, none⟩ = some (.int .i64 0) := (blk_cell BX.out 1).trans rfl; have hcx2 : w2.cell? ⟨gx, 2, none⟩ = some (.int .i64 0) := (blk_cell BX.out 2).trans rfl; have hfx0 := blk_frozen BX.out 0; have hfx1 := blk_frozen BX.out 1; have hfx2 := blk_frozen BX.out 2) | (go_at_call 15; refine (own1.calls x.f0 x.f1 x.f2 s cb _ ?hc).mono ?_; (case hc => exact (cell_move (((((Kept.refl _ (fun k => k = gx)).setCell (p := ⟨gx, 0, none⟩) (.inl rfl) _).setCell (p := ⟨gx, 1, none⟩) (.inl rfl) _).setCell (p := ⟨gx, 2, none⟩) (.inl rfl) _).2 cb (World.block_lt_of_cell? _ _ HC.out) HCG.out)).trans HC.out); rintro e w_ ⟨rfl, hb⟩; rw [HE.out]; have n0_ := Aside0.mk (Kd.R_below (Kd.R_mono (Kd.R_kept HR.out ((((Kept.refl _ (fun k => k = gx)).setCell (p := ⟨gx, 0, none⟩) (.inl rfl) _).setCell (p := ⟨gx, 1, none⟩) (.inl rfl) _).setCell (p := ⟨gx, 2, none⟩) (.inl rfl) _) (fun k hk => hk.2)) (fun _ _ => trivial)) hb); have n1_ := Aside0.mk (below_step (below_set (below_set (below_set HB.out HGX.out) HGX.out) HGX.out) hb); have n2_ := Aside0.mk (pw_cell_below hb ((cell_move (((((Kept.refl _ (fun k => k = gx)).setCell (p := ⟨gx, 0, none⟩) (.inl rfl) _).setCell (p := ⟨gx, 1, none⟩) (.inl rfl) _).setCell (p := ⟨gx, 2, none⟩) (.inl rfl) _).2 cb (World.block_lt_of_cell? _ _ HC.out) HCG.out)).trans HC.out)); clear HR HB HC hb BX hcx0 hcx1 hcx2 hfx0 hfx1 hfx2 hx0 hx1 hx2; have HR := n0_; have HB := n1_; have HC := n2_; clear n0_ n1_ n2_))
          go_roundw
          case rel => exact ⟨i, j + 1, dk, ⟨HV.out.drop HJ.out.2 HX.out HEE.out⟩, rfl, (by first | rfl | (congr 1; have := HJ.out; have := HMX.out; unfold wrap64; omega)), HR, HC, HB⟩
          case measure => have h1 := HJ.out; have h2 := HMX.out; have hw : wrap64 (j + 1) = j + 1 := (by unfold wrap64; omega); simp [intOf, hw]; omega
      · have qb : decide (j < (l.length : Int)) = false := decide_eq_false q
        have HQ := Aside0.mk q
        have hij : 0 ≤ i ∧ i < l.length := by have h1 := HV.out.i0; have h2 := HV.out.lt; have h3 := HV.out.le; omega
        have HI := Aside0.mk hij
        obtain ⟨p2, q2⟩ := hij
        have q3 : i ≤ (l.length : Int) := by omega
        have q4 : i ≤ (c0 : Int) := by have := HLC.out; omega
        replace p2 := eq_true p2
        replace q2 := eq_true q2
        replace q3 := eq_true q3
        replace q4 := eq_true q4
        have q5 : (c0 = i.toNat) = False := eq_false (by have := HLC.out; have := HI.out; omega)
        obtain ⟨vs, hcl⟩ := clear_run (w := wr) (g := g) (o := i.toNat * 3) (m := l.length - i.toNat) (c := c0 - i.toNat) (ty := 0) (by have := HI.out; omega) (fun k hk => cells_in HR.out _ (by have := HI.out; omega)) (fun k hk => frozen_all HR.out _ (Kd.R_lt HR.out g rfl))
        clear q
        go_wp2
        go_ret
        have hd := HV.out.done (by have := HQ.out; omega)
        have hlen : (l.filter (keeps s)).length = i.toNat := by rw [← hd, List.length_take, HV.out.len]; have := HI.out; omega
        have hC := C_before (m := i.toNat) (o := i.toNat * 3) (vs := vs) HR.out (by rw [HV.out.len]; have := HI.out; omega) (Nat.le_refl _)
        rw [hd] at hC
        exact ⟨some ⟨g, 0, none⟩, c0, by rw [hlen]; first | rfl | simp, by rw [hlen]; have := HI.out; have := HLC.out; omega, hC, below_cells HGB.out _ _ _ HB.out⟩
end stepsfrom
/-! #### impl.StepsFrom itself -/
def impl_StepsFrom.f (k : Nat) (l0 : List (S33)) (a1 : Int) : Option (Int × Bool) := (impl_isEdition.f k l0).bind fun t1 => (if t1 = true then (if a1 < 0 then (some (0, false)) else (if a1 ≥ 4 then (some (0, false)) else ((impl_Part_14.f l0).bind fun y2 => ((impl_editionLength.f k (y2.filter (stepsfrom.keeps a1))).bind fun t3 => (some (t3, true)))))) else (some (0, false)))
theorem impl_StepsFrom.mono : ∀ a0 a1 k, LeO (impl_StepsFrom.f k a0 a1) (impl_StepsFrom.f (k + 1) a0 a1) := by
  intro a0 a1 k
  unfold impl_StepsFrom.f
  repeat' first
      | (with_reducible exact impl_isEdition.mono _ _)
      | (with_reducible exact impl_editionLength.mono _ _)
      | (with_reducible exact LeO.refl _)
      | (with_reducible exact LeO.none _)
      | (with_reducible refine LeO.ite ?_ ?_)
      | (with_reducible refine LeO.bind ?_ (fun _ => ?_))
      | exact impl_isEdition.mono _ _
      | exact impl_editionLength.mono _ _
      | exact LeO.none _
      | refine LeO.ite ?_ ?_
      | refine LeO.bind ?_ (fun _ => ?_)
set_option maxHeartbeats 8000000 in
set_option maxRecDepth 100000 in
theorem impl_StepsFrom.calls (k : Nat) (A0 : Option Addr) (c0 : Nat) (l0 : List (S33)) (a1 : Int) (r1 : Int) (r2 : Bool) (w : World) (hr0 : Kd.C k33 w A0 l0.length l0) (hc0 : l0.length ≤ c0) (h : impl_StepsFrom.f k l0 a1 = some (r1, r2)) :
    Calls Try.prog 7 #[.slice A0 l0.length c0, .int .i64 a1] w fun e w' => e = .returned (.tuple #[.int .i64 r1, .bool r2]) ∧ Below w.heap.size w w' := by
  have hu := Try.underlying33
  have HR0 := Aside0.mk hr0
  have HC0 := Aside0.mk hc0
  clear hr0 hc0
  have HB := Aside0.mk (Below.refl w.heap.size w)
  have hmf : ∀ (fn : Fn) (first cap : Array Value) (w : World), (Instr.makeFunc fn first cap).run Try.prog w = .ok (.func fn first cap) w := fun _ _ _ _ => rfl
  obtain ⟨t1, a1_, h⟩ := Option.bind_eq_some_iff.mp h
  have A1 := Aside0.mk a1_
  clear a1_
  cases t1 with
  | false =>
    rw [if_neg (by simp)] at h
    simp only [Option.some.injEq, Prod.mk.injEq] at h
    obtain ⟨rfl, rfl⟩ := h
    go_enter Try.func7, Try.ntmps7
    go_wp2_with (first | ((with_reducible refine gate_dst (N := 3) rfl ?_); refine box_event ?hg (N := 3) ?hd (cs := #[.int .i64 a1]) (t := 3) ?hr ?_; (case hd => rfl); (case hg => rfl); (case hr => first | (go_simp; done) | (go_simp; rfl)); intro gx hgx w2 hbox hb; have n1_ := Aside0.mk (below_step HB.out hb); have hcx : w2.cell? ⟨gx, 0, none⟩ = some (.int .i64 a1) := (blk_cell hbox 0).trans rfl; clear HB hb hbox hgx; have HB := n1_; clear n1_) | (go_at_call 12; refine (impl_isEdition.calls k A0 c0 l0 false _ (Kd.C_below HR0.out HB.out) HC0.out A1.out).mono ?_; rintro e w_ ⟨rfl, hb⟩; have hcx2 := pw_cell_below hb hcx; have n1_ := Aside0.mk (below_step HB.out hb); clear HB hb hcx; have HB := n1_; clear n1_))
    go_ret2
    exact ⟨rfl, HB.out⟩
  | true =>
    rw [if_pos rfl] at h
    by_cases c1 : a1 < 0
    · rw [if_pos c1] at h
      simp only [Option.some.injEq, Prod.mk.injEq] at h
      obtain ⟨rfl, rfl⟩ := h
      have c1b : decide (a1 < 0) = true := decide_eq_true c1
      clear c1
      go_enter Try.func7, Try.ntmps7
      go_wp2_with (first | ((with_reducible refine gate_dst (N := 3) rfl ?_); refine box_event ?hg (N := 3) ?hd (cs := #[.int .i64 a1]) (t := 3) ?hr ?_; (case hd => rfl); (case hg => rfl); (case hr => first | (go_simp; done) | (go_simp; rfl)); intro gx hgx w2 hbox hb; have n1_ := Aside0.mk (below_step HB.out hb); have hcx : w2.cell? ⟨gx, 0, none⟩ = some (.int .i64 a1) := (blk_cell hbox 0).trans rfl; clear HB hb hbox hgx; have HB := n1_; clear n1_) | (go_at_call 12; refine (impl_isEdition.calls k A0 c0 l0 true _ (Kd.C_below HR0.out HB.out) HC0.out A1.out).mono ?_; rintro e w_ ⟨rfl, hb⟩; have hcx2 := pw_cell_below hb hcx; have n1_ := Aside0.mk (below_step HB.out hb); clear HB hb hcx; have HB := n1_; clear n1_))
      go_ret2
      exact ⟨rfl, HB.out⟩
    · rw [if_neg c1] at h
      have c1b : decide (a1 < 0) = false := decide_eq_false c1
      clear c1
      by_cases c2 : a1 ≥ 4
      · rw [if_pos c2] at h
        simp only [Option.some.injEq, Prod.mk.injEq] at h
        obtain ⟨rfl, rfl⟩ := h
        have c2b : decide (4 ≤ a1) = true := decide_eq_true c2
        clear c2
        go_enter Try.func7, Try.ntmps7
        go_wp2_with (first | ((with_reducible refine gate_dst (N := 3) rfl ?_); refine box_event ?hg (N := 3) ?hd (cs := #[.int .i64 a1]) (t := 3) ?hr ?_; (case hd => rfl); (case hg => rfl); (case hr => first | (go_simp; done) | (go_simp; rfl)); intro gx hgx w2 hbox hb; have n1_ := Aside0.mk (below_step HB.out hb); have hcx : w2.cell? ⟨gx, 0, none⟩ = some (.int .i64 a1) := (blk_cell hbox 0).trans rfl; clear HB hb hbox hgx; have HB := n1_; clear n1_) | (go_at_call 12; refine (impl_isEdition.calls k A0 c0 l0 true _ (Kd.C_below HR0.out HB.out) HC0.out A1.out).mono ?_; rintro e w_ ⟨rfl, hb⟩; have hcx2 := pw_cell_below hb hcx; have n1_ := Aside0.mk (below_step HB.out hb); clear HB hb hcx; have HB := n1_; clear n1_))
        go_ret2
        exact ⟨rfl, HB.out⟩
      · rw [if_neg c2] at h
        have c2b : decide (4 ≤ a1) = false := decide_eq_false c2
        clear c2
        obtain ⟨y2, a2_, h⟩ := Option.bind_eq_some_iff.mp h
        obtain ⟨t3, a3_, h⟩ := Option.bind_eq_some_iff.mp h
        have A2 := Aside0.mk a2_
        have A3 := Aside0.mk a3_
        simp only [Option.some.injEq, Prod.mk.injEq] at h
        obtain ⟨rfl, rfl⟩ := h
        clear a2_ a3_
        go_enter Try.func7, Try.ntmps7
        go_wp2_with (first | ((with_reducible refine gate_dst (N := 3) rfl ?_); refine box_event ?hg (N := 3) ?hd (cs := #[.int .i64 a1]) (t := 3) ?hr ?_; (case hd => rfl); (case hg => rfl); (case hr => first | (go_simp; done) | (go_simp; rfl)); intro gx hgx w2 hbox hb; have n1_ := Aside0.mk (below_step HB.out hb); have hcx : w2.cell? ⟨gx, 0, none⟩ = some (.int .i64 a1) := (blk_cell hbox 0).trans rfl; clear HB hb hbox hgx; have HB := n1_; clear n1_) | (go_at_call 12; refine (impl_isEdition.calls k A0 c0 l0 true _ (Kd.C_below HR0.out HB.out) HC0.out A1.out).mono ?_; rintro e w_ ⟨rfl, hb⟩; replace hcx := pw_cell_below hb hcx; have n1_ := Aside0.mk (below_step HB.out hb); clear HB hb; have HB := n1_; clear n1_) | (go_at_call 14; refine (impl_Part_14.calls A0 c0 l0 y2 _ (Kd.C_below HR0.out HB.out) HC0.out A2.out).mono ?_; rintro e w_ ⟨v0_, rfl, ho, hb⟩; have HNE := Aside0.mk (show ∀ k, v0_.ownBlock = some k → k ≠ gx from fun k hk e => by have h1 := Kd.R_base ho k hk; have h2 := World.block_lt_of_cell? _ _ hcx; subst e; exact Nat.lt_irrefl _ (Nat.lt_of_lt_of_le h2 h1)); have HO := Aside0.mk (Kd.R_lower ho (below_size HB.out)); have HCX := Aside0.mk (pw_cell_below hb hcx); have n1_ := Aside0.mk (below_step HB.out hb); clear HB hb hcx ho; have HB := n1_; clear n1_) | (go_at_call 13; refine (stepsfrom.delete.calls a1 gx v0_ y2 w _ HO.out HCX.out HNE.out HB.out).mono ?_; rintro e w_ ⟨A2_, c2_, rfl, hl2, hr2, hb⟩; have HL2 := Aside0.mk hl2; have HR2 := Aside0.mk hr2; clear HB HO HCX hl2 hr2; have HB := Aside0.mk hb; clear hb) | (go_at_call 16; refine (impl_editionLength.calls k A2_ c2_ (y2.filter (stepsfrom.keeps a1)) t3 _ HR2.out HL2.out A3.out).mono ?_; rintro e w_ ⟨rfl, hb⟩; have n1_ := Aside0.mk (below_step HB.out hb); clear HB hb; have HB := n1_; clear n1_))
        go_ret2
        exact ⟨rfl, HB.out⟩

/-! ### laws_eqPart: function 17 -/
def laws_eqPart.f (a0_0 : Int) (a0_1 : Int) (a0_2 : Int) (a1_0 : Int) (a1_1 : Int) (a1_2 : Int) : Option (Bool) := if a0_0 = a1_0 then (if a0_1 = a1_1 then (if a0_2 = a1_2 then (some true) else (some false)) else (some false)) else (some false)
set_option maxHeartbeats 8000000 in
set_option maxRecDepth 100000 in
theorem laws_eqPart.calls (a0_0 : Int) (a0_1 : Int) (a0_2 : Int) (a1_0 : Int) (a1_1 : Int) (a1_2 : Int) (r : Bool) (w : World) (h : laws_eqPart.f a0_0 a0_1 a0_2 a1_0 a1_1 a1_2 = some r) :
    Calls Try.prog 17 #[.agg #[.int .i64 a0_0, .int .i64 a0_1, .int .i64 a0_2], .agg #[.int .i64 a1_0, .int .i64 a1_1, .int .i64 a1_2]] w fun e w' => e = .returned (.bool r) ∧ Below w.heap.size w w' := by
  have hu33 := Try.underlying33
  have HB := Aside0.mk (Below.refl w.heap.size w)
  have H : (if a0_0 = a1_0 then (if a0_1 = a1_1 then (if a0_2 = a1_2 then (some true) else (some false)) else (some false)) else (some false)) = some r := h
  clear h
  by_cases c3 : a0_0 = a1_0
  · rw [if_pos c3] at H
    have c3b0 : (a0_0 == a1_0) = true := beq_iff_eq.mpr c3
    have c3b1 : (a0_0 != a1_0) = false := bne_eq_false_iff_eq.mpr c3
    clear c3
    by_cases c4 : a0_1 = a1_1
    · rw [if_pos c4] at H
      have c4b0 : (a0_1 == a1_1) = true := beq_iff_eq.mpr c4
      have c4b1 : (a0_1 != a1_1) = false := bne_eq_false_iff_eq.mpr c4
      clear c4
      by_cases c5 : a0_2 = a1_2
      · rw [if_pos c5] at H
        have c5b0 : (a0_2 == a1_2) = true := beq_iff_eq.mpr c5
        have c5b1 : (a0_2 != a1_2) = false := bne_eq_false_iff_eq.mpr c5
        clear c5
        obtain rfl := Option.some.inj H
        go_enter Try.func17, Try.ntmps17
        go_wp2_with (first | ((with_reducible refine gate_dst (N := 2) rfl ?_); refine box_event ?hg (N := 2) ?hd (cs := #[.int .i64 a0_0, .int .i64 a0_1, .int .i64 a0_2]) (t := 33) ?hr ?_; (case hd => rfl); (case hg => rfl); (case hr => first | (go_simp; done) | (go_simp; rfl)); intro gb133 hg w6 hbox hb; have n0_ := Aside0.mk (below_step (by repeat (first | (with_reducible first | exact HB.out | apply below_alloc | apply pw_below_drewN | apply below_drew1) | exact HB.out)) hb); have n1_ := Aside0.mk (hbox); have n2_ := Aside0.mk ((by rw [hg]; exact (below_size (by repeat (first | (with_reducible first | exact HB.out | apply below_alloc | apply pw_below_drewN | apply below_drew1) | exact HB.out))) : w.heap.size ≤ gb133)); have n3_ := Aside0.mk ((by rw [hg]; exact (below_size (by repeat (first | (with_reducible first | exact HB.out | apply below_alloc | apply pw_below_drewN | apply below_drew1) | exact HB.out))) : w.heap.size ≤ gb133)); clear HB; have HB := n0_; have BK133 := n1_; have GW133 := n2_; have GE133 := n3_; clear n0_ n1_ n2_ n3_; clear hb hbox hg) | ((with_reducible refine gate_dst (N := 3) rfl ?_); refine box_event ?hg (N := 3) ?hd (cs := #[.int .i64 a1_0, .int .i64 a1_1, .int .i64 a1_2]) (t := 33) ?hr ?_; (case hd => rfl); (case hg => rfl); (case hr => first | (go_simp; done) | (go_simp; rfl)); intro gb134 hg w7 hbox hb; have n0_ := Aside0.mk (blk_below (g := gb133) (o := .cells #[.int .i64 a0_0, .int .i64 a0_1, .int .i64 a0_2] 33 (0, 0)) (by (with_reducible repeat (first | refine blk_drewN ?_ _ | refine blk_drew ?_ | refine blk_alloc ?_ _)); exact BK133.out) hb); have n1_ := Aside0.mk (below_step (by repeat (first | (with_reducible first | exact HB.out | apply below_alloc | apply pw_below_drewN | apply below_drew1 | refine below_set ?_ GE133.out) | exact HB.out)) hb); have n2_ := Aside0.mk (hbox); have n3_ := Aside0.mk ((by rw [hg]; exact (below_size (by repeat (first | (with_reducible first | exact HB.out | apply below_alloc | apply pw_below_drewN | apply below_drew1 | refine below_set ?_ GE133.out) | exact HB.out))) : w.heap.size ≤ gb134)); have n4_ := Aside0.mk ((by rw [hg]; exact (below_size (by repeat (first | (with_reducible first | exact HB.out | apply below_alloc | apply pw_below_drewN | apply below_drew1 | refine below_set ?_ GE133.out) | exact HB.out))) : w.heap.size ≤ gb134)); have n5_ := Aside0.mk ((by rw [hg]; exact Nat.ne_of_lt (blk_lt (g := gb133) (o := .cells #[.int .i64 a0_0, .int .i64 a0_1, .int .i64 a0_2] 33 (0, 0)) (by (with_reducible repeat (first | refine blk_drewN ?_ _ | refine blk_drew ?_ | refine blk_alloc ?_ _)); exact BK133.out)) : gb133 ≠ gb134)); have n6_ := Aside0.mk ((by rw [hg]; exact Nat.ne_of_gt (blk_lt (g := gb133) (o := .cells #[.int .i64 a0_0, .int .i64 a0_1, .int .i64 a0_2] 33 (0, 0)) (by (with_reducible repeat (first | refine blk_drewN ?_ _ | refine blk_drew ?_ | refine blk_alloc ?_ _)); exact BK133.out)) : gb134 ≠ gb133)); clear BK133; clear HB; have BK133 := n0_; have HB := n1_; have BK134 := n2_; have GW134 := n3_; have GE134 := n4_; have NB133_134 := n5_; have NB134_133 := n6_; clear n0_ n1_ n2_ n3_ n4_ n5_ n6_; clear hb hbox hg; have hnb8 := NB133_134.out; have hnc8 := NB134_133.out; have hcz9_0 : w7.cell? ⟨gb133, 0, none⟩ = some (.int .i64 a0_0) := (blk_cell BK133.out 0).trans rfl; have hcz9_1 : w7.cell? ⟨gb133, 1, none⟩ = some (.int .i64 a0_1) := (blk_cell BK133.out 1).trans rfl; have hcz9_2 : w7.cell? ⟨gb133, 2, none⟩ = some (.int .i64 a0_2) := (blk_cell BK133.out 2).trans rfl; have hfz9_0 := blk_frozen BK133.out 0; have hfz9_1 := blk_frozen BK133.out 1; have hfz9_2 := blk_frozen BK133.out 2; have hcz10_0 : w7.cell? ⟨gb134, 0, none⟩ = some (.int .i64 a1_0) := (blk_cell BK134.out 0).trans rfl; have hcz10_1 : w7.cell? ⟨gb134, 1, none⟩ = some (.int .i64 a1_1) := (blk_cell BK134.out 1).trans rfl; have hcz10_2 : w7.cell? ⟨gb134, 2, none⟩ = some (.int .i64 a1_2) := (blk_cell BK134.out 2).trans rfl; have hfz10_0 := blk_frozen BK134.out 0; have hfz10_1 := blk_frozen BK134.out 1; have hfz10_2 := blk_frozen BK134.out 2))
        go_ret
        exact ⟨by first | rfl | (simp [errW_none, errW_some] <;> rfl) | (simp [*, errW_none, errW_some] <;> rfl), by repeat (first | (with_reducible first | exact HB.out | apply below_alloc | apply pw_below_drewN | apply below_drew1 | refine below_set ?_ GE133.out | refine below_set ?_ GE134.out) | exact HB.out)⟩
      · rw [if_neg c5] at H
        have c5b0 : (a0_2 == a1_2) = false := beq_eq_false_iff_ne.mpr c5
        have c5b1 : (a0_2 != a1_2) = true := bne_iff_ne.mpr c5
        obtain rfl := Option.some.inj H
        go_enter Try.func17, Try.ntmps17
        go_wp2_with (first | ((with_reducible refine gate_dst (N := 2) rfl ?_); refine box_event ?hg (N := 2) ?hd (cs := #[.int .i64 a0_0, .int .i64 a0_1, .int .i64 a0_2]) (t := 33) ?hr ?_; (case hd => rfl); (case hg => rfl); (case hr => first | (go_simp; done) | (go_simp; rfl)); intro gb133 hg w11 hbox hb; have n0_ := Aside0.mk (below_step (by repeat (first | (with_reducible first | exact HB.out | apply below_alloc | apply pw_below_drewN | apply below_drew1) | exact HB.out)) hb); have n1_ := Aside0.mk (hbox); have n2_ := Aside0.mk ((by rw [hg]; exact (below_size (by repeat (first | (with_reducible first | exact HB.out | apply below_alloc | apply pw_below_drewN | apply below_drew1) | exact HB.out))) : w.heap.size ≤ gb133)); have n3_ := Aside0.mk ((by rw [hg]; exact (below_size (by repeat (first | (with_reducible first | exact HB.out | apply below_alloc | apply pw_below_drewN | apply below_drew1) | exact HB.out))) : w.heap.size ≤ gb133)); clear HB; have HB := n0_; have BK133 := n1_; have GW133 := n2_; have GE133 := n3_; clear n0_ n1_ n2_ n3_; clear hb hbox hg) | ((with_reducible refine gate_dst (N := 3) rfl ?_); refine box_event ?hg (N := 3) ?hd (cs := #[.int .i64 a1_0, .int .i64 a1_1, .int .i64 a1_2]) (t := 33) ?hr ?_; (case hd => rfl); (case hg => rfl); (case hr => first | (go_simp; done) | (go_simp; rfl)); intro gb134 hg w12 hbox hb; have n0_ := Aside0.mk (blk_below (g := gb133) (o := .cells #[.int .i64 a0_0, .int .i64 a0_1, .int .i64 a0_2] 33 (0, 0)) (by (with_reducible repeat (first | refine blk_drewN ?_ _ | refine blk_drew ?_ | refine blk_alloc ?_ _)); exact BK133.out) hb); have n1_ := Aside0.mk (below_step (by repeat (first | (with_reducible first | exact HB.out | apply below_alloc | apply pw_below_drewN | apply below_drew1 | refine below_set ?_ GE133.out) | exact HB.out)) hb); have n2_ := Aside0.mk (hbox); have n3_ := Aside0.mk ((by rw [hg]; exact (below_size (by repeat (first | (with_reducible first | exact HB.out | apply below_alloc | apply pw_below_drewN | apply below_drew1 | refine below_set ?_ GE133.out) | exact HB.out))) : w.heap.size ≤ gb134)); have n4_ := Aside0.mk ((by rw [hg]; exact (below_size (by repeat (first | (with_reducible first | exact HB.out | apply below_alloc | apply pw_below_drewN | apply below_drew1 | refine below_set ?_ GE133.out) | exact HB.out))) : w.heap.size ≤ gb134)); have n5_ := Aside0.mk ((by rw [hg]; exact Nat.ne_of_lt (blk_lt (g := gb133) (o := .cells #[.int .i64 a0_0, .int .i64 a0_1, .int .i64 a0_2] 33 (0, 0)) (by (with_reducible repeat (first | refine blk_drewN ?_ _ | refine blk_drew ?_ | refine blk_alloc ?_ _)); exact BK133.out)) : gb133 ≠ gb134)); have n6_ := Aside0.mk ((by rw [hg]; exact Nat.ne_of_gt (blk_lt (g := gb133) (o := .cells #[.int .i64 a0_0, .int .i64 a0_1, .int .i64 a0_2] 33 (0, 0)) (by (with_reducible repeat (first | refine blk_drewN ?_ _ | refine blk_drew ?_ | refine blk_alloc ?_ _)); exact BK133.out)) : gb134 ≠ gb133)); clear BK133; clear HB; have BK133 := n0_; have HB := n1_; have BK134 := n2_; have GW134 := n3_; have GE134 := n4_; have NB133_134 := n5_; have NB134_133 := n6_; clear n0_ n1_ n2_ n3_ n4_ n5_ n6_; clear hb hbox hg; have hnb13 := NB133_134.out; have hnc13 := NB134_133.out; have hcz14_0 : w12.cell? ⟨gb133, 0, none⟩ = some (.int .i64 a0_0) := (blk_cell BK133.out 0).trans rfl; have hcz14_1 : w12.cell? ⟨gb133, 1, none⟩ = some (.int .i64 a0_1) := (blk_cell BK133.out 1).trans rfl; have hcz14_2 : w12.cell? ⟨gb133, 2, none⟩ = some (.int .i64 a0_2) := (blk_cell BK133.out 2).trans rfl; have hfz14_0 := blk_frozen BK133.out 0; have hfz14_1 := blk_frozen BK133.out 1; have hfz14_2 := blk_frozen BK133.out 2; have hcz15_0 : w12.cell? ⟨gb134, 0, none⟩ = some (.int .i64 a1_0) := (blk_cell BK134.out 0).trans rfl; have hcz15_1 : w12.cell? ⟨gb134, 1, none⟩ = some (.int .i64 a1_1) := (blk_cell BK134.out 1).trans rfl; have hcz15_2 : w12.cell? ⟨gb134, 2, none⟩ = some (.int .i64 a1_2) := (blk_cell BK134.out 2).trans rfl; have hfz15_0 := blk_frozen BK134.out 0; have hfz15_1 := blk_frozen BK134.out 1; have hfz15_2 := blk_frozen BK134.out 2))
        go_ret
        exact ⟨by first | rfl | (simp [errW_none, errW_some] <;> rfl) | (simp [*, errW_none, errW_some] <;> rfl), by repeat (first | (with_reducible first | exact HB.out | apply below_alloc | apply pw_below_drewN | apply below_drew1 | refine below_set ?_ GE133.out | refine below_set ?_ GE134.out) | exact HB.out)⟩
    · rw [if_neg c4] at H
      have c4b0 : (a0_1 == a1_1) = false := beq_eq_false_iff_ne.mpr c4
      have c4b1 : (a0_1 != a1_1) = true := bne_iff_ne.mpr c4
      obtain rfl := Option.some.inj H
      go_enter Try.func17, Try.ntmps17
      go_wp2_with (first | ((with_reducible refine gate_dst (N := 2) rfl ?_); refine box_event ?hg (N := 2) ?hd (cs := #[.int .i64 a0_0, .int .i64 a0_1, .int .i64 a0_2]) (t := 33) ?hr ?_; (case hd => rfl); (case hg => rfl); (case hr => first | (go_simp; done) | (go_simp; rfl)); intro gb133 hg w16 hbox hb; have n0_ := Aside0.mk (below_step (by repeat (first | (with_reducible first | exact HB.out | apply below_alloc | apply pw_below_drewN | apply below_drew1) | exact HB.out)) hb); have n1_ := Aside0.mk (hbox); have n2_ := Aside0.mk ((by rw [hg]; exact (below_size (by repeat (first | (with_reducible first | exact HB.out | apply below_alloc | apply pw_below_drewN | apply below_drew1) | exact HB.out))) : w.heap.size ≤ gb133)); have n3_ := Aside0.mk ((by rw [hg]; exact (below_size (by repeat (first | (with_reducible first | exact HB.out | apply below_alloc | apply pw_below_drewN | apply below_drew1) | exact HB.out))) : w.heap.size ≤ gb133)); clear HB; have HB := n0_; have BK133 := n1_; have GW133 := n2_; have GE133 := n3_; clear n0_ n1_ n2_ n3_; clear hb hbox hg) | ((with_reducible refine gate_dst (N := 3) rfl ?_); refine box_event ?hg (N := 3) ?hd (cs := #[.int .i64 a1_0, .int .i64 a1_1, .int .i64 a1_2]) (t := 33) ?hr ?_; (case hd => rfl); (case hg => rfl); (case hr => first | (go_simp; done) | (go_simp; rfl)); intro gb134 hg w17 hbox hb; have n0_ := Aside0.mk (blk_below (g := gb133) (o := .cells #[.int .i64 a0_0, .int .i64 a0_1, .int .i64 a0_2] 33 (0, 0)) (by (with_reducible repeat (first | refine blk_drewN ?_ _ | refine blk_drew ?_ | refine blk_alloc ?_ _)); exact BK133.out) hb); have n1_ := Aside0.mk (below_step (by repeat (first | (with_reducible first | exact HB.out | apply below_alloc | apply pw_below_drewN | apply below_drew1 | refine below_set ?_ GE133.out) | exact HB.out)) hb); have n2_ := Aside0.mk (hbox); have n3_ := Aside0.mk ((by rw [hg]; exact (below_size (by repeat (first | (with_reducible first | exact HB.out | apply below_alloc | apply pw_below_drewN | apply below_drew1 | refine below_set ?_ GE133.out) | exact HB.out))) : w.heap.size ≤ gb134)); have n4_ := Aside0.mk ((by rw [hg]; exact (below_size (by repeat (first | (with_reducible first | exact HB.out | apply below_alloc | apply pw_below_drewN | apply below_drew1 | refine below_set ?_ GE133.out) | exact HB.out))) : w.heap.size ≤ gb134)); have n5_ := Aside0.mk ((by rw [hg]; exact Nat.ne_of_lt (blk_lt (g := gb133) (o := .cells #[.int .i64 a0_0, .int .i64 a0_1, .int .i64 a0_2] 33 (0, 0)) (by (with_reducible repeat (first | refine blk_drewN ?_ _ | refine blk_drew ?_ | refine blk_alloc ?_ _)); exact BK133.out)) : gb133 ≠ gb134)); have n6_ := Aside0.mk ((by rw [hg]; exact Nat.ne_of_gt (blk_lt (g := gb133) (o := .cells #[.int .i64 a0_0, .int .i64 a0_1, .int .i64 a0_2] 33 (0, 0)) (by (with_reducible repeat (first | refine blk_drewN ?_ _ | refine blk_drew ?_ | refine blk_alloc ?_ _)); exact BK133.out)) : gb134 ≠ gb133)); clear BK133; clear HB; have BK133 := n0_; have HB := n1_; have BK134 := n2_; have GW134 := n3_; have GE134 := n4_; have NB133_134 := n5_; have NB134_133 := n6_; clear n0_ n1_ n2_ n3_ n4_ n5_ n6_; clear hb hbox hg; have hnb18 := NB133_134.out; have hnc18 := NB134_133.out; have hcz19_0 : w17.cell? ⟨gb133, 0, none⟩ = some (.int .i64 a0_0) := (blk_cell BK133.out 0).trans rfl; have hcz19_1 : w17.cell? ⟨gb133, 1, none⟩ = some (.int .i64 a0_1) := (blk_cell BK133.out 1).trans rfl; have hcz19_2 : w17.cell? ⟨gb133, 2, none⟩ = some (.int .i64 a0_2) := (blk_cell BK133.out 2).trans rfl; have hfz19_0 := blk_frozen BK133.out 0; have hfz19_1 := blk_frozen BK133.out 1; have hfz19_2 := blk_frozen BK133.out 2; have hcz20_0 : w17.cell? ⟨gb134, 0, none⟩ = some (.int .i64 a1_0) := (blk_cell BK134.out 0).trans rfl; have hcz20_1 : w17.cell? ⟨gb134, 1, none⟩ = some (.int .i64 a1_1) := (blk_cell BK134.out 1).trans rfl; have hcz20_2 : w17.cell? ⟨gb134, 2, none⟩ = some (.int .i64 a1_2) := (blk_cell BK134.out 2).trans rfl; have hfz20_0 := blk_frozen BK134.out 0; have hfz20_1 := blk_frozen BK134.out 1; have hfz20_2 := blk_frozen BK134.out 2))
      go_ret
      exact ⟨by first | rfl | (simp [errW_none, errW_some] <;> rfl) | (simp [*, errW_none, errW_some] <;> rfl), by repeat (first | (with_reducible first | exact HB.out | apply below_alloc | apply pw_below_drewN | apply below_drew1 | refine below_set ?_ GE133.out | refine below_set ?_ GE134.out) | exact HB.out)⟩
  · rw [if_neg c3] at H
    have c3b0 : (a0_0 == a1_0) = false := beq_eq_false_iff_ne.mpr c3
    have c3b1 : (a0_0 != a1_0) = true := bne_iff_ne.mpr c3
    obtain rfl := Option.some.inj H
    go_enter Try.func17, Try.ntmps17
    go_wp2_with (first | ((with_reducible refine gate_dst (N := 2) rfl ?_); refine box_event ?hg (N := 2) ?hd (cs := #[.int .i64 a0_0, .int .i64 a0_1, .int .i64 a0_2]) (t := 33) ?hr ?_; (case hd => rfl); (case hg => rfl); (case hr => first | (go_simp; done) | (go_simp; rfl)); intro gb133 hg w21 hbox hb; have n0_ := Aside0.mk (below_step (by repeat (first | (with_reducible first | exact HB.out | apply below_alloc | apply pw_below_drewN | apply below_drew1) | exact HB.out)) hb); have n1_ := Aside0.mk (hbox); have n2_ := Aside0.mk ((by rw [hg]; exact (below_size (by repeat (first | (with_reducible first | exact HB.out | apply below_alloc | apply pw_below_drewN | apply below_drew1) | exact HB.out))) : w.heap.size ≤ gb133)); have n3_ := Aside0.mk ((by rw [hg]; exact (below_size (by repeat (first | (with_reducible first | exact HB.out | apply below_alloc | apply pw_below_drewN | apply below_drew1) | exact HB.out))) : w.heap.size ≤ gb133)); clear HB; have HB := n0_; have BK133 := n1_; have GW133 := n2_; have GE133 := n3_; clear n0_ n1_ n2_ n3_; clear hb hbox hg) | ((with_reducible refine gate_dst (N := 3) rfl ?_); refine box_event ?hg (N := 3) ?hd (cs := #[.int .i64 a1_0, .int .i64 a1_1, .int .i64 a1_2]) (t := 33) ?hr ?_; (case hd => rfl); (case hg => rfl); (case hr => first | (go_simp; done) | (go_simp; rfl)); intro gb134 hg w22 hbox hb; have n0_ := Aside0.mk (blk_below (g := gb133) (o := .cells #[.int .i64 a0_0, .int .i64 a0_1, .int .i64 a0_2] 33 (0, 0)) (by (with_reducible repeat (first | refine blk_drewN ?_ _ | refine blk_drew ?_ | refine blk_alloc ?_ _)); exact BK133.out) hb); have n1_ := Aside0.mk (below_step (by repeat (first | (with_reducible first | exact HB.out | apply below_alloc | apply pw_below_drewN | apply below_drew1 | refine below_set ?_ GE133.out) | exact HB.out)) hb); have n2_ := Aside0.mk (hbox); have n3_ := Aside0.mk ((by rw [hg]; exact (below_size (by repeat (first | (with_reducible first | exact HB.out | apply below_alloc | apply pw_below_drewN | apply below_drew1 | refine below_set ?_ GE133.out) | exact HB.out))) : w.heap.size ≤ gb134)); have n4_ := Aside0.mk ((by rw [hg]; exact (below_size (by repeat (first | (with_reducible first | exact HB.out | apply below_alloc | apply pw_below_drewN | apply below_drew1 | refine below_set ?_ GE133.out) | exact HB.out))) : w.heap.size ≤ gb134)); have n5_ := Aside0.mk ((by rw [hg]; exact Nat.ne_of_lt (blk_lt (g := gb133) (o := .cells #[.int .i64 a0_0, .int .i64 a0_1, .int .i64 a0_2] 33 (0, 0)) (by (with_reducible repeat (first | refine blk_drewN ?_ _ | refine blk_drew ?_ | refine blk_alloc ?_ _)); exact BK133.out)) : gb133 ≠ gb134)); have n6_ := Aside0.mk ((by rw [hg]; exact Nat.ne_of_gt (blk_lt (g := gb133) (o := .cells #[.int .i64 a0_0, .int .i64 a0_1, .int .i64 a0_2] 33 (0, 0)) (by (with_reducible repeat (first | refine blk_drewN ?_ _ | refine blk_drew ?_ | refine blk_alloc ?_ _)); exact BK133.out)) : gb134 ≠ gb133)); clear BK133; clear HB; have BK133 := n0_; have HB := n1_; have BK134 := n2_; have GW134 := n3_; have GE134 := n4_; have NB133_134 := n5_; have NB134_133 := n6_; clear n0_ n1_ n2_ n3_ n4_ n5_ n6_; clear hb hbox hg; have hnb23 := NB133_134.out; have hnc23 := NB134_133.out; have hcz24_0 : w22.cell? ⟨gb133, 0, none⟩ = some (.int .i64 a0_0) := (blk_cell BK133.out 0).trans rfl; have hcz24_1 : w22.cell? ⟨gb133, 1, none⟩ = some (.int .i64 a0_1) := (blk_cell BK133.out 1).trans rfl; have hcz24_2 : w22.cell? ⟨gb133, 2, none⟩ = some (.int .i64 a0_2) := (blk_cell BK133.out 2).trans rfl; have hfz24_0 := blk_frozen BK133.out 0; have hfz24_1 := blk_frozen BK133.out 1; have hfz24_2 := blk_frozen BK133.out 2; have hcz25_0 : w22.cell? ⟨gb134, 0, none⟩ = some (.int .i64 a1_0) := (blk_cell BK134.out 0).trans rfl; have hcz25_1 : w22.cell? ⟨gb134, 1, none⟩ = some (.int .i64 a1_1) := (blk_cell BK134.out 1).trans rfl; have hcz25_2 : w22.cell? ⟨gb134, 2, none⟩ = some (.int .i64 a1_2) := (blk_cell BK134.out 2).trans rfl; have hfz25_0 := blk_frozen BK134.out 0; have hfz25_1 := blk_frozen BK134.out 1; have hfz25_2 := blk_frozen BK134.out 2))
    go_ret
    exact ⟨by first | rfl | (simp [errW_none, errW_some] <;> rfl) | (simp [*, errW_none, errW_some] <;> rfl), by repeat (first | (with_reducible first | exact HB.out | apply below_alloc | apply pw_below_drewN | apply below_drew1 | refine below_set ?_ GE133.out | refine below_set ?_ GE134.out) | exact HB.out)⟩

end Go.Proofs.Ytlhjjpdlfddflaa.PFnExactStepsFrom
