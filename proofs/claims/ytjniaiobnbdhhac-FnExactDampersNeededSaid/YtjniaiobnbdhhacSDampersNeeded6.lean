/- The walks of functions that FnExactDampersNeeded reaches: what they return is what the plain functions of the same names say. Made by a program of this session after the kit's print. No conditions beyond the arguments' being read. -/
import Derived.Test.YtjniaiobnbdhhacSDampersNeeded0
import Derived.Test.YtjniaiobnbdhhacSDampersNeeded4
namespace Go.Proofs.Ytjniaiobnbdhhac.PFnExactDampersNeeded
open Go.RowKit Go.Proofs.YtjniaiobnbdhhacW.PrintWords Go.Proofs.YtjniaiobnbdhhacW.PrintLast Go.Proofs.YtjniaiobnbdhhacW.PrintMore
attribute [local go_sem] max2_int min2_int max_two min_two max_three min_three max_four min_four   -- for this text's walks alone
set_option linter.unusedVariables false
set_option linter.unusedSimpArgs false

/-! ### impl_AreStrikes: function 71 -/
def impl_AreStrikes.l0 : Nat → List (S97) → List (S97) → Int → Int → Option (Bool)
 | 0, _, _, _, _ => none
 | k + 1, x0, x5, x6, x7 => if x7 < x6 then (if 0 ≤ x7 then (if x7 < (x5.length : Int) then ((impl_isPitch.f ((rd_T97 x5 x7).f0)).bind fun t232 => (if t232 = true then (if ((rd_T97 x5 x7).f1) < 0 then (some false) else (if ((rd_T97 x5 x7).f1) > 2000 then (some false) else (if x7 > 0 then (if 0 ≤ (wrap64 (x7 - 1)) then (if (wrap64 (x7 - 1)) < (x0.length : Int) then (if ((rd_T97 x5 x7).f1) < ((rd_T97 x0 (wrap64 (x7 - 1))).f1) then (some false) else (impl_AreStrikes.l0 k x0 x5 x6 (wrap64 (x7 + 1)))) else (none)) else (none)) else (impl_AreStrikes.l0 k x0 x5 x6 (wrap64 (x7 + 1)))))) else (some false))) else (none)) else (none)) else (some (decide ((x0.length : Int) ≤ 40)))
def impl_AreStrikes.f (k : Nat) (l0 : List (S97)) : Option (Bool) := impl_AreStrikes.l0 k l0 l0 (l0.length : Int) 0
set_option maxHeartbeats 8000000 in
set_option maxRecDepth 100000 in
theorem impl_AreStrikes.calls (k : Nat) (A0 : Option Addr) (c0 : Nat) (l0 : List (S97)) (r : Bool) (w : World) (hr0 : Kd.C k97 w A0 l0.length l0) (hc0 : l0.length ≤ c0) (h : impl_AreStrikes.f k l0 = some r) :
  Calls Try.prog 71 #[.slice A0 l0.length c0] w fun e w' => e = .returned (.bool r) ∧ Below w.heap.size w w' := by
 have hu97 := Try.underlying97
 have HR0 := Aside0.mk hr0
 have HC0 := Aside0.mk hc0
 clear hr0 hc0
 have HB := Aside0.mk (Below.refl w.heap.size w)
 have H : (impl_AreStrikes.l0 k l0 l0 (l0.length : Int) 0) = some r := h
 clear h
 have H' := Aside0.mk H
 clear H
 go_enter Try.func71, Try.ntmps71
 go_wp2
 repeat (go_quiet (fail); try go_wp2)
 go_loopg [7] k (fun kq v7 w' => ∃ (x7_1 : Int), v7 = .int .i64 x7_1 ∧ Aside0 (impl_AreStrikes.l0 kq l0 l0 (l0.length : Int) x7_1 = some r) ∧ Aside0 (kq ≤ k) ∧ Aside0 (Below w.heap.size w w'))
 case atStart => exact ⟨(0), fin2, H', ⟨Nat.le_refl _⟩, ⟨bl⟩⟩
 case round =>
  clear H'
  obtain ⟨x7_1, rfl, HA, HK1, HB⟩ := hrel
  cases gk with
  | zero => exact absurd HA.out (by simp [impl_AreStrikes.l0])
  | succ k1 =>
   have H := HA.out
   clear HA
   simp only [impl_AreStrikes.l0] at H
   by_cases c2 : x7_1 < (l0.length : Int)
   ·rw [if_pos c2] at H
    have c2b0 : decide (x7_1 < (l0.length : Int)) = true := decide_eq_true c2
    clear c2
    by_cases c3 : 0 ≤ x7_1
    ·rw [if_pos c3] at H
     have c3b0 : decide (0 ≤ x7_1) = true := decide_eq_true c3
     clear c3
     by_cases c4 : x7_1 < (l0.length : Int)
     ·rw [if_pos c4] at H
      have c4b0 : decide (x7_1 < (l0.length : Int)) = true := decide_eq_true c4
      clear c4
      replace H := Option.bind_eq_some_iff.mp H
      obtain ⟨t232, A50, H⟩ := H
      replace H : (if t232 = true then (if ((rd_T97 l0 x7_1).f1) < 0 then (some false) else (if ((rd_T97 l0 x7_1).f1) > 2000 then (some false) else (if x7_1 > 0 then (if 0 ≤ (wrap64 (x7_1 - 1)) then (if (wrap64 (x7_1 - 1)) < (l0.length : Int) then (if ((rd_T97 l0 x7_1).f1) < ((rd_T97 l0 (wrap64 (x7_1 - 1))).f1) then (some false) else (impl_AreStrikes.l0 k1 l0 l0 (l0.length : Int) (wrap64 (x7_1 + 1)))) else (none)) else (none)) else (impl_AreStrikes.l0 k1 l0 l0 (l0.length : Int) (wrap64 (x7_1 + 1)))))) else (some false)) = some r := H
      have A5 := Aside0.mk A50
      clear A50
      by_cases c6 : t232 = true
      ·subst c6
       have H1 : (if ((rd_T97 l0 x7_1).f1) < 0 then (some false) else (if ((rd_T97 l0 x7_1).f1) > 2000 then (some false) else (if x7_1 > 0 then (if 0 ≤ (wrap64 (x7_1 - 1)) then (if (wrap64 (x7_1 - 1)) < (l0.length : Int) then (if ((rd_T97 l0 x7_1).f1) < ((rd_T97 l0 (wrap64 (x7_1 - 1))).f1) then (some false) else (impl_AreStrikes.l0 k1 l0 l0 (l0.length : Int) (wrap64 (x7_1 + 1)))) else (none)) else (none)) else (impl_AreStrikes.l0 k1 l0 l0 (l0.length : Int) (wrap64 (x7_1 + 1)))))) = some r := by rw [if_pos rfl] at H; exact H
       clear H
       have H := H1
       clear H1
       by_cases c7 : ((rd_T97 l0 x7_1).f1) < 0
       ·rw [if_pos c7] at H
        have c7b0 : decide (((rd_T97 l0 x7_1).f1) < 0) = true := decide_eq_true c7
        clear c7
        obtain rfl := Option.some.inj H
        have p230 : 0 ≤ (x7_1 : Int) := od
        have q230 : x7_1 < (l0.length : Int) := od
        obtain ⟨ad230, e230, hx230_0, hx230_1⟩ := at_T97 HR0.out x7_1 p230 q230
        cases e230
        replace hx230_0 := (HB.out.cell (World.block_lt_of_cell? w _ hx230_0)).trans hx230_0
        replace hx230_1 := (HB.out.cell (World.block_lt_of_cell? w _ hx230_1)).trans hx230_1
        replace p230 := eq_true p230
        replace q230 := eq_true q230
        go_wp2_with (first | ((with_reducible refine gate_dst (N := 4) rfl ?_); refine box_event ?hg (N := 4) ?hd (cs := #[.int .i64 0, .int .i64 0]) (t := 97) ?hr ?_; (case hd => rfl); (case hg => rfl); (case hr => first | (go_simp; done) | (go_simp; rfl)); intro gb231 hg w8 hbox hb; have n0_ := Aside0.mk (below_step bl hb); have n1_ := Aside0.mk (hbox); have n2_ := Aside0.mk ((by rw [hg]; exact (below_size bl) : w.heap.size ≤ gb231)); have n3_ := Aside0.mk ((by rw [hg]; exact (below_size bl) : w.heap.size ≤ gb231)); clear HB; have HB := n0_; have BK231 := n1_; have GW231 := n2_; have GE231 := n3_; clear n0_ n1_ n2_ n3_; clear hb hbox hg; have hcz9_0 : w8.cell? ⟨gb231, 0, none⟩ = some (.int .i64 0) := (blk_cell BK231.out 0).trans rfl; have hcz9_1 : w8.cell? ⟨gb231, 1, none⟩ = some (.int .i64 0) := (blk_cell BK231.out 1).trans rfl; have hfz9_0 := blk_frozen BK231.out 0; have hfz9_1 := blk_frozen BK231.out 1) | (go_at_call 106; (with_reducible refine (impl_isPitch.calls ((rd_T97 l0 x7_1).f0) true _ A5.out).mono ?_); rintro e w' ⟨rfl, ⟨nd, rfl⟩⟩; (try first | exact ⟨rfl, _, World.drewN_drewN _ _ _⟩ | exact ⟨rfl, _, Eq.trans (World.drewN_drewN _ _ _) (congrArg (World.drewN _) (Nat.add_assoc _ _ _))⟩)))
        repeat (go_quiet (first | ((with_reducible refine gate_dst (N := 4) rfl ?_); refine box_event ?hg (N := 4) ?hd (cs := #[.int .i64 0, .int .i64 0]) (t := 97) ?hr ?_; (case hd => rfl); (case hg => rfl); (case hr => first | (go_simp; done) | (go_simp; rfl)); intro gb231 hg w8 hbox hb; have n0_ := Aside0.mk (below_step bl hb); have n1_ := Aside0.mk (hbox); have n2_ := Aside0.mk ((by rw [hg]; exact (below_size bl) : w.heap.size ≤ gb231)); have n3_ := Aside0.mk ((by rw [hg]; exact (below_size bl) : w.heap.size ≤ gb231)); clear HB; have HB := n0_; have BK231 := n1_; have GW231 := n2_; have GE231 := n3_; clear n0_ n1_ n2_ n3_; clear hb hbox hg; have hcz9_0 : w8.cell? ⟨gb231, 0, none⟩ = some (.int .i64 0) := (blk_cell BK231.out 0).trans rfl; have hcz9_1 : w8.cell? ⟨gb231, 1, none⟩ = some (.int .i64 0) := (blk_cell BK231.out 1).trans rfl; have hfz9_0 := blk_frozen BK231.out 0; have hfz9_1 := blk_frozen BK231.out 1) | (go_at_call 106; (with_reducible refine (impl_isPitch.calls ((rd_T97 l0 x7_1).f0) true _ A5.out).mono ?_); rintro e w' ⟨rfl, ⟨nd, rfl⟩⟩; (try first | exact ⟨rfl, _, World.drewN_drewN _ _ _⟩ | exact ⟨rfl, _, Eq.trans (World.drewN_drewN _ _ _) (congrArg (World.drewN _) (Nat.add_assoc _ _ _))⟩))); try go_wp2_with (first | ((with_reducible refine gate_dst (N := 4) rfl ?_); refine box_event ?hg (N := 4) ?hd (cs := #[.int .i64 0, .int .i64 0]) (t := 97) ?hr ?_; (case hd => rfl); (case hg => rfl); (case hr => first | (go_simp; done) | (go_simp; rfl)); intro gb231 hg w8 hbox hb; have n0_ := Aside0.mk (below_step bl hb); have n1_ := Aside0.mk (hbox); have n2_ := Aside0.mk ((by rw [hg]; exact (below_size bl) : w.heap.size ≤ gb231)); have n3_ := Aside0.mk ((by rw [hg]; exact (below_size bl) : w.heap.size ≤ gb231)); clear HB; have HB := n0_; have BK231 := n1_; have GW231 := n2_; have GE231 := n3_; clear n0_ n1_ n2_ n3_; clear hb hbox hg; have hcz9_0 : w8.cell? ⟨gb231, 0, none⟩ = some (.int .i64 0) := (blk_cell BK231.out 0).trans rfl; have hcz9_1 : w8.cell? ⟨gb231, 1, none⟩ = some (.int .i64 0) := (blk_cell BK231.out 1).trans rfl; have hfz9_0 := blk_frozen BK231.out 0; have hfz9_1 := blk_frozen BK231.out 1) | (go_at_call 106; (with_reducible refine (impl_isPitch.calls ((rd_T97 l0 x7_1).f0) true _ A5.out).mono ?_); rintro e w' ⟨rfl, ⟨nd, rfl⟩⟩; (try first | exact ⟨rfl, _, World.drewN_drewN _ _ _⟩ | exact ⟨rfl, _, Eq.trans (World.drewN_drewN _ _ _) (congrArg (World.drewN _) (Nat.add_assoc _ _ _))⟩))))
        go_ret
        exact ⟨fin1, bl⟩
       ·rw [if_neg c7] at H
        have c7b0 : decide (((rd_T97 l0 x7_1).f1) < 0) = false := decide_eq_false c7
        clear c7
        by_cases c10 : ((rd_T97 l0 x7_1).f1) > 2000
        ·rw [if_pos c10] at H
         have c10b0 : decide (2000 < ((rd_T97 l0 x7_1).f1)) = true := decide_eq_true c10
         clear c10
         obtain rfl := Option.some.inj H
         have p230 : 0 ≤ (x7_1 : Int) := od
         have q230 : x7_1 < (l0.length : Int) := od
         obtain ⟨ad230, e230, hx230_0, hx230_1⟩ := at_T97 HR0.out x7_1 p230 q230
         cases e230
         replace hx230_0 := (HB.out.cell (World.block_lt_of_cell? w _ hx230_0)).trans hx230_0
         replace hx230_1 := (HB.out.cell (World.block_lt_of_cell? w _ hx230_1)).trans hx230_1
         replace p230 := eq_true p230
         replace q230 := eq_true q230
         go_wp2_with (first | ((with_reducible refine gate_dst (N := 4) rfl ?_); refine box_event ?hg (N := 4) ?hd (cs := #[.int .i64 0, .int .i64 0]) (t := 97) ?hr ?_; (case hd => rfl); (case hg => rfl); (case hr => first | (go_simp; done) | (go_simp; rfl)); intro gb231 hg w11 hbox hb; have n0_ := Aside0.mk (below_step bl hb); have n1_ := Aside0.mk (hbox); have n2_ := Aside0.mk ((by rw [hg]; exact (below_size bl) : w.heap.size ≤ gb231)); have n3_ := Aside0.mk ((by rw [hg]; exact (below_size bl) : w.heap.size ≤ gb231)); clear HB; have HB := n0_; have BK231 := n1_; have GW231 := n2_; have GE231 := n3_; clear n0_ n1_ n2_ n3_; clear hb hbox hg; have hcz12_0 : w11.cell? ⟨gb231, 0, none⟩ = some (.int .i64 0) := (blk_cell BK231.out 0).trans rfl; have hcz12_1 : w11.cell? ⟨gb231, 1, none⟩ = some (.int .i64 0) := (blk_cell BK231.out 1).trans rfl; have hfz12_0 := blk_frozen BK231.out 0; have hfz12_1 := blk_frozen BK231.out 1) | (go_at_call 106; (with_reducible refine (impl_isPitch.calls ((rd_T97 l0 x7_1).f0) true _ A5.out).mono ?_); rintro e w' ⟨rfl, ⟨nd, rfl⟩⟩; (try first | exact ⟨rfl, _, World.drewN_drewN _ _ _⟩ | exact ⟨rfl, _, Eq.trans (World.drewN_drewN _ _ _) (congrArg (World.drewN _) (Nat.add_assoc _ _ _))⟩)))
         repeat (go_quiet (first | ((with_reducible refine gate_dst (N := 4) rfl ?_); refine box_event ?hg (N := 4) ?hd (cs := #[.int .i64 0, .int .i64 0]) (t := 97) ?hr ?_; (case hd => rfl); (case hg => rfl); (case hr => first | (go_simp; done) | (go_simp; rfl)); intro gb231 hg w11 hbox hb; have n0_ := Aside0.mk (below_step bl hb); have n1_ := Aside0.mk (hbox); have n2_ := Aside0.mk ((by rw [hg]; exact (below_size bl) : w.heap.size ≤ gb231)); have n3_ := Aside0.mk ((by rw [hg]; exact (below_size bl) : w.heap.size ≤ gb231)); clear HB; have HB := n0_; have BK231 := n1_; have GW231 := n2_; have GE231 := n3_; clear n0_ n1_ n2_ n3_; clear hb hbox hg; have hcz12_0 : w11.cell? ⟨gb231, 0, none⟩ = some (.int .i64 0) := (blk_cell BK231.out 0).trans rfl; have hcz12_1 : w11.cell? ⟨gb231, 1, none⟩ = some (.int .i64 0) := (blk_cell BK231.out 1).trans rfl; have hfz12_0 := blk_frozen BK231.out 0; have hfz12_1 := blk_frozen BK231.out 1) | (go_at_call 106; (with_reducible refine (impl_isPitch.calls ((rd_T97 l0 x7_1).f0) true _ A5.out).mono ?_); rintro e w' ⟨rfl, ⟨nd, rfl⟩⟩; (try first | exact ⟨rfl, _, World.drewN_drewN _ _ _⟩ | exact ⟨rfl, _, Eq.trans (World.drewN_drewN _ _ _) (congrArg (World.drewN _) (Nat.add_assoc _ _ _))⟩))); try go_wp2_with (first | ((with_reducible refine gate_dst (N := 4) rfl ?_); refine box_event ?hg (N := 4) ?hd (cs := #[.int .i64 0, .int .i64 0]) (t := 97) ?hr ?_; (case hd => rfl); (case hg => rfl); (case hr => first | (go_simp; done) | (go_simp; rfl)); intro gb231 hg w11 hbox hb; have n0_ := Aside0.mk (below_step bl hb); have n1_ := Aside0.mk (hbox); have n2_ := Aside0.mk ((by rw [hg]; exact (below_size bl) : w.heap.size ≤ gb231)); have n3_ := Aside0.mk ((by rw [hg]; exact (below_size bl) : w.heap.size ≤ gb231)); clear HB; have HB := n0_; have BK231 := n1_; have GW231 := n2_; have GE231 := n3_; clear n0_ n1_ n2_ n3_; clear hb hbox hg; have hcz12_0 : w11.cell? ⟨gb231, 0, none⟩ = some (.int .i64 0) := (blk_cell BK231.out 0).trans rfl; have hcz12_1 : w11.cell? ⟨gb231, 1, none⟩ = some (.int .i64 0) := (blk_cell BK231.out 1).trans rfl; have hfz12_0 := blk_frozen BK231.out 0; have hfz12_1 := blk_frozen BK231.out 1) | (go_at_call 106; (with_reducible refine (impl_isPitch.calls ((rd_T97 l0 x7_1).f0) true _ A5.out).mono ?_); rintro e w' ⟨rfl, ⟨nd, rfl⟩⟩; (try first | exact ⟨rfl, _, World.drewN_drewN _ _ _⟩ | exact ⟨rfl, _, Eq.trans (World.drewN_drewN _ _ _) (congrArg (World.drewN _) (Nat.add_assoc _ _ _))⟩))))
         go_ret
         exact ⟨fin1, bl⟩
        ·rw [if_neg c10] at H
         have c10b0 : decide (2000 < ((rd_T97 l0 x7_1).f1)) = false := decide_eq_false c10
         clear c10
         by_cases c13 : x7_1 > 0
         ·rw [if_pos c13] at H
          have c13b0 : decide (0 < x7_1) = true := decide_eq_true c13
          clear c13
          obtain ⟨ji14, hji14⟩ : ∃ j_ : Int, (wrap64 (x7_1 - 1)) = j_ := ⟨_, rfl⟩
          replace H : (if 0 ≤ (ji14) then (if (ji14) < (l0.length : Int) then (if ((rd_T97 l0 x7_1).f1) < ((rd_T97 l0 (ji14)).f1) then (some false) else (impl_AreStrikes.l0 k1 l0 l0 (l0.length : Int) (wrap64 (x7_1 + 1)))) else (none)) else (none)) = some r := by first | (rw [hji14] at H; exact H) | (simp only [hji14] at H ⊢; exact H)
          (try rw [hji14] at A5)
          have hji14w : (IntKind.i64.wrap (x7_1 - 1)) = ji14 := (i64_w _).trans hji14
          by_cases c15 : 0 ≤ (ji14)
          ·rw [if_pos c15] at H
           have c15b0 : decide (0 ≤ (ji14)) = true := decide_eq_true c15
           clear c15
           by_cases c16 : (ji14) < (l0.length : Int)
           ·rw [if_pos c16] at H
            have c16b0 : decide ((ji14) < (l0.length : Int)) = true := decide_eq_true c16
            clear c16
            by_cases c17 : ((rd_T97 l0 x7_1).f1) < ((rd_T97 l0 (ji14)).f1)
            ·rw [if_pos c17] at H
             have c17b0 : decide (((rd_T97 l0 x7_1).f1) < ((rd_T97 l0 (ji14)).f1)) = true := decide_eq_true c17
             clear c17
             obtain rfl := Option.some.inj H
             have p230 : 0 ≤ (x7_1 : Int) := od
             have q230 : x7_1 < (l0.length : Int) := od
             obtain ⟨ad230, e230, hx230_0, hx230_1⟩ := at_T97 HR0.out x7_1 p230 q230
             cases e230
             replace hx230_0 := (HB.out.cell (World.block_lt_of_cell? w _ hx230_0)).trans hx230_0
             replace hx230_1 := (HB.out.cell (World.block_lt_of_cell? w _ hx230_1)).trans hx230_1
             replace p230 := eq_true p230
             replace q230 := eq_true q230
             go_wp2_with (first | ((with_reducible refine gate_dst (N := 4) rfl ?_); refine box_event ?hg (N := 4) ?hd (cs := #[.int .i64 0, .int .i64 0]) (t := 97) ?hr ?_; (case hd => rfl); (case hg => rfl); (case hr => first | (go_simp; done) | (go_simp; rfl)); intro gb231 hg w18 hbox hb; have n0_ := Aside0.mk (below_step bl hb); have n1_ := Aside0.mk (hbox); have n2_ := Aside0.mk ((by rw [hg]; exact (below_size bl) : w.heap.size ≤ gb231)); have n3_ := Aside0.mk ((by rw [hg]; exact (below_size bl) : w.heap.size ≤ gb231)); clear HB; have HB := n0_; have BK231 := n1_; have GW231 := n2_; have GE231 := n3_; clear n0_ n1_ n2_ n3_; clear hb hbox hg; have hcz19_0 : w18.cell? ⟨gb231, 0, none⟩ = some (.int .i64 0) := (blk_cell BK231.out 0).trans rfl; have hcz19_1 : w18.cell? ⟨gb231, 1, none⟩ = some (.int .i64 0) := (blk_cell BK231.out 1).trans rfl; have hfz19_0 := blk_frozen BK231.out 0; have hfz19_1 := blk_frozen BK231.out 1) | (go_at_call 106; (with_reducible refine (impl_isPitch.calls ((rd_T97 l0 x7_1).f0) true _ A5.out).mono ?_); rintro e w' ⟨rfl, ⟨nd, rfl⟩⟩; (try first | exact ⟨rfl, _, World.drewN_drewN _ _ _⟩ | exact ⟨rfl, _, Eq.trans (World.drewN_drewN _ _ _) (congrArg (World.drewN _) (Nat.add_assoc _ _ _))⟩); have p233 : 0 ≤ ((ji14) : Int) := od; have q233 : (ji14) < (l0.length : Int) := od; obtain ⟨ad233, e233, hx233_0, hx233_1⟩ := at_T97 HR0.out (ji14) p233 q233; obtain rfl : ad230 = ad233 := (by injection e233); have hn233_0 : ad230.block ≠ gb231 := Nat.ne_of_lt (Nat.lt_of_lt_of_le (by have := World.block_lt_of_cell? _ _ hx233_0; first | rwa [add_block] at this | exact this) GW231.out); have hn233_1 : ad230.block ≠ gb231 := Nat.ne_of_lt (Nat.lt_of_lt_of_le (by have := World.block_lt_of_cell? _ _ hx233_0; first | rwa [add_block] at this | exact this) GW231.out); replace hx233_0 := (HB.out.cell (World.block_lt_of_cell? w _ hx233_0)).trans hx233_0; replace hx233_1 := (HB.out.cell (World.block_lt_of_cell? w _ hx233_1)).trans hx233_1; replace hx233_0 := (cell_far (p := ⟨gb231, 0, none⟩) (by first | (rw [add_block]; exact hn233_0) | (show (Addr.add _ _).block ≠ _; rw [add_block]; exact hn233_0) | exact hn233_0) (.int .i64 ((rd_T97 l0 x7_1).f0))).trans hx233_0; replace hx233_1 := (cell_far (p := ⟨gb231, 0, none⟩) (by first | (rw [add_block]; exact hn233_0) | (show (Addr.add _ _).block ≠ _; rw [add_block]; exact hn233_0) | exact hn233_0) (.int .i64 ((rd_T97 l0 x7_1).f0))).trans hx233_1; replace hx233_0 := (cell_far (p := ⟨gb231, 1, none⟩) (by first | (rw [add_block]; exact hn233_1) | (show (Addr.add _ _).block ≠ _; rw [add_block]; exact hn233_1) | exact hn233_1) (.int .i64 ((rd_T97 l0 x7_1).f1))).trans hx233_0; replace hx233_1 := (cell_far (p := ⟨gb231, 1, none⟩) (by first | (rw [add_block]; exact hn233_1) | (show (Addr.add _ _).block ≠ _; rw [add_block]; exact hn233_1) | exact hn233_1) (.int .i64 ((rd_T97 l0 x7_1).f1))).trans hx233_1; (try have hy233_0 := fun (n_ : Nat) => (show ((((w18.drewN n_).setCell ⟨gb231, 0, none⟩ (.int .i64 ((rd_T97 l0 x7_1).f0))).setCell ⟨gb231, 1, none⟩ (.int .i64 ((rd_T97 l0 x7_1).f1)))).cell? _ = some _ from hx233_0)); (try have hy233_1 := fun (n_ : Nat) => (show ((((w18.drewN n_).setCell ⟨gb231, 0, none⟩ (.int .i64 ((rd_T97 l0 x7_1).f0))).setCell ⟨gb231, 1, none⟩ (.int .i64 ((rd_T97 l0 x7_1).f1)))).cell? _ = some _ from hx233_1)); clear hn233_0; clear hn233_1; replace p233 := eq_true p233; replace q233 := eq_true q233))
             repeat (go_quiet (first | ((with_reducible refine gate_dst (N := 4) rfl ?_); refine box_event ?hg (N := 4) ?hd (cs := #[.int .i64 0, .int .i64 0]) (t := 97) ?hr ?_; (case hd => rfl); (case hg => rfl); (case hr => first | (go_simp; done) | (go_simp; rfl)); intro gb231 hg w18 hbox hb; have n0_ := Aside0.mk (below_step bl hb); have n1_ := Aside0.mk (hbox); have n2_ := Aside0.mk ((by rw [hg]; exact (below_size bl) : w.heap.size ≤ gb231)); have n3_ := Aside0.mk ((by rw [hg]; exact (below_size bl) : w.heap.size ≤ gb231)); clear HB; have HB := n0_; have BK231 := n1_; have GW231 := n2_; have GE231 := n3_; clear n0_ n1_ n2_ n3_; clear hb hbox hg; have hcz19_0 : w18.cell? ⟨gb231, 0, none⟩ = some (.int .i64 0) := (blk_cell BK231.out 0).trans rfl; have hcz19_1 : w18.cell? ⟨gb231, 1, none⟩ = some (.int .i64 0) := (blk_cell BK231.out 1).trans rfl; have hfz19_0 := blk_frozen BK231.out 0; have hfz19_1 := blk_frozen BK231.out 1) | (go_at_call 106; (with_reducible refine (impl_isPitch.calls ((rd_T97 l0 x7_1).f0) true _ A5.out).mono ?_); rintro e w' ⟨rfl, ⟨nd, rfl⟩⟩; (try first | exact ⟨rfl, _, World.drewN_drewN _ _ _⟩ | exact ⟨rfl, _, Eq.trans (World.drewN_drewN _ _ _) (congrArg (World.drewN _) (Nat.add_assoc _ _ _))⟩); have p233 : 0 ≤ ((ji14) : Int) := od; have q233 : (ji14) < (l0.length : Int) := od; obtain ⟨ad233, e233, hx233_0, hx233_1⟩ := at_T97 HR0.out (ji14) p233 q233; obtain rfl : ad230 = ad233 := (by injection e233); have hn233_0 : ad230.block ≠ gb231 := Nat.ne_of_lt (Nat.lt_of_lt_of_le (by have := World.block_lt_of_cell? _ _ hx233_0; first | rwa [add_block] at this | exact this) GW231.out); have hn233_1 : ad230.block ≠ gb231 := Nat.ne_of_lt (Nat.lt_of_lt_of_le (by have := World.block_lt_of_cell? _ _ hx233_0; first | rwa [add_block] at this | exact this) GW231.out); replace hx233_0 := (HB.out.cell (World.block_lt_of_cell? w _ hx233_0)).trans hx233_0; replace hx233_1 := (HB.out.cell (World.block_lt_of_cell? w _ hx233_1)).trans hx233_1; replace hx233_0 := (cell_far (p := ⟨gb231, 0, none⟩) (by first | (rw [add_block]; exact hn233_0) | (show (Addr.add _ _).block ≠ _; rw [add_block]; exact hn233_0) | exact hn233_0) (.int .i64 ((rd_T97 l0 x7_1).f0))).trans hx233_0; replace hx233_1 := (cell_far (p := ⟨gb231, 0, none⟩) (by first | (rw [add_block]; exact hn233_0) | (show (Addr.add _ _).block ≠ _; rw [add_block]; exact hn233_0) | exact hn233_0) (.int .i64 ((rd_T97 l0 x7_1).f0))).trans hx233_1; replace hx233_0 := (cell_far (p := ⟨gb231, 1, none⟩) (by first | (rw [add_block]; exact hn233_1) | (show (Addr.add _ _).block ≠ _; rw [add_block]; exact hn233_1) | exact hn233_1) (.int .i64 ((rd_T97 l0 x7_1).f1))).trans hx233_0; replace hx233_1 := (cell_far (p := ⟨gb231, 1, none⟩) (by first | (rw [add_block]; exact hn233_1) | (show (Addr.add _ _).block ≠ _; rw [add_block]; exact hn233_1) | exact hn233_1) (.int .i64 ((rd_T97 l0 x7_1).f1))).trans hx233_1; (try have hy233_0 := fun (n_ : Nat) => (show ((((w18.drewN n_).setCell ⟨gb231, 0, none⟩ (.int .i64 ((rd_T97 l0 x7_1).f0))).setCell ⟨gb231, 1, none⟩ (.int .i64 ((rd_T97 l0 x7_1).f1)))).cell? _ = some _ from hx233_0)); (try have hy233_1 := fun (n_ : Nat) => (show ((((w18.drewN n_).setCell ⟨gb231, 0, none⟩ (.int .i64 ((rd_T97 l0 x7_1).f0))).setCell ⟨gb231, 1, none⟩ (.int .i64 ((rd_T97 l0 x7_1).f1)))).cell? _ = some _ from hx233_1)); clear hn233_0; clear hn233_1; replace p233 := eq_true p233; replace q233 := eq_true q233)); try go_wp2_with (first | ((with_reducible refine gate_dst (N := 4) rfl ?_); refine box_event ?hg (N := 4) ?hd (cs := #[.int .i64 0, .int .i64 0]) (t := 97) ?hr ?_; (case hd => rfl); (case hg => rfl); (case hr => first | (go_simp; done) | (go_simp; rfl)); intro gb231 hg w18 hbox hb; have n0_ := Aside0.mk (below_step bl hb); have n1_ := Aside0.mk (hbox); have n2_ := Aside0.mk ((by rw [hg]; exact (below_size bl) : w.heap.size ≤ gb231)); have n3_ := Aside0.mk ((by rw [hg]; exact (below_size bl) : w.heap.size ≤ gb231)); clear HB; have HB := n0_; have BK231 := n1_; have GW231 := n2_; have GE231 := n3_; clear n0_ n1_ n2_ n3_; clear hb hbox hg; have hcz19_0 : w18.cell? ⟨gb231, 0, none⟩ = some (.int .i64 0) := (blk_cell BK231.out 0).trans rfl; have hcz19_1 : w18.cell? ⟨gb231, 1, none⟩ = some (.int .i64 0) := (blk_cell BK231.out 1).trans rfl; have hfz19_0 := blk_frozen BK231.out 0; have hfz19_1 := blk_frozen BK231.out 1) | (go_at_call 106; (with_reducible refine (impl_isPitch.calls ((rd_T97 l0 x7_1).f0) true _ A5.out).mono ?_); rintro e w' ⟨rfl, ⟨nd, rfl⟩⟩; (try first | exact ⟨rfl, _, World.drewN_drewN _ _ _⟩ | exact ⟨rfl, _, Eq.trans (World.drewN_drewN _ _ _) (congrArg (World.drewN _) (Nat.add_assoc _ _ _))⟩); have p233 : 0 ≤ ((ji14) : Int) := od; have q233 : (ji14) < (l0.length : Int) := od; obtain ⟨ad233, e233, hx233_0, hx233_1⟩ := at_T97 HR0.out (ji14) p233 q233; obtain rfl : ad230 = ad233 := (by injection e233); have hn233_0 : ad230.block ≠ gb231 := Nat.ne_of_lt (Nat.lt_of_lt_of_le (by have := World.block_lt_of_cell? _ _ hx233_0; first | rwa [add_block] at this | exact this) GW231.out); have hn233_1 : ad230.block ≠ gb231 := Nat.ne_of_lt (Nat.lt_of_lt_of_le (by have := World.block_lt_of_cell? _ _ hx233_0; first | rwa [add_block] at this | exact this) GW231.out); replace hx233_0 := (HB.out.cell (World.block_lt_of_cell? w _ hx233_0)).trans hx233_0; replace hx233_1 := (HB.out.cell (World.block_lt_of_cell? w _ hx233_1)).trans hx233_1; replace hx233_0 := (cell_far (p := ⟨gb231, 0, none⟩) (by first | (rw [add_block]; exact hn233_0) | (show (Addr.add _ _).block ≠ _; rw [add_block]; exact hn233_0) | exact hn233_0) (.int .i64 ((rd_T97 l0 x7_1).f0))).trans hx233_0; replace hx233_1 := (cell_far (p := ⟨gb231, 0, none⟩) (by first | (rw [add_block]; exact hn233_0) | (show (Addr.add _ _).block ≠ _; rw [add_block]; exact hn233_0) | exact hn233_0) (.int .i64 ((rd_T97 l0 x7_1).f0))).trans hx233_1; replace hx233_0 := (cell_far (p := ⟨gb231, 1, none⟩) (by first | (rw [add_block]; exact hn233_1) | (show (Addr.add _ _).block ≠ _; rw [add_block]; exact hn233_1) | exact hn233_1) (.int .i64 ((rd_T97 l0 x7_1).f1))).trans hx233_0; replace hx233_1 := (cell_far (p := ⟨gb231, 1, none⟩) (by first | (rw [add_block]; exact hn233_1) | (show (Addr.add _ _).block ≠ _; rw [add_block]; exact hn233_1) | exact hn233_1) (.int .i64 ((rd_T97 l0 x7_1).f1))).trans hx233_1; (try have hy233_0 := fun (n_ : Nat) => (show ((((w18.drewN n_).setCell ⟨gb231, 0, none⟩ (.int .i64 ((rd_T97 l0 x7_1).f0))).setCell ⟨gb231, 1, none⟩ (.int .i64 ((rd_T97 l0 x7_1).f1)))).cell? _ = some _ from hx233_0)); (try have hy233_1 := fun (n_ : Nat) => (show ((((w18.drewN n_).setCell ⟨gb231, 0, none⟩ (.int .i64 ((rd_T97 l0 x7_1).f0))).setCell ⟨gb231, 1, none⟩ (.int .i64 ((rd_T97 l0 x7_1).f1)))).cell? _ = some _ from hx233_1)); clear hn233_0; clear hn233_1; replace p233 := eq_true p233; replace q233 := eq_true q233)))
             go_ret
             exact ⟨by first | rfl | (simp [errW_none, errW_some] <;> rfl) | (simp only [← hji14]; first | rfl | (simp [errW_none, errW_some] <;> rfl)) | (simp [*, errW_none, errW_some] <;> rfl), bl⟩
            ·rw [if_neg c17] at H
             have c17b0 : decide (((rd_T97 l0 x7_1).f1) < ((rd_T97 l0 (ji14)).f1)) = false := decide_eq_false c17
             clear c17
             have H' := Aside0.mk H
             clear H
             have p230 : 0 ≤ (x7_1 : Int) := od
             have q230 : x7_1 < (l0.length : Int) := od
             obtain ⟨ad230, e230, hx230_0, hx230_1⟩ := at_T97 HR0.out x7_1 p230 q230
             cases e230
             replace hx230_0 := (HB.out.cell (World.block_lt_of_cell? w _ hx230_0)).trans hx230_0
             replace hx230_1 := (HB.out.cell (World.block_lt_of_cell? w _ hx230_1)).trans hx230_1
             replace p230 := eq_true p230
             replace q230 := eq_true q230
             go_wp2_with (first | ((with_reducible refine gate_dst (N := 4) rfl ?_); refine box_event ?hg (N := 4) ?hd (cs := #[.int .i64 0, .int .i64 0]) (t := 97) ?hr ?_; (case hd => rfl); (case hg => rfl); (case hr => first | (go_simp; done) | (go_simp; rfl)); intro gb231 hg w20 hbox hb; have n0_ := Aside0.mk (below_step bl hb); have n1_ := Aside0.mk (hbox); have n2_ := Aside0.mk ((by rw [hg]; exact (below_size bl) : w.heap.size ≤ gb231)); have n3_ := Aside0.mk ((by rw [hg]; exact (below_size bl) : w.heap.size ≤ gb231)); clear HB; have HB := n0_; have BK231 := n1_; have GW231 := n2_; have GE231 := n3_; clear n0_ n1_ n2_ n3_; clear hb hbox hg; have hcz21_0 : w20.cell? ⟨gb231, 0, none⟩ = some (.int .i64 0) := (blk_cell BK231.out 0).trans rfl; have hcz21_1 : w20.cell? ⟨gb231, 1, none⟩ = some (.int .i64 0) := (blk_cell BK231.out 1).trans rfl; have hfz21_0 := blk_frozen BK231.out 0; have hfz21_1 := blk_frozen BK231.out 1) | (go_at_call 106; (with_reducible refine (impl_isPitch.calls ((rd_T97 l0 x7_1).f0) true _ A5.out).mono ?_); rintro e w' ⟨rfl, ⟨nd, rfl⟩⟩; (try first | exact ⟨rfl, _, World.drewN_drewN _ _ _⟩ | exact ⟨rfl, _, Eq.trans (World.drewN_drewN _ _ _) (congrArg (World.drewN _) (Nat.add_assoc _ _ _))⟩); have p233 : 0 ≤ ((ji14) : Int) := od; have q233 : (ji14) < (l0.length : Int) := od; obtain ⟨ad233, e233, hx233_0, hx233_1⟩ := at_T97 HR0.out (ji14) p233 q233; obtain rfl : ad230 = ad233 := (by injection e233); have hn233_0 : ad230.block ≠ gb231 := Nat.ne_of_lt (Nat.lt_of_lt_of_le (by have := World.block_lt_of_cell? _ _ hx233_0; first | rwa [add_block] at this | exact this) GW231.out); have hn233_1 : ad230.block ≠ gb231 := Nat.ne_of_lt (Nat.lt_of_lt_of_le (by have := World.block_lt_of_cell? _ _ hx233_0; first | rwa [add_block] at this | exact this) GW231.out); replace hx233_0 := (HB.out.cell (World.block_lt_of_cell? w _ hx233_0)).trans hx233_0; replace hx233_1 := (HB.out.cell (World.block_lt_of_cell? w _ hx233_1)).trans hx233_1; replace hx233_0 := (cell_far (p := ⟨gb231, 0, none⟩) (by first | (rw [add_block]; exact hn233_0) | (show (Addr.add _ _).block ≠ _; rw [add_block]; exact hn233_0) | exact hn233_0) (.int .i64 ((rd_T97 l0 x7_1).f0))).trans hx233_0; replace hx233_1 := (cell_far (p := ⟨gb231, 0, none⟩) (by first | (rw [add_block]; exact hn233_0) | (show (Addr.add _ _).block ≠ _; rw [add_block]; exact hn233_0) | exact hn233_0) (.int .i64 ((rd_T97 l0 x7_1).f0))).trans hx233_1; replace hx233_0 := (cell_far (p := ⟨gb231, 1, none⟩) (by first | (rw [add_block]; exact hn233_1) | (show (Addr.add _ _).block ≠ _; rw [add_block]; exact hn233_1) | exact hn233_1) (.int .i64 ((rd_T97 l0 x7_1).f1))).trans hx233_0; replace hx233_1 := (cell_far (p := ⟨gb231, 1, none⟩) (by first | (rw [add_block]; exact hn233_1) | (show (Addr.add _ _).block ≠ _; rw [add_block]; exact hn233_1) | exact hn233_1) (.int .i64 ((rd_T97 l0 x7_1).f1))).trans hx233_1; (try have hy233_0 := fun (n_ : Nat) => (show ((((w20.drewN n_).setCell ⟨gb231, 0, none⟩ (.int .i64 ((rd_T97 l0 x7_1).f0))).setCell ⟨gb231, 1, none⟩ (.int .i64 ((rd_T97 l0 x7_1).f1)))).cell? _ = some _ from hx233_0)); (try have hy233_1 := fun (n_ : Nat) => (show ((((w20.drewN n_).setCell ⟨gb231, 0, none⟩ (.int .i64 ((rd_T97 l0 x7_1).f0))).setCell ⟨gb231, 1, none⟩ (.int .i64 ((rd_T97 l0 x7_1).f1)))).cell? _ = some _ from hx233_1)); clear hn233_0; clear hn233_1; replace p233 := eq_true p233; replace q233 := eq_true q233))
             repeat (go_quiet (first | ((with_reducible refine gate_dst (N := 4) rfl ?_); refine box_event ?hg (N := 4) ?hd (cs := #[.int .i64 0, .int .i64 0]) (t := 97) ?hr ?_; (case hd => rfl); (case hg => rfl); (case hr => first | (go_simp; done) | (go_simp; rfl)); intro gb231 hg w20 hbox hb; have n0_ := Aside0.mk (below_step bl hb); have n1_ := Aside0.mk (hbox); have n2_ := Aside0.mk ((by rw [hg]; exact (below_size bl) : w.heap.size ≤ gb231)); have n3_ := Aside0.mk ((by rw [hg]; exact (below_size bl) : w.heap.size ≤ gb231)); clear HB; have HB := n0_; have BK231 := n1_; have GW231 := n2_; have GE231 := n3_; clear n0_ n1_ n2_ n3_; clear hb hbox hg; have hcz21_0 : w20.cell? ⟨gb231, 0, none⟩ = some (.int .i64 0) := (blk_cell BK231.out 0).trans rfl; have hcz21_1 : w20.cell? ⟨gb231, 1, none⟩ = some (.int .i64 0) := (blk_cell BK231.out 1).trans rfl; have hfz21_0 := blk_frozen BK231.out 0; have hfz21_1 := blk_frozen BK231.out 1) | (go_at_call 106; (with_reducible refine (impl_isPitch.calls ((rd_T97 l0 x7_1).f0) true _ A5.out).mono ?_); rintro e w' ⟨rfl, ⟨nd, rfl⟩⟩; (try first | exact ⟨rfl, _, World.drewN_drewN _ _ _⟩ | exact ⟨rfl, _, Eq.trans (World.drewN_drewN _ _ _) (congrArg (World.drewN _) (Nat.add_assoc _ _ _))⟩); have p233 : 0 ≤ ((ji14) : Int) := od; have q233 : (ji14) < (l0.length : Int) := od; obtain ⟨ad233, e233, hx233_0, hx233_1⟩ := at_T97 HR0.out (ji14) p233 q233; obtain rfl : ad230 = ad233 := (by injection e233); have hn233_0 : ad230.block ≠ gb231 := Nat.ne_of_lt (Nat.lt_of_lt_of_le (by have := World.block_lt_of_cell? _ _ hx233_0; first | rwa [add_block] at this | exact this) GW231.out); have hn233_1 : ad230.block ≠ gb231 := Nat.ne_of_lt (Nat.lt_of_lt_of_le (by have := World.block_lt_of_cell? _ _ hx233_0; first | rwa [add_block] at this | exact this) GW231.out); replace hx233_0 := (HB.out.cell (World.block_lt_of_cell? w _ hx233_0)).trans hx233_0; replace hx233_1 := (HB.out.cell (World.block_lt_of_cell? w _ hx233_1)).trans hx233_1; replace hx233_0 := (cell_far (p := ⟨gb231, 0, none⟩) (by first | (rw [add_block]; exact hn233_0) | (show (Addr.add _ _).block ≠ _; rw [add_block]; exact hn233_0) | exact hn233_0) (.int .i64 ((rd_T97 l0 x7_1).f0))).trans hx233_0; replace hx233_1 := (cell_far (p := ⟨gb231, 0, none⟩) (by first | (rw [add_block]; exact hn233_0) | (show (Addr.add _ _).block ≠ _; rw [add_block]; exact hn233_0) | exact hn233_0) (.int .i64 ((rd_T97 l0 x7_1).f0))).trans hx233_1; replace hx233_0 := (cell_far (p := ⟨gb231, 1, none⟩) (by first | (rw [add_block]; exact hn233_1) | (show (Addr.add _ _).block ≠ _; rw [add_block]; exact hn233_1) | exact hn233_1) (.int .i64 ((rd_T97 l0 x7_1).f1))).trans hx233_0; replace hx233_1 := (cell_far (p := ⟨gb231, 1, none⟩) (by first | (rw [add_block]; exact hn233_1) | (show (Addr.add _ _).block ≠ _; rw [add_block]; exact hn233_1) | exact hn233_1) (.int .i64 ((rd_T97 l0 x7_1).f1))).trans hx233_1; (try have hy233_0 := fun (n_ : Nat) => (show ((((w20.drewN n_).setCell ⟨gb231, 0, none⟩ (.int .i64 ((rd_T97 l0 x7_1).f0))).setCell ⟨gb231, 1, none⟩ (.int .i64 ((rd_T97 l0 x7_1).f1)))).cell? _ = some _ from hx233_0)); (try have hy233_1 := fun (n_ : Nat) => (show ((((w20.drewN n_).setCell ⟨gb231, 0, none⟩ (.int .i64 ((rd_T97 l0 x7_1).f0))).setCell ⟨gb231, 1, none⟩ (.int .i64 ((rd_T97 l0 x7_1).f1)))).cell? _ = some _ from hx233_1)); clear hn233_0; clear hn233_1; replace p233 := eq_true p233; replace q233 := eq_true q233)); try go_wp2_with (first | ((with_reducible refine gate_dst (N := 4) rfl ?_); refine box_event ?hg (N := 4) ?hd (cs := #[.int .i64 0, .int .i64 0]) (t := 97) ?hr ?_; (case hd => rfl); (case hg => rfl); (case hr => first | (go_simp; done) | (go_simp; rfl)); intro gb231 hg w20 hbox hb; have n0_ := Aside0.mk (below_step bl hb); have n1_ := Aside0.mk (hbox); have n2_ := Aside0.mk ((by rw [hg]; exact (below_size bl) : w.heap.size ≤ gb231)); have n3_ := Aside0.mk ((by rw [hg]; exact (below_size bl) : w.heap.size ≤ gb231)); clear HB; have HB := n0_; have BK231 := n1_; have GW231 := n2_; have GE231 := n3_; clear n0_ n1_ n2_ n3_; clear hb hbox hg; have hcz21_0 : w20.cell? ⟨gb231, 0, none⟩ = some (.int .i64 0) := (blk_cell BK231.out 0).trans rfl; have hcz21_1 : w20.cell? ⟨gb231, 1, none⟩ = some (.int .i64 0) := (blk_cell BK231.out 1).trans rfl; have hfz21_0 := blk_frozen BK231.out 0; have hfz21_1 := blk_frozen BK231.out 1) | (go_at_call 106; (with_reducible refine (impl_isPitch.calls ((rd_T97 l0 x7_1).f0) true _ A5.out).mono ?_); rintro e w' ⟨rfl, ⟨nd, rfl⟩⟩; (try first | exact ⟨rfl, _, World.drewN_drewN _ _ _⟩ | exact ⟨rfl, _, Eq.trans (World.drewN_drewN _ _ _) (congrArg (World.drewN _) (Nat.add_assoc _ _ _))⟩); have p233 : 0 ≤ ((ji14) : Int) := od; have q233 : (ji14) < (l0.length : Int) := od; obtain ⟨ad233, e233, hx233_0, hx233_1⟩ := at_T97 HR0.out (ji14) p233 q233; obtain rfl : ad230 = ad233 := (by injection e233); have hn233_0 : ad230.block ≠ gb231 := Nat.ne_of_lt (Nat.lt_of_lt_of_le (by have := World.block_lt_of_cell? _ _ hx233_0; first | rwa [add_block] at this | exact this) GW231.out); have hn233_1 : ad230.block ≠ gb231 := Nat.ne_of_lt (Nat.lt_of_lt_of_le (by have := World.block_lt_of_cell? _ _ hx233_0; first | rwa [add_block] at this | exact this) GW231.out); replace hx233_0 := (HB.out.cell (World.block_lt_of_cell? w _ hx233_0)).trans hx233_0; replace hx233_1 := (HB.out.cell (World.block_lt_of_cell? w _ hx233_1)).trans hx233_1; replace hx233_0 := (cell_far (p := ⟨gb231, 0, none⟩) (by first | (rw [add_block]; exact hn233_0) | (show (Addr.add _ _).block ≠ _; rw [add_block]; exact hn233_0) | exact hn233_0) (.int .i64 ((rd_T97 l0 x7_1).f0))).trans hx233_0; replace hx233_1 := (cell_far (p := ⟨gb231, 0, none⟩) (by first | (rw [add_block]; exact hn233_0) | (show (Addr.add _ _).block ≠ _; rw [add_block]; exact hn233_0) | exact hn233_0) (.int .i64 ((rd_T97 l0 x7_1).f0))).trans hx233_1; replace hx233_0 := (cell_far (p := ⟨gb231, 1, none⟩) (by first | (rw [add_block]; exact hn233_1) | (show (Addr.add _ _).block ≠ _; rw [add_block]; exact hn233_1) | exact hn233_1) (.int .i64 ((rd_T97 l0 x7_1).f1))).trans hx233_0; replace hx233_1 := (cell_far (p := ⟨gb231, 1, none⟩) (by first | (rw [add_block]; exact hn233_1) | (show (Addr.add _ _).block ≠ _; rw [add_block]; exact hn233_1) | exact hn233_1) (.int .i64 ((rd_T97 l0 x7_1).f1))).trans hx233_1; (try have hy233_0 := fun (n_ : Nat) => (show ((((w20.drewN n_).setCell ⟨gb231, 0, none⟩ (.int .i64 ((rd_T97 l0 x7_1).f0))).setCell ⟨gb231, 1, none⟩ (.int .i64 ((rd_T97 l0 x7_1).f1)))).cell? _ = some _ from hx233_0)); (try have hy233_1 := fun (n_ : Nat) => (show ((((w20.drewN n_).setCell ⟨gb231, 0, none⟩ (.int .i64 ((rd_T97 l0 x7_1).f0))).setCell ⟨gb231, 1, none⟩ (.int .i64 ((rd_T97 l0 x7_1).f1)))).cell? _ = some _ from hx233_1)); clear hn233_0; clear hn233_1; replace p233 := eq_true p233; replace q233 := eq_true q233)))
             go_roundg k1
             case measure => have := HK1.out; omega
             case rel => exact ⟨(wrap64 (x7_1 + 1)), fin2, H', ⟨by have := HK1.out; omega⟩, ⟨bl⟩⟩
           ·rw [if_neg c16] at H
            exact absurd H (by simp)
          ·rw [if_neg c15] at H
           exact absurd H (by simp)
         ·rw [if_neg c13] at H
          have c13b0 : decide (0 < x7_1) = false := decide_eq_false c13
          clear c13
          have H' := Aside0.mk H
          clear H
          have p230 : 0 ≤ (x7_1 : Int) := od
          have q230 : x7_1 < (l0.length : Int) := od
          obtain ⟨ad230, e230, hx230_0, hx230_1⟩ := at_T97 HR0.out x7_1 p230 q230
          cases e230
          replace hx230_0 := (HB.out.cell (World.block_lt_of_cell? w _ hx230_0)).trans hx230_0
          replace hx230_1 := (HB.out.cell (World.block_lt_of_cell? w _ hx230_1)).trans hx230_1
          replace p230 := eq_true p230
          replace q230 := eq_true q230
          go_wp2_with (first | ((with_reducible refine gate_dst (N := 4) rfl ?_); refine box_event ?hg (N := 4) ?hd (cs := #[.int .i64 0, .int .i64 0]) (t := 97) ?hr ?_; (case hd => rfl); (case hg => rfl); (case hr => first | (go_simp; done) | (go_simp; rfl)); intro gb231 hg w22 hbox hb; have n0_ := Aside0.mk (below_step bl hb); have n1_ := Aside0.mk (hbox); have n2_ := Aside0.mk ((by rw [hg]; exact (below_size bl) : w.heap.size ≤ gb231)); have n3_ := Aside0.mk ((by rw [hg]; exact (below_size bl) : w.heap.size ≤ gb231)); clear HB; have HB := n0_; have BK231 := n1_; have GW231 := n2_; have GE231 := n3_; clear n0_ n1_ n2_ n3_; clear hb hbox hg; have hcz23_0 : w22.cell? ⟨gb231, 0, none⟩ = some (.int .i64 0) := (blk_cell BK231.out 0).trans rfl; have hcz23_1 : w22.cell? ⟨gb231, 1, none⟩ = some (.int .i64 0) := (blk_cell BK231.out 1).trans rfl; have hfz23_0 := blk_frozen BK231.out 0; have hfz23_1 := blk_frozen BK231.out 1) | (go_at_call 106; (with_reducible refine (impl_isPitch.calls ((rd_T97 l0 x7_1).f0) true _ A5.out).mono ?_); rintro e w' ⟨rfl, ⟨nd, rfl⟩⟩; (try first | exact ⟨rfl, _, World.drewN_drewN _ _ _⟩ | exact ⟨rfl, _, Eq.trans (World.drewN_drewN _ _ _) (congrArg (World.drewN _) (Nat.add_assoc _ _ _))⟩)))
          repeat (go_quiet (first | ((with_reducible refine gate_dst (N := 4) rfl ?_); refine box_event ?hg (N := 4) ?hd (cs := #[.int .i64 0, .int .i64 0]) (t := 97) ?hr ?_; (case hd => rfl); (case hg => rfl); (case hr => first | (go_simp; done) | (go_simp; rfl)); intro gb231 hg w22 hbox hb; have n0_ := Aside0.mk (below_step bl hb); have n1_ := Aside0.mk (hbox); have n2_ := Aside0.mk ((by rw [hg]; exact (below_size bl) : w.heap.size ≤ gb231)); have n3_ := Aside0.mk ((by rw [hg]; exact (below_size bl) : w.heap.size ≤ gb231)); clear HB; have HB := n0_; have BK231 := n1_; have GW231 := n2_; have GE231 := n3_; clear n0_ n1_ n2_ n3_; clear hb hbox hg; have hcz23_0 : w22.cell? ⟨gb231, 0, none⟩ = some (.int .i64 0) := (blk_cell BK231.out 0).trans rfl; have hcz23_1 : w22.cell? ⟨gb231, 1, none⟩ = some (.int .i64 0) := (blk_cell BK231.out 1).trans rfl; have hfz23_0 := blk_frozen BK231.out 0; have hfz23_1 := blk_frozen BK231.out 1) | (go_at_call 106; (with_reducible refine (impl_isPitch.calls ((rd_T97 l0 x7_1).f0) true _ A5.out).mono ?_); rintro e w' ⟨rfl, ⟨nd, rfl⟩⟩; (try first | exact ⟨rfl, _, World.drewN_drewN _ _ _⟩ | exact ⟨rfl, _, Eq.trans (World.drewN_drewN _ _ _) (congrArg (World.drewN _) (Nat.add_assoc _ _ _))⟩))); try go_wp2_with (first | ((with_reducible refine gate_dst (N := 4) rfl ?_); refine box_event ?hg (N := 4) ?hd (cs := #[.int .i64 0, .int .i64 0]) (t := 97) ?hr ?_; (case hd => rfl); (case hg => rfl); (case hr => first | (go_simp; done) | (go_simp; rfl)); intro gb231 hg w22 hbox hb; have n0_ := Aside0.mk (below_step bl hb); have n1_ := Aside0.mk (hbox); have n2_ := Aside0.mk ((by rw [hg]; exact (below_size bl) : w.heap.size ≤ gb231)); have n3_ := Aside0.mk ((by rw [hg]; exact (below_size bl) : w.heap.size ≤ gb231)); clear HB; have HB := n0_; have BK231 := n1_; have GW231 := n2_; have GE231 := n3_; clear n0_ n1_ n2_ n3_; clear hb hbox hg; have hcz23_0 : w22.cell? ⟨gb231, 0, none⟩ = some (.int .i64 0) := (blk_cell BK231.out 0).trans rfl; have hcz23_1 : w22.cell? ⟨gb231, 1, none⟩ = some (.int .i64 0) := (blk_cell BK231.out 1).trans rfl; have hfz23_0 := blk_frozen BK231.out 0; have hfz23_1 := blk_frozen BK231.out 1) | (go_at_call 106; (with_reducible refine (impl_isPitch.calls ((rd_T97 l0 x7_1).f0) true _ A5.out).mono ?_); rintro e w' ⟨rfl, ⟨nd, rfl⟩⟩; (try first | exact ⟨rfl, _, World.drewN_drewN _ _ _⟩ | exact ⟨rfl, _, Eq.trans (World.drewN_drewN _ _ _) (congrArg (World.drewN _) (Nat.add_assoc _ _ _))⟩))))
          go_roundg k1
          case measure => have := HK1.out; omega
          case rel => exact ⟨(wrap64 (x7_1 + 1)), fin2, H', ⟨by have := HK1.out; omega⟩, ⟨bl⟩⟩
      ·replace c6 := Bool.eq_false_iff.mpr c6
       subst c6
       have H1 : (some false) = some r := by rw [if_neg (show ¬ (false = true) by decide)] at H; exact H
       clear H
       have H := H1
       clear H1
       obtain rfl := Option.some.inj H
       have p230 : 0 ≤ (x7_1 : Int) := od
       have q230 : x7_1 < (l0.length : Int) := od
       obtain ⟨ad230, e230, hx230_0, hx230_1⟩ := at_T97 HR0.out x7_1 p230 q230
       cases e230
       replace hx230_0 := (HB.out.cell (World.block_lt_of_cell? w _ hx230_0)).trans hx230_0
       replace hx230_1 := (HB.out.cell (World.block_lt_of_cell? w _ hx230_1)).trans hx230_1
       replace p230 := eq_true p230
       replace q230 := eq_true q230
       go_wp2_with (first | ((with_reducible refine gate_dst (N := 4) rfl ?_); refine box_event ?hg (N := 4) ?hd (cs := #[.int .i64 0, .int .i64 0]) (t := 97) ?hr ?_; (case hd => rfl); (case hg => rfl); (case hr => first | (go_simp; done) | (go_simp; rfl)); intro gb231 hg w24 hbox hb; have n0_ := Aside0.mk (below_step bl hb); have n1_ := Aside0.mk (hbox); have n2_ := Aside0.mk ((by rw [hg]; exact (below_size bl) : w.heap.size ≤ gb231)); have n3_ := Aside0.mk ((by rw [hg]; exact (below_size bl) : w.heap.size ≤ gb231)); clear HB; have HB := n0_; have BK231 := n1_; have GW231 := n2_; have GE231 := n3_; clear n0_ n1_ n2_ n3_; clear hb hbox hg; have hcz25_0 : w24.cell? ⟨gb231, 0, none⟩ = some (.int .i64 0) := (blk_cell BK231.out 0).trans rfl; have hcz25_1 : w24.cell? ⟨gb231, 1, none⟩ = some (.int .i64 0) := (blk_cell BK231.out 1).trans rfl; have hfz25_0 := blk_frozen BK231.out 0; have hfz25_1 := blk_frozen BK231.out 1) | (go_at_call 106; (with_reducible refine (impl_isPitch.calls ((rd_T97 l0 x7_1).f0) false _ A5.out).mono ?_); rintro e w' ⟨rfl, ⟨nd, rfl⟩⟩; (try first | exact ⟨rfl, _, World.drewN_drewN _ _ _⟩ | exact ⟨rfl, _, Eq.trans (World.drewN_drewN _ _ _) (congrArg (World.drewN _) (Nat.add_assoc _ _ _))⟩)))
       repeat (go_quiet (first | ((with_reducible refine gate_dst (N := 4) rfl ?_); refine box_event ?hg (N := 4) ?hd (cs := #[.int .i64 0, .int .i64 0]) (t := 97) ?hr ?_; (case hd => rfl); (case hg => rfl); (case hr => first | (go_simp; done) | (go_simp; rfl)); intro gb231 hg w24 hbox hb; have n0_ := Aside0.mk (below_step bl hb); have n1_ := Aside0.mk (hbox); have n2_ := Aside0.mk ((by rw [hg]; exact (below_size bl) : w.heap.size ≤ gb231)); have n3_ := Aside0.mk ((by rw [hg]; exact (below_size bl) : w.heap.size ≤ gb231)); clear HB; have HB := n0_; have BK231 := n1_; have GW231 := n2_; have GE231 := n3_; clear n0_ n1_ n2_ n3_; clear hb hbox hg; have hcz25_0 : w24.cell? ⟨gb231, 0, none⟩ = some (.int .i64 0) := (blk_cell BK231.out 0).trans rfl; have hcz25_1 : w24.cell? ⟨gb231, 1, none⟩ = some (.int .i64 0) := (blk_cell BK231.out 1).trans rfl; have hfz25_0 := blk_frozen BK231.out 0; have hfz25_1 := blk_frozen BK231.out 1) | (go_at_call 106; (with_reducible refine (impl_isPitch.calls ((rd_T97 l0 x7_1).f0) false _ A5.out).mono ?_); rintro e w' ⟨rfl, ⟨nd, rfl⟩⟩; (try first | exact ⟨rfl, _, World.drewN_drewN _ _ _⟩ | exact ⟨rfl, _, Eq.trans (World.drewN_drewN _ _ _) (congrArg (World.drewN _) (Nat.add_assoc _ _ _))⟩))); try go_wp2_with (first | ((with_reducible refine gate_dst (N := 4) rfl ?_); refine box_event ?hg (N := 4) ?hd (cs := #[.int .i64 0, .int .i64 0]) (t := 97) ?hr ?_; (case hd => rfl); (case hg => rfl); (case hr => first | (go_simp; done) | (go_simp; rfl)); intro gb231 hg w24 hbox hb; have n0_ := Aside0.mk (below_step bl hb); have n1_ := Aside0.mk (hbox); have n2_ := Aside0.mk ((by rw [hg]; exact (below_size bl) : w.heap.size ≤ gb231)); have n3_ := Aside0.mk ((by rw [hg]; exact (below_size bl) : w.heap.size ≤ gb231)); clear HB; have HB := n0_; have BK231 := n1_; have GW231 := n2_; have GE231 := n3_; clear n0_ n1_ n2_ n3_; clear hb hbox hg; have hcz25_0 : w24.cell? ⟨gb231, 0, none⟩ = some (.int .i64 0) := (blk_cell BK231.out 0).trans rfl; have hcz25_1 : w24.cell? ⟨gb231, 1, none⟩ = some (.int .i64 0) := (blk_cell BK231.out 1).trans rfl; have hfz25_0 := blk_frozen BK231.out 0; have hfz25_1 := blk_frozen BK231.out 1) | (go_at_call 106; (with_reducible refine (impl_isPitch.calls ((rd_T97 l0 x7_1).f0) false _ A5.out).mono ?_); rintro e w' ⟨rfl, ⟨nd, rfl⟩⟩; (try first | exact ⟨rfl, _, World.drewN_drewN _ _ _⟩ | exact ⟨rfl, _, Eq.trans (World.drewN_drewN _ _ _) (congrArg (World.drewN _) (Nat.add_assoc _ _ _))⟩))))
       go_ret
       exact ⟨fin1, bl⟩
     ·rw [if_neg c4] at H
      exact absurd H (by simp)
    ·rw [if_neg c3] at H
     exact absurd H (by simp)
   ·rw [if_neg c2] at H
    have c2b0 : decide (x7_1 < (l0.length : Int)) = false := decide_eq_false c2
    clear c2
    obtain rfl := Option.some.inj H
    go_wp2
    repeat (go_quiet (fail); try go_wp2)
    go_ret
    exact ⟨fin1, bl⟩

/-! ### impl_isRest: function 72 -/
def impl_isRest.f (a0 : Int) : Option (Bool) := if a0 ≥ 1 then (some (decide (a0 ≤ 200))) else (some false)
set_option maxHeartbeats 8000000 in
set_option maxRecDepth 100000 in
theorem impl_isRest.calls (a0 : Int) (r : Bool) (w : World) (h : impl_isRest.f a0 = some r) :
  Calls Try.prog 72 #[.int .i64 a0] w fun e w' => e = .returned (.bool r) ∧ Drawn0 w w' := by
 have H : (if a0 ≥ 1 then (some (decide (a0 ≤ 200))) else (some false)) = some r := h
 clear h
 by_cases c2 : a0 ≥ 1
 ·rw [if_pos c2] at H
  have c2b0 : decide (1 ≤ a0) = true := decide_eq_true c2
  clear c2
  obtain rfl := Option.some.inj H
  go_enter Try.func72, Try.ntmps72
  go_wp2
  go_ret
  exact ⟨by first | rfl | (simp; done) | (simp [*]; done), by repeat (first | exact Drawn0.refl _ | apply Drawn0.step)⟩
 ·rw [if_neg c2] at H
  have c2b0 : decide (1 ≤ a0) = false := decide_eq_false c2
  clear c2
  obtain rfl := Option.some.inj H
  go_enter Try.func72, Try.ntmps72
  go_wp2
  go_ret
  exact ⟨by first | rfl | (simp; done) | (simp [*]; done), by repeat (first | exact Drawn0.refl _ | apply Drawn0.step)⟩

/-! ### impl_teethOf: function 108 -/
def impl_teethOf.l0 : Nat → Int → List Int → List (S99) → Int → Int → Option (List Int)
 | 0, _, _, _, _, _ => none
 | k + 1, x1, x5, x9, x10, x11 => if x11 < x10 then (if 0 ≤ x11 then (if x11 < (x9.length : Int) then (if ((rd_T99 x9 x11).f0) = x1 then (if x5.length < 17592186044416 then (impl_teethOf.l0 k x1 (x5 ++ [x11]) x9 x10 (wrap64 (x11 + 1))) else (none)) else (impl_teethOf.l0 k x1 x5 x9 x10 (wrap64 (x11 + 1)))) else (none)) else (none)) else (some x5)
def impl_teethOf.f (k : Nat) (l0 : List (S99)) (a1 : Int) : Option (List Int) := impl_teethOf.l0 k a1 (([] : List Int)) l0 (l0.length : Int) 0
set_option maxHeartbeats 8000000 in
set_option maxRecDepth 100000 in
theorem impl_teethOf.calls (k : Nat) (A0 : Option Addr) (c0 : Nat) (l0 : List (S99)) (a1 : Int) (r : List Int) (w : World) (hr0 : Kd.C k99 w A0 l0.length l0) (hc0 : l0.length ≤ c0) (h : impl_teethOf.f k l0 a1 = some r) :
  Calls Try.prog 108 #[.slice A0 l0.length c0, .int .i64 a1] w fun e w' => ∃ v0_ : Value, e = .returned (v0_) ∧ Kd.R (Kd.int .i64) 3 w' w.heap.size (fun _ => True) v0_ r ∧ Below w.heap.size w w' := by
 have hu99 := Try.underlying99
 have HR0 := Aside0.mk hr0
 have HC0 := Aside0.mk hc0
 clear hr0 hc0
 have HB := Aside0.mk (Below.refl w.heap.size w)
 have H : (impl_teethOf.l0 k a1 (([] : List Int)) l0 (l0.length : Int) 0) = some r := h
 clear h
 obtain ⟨y234, hy234⟩ : ∃ y_ : List Int, y_ = (([] : List Int)) := ⟨_, rfl⟩
 replace H : (impl_teethOf.l0 k a1 y234 l0 (l0.length : Int) 0) = some r := by first | (rw [hy234]; with_reducible exact H) | (have H2_ := (Option.bind_some _ _).symm.trans H; rw [hy234]; with_reducible exact H2_) | (have H2_ := (Option.bind_some _ _).symm.trans H; with_reducible exact H2_) | with_reducible exact H | (rw [hy234]; exact H) | exact H
 have Ny234 := Aside0.mk hy234
 clear hy234
 have H' := Aside0.mk H
 clear H
 go_enter Try.func108, Try.ntmps108
 go_wp2_with (first | ((with_reducible refine gate_dst (N := 8) rfl ?_); refine Kd.R_lit (Kd.int .i64) _ 3 ?hg (N := 8) ?hd (xs := ([] : List Int)) (inner := []) (ok := fun _ => True) (okp := fun _ => True) ?hr ?hp (fun _ hk => hk) trivial (Below.refl _ _) (Nat.le_refl _) (by simp) ?_; (case hd => rfl); (case hg => rfl); (case hr => first | (go_simp; done) | (go_simp; rfl)); (case hp => exact (Reps.none _ _)); intro v235 w3 ho4 hb hg_ hnew_; clear hg_ hnew_; (first | rw [← Ny234.out] at ho4 | (simp only [Int.reduceToNat] at ho4; rw [← Ny234.out] at ho4)); have n0_ := Aside0.mk (Kd.R_lower ho4 (below_size bl)); have n1_ := Aside0.mk (below_step bl hb); clear HB; have HO236 := n0_; have HB := n1_; clear n0_ n1_; clear hb ho4))
 go_loopg [5, 11] k (fun kq v5 v11 w' => ∃ (x5_1 : List Int) (x11_1 : Int), v11 = .int .i64 x11_1 ∧ Aside0 (impl_teethOf.l0 kq a1 x5_1 l0 (l0.length : Int) x11_1 = some r) ∧ Aside0 (kq ≤ k) ∧ Aside0 (Kd.R (Kd.int .i64) 3 w' w.heap.size (fun _ => True) v5 x5_1) ∧ Aside0 (Below w.heap.size w w'))
 case atStart => exact ⟨(y234), (0), fin2, H', ⟨Nat.le_refl _⟩, ⟨rup HO236.out⟩, ⟨bl⟩⟩
 case round =>
  clear H'
  try clear c1
  try clear p2
  obtain ⟨x5_1, x11_1, rfl, HA, HK1, HO_5, HB⟩ := hrel
  cases gk with
  | zero => exact absurd HA.out (by simp [impl_teethOf.l0])
  | succ k1 =>
   have H := HA.out
   clear HA
   simp only [impl_teethOf.l0] at H
   by_cases c5 : x11_1 < (l0.length : Int)
   ·rw [if_pos c5] at H
    have c5b0 : decide (x11_1 < (l0.length : Int)) = true := decide_eq_true c5
    clear c5
    by_cases c6 : 0 ≤ x11_1
    ·rw [if_pos c6] at H
     have c6b0 : decide (0 ≤ x11_1) = true := decide_eq_true c6
     clear c6
     by_cases c7 : x11_1 < (l0.length : Int)
     ·rw [if_pos c7] at H
      have c7b0 : decide (x11_1 < (l0.length : Int)) = true := decide_eq_true c7
      clear c7
      by_cases c8 : ((rd_T99 l0 x11_1).f0) = a1
      ·rw [if_pos c8] at H
       have c8b0 : (((rd_T99 l0 x11_1).f0) == a1) = true := beq_iff_eq.mpr c8
       have c8b1 : (((rd_T99 l0 x11_1).f0) != a1) = false := bne_eq_false_iff_eq.mpr c8
       clear c8
       by_cases c9 : x5_1.length < 17592186044416
       ·rw [if_pos c9] at H
        have LMc9 := Aside0.mk c9
        clear c9
        obtain ⟨y239, hy239⟩ : ∃ y_ : List Int, y_ = (x5_1 ++ [x11_1]) := ⟨_, rfl⟩
        replace H : (impl_teethOf.l0 k1 a1 y239 l0 (l0.length : Int) (wrap64 (x11_1 + 1))) = some r := by first | (rw [hy239]; with_reducible exact H) | (have H2_ := (Option.bind_some _ _).symm.trans H; rw [hy239]; with_reducible exact H2_) | (have H2_ := (Option.bind_some _ _).symm.trans H; with_reducible exact H2_) | with_reducible exact H | (rw [hy239]; exact H) | exact H
        have Ny239 := Aside0.mk hy239
        clear hy239
        have H' := Aside0.mk H
        clear H
        have p237 : 0 ≤ (x11_1 : Int) := od
        have q237 : x11_1 < (l0.length : Int) := od
        obtain ⟨ad237, e237, hx237_0, hx237_1, hx237_2⟩ := at_T99 HR0.out x11_1 p237 q237
        cases e237
        replace hx237_0 := (HB.out.cell (World.block_lt_of_cell? w _ hx237_0)).trans hx237_0
        replace hx237_1 := (HB.out.cell (World.block_lt_of_cell? w _ hx237_1)).trans hx237_1
        replace hx237_2 := (HB.out.cell (World.block_lt_of_cell? w _ hx237_2)).trans hx237_2
        replace p237 := eq_true p237
        replace q237 := eq_true q237
        go_wp2_with (first | ((with_reducible refine gate_dst (N := 7) rfl ?_); refine box_event ?hg (N := 7) ?hd (cs := #[.int .i64 0, .int .i64 0, .int .i64 0]) (t := 99) ?hr ?_; (case hd => rfl); (case hg => rfl); (case hr => first | (go_simp; done) | (go_simp; rfl)); intro gb238 hg w10 hbox hb; have n0_ := Aside0.mk (Kd.R_below (rup HO_5.out) hb); have n1_ := Aside0.mk (below_step bl hb); have n2_ := Aside0.mk (hbox); have n3_ := Aside0.mk ((by rw [hg]; exact (below_size bl) : w.heap.size ≤ gb238)); have n4_ := Aside0.mk ((by rw [hg]; exact (below_size bl) : w.heap.size ≤ gb238)); clear HO_5; clear HB; have HO_5 := n0_; have HB := n1_; have BK238 := n2_; have GW238 := n3_; have GE238 := n4_; clear n0_ n1_ n2_ n3_ n4_; clear hb hbox hg; have hcz11_0 : w10.cell? ⟨gb238, 0, none⟩ = some (.int .i64 0) := (blk_cell BK238.out 0).trans rfl; have hcz11_1 : w10.cell? ⟨gb238, 1, none⟩ = some (.int .i64 0) := (blk_cell BK238.out 1).trans rfl; have hcz11_2 : w10.cell? ⟨gb238, 2, none⟩ = some (.int .i64 0) := (blk_cell BK238.out 2).trans rfl; have hfz11_0 := blk_frozen BK238.out 0; have hfz11_1 := blk_frozen BK238.out 1; have hfz11_2 := blk_frozen BK238.out 2) | ((with_reducible refine gate_builtin (b := .append) (xs := #[.tmp 20, .tmp 22]) rfl ?_); at_builtin; refine Kd.R_append (Kd.int .i64) (w0 := w) w.heap.size rfl (.tmp 20) (.tmp 22) 39 3 (.int .i64 0) 8 rfl Try.underlying39 info3 rfl (by decide) (by omega) u5 x5_1 x11_1 [.int .i64 x11_1] (fun _ => True) (fun _ => False) rfl (by first | (go_simp; done) | (go_simp; rfl)) ?aP (fun _ hk => hk.elim) ?aF ?aO ?aB ?aS ?aL ?_; (case aP => exact rfl); (case aB => exact bl); (case aF => exact (fun _ _ => trivial)); (case aO => exact (by (with_reducible repeat (first | apply Kd.R_alloc | apply Kd.R_drewN | apply Kd.R_drew)); exact Kd.R_mono (Kd.R_far (p := ⟨gb238, 2, none⟩) (Kd.R_far (p := ⟨gb238, 1, none⟩) (Kd.R_far (p := ⟨gb238, 0, none⟩) (Kd.R_types HO_5.out BK238.out (by decide)) (fun _ hk => hk.2) (.int .i64 ((rd_T99 l0 x11_1).f0))) (fun _ hk => hk.2) (.int .i64 ((rd_T99 l0 x11_1).f1))) (fun _ hk => hk.2) (.int .i64 ((rd_T99 l0 x11_1).f2))) (fun _ hk => trivial))); (case aS => exact (below_size bl)); (case aL => have := LMc9.out; omega); intro v240 w12 ho hb hg hat; rw [← Ny239.out] at ho; have n0_ := Aside0.mk (blk_grown (g := gb238) (o := .cells #[.int .i64 ((rd_T99 l0 x11_1).f0), .int .i64 ((rd_T99 l0 x11_1).f1), .int .i64 ((rd_T99 l0 x11_1).f2)] 99 (0, 0)) (by (with_reducible repeat (first | refine blk_drewN ?_ _ | refine blk_drew ?_ | refine blk_alloc ?_ _)); refine blk_put (cs := #[.int .i64 ((rd_T99 l0 x11_1).f0), .int .i64 ((rd_T99 l0 x11_1).f1), .int .i64 0]) ?_ 2 _ rfl; (with_reducible repeat (first | refine blk_drewN ?_ _ | refine blk_drew ?_ | refine blk_alloc ?_ _)); refine blk_put (cs := #[.int .i64 ((rd_T99 l0 x11_1).f0), .int .i64 0, .int .i64 0]) ?_ 1 _ rfl; (with_reducible repeat (first | refine blk_drewN ?_ _ | refine blk_drew ?_ | refine blk_alloc ?_ _)); refine blk_put (cs := #[.int .i64 0, .int .i64 0, .int .i64 0]) ?_ 0 _ rfl; (with_reducible repeat (first | refine blk_drewN ?_ _ | refine blk_drew ?_ | refine blk_alloc ?_ _)); exact BK238.out) hg (Kd.R_ne HO_5.out BK238.out (by decide))); have n1_ := Aside0.mk (hb); have n2_ := Aside0.mk (ho); clear BK238; clear HB; clear HO_5; have BK238 := n0_; have HB := n1_; have HO241 := n2_; clear n0_ n1_ n2_; clear ho hb hg hat))
        go_roundg k1
        case measure => have := HK1.out; omega
        case rel => exact ⟨(y239), (wrap64 (x11_1 + 1)), fin2, H', ⟨by have := HK1.out; omega⟩, ⟨rup HO241.out⟩, ⟨bl⟩⟩
       ·rw [if_neg c9] at H
        exact absurd H (by simp)
      ·rw [if_neg c8] at H
       have c8b0 : (((rd_T99 l0 x11_1).f0) == a1) = false := beq_eq_false_iff_ne.mpr c8
       have c8b1 : (((rd_T99 l0 x11_1).f0) != a1) = true := bne_iff_ne.mpr c8
       have H' := Aside0.mk H
       clear H
       have p237 : 0 ≤ (x11_1 : Int) := od
       have q237 : x11_1 < (l0.length : Int) := od
       obtain ⟨ad237, e237, hx237_0, hx237_1, hx237_2⟩ := at_T99 HR0.out x11_1 p237 q237
       cases e237
       replace hx237_0 := (HB.out.cell (World.block_lt_of_cell? w _ hx237_0)).trans hx237_0
       replace hx237_1 := (HB.out.cell (World.block_lt_of_cell? w _ hx237_1)).trans hx237_1
       replace hx237_2 := (HB.out.cell (World.block_lt_of_cell? w _ hx237_2)).trans hx237_2
       replace p237 := eq_true p237
       replace q237 := eq_true q237
       go_wp2_with (first | ((with_reducible refine gate_dst (N := 7) rfl ?_); refine box_event ?hg (N := 7) ?hd (cs := #[.int .i64 0, .int .i64 0, .int .i64 0]) (t := 99) ?hr ?_; (case hd => rfl); (case hg => rfl); (case hr => first | (go_simp; done) | (go_simp; rfl)); intro gb238 hg w13 hbox hb; have n0_ := Aside0.mk (Kd.R_below (rup HO_5.out) hb); have n1_ := Aside0.mk (below_step bl hb); have n2_ := Aside0.mk (hbox); have n3_ := Aside0.mk ((by rw [hg]; exact (below_size bl) : w.heap.size ≤ gb238)); have n4_ := Aside0.mk ((by rw [hg]; exact (below_size bl) : w.heap.size ≤ gb238)); clear HO_5; clear HB; have HO_5 := n0_; have HB := n1_; have BK238 := n2_; have GW238 := n3_; have GE238 := n4_; clear n0_ n1_ n2_ n3_ n4_; clear hb hbox hg; have hcz14_0 : w13.cell? ⟨gb238, 0, none⟩ = some (.int .i64 0) := (blk_cell BK238.out 0).trans rfl; have hcz14_1 : w13.cell? ⟨gb238, 1, none⟩ = some (.int .i64 0) := (blk_cell BK238.out 1).trans rfl; have hcz14_2 : w13.cell? ⟨gb238, 2, none⟩ = some (.int .i64 0) := (blk_cell BK238.out 2).trans rfl; have hfz14_0 := blk_frozen BK238.out 0; have hfz14_1 := blk_frozen BK238.out 1; have hfz14_2 := blk_frozen BK238.out 2))
       go_roundg k1
       case measure => have := HK1.out; omega
       case rel => exact ⟨(x5_1), (wrap64 (x11_1 + 1)), fin2, H', ⟨by have := HK1.out; omega⟩, ⟨by (with_reducible repeat (first | apply Kd.R_alloc | apply Kd.R_drewN | apply Kd.R_drew)); exact Kd.R_mono (Kd.R_far (p := ⟨gb238, 2, none⟩) (Kd.R_far (p := ⟨gb238, 1, none⟩) (Kd.R_far (p := ⟨gb238, 0, none⟩) (Kd.R_types HO_5.out BK238.out (by decide)) (fun _ hk => hk.2) (.int .i64 ((rd_T99 l0 x11_1).f0))) (fun _ hk => hk.2) (.int .i64 ((rd_T99 l0 x11_1).f1))) (fun _ hk => hk.2) (.int .i64 ((rd_T99 l0 x11_1).f2))) (fun _ hk => trivial)⟩, ⟨bl⟩⟩
     ·rw [if_neg c7] at H
      exact absurd H (by simp)
    ·rw [if_neg c6] at H
     exact absurd H (by simp)
   ·rw [if_neg c5] at H
    have c5b0 : decide (x11_1 < (l0.length : Int)) = false := decide_eq_false c5
    clear c5
    obtain rfl := Option.some.inj H
    go_wp2
    go_ret
    exact ⟨_, fin1, by (with_reducible repeat (first | apply Kd.R_alloc | apply Kd.R_drewN | apply Kd.R_drew)); exact HO_5.out, bl⟩

/-! ### impl_giveTeeth: function 73 -/
/-- What was given last, one more. -/
def impl_giveTeeth.upd (last : Int → Option Int) (t v : Int) : Int → Option Int := fun s => if s = t then some v else last s
def impl_giveTeeth.Agree (D : DataW Unit) (last : Int → Option Int) : Prop :=
 Maps.IsMap D ∧ ∀ t, Maps.has D (.int .i64 t) = (last t).isSome ∧ ∀ b, last t = some b → D.atKey (.int .i64 t) (.lit (.int .i64 0)) = .lit (.int .i64 b)
theorem impl_giveTeeth.agree_made : impl_giveTeeth.Agree (.map []) (fun _ => none) := ⟨Maps.isMap_empty, fun t => ⟨rfl, fun b h => by cases h⟩⟩
theorem impl_giveTeeth.agree_put {D : DataW Unit} {last : Int → Option Int} (h : impl_giveTeeth.Agree D last) (t v : Int) : impl_giveTeeth.Agree (D.put (.int .i64 t) (.lit (.int .i64 v))) (impl_giveTeeth.upd last t v) := by
 refine ⟨h.1.put _ _, fun s => ?_⟩
 by_cases e : s = t
 ·subst e
  refine ⟨by rw [Maps.has_put_same h.1 (show WideAt.IsKeyLit (.int .i64 s) from trivial)]; simp [impl_giveTeeth.upd], fun b hb => ?_⟩
  rw [Maps.atKey_put_same h.1 (show WideAt.IsKeyLit (.int .i64 s) from trivial)]
  simp [impl_giveTeeth.upd] at hb
  rw [hb]
 ·have hne : (Lit.int .i64 s) ≠ (Lit.int .i64 t) := fun h => e (by injection h)
  refine ⟨by rw [Maps.has_put_other hne, (h.2 s).1]; simp [impl_giveTeeth.upd, e], fun b hb => ?_⟩
  rw [Maps.atKey_put_other hne]
  exact (h.2 s).2 b (by simpa [impl_giveTeeth.upd, e] using hb)
theorem impl_giveTeeth.map_below {w w' : World} {k e : TypeId} {b n : Nat} {D : DataW Unit} (h : w.ownsMap Try.prog k (plainElem Try.prog e) b n D) (hb : Below w.heap.size w w') : w'.ownsMap Try.prog k (plainElem Try.prog e) b n D := by
 have hlt := h.lt
 obtain ⟨es, clock, hh, F, hs, hD⟩ := h
 exact ⟨es, clock, (hb.block b hlt).trans hh, F, hs, hD⟩
mutual
def impl_giveTeeth.l0 : Nat → List (S99) → Int → List Int → (Int → Option Int) → List (S97) → Int → Int → Option (List Int × Bool)
 | 0, _, _, _, _, _, _, _ => none
 | k + 1, x0, x2, x8, x9, x19, x20, x21 => if x21 < x20 then (if 0 ≤ x21 then (if x21 < (x19.length : Int) then ((impl_teethOf.f k x0 ((rd_T97 x19 x21).f0)).bind fun t28 => (impl_giveTeeth.l1 k x0 x2 x8 x9 x19 x20 x21 ((rd_T97 x19 x21).f1) (-1) t28 (t28.length : Int) 0)) else (none)) else (none)) else (some (x8, true))
def impl_giveTeeth.l1 : Nat → List (S99) → Int → List Int → (Int → Option Int) → List (S97) → Int → Int → Int → Int → List Int → Int → Int → Option (List Int × Bool)
 | 0, _, _, _, _, _, _, _, _, _, _, _, _ => none
 | k + 1, x0, x2, x8, x9, x19, x20, x21, x11, x12, x28, x29, x30 => if x30 < x29 then (if 0 ≤ x30 then (if x30 < (x28.length : Int) then (if (Lit.int .i64 (rd x28 x30)).wf = true then (if x12 < 0 then (if (x9 (rd x28 x30)).isSome = true then (if x2 ≤ (wrap64 (x11 - (x9 (rd x28 x30)).getD 0)) then (impl_giveTeeth.l1 k x0 x2 x8 x9 x19 x20 x21 x11 (rd x28 x30) x28 x29 (wrap64 (x30 + 1))) else (impl_giveTeeth.l1 k x0 x2 x8 x9 x19 x20 x21 x11 x12 x28 x29 (wrap64 (x30 + 1)))) else (impl_giveTeeth.l1 k x0 x2 x8 x9 x19 x20 x21 x11 (rd x28 x30) x28 x29 (wrap64 (x30 + 1)))) else (impl_giveTeeth.l1 k x0 x2 x8 x9 x19 x20 x21 x11 x12 x28 x29 (wrap64 (x30 + 1)))) else (none)) else (none)) else (none)) else (if x12 < 0 then (some (([] : List Int), false)) else (if (Lit.int .i64 x12).wf = true then (if (Lit.int .i64 x11).wf = true then (if x8.length < 17592186044416 then (impl_giveTeeth.l0 k x0 x2 (x8 ++ [x12]) (impl_giveTeeth.upd x9 x12 x11) x19 x20 (wrap64 (x21 + 1))) else (none)) else (none)) else (none)))
end
def impl_giveTeeth.f (k : Nat) (l0 : List (S99)) (l1 : List (S97)) (a2 : Int) : Option (List Int × Bool) := impl_giveTeeth.l0 k l0 a2 ([] : List Int) (fun _ => none) l1 (l1.length : Int) 0
theorem impl_giveTeeth.law3 : Maps.Keyed Try.prog 3 := Maps.int_keyed Try.underlying3
theorem impl_giveTeeth.zero3 (w : World) : (zeroValue 3).run Try.prog w = .ok (.int .i64 0) w := by kernel_rfl
set_option maxHeartbeats 8000000 in
set_option maxRecDepth 100000 in
theorem impl_giveTeeth.calls (k : Nat) (A0 : Option Addr) (c0 : Nat) (l0 : List (S99)) (A1 : Option Addr) (c1 : Nat) (l1 : List (S97)) (a2 : Int) (r1 : List Int) (r2 : Bool) (w : World) (hr0 : Kd.C k99 w A0 l0.length l0) (hc0 : l0.length ≤ c0) (hr1 : Kd.C k97 w A1 l1.length l1) (hc1 : l1.length ≤ c1) (h : impl_giveTeeth.f k l0 l1 a2 = some (r1, r2)) :
  Calls Try.prog 73 #[.slice A0 l0.length c0, .slice A1 l1.length c1, .int .i64 a2] w fun e w' => ∃ v0_ : Value, e = .returned (.tuple #[v0_, .bool r2]) ∧ Kd.R (Kd.int .i64) 3 w' w.heap.size (fun _ => True) v0_ r1 ∧ Below w.heap.size w w' := by
 have hu97 := Try.underlying97
 have hmm := @run_makeMap Try.prog
 have HR0 := Aside0.mk hr0
 have HC0 := Aside0.mk hc0
 clear hr0 hc0
 have HR1 := Aside0.mk hr1
 have HC1 := Aside0.mk hc1
 clear hr1 hc1
 have HB := Aside0.mk (Below.refl w.heap.size w)
 have H' := Aside0.mk (show impl_giveTeeth.l0 k l0 a2 ([] : List Int) (fun _ => none) l1 (l1.length : Int) 0 = some (r1, r2) from h)
 clear h
 go_enter Try.func73, Try.ntmps73
 go_wp2_with (first | ((with_reducible refine gate_dst (N := 17) rfl ?_); refine Kd.R_lit (Kd.int .i64) _ 3 ?hg (N := 17) ?hd (xs := ([] : List Int)) (inner := []) (ok := fun _ => True) (okp := fun _ => True) ?hr ?hp (fun _ hk => hk) trivial (Below.refl _ _) (Nat.le_refl _) (by simp) ?_; (case hd => rfl); (case hg => rfl); (case hr => first | (go_simp; done) | (go_simp; rfl)); (case hp => exact (Reps.none _ _)); intro v155 w3 ho4 hb hg_ hnew_; clear hg_ hnew_; have n0_ := Aside0.mk (Kd.R_mono (ok' := fun k_ => k_ ≠ w3.heap.size) (Kd.R_bound (Kd.R_lower ho4 (below_size HB.out))) (fun k_ hk_ => Nat.ne_of_lt hk_.2.2.1)); have n1_ := Aside0.mk (below_step HB.out hb); clear HB; have HO8 := n0_; have HB := n1_; clear n0_ n1_; clear hb ho4))
 have BGE := Aside0.mk (show w.heap.size ≤ w3.heap.size from (below_size HB.out))
 go_loopg [8, 21] k (fun kq v8 v21 w' => ∃ (x8 : List Int) (x9 : Int → Option Int) (x21 : Int) (D : DataW Unit), v21 = .int .i64 x21 ∧ Aside0 (impl_giveTeeth.l0 kq l0 a2 x8 x9 l1 (l1.length : Int) x21 = some (r1, r2)) ∧ Aside0 (kq ≤ k) ∧ Aside0 (Kd.R (Kd.int .i64) 3 w' w.heap.size (fun k_ => k_ ≠ w3.heap.size) v8 x8) ∧ Aside0 (w'.ownsMap Try.prog 3 (plainElem Try.prog 3) w3.heap.size x8.length D) ∧ Aside0 (impl_giveTeeth.Agree D x9) ∧ Aside0 (Below w.heap.size w w'))
 case atStart => exact ⟨[], (fun _ => none), 0, .map [], fin2, H', ⟨Nat.le_refl _⟩, ⟨rup HO8.out⟩, ⟨World.ownsMap_made _ _ _ _⟩, ⟨impl_giveTeeth.agree_made⟩, ⟨bl⟩⟩
 case round =>
  clear H' HO8
  obtain ⟨x8, x9, x21, D, rfl, HA, HK1, HO8, HM, HG, HB⟩ := hrel
  cases gk with
  | zero => exact absurd HA.out (by simp [impl_giveTeeth.l0])
  | succ k1 =>
   have H := HA.out
   clear HA
   simp only [impl_giveTeeth.l0] at H
   by_cases c9 : x21 < (l1.length : Int)
   ·rw [if_pos c9] at H
    have c9b0 : decide (x21 < (l1.length : Int)) = true := decide_eq_true c9
    by_cases c10 : 0 ≤ x21
    ·rw [if_pos c10, if_pos c9] at H
     clear c9
     have c10b0 : decide (0 ≤ x21) = true := decide_eq_true c10
     clear c10
     obtain ⟨t28, A180, H⟩ := Option.bind_eq_some_iff.mp H
     have A18 := Aside0.mk A180
     clear A180
     have H' := Aside0.mk H
     clear H
     have p159 : 0 ≤ (x21 : Int) := od
     have q159 : x21 < (l1.length : Int) := od
     obtain ⟨ad159, e159, hx159_0, hx159_1⟩ := at_T97 HR1.out x21 p159 q159
     cases e159
     replace hx159_0 := (HB.out.cell (World.block_lt_of_cell? w _ hx159_0)).trans hx159_0
     replace hx159_1 := (HB.out.cell (World.block_lt_of_cell? w _ hx159_1)).trans hx159_1
     replace p159 := eq_true p159
     replace q159 := eq_true q159
     go_wp2_with (first | ((with_reducible refine gate_dst (N := 11) rfl ?_); refine box_event ?hg (N := 11) ?hd (cs := #[.int .i64 0, .int .i64 0]) (t := 97) ?hr ?_; (case hd => rfl); (case hg => rfl); (case hr => first | (go_simp; done) | (go_simp; rfl)); intro gbx hg w19 hbox hb; have n0_ := Aside0.mk (Kd.R_below (rup HO8.out) hb); have n6_ := Aside0.mk (show w3.heap.size ≠ gbx from (by rw [hg]; exact Nat.ne_of_lt HM.out.lt)); have n7_ := Aside0.mk (impl_giveTeeth.map_below (by exact HM.out) hb); have n2_ := Aside0.mk (below_step bl hb); have n3_ := Aside0.mk (hbox); have n5_ := Aside0.mk ((by rw [hg]; exact below_size bl) : w.heap.size ≤ gbx); clear HO8 HM HB; have HO8 := n0_; have HM := n7_; have NEX := n6_; have HB := n2_; have BKX := n3_; have GEX := n5_; clear n0_ n2_ n3_ n5_ n6_ n7_; clear hb hbox hg; have hcz20_0 : w19.cell? ⟨gbx, 0, none⟩ = some (.int .i64 0) := (blk_cell BKX.out 0).trans rfl; have hcz20_1 : w19.cell? ⟨gbx, 1, none⟩ = some (.int .i64 0) := (blk_cell BKX.out 1).trans rfl; have hfz20_0 := blk_frozen BKX.out 0; have hfz20_1 := blk_frozen BKX.out 1) | (go_at_call 108; (with_reducible refine (impl_teethOf.calls k1 _ _ l0 ((rd_T97 l1 x21).f0) t28 _ ?side1 ?side2 A18.out).mono ?_); (case side1 => exact Kd.C_below HR0.out (by repeat (first | (with_reducible first | exact HB.out | apply below_alloc | apply pw_below_drewN | apply below_drew1 | refine below_set ?_ GEX.out) | exact HB.out))); (case side2 => exact HC0.out); rintro e w21 ⟨v162, rfl, ho0, hb⟩; have n0_ := Aside0.mk (Kd.R_below (by (with_reducible repeat (first | apply Kd.R_alloc | apply Kd.R_drewN | apply Kd.R_drew)); exact (Kd.R_mono (Kd.R_far (p := ⟨gbx, 1, none⟩) (Kd.R_far (p := ⟨gbx, 0, none⟩) (Kd.R_types HO8.out BKX.out (by decide)) (fun _ hk => hk.2) (.int .i64 ((rd_T97 l1 x21).f0))) (fun _ hk => hk.2) (.int .i64 ((rd_T97 l1 x21).f1))) (fun _ h_ => h_.1))) hb); have n1_ := Aside0.mk (impl_giveTeeth.map_below (by exact (HM.out.setCell NEX.out _).setCell NEX.out _) hb); have n2_ := Aside0.mk (Kd.R_lower ho0 (below_size (by repeat (first | (with_reducible first | exact HB.out | apply below_alloc | apply pw_below_drewN | apply below_drew1 | refine below_set ?_ GEX.out) | exact HB.out)))); have n3_ := Aside0.mk (blk_below (g := gbx) (o := .cells #[.int .i64 ((rd_T97 l1 x21).f0), .int .i64 ((rd_T97 l1 x21).f1)] 97 (0, 0)) (by (with_reducible repeat (first | refine blk_drewN ?_ _ | refine blk_drew ?_ | refine blk_alloc ?_ _)); refine blk_put (cs := #[.int .i64 ((rd_T97 l1 x21).f0), .int .i64 0]) ?_ 1 _ rfl; (with_reducible repeat (first | refine blk_drewN ?_ _ | refine blk_drew ?_ | refine blk_alloc ?_ _)); refine blk_put (cs := #[.int .i64 0, .int .i64 0]) ?_ 0 _ rfl; (with_reducible repeat (first | refine blk_drewN ?_ _ | refine blk_drew ?_ | refine blk_alloc ?_ _)); exact BKX.out) hb); have n4_ := Aside0.mk (below_step (by repeat (first | (with_reducible first | exact HB.out | apply below_alloc | apply pw_below_drewN | apply below_drew1 | refine below_set ?_ GEX.out) | exact HB.out)) hb); clear HO8 HM BKX HB; have HO8 := n0_; have HM := n1_; have HOT := n2_; have BKX := n3_; have HB := n4_; clear n0_ n1_ n2_ n3_ n4_; (try clear hb); (try clear ho0); obtain ⟨Ao22, co22, eo22⟩ := Kd.R_slice HOT.out; subst eo22))
     repeat (go_quiet (first | ((with_reducible refine gate_dst (N := 11) rfl ?_); refine box_event ?hg (N := 11) ?hd (cs := #[.int .i64 0, .int .i64 0]) (t := 97) ?hr ?_; (case hd => rfl); (case hg => rfl); (case hr => first | (go_simp; done) | (go_simp; rfl)); intro gbx hg w19 hbox hb; have n0_ := Aside0.mk (Kd.R_below (rup HO8.out) hb); have n6_ := Aside0.mk (show w3.heap.size ≠ gbx from (by rw [hg]; exact Nat.ne_of_lt HM.out.lt)); have n7_ := Aside0.mk (impl_giveTeeth.map_below (by exact HM.out) hb); have n2_ := Aside0.mk (below_step bl hb); have n3_ := Aside0.mk (hbox); have n5_ := Aside0.mk ((by rw [hg]; exact below_size bl) : w.heap.size ≤ gbx); clear HO8 HM HB; have HO8 := n0_; have HM := n7_; have NEX := n6_; have HB := n2_; have BKX := n3_; have GEX := n5_; clear n0_ n2_ n3_ n5_ n6_ n7_; clear hb hbox hg; have hcz20_0 : w19.cell? ⟨gbx, 0, none⟩ = some (.int .i64 0) := (blk_cell BKX.out 0).trans rfl; have hcz20_1 : w19.cell? ⟨gbx, 1, none⟩ = some (.int .i64 0) := (blk_cell BKX.out 1).trans rfl; have hfz20_0 := blk_frozen BKX.out 0; have hfz20_1 := blk_frozen BKX.out 1) | (go_at_call 108; (with_reducible refine (impl_teethOf.calls k1 _ _ l0 ((rd_T97 l1 x21).f0) t28 _ ?side1 ?side2 A18.out).mono ?_); (case side1 => exact Kd.C_below HR0.out (by repeat (first | (with_reducible first | exact HB.out | apply below_alloc | apply pw_below_drewN | apply below_drew1 | refine below_set ?_ GEX.out) | exact HB.out))); (case side2 => exact HC0.out); rintro e w21 ⟨v162, rfl, ho0, hb⟩; have n0_ := Aside0.mk (Kd.R_below (by (with_reducible repeat (first | apply Kd.R_alloc | apply Kd.R_drewN | apply Kd.R_drew)); exact (Kd.R_mono (Kd.R_far (p := ⟨gbx, 1, none⟩) (Kd.R_far (p := ⟨gbx, 0, none⟩) (Kd.R_types HO8.out BKX.out (by decide)) (fun _ hk => hk.2) (.int .i64 ((rd_T97 l1 x21).f0))) (fun _ hk => hk.2) (.int .i64 ((rd_T97 l1 x21).f1))) (fun _ h_ => h_.1))) hb); have n1_ := Aside0.mk (impl_giveTeeth.map_below (by exact (HM.out.setCell NEX.out _).setCell NEX.out _) hb); have n2_ := Aside0.mk (Kd.R_lower ho0 (below_size (by repeat (first | (with_reducible first | exact HB.out | apply below_alloc | apply pw_below_drewN | apply below_drew1 | refine below_set ?_ GEX.out) | exact HB.out)))); have n3_ := Aside0.mk (blk_below (g := gbx) (o := .cells #[.int .i64 ((rd_T97 l1 x21).f0), .int .i64 ((rd_T97 l1 x21).f1)] 97 (0, 0)) (by (with_reducible repeat (first | refine blk_drewN ?_ _ | refine blk_drew ?_ | refine blk_alloc ?_ _)); refine blk_put (cs := #[.int .i64 ((rd_T97 l1 x21).f0), .int .i64 0]) ?_ 1 _ rfl; (with_reducible repeat (first | refine blk_drewN ?_ _ | refine blk_drew ?_ | refine blk_alloc ?_ _)); refine blk_put (cs := #[.int .i64 0, .int .i64 0]) ?_ 0 _ rfl; (with_reducible repeat (first | refine blk_drewN ?_ _ | refine blk_drew ?_ | refine blk_alloc ?_ _)); exact BKX.out) hb); have n4_ := Aside0.mk (below_step (by repeat (first | (with_reducible first | exact HB.out | apply below_alloc | apply pw_below_drewN | apply below_drew1 | refine below_set ?_ GEX.out) | exact HB.out)) hb); clear HO8 HM BKX HB; have HO8 := n0_; have HM := n1_; have HOT := n2_; have BKX := n3_; have HB := n4_; clear n0_ n1_ n2_ n3_ n4_; (try clear hb); (try clear ho0); obtain ⟨Ao22, co22, eo22⟩ := Kd.R_slice HOT.out; subst eo22)); try go_wp2)
     go_loopg [12, 30] k1 (fun kq v12 v30 w' => ∃ (x12 : Int) (x30 : Int), v12 = .int .i64 x12 ∧ v30 = .int .i64 x30 ∧ Aside0 (impl_giveTeeth.l1 kq l0 a2 x8 x9 l1 (l1.length : Int) x21 ((rd_T97 l1 x21).f1) x12 t28 (t28.length : Int) x30 = some (r1, r2)) ∧ Aside0 (kq ≤ k1) ∧ Aside0 (Kd.R (Kd.int .i64) 3 w' w.heap.size (fun k_ => k_ ≠ w3.heap.size) u8 x8) ∧ Aside0 (w'.ownsMap Try.prog 3 (plainElem Try.prog 3) w3.heap.size x8.length D) ∧ Aside0 (Kd.R (Kd.int .i64) 3 w' w.heap.size (fun _ => True) (.slice Ao22 t28.length co22) t28) ∧ Aside0 (w'.heap[gbx]? = some (.cells #[.int .i64 ((rd_T97 l1 x21).f0), .int .i64 ((rd_T97 l1 x21).f1)] 97 (0, 0))) ∧ Aside0 (Below w.heap.size w w'))
     case atStart => exact ⟨(-1), 0, fin2, fin2, H', ⟨Nat.le_refl _⟩, ⟨rup HO8.out⟩, ⟨HM.out⟩, ⟨by (with_reducible repeat (first | apply Kd.R_alloc | apply Kd.R_drewN | apply Kd.R_drew)); exact HOT.out⟩, ⟨by (with_reducible repeat (first | refine blk_drewN ?_ _ | refine blk_drew ?_ | refine blk_alloc ?_ _)); exact BKX.out⟩, ⟨bl⟩⟩
     case round =>
      clear H'
      obtain ⟨x12, x30, rfl, rfl, HA, HK2, HO8, HM, HOT, BKX, HB⟩ := hrel
      cases gk with
      | zero => exact absurd HA.out (by simp [impl_giveTeeth.l1])
      | succ k2 =>
       have H := HA.out
       clear HA
       simp only [impl_giveTeeth.l1] at H
       by_cases c23 : x30 < (t28.length : Int)
       ·rw [if_pos c23] at H
        have c23b0 : decide (x30 < (t28.length : Int)) = true := decide_eq_true c23
        by_cases c24 : 0 ≤ x30
        ·rw [if_pos c24, if_pos c23] at H
         clear c23
         have c24b0 : decide (0 ≤ x30) = true := decide_eq_true c24
         clear c24
         by_cases cw : (Lit.int .i64 (rd t28 x30)).wf = true
         ·rw [if_pos cw] at H
          have CW := Aside0.mk cw
          clear cw
          have HS0 := (HG.out.2 (rd t28 x30))
          by_cases c26 : x12 < 0
          ·rw [if_pos c26] at H
           have c26b0 : decide (x12 < 0) = true := decide_eq_true c26
           clear c26
           cases hl : x9 (rd t28 x30) with
           | none =>
            rw [hl] at H
            rw [if_neg (by simp)] at H
            have HS := Aside0.mk (show Maps.has D (.int .i64 (rd t28 x30)) = false by rw [HS0.1, hl]; rfl)
            clear HS0 hl
            have H' := Aside0.mk H
            clear H
            have p164 : 0 ≤ (x30 : Int) := od
            have q164 : x30 < (t28.length : Int) := od
            obtain ⟨ad164, e164, hx164_0⟩ := Kd.at_int (Kd.R_reads' HOT.out).2.2 x30 p164 q164
            cases e164
            replace p164 := eq_true p164
            replace q164 := eq_true q164
            have hcz30_0 : wr.cell? ⟨gbx, 0, none⟩ = some (.int .i64 ((rd_T97 l1 x21).f0)) := (blk_cell BKX.out 0).trans rfl
            have hcz30_1 : wr.cell? ⟨gbx, 1, none⟩ = some (.int .i64 ((rd_T97 l1 x21).f1)) := (blk_cell BKX.out 1).trans rfl
            have hfz30_0 := blk_frozen BKX.out 0
            have hfz30_1 := blk_frozen BKX.out 1
            go_wp2_with (first | (at_lookup; refine wpList_lookup_own_ok_int _ rfl _ _ 135 rfl 3 3 .i64 impl_giveTeeth.law3 Try.underlying135 Try.underlying3 (impl_giveTeeth.zero3 _) w3.heap.size x8.length D rfl (by exact HM.out) _ _ rfl (Maps.keyOf_int_mk Try.underlying3 CW.out) ?_; intro c_ hat_ hwc_; rw [HS.out]))
            repeat (go_quiet (first | (at_lookup; refine wpList_lookup_own_ok_int _ rfl _ _ 135 rfl 3 3 .i64 impl_giveTeeth.law3 Try.underlying135 Try.underlying3 (impl_giveTeeth.zero3 _) w3.heap.size x8.length D rfl (by exact HM.out) _ _ rfl (Maps.keyOf_int_mk Try.underlying3 CW.out) ?_; intro c_ hat_ hwc_; rw [HS.out])); try go_wp2)
            go_roundg k2
            case measure => have := HK1.out; have := HK2.out; omega
            case rel => exact ⟨(rd t28 x30), (wrap64 (x30 + 1)), fin2, fin2, H', ⟨by have := HK1.out; have := HK2.out; omega⟩, ⟨rup HO8.out⟩, ⟨HM.out⟩, ⟨by (with_reducible repeat (first | apply Kd.R_alloc | apply Kd.R_drewN | apply Kd.R_drew)); exact HOT.out⟩, ⟨by (with_reducible repeat (first | refine blk_drewN ?_ _ | refine blk_drew ?_ | refine blk_alloc ?_ _)); exact BKX.out⟩, ⟨bl⟩⟩
           | some b_ =>
            rw [hl] at H
            rw [if_pos (by simp), Option.getD_some] at H
            have HS := Aside0.mk (show Maps.has D (.int .i64 (rd t28 x30)) = true by rw [HS0.1, hl]; rfl)
            have HV := Aside0.mk (HS0.2 b_ hl)
            clear HS0 hl
            by_cases c29 : a2 ≤ (wrap64 (((rd_T97 l1 x21).f1) - b_))
            ·rw [if_pos c29] at H
             have c29b0 : decide (a2 ≤ (wrap64 (((rd_T97 l1 x21).f1) - b_))) = true := decide_eq_true c29
             clear c29
             have H' := Aside0.mk H
             clear H
             have p164 : 0 ≤ (x30 : Int) := od
             have q164 : x30 < (t28.length : Int) := od
             obtain ⟨ad164, e164, hx164_0⟩ := Kd.at_int (Kd.R_reads' HOT.out).2.2 x30 p164 q164
             cases e164
             replace p164 := eq_true p164
             replace q164 := eq_true q164
             have hcz30_0 : wr.cell? ⟨gbx, 0, none⟩ = some (.int .i64 ((rd_T97 l1 x21).f0)) := (blk_cell BKX.out 0).trans rfl
             have hcz30_1 : wr.cell? ⟨gbx, 1, none⟩ = some (.int .i64 ((rd_T97 l1 x21).f1)) := (blk_cell BKX.out 1).trans rfl
             have hfz30_0 := blk_frozen BKX.out 0
             have hfz30_1 := blk_frozen BKX.out 1
             go_wp2_with (first | (at_lookup; refine wpList_lookup_own_ok_int _ rfl _ _ 135 rfl 3 3 .i64 impl_giveTeeth.law3 Try.underlying135 Try.underlying3 (impl_giveTeeth.zero3 _) w3.heap.size x8.length D rfl (by exact HM.out) _ _ rfl (Maps.keyOf_int_mk Try.underlying3 CW.out) ?_; intro c_ hat_ hwc_; rw [HS.out]; obtain rfl : b_ = c_ := (by have e_ := HV.out.symm.trans hat_; injection e_ with e_; injection e_)))
             repeat (go_quiet (first | (at_lookup; refine wpList_lookup_own_ok_int _ rfl _ _ 135 rfl 3 3 .i64 impl_giveTeeth.law3 Try.underlying135 Try.underlying3 (impl_giveTeeth.zero3 _) w3.heap.size x8.length D rfl (by exact HM.out) _ _ rfl (Maps.keyOf_int_mk Try.underlying3 CW.out) ?_; intro c_ hat_ hwc_; rw [HS.out]; obtain rfl : b_ = c_ := (by have e_ := HV.out.symm.trans hat_; injection e_ with e_; injection e_))); try go_wp2)
             go_roundg k2
             case measure => have := HK1.out; have := HK2.out; omega
             case rel => exact ⟨(rd t28 x30), (wrap64 (x30 + 1)), fin2, fin2, H', ⟨by have := HK1.out; have := HK2.out; omega⟩, ⟨rup HO8.out⟩, ⟨HM.out⟩, ⟨by (with_reducible repeat (first | apply Kd.R_alloc | apply Kd.R_drewN | apply Kd.R_drew)); exact HOT.out⟩, ⟨by (with_reducible repeat (first | refine blk_drewN ?_ _ | refine blk_drew ?_ | refine blk_alloc ?_ _)); exact BKX.out⟩, ⟨bl⟩⟩
            ·rw [if_neg c29] at H
             have c29b0 : decide (a2 ≤ (wrap64 (((rd_T97 l1 x21).f1) - b_))) = false := decide_eq_false c29
             clear c29
             have H' := Aside0.mk H
             clear H
             have p164 : 0 ≤ (x30 : Int) := od
             have q164 : x30 < (t28.length : Int) := od
             obtain ⟨ad164, e164, hx164_0⟩ := Kd.at_int (Kd.R_reads' HOT.out).2.2 x30 p164 q164
             cases e164
             replace p164 := eq_true p164
             replace q164 := eq_true q164
             have hcz30_0 : wr.cell? ⟨gbx, 0, none⟩ = some (.int .i64 ((rd_T97 l1 x21).f0)) := (blk_cell BKX.out 0).trans rfl
             have hcz30_1 : wr.cell? ⟨gbx, 1, none⟩ = some (.int .i64 ((rd_T97 l1 x21).f1)) := (blk_cell BKX.out 1).trans rfl
             have hfz30_0 := blk_frozen BKX.out 0
             have hfz30_1 := blk_frozen BKX.out 1
             go_wp2_with (first | (at_lookup; refine wpList_lookup_own_ok_int _ rfl _ _ 135 rfl 3 3 .i64 impl_giveTeeth.law3 Try.underlying135 Try.underlying3 (impl_giveTeeth.zero3 _) w3.heap.size x8.length D rfl (by exact HM.out) _ _ rfl (Maps.keyOf_int_mk Try.underlying3 CW.out) ?_; intro c_ hat_ hwc_; rw [HS.out]; obtain rfl : b_ = c_ := (by have e_ := HV.out.symm.trans hat_; injection e_ with e_; injection e_)))
             repeat (go_quiet (first | (at_lookup; refine wpList_lookup_own_ok_int _ rfl _ _ 135 rfl 3 3 .i64 impl_giveTeeth.law3 Try.underlying135 Try.underlying3 (impl_giveTeeth.zero3 _) w3.heap.size x8.length D rfl (by exact HM.out) _ _ rfl (Maps.keyOf_int_mk Try.underlying3 CW.out) ?_; intro c_ hat_ hwc_; rw [HS.out]; obtain rfl : b_ = c_ := (by have e_ := HV.out.symm.trans hat_; injection e_ with e_; injection e_))); try go_wp2)
             go_roundg k2
             case measure => have := HK1.out; have := HK2.out; omega
             case rel => exact ⟨x12, (wrap64 (x30 + 1)), fin2, fin2, H', ⟨by have := HK1.out; have := HK2.out; omega⟩, ⟨rup HO8.out⟩, ⟨HM.out⟩, ⟨by (with_reducible repeat (first | apply Kd.R_alloc | apply Kd.R_drewN | apply Kd.R_drew)); exact HOT.out⟩, ⟨by (with_reducible repeat (first | refine blk_drewN ?_ _ | refine blk_drew ?_ | refine blk_alloc ?_ _)); exact BKX.out⟩, ⟨bl⟩⟩
          ·rw [if_neg c26] at H
           have c26b0 : decide (x12 < 0) = false := decide_eq_false c26
           clear c26
           cases hl : Maps.has D (.int .i64 (rd t28 x30)) with
           | true =>
            have HS := Aside0.mk hl
            clear HS0 hl
            have H' := Aside0.mk H
            clear H
            have p164 : 0 ≤ (x30 : Int) := od
            have q164 : x30 < (t28.length : Int) := od
            obtain ⟨ad164, e164, hx164_0⟩ := Kd.at_int (Kd.R_reads' HOT.out).2.2 x30 p164 q164
            cases e164
            replace p164 := eq_true p164
            replace q164 := eq_true q164
            have hcz30_0 : wr.cell? ⟨gbx, 0, none⟩ = some (.int .i64 ((rd_T97 l1 x21).f0)) := (blk_cell BKX.out 0).trans rfl
            have hcz30_1 : wr.cell? ⟨gbx, 1, none⟩ = some (.int .i64 ((rd_T97 l1 x21).f1)) := (blk_cell BKX.out 1).trans rfl
            have hfz30_0 := blk_frozen BKX.out 0
            have hfz30_1 := blk_frozen BKX.out 1
            go_wp2_with (first | (at_lookup; refine wpList_lookup_own_ok_int _ rfl _ _ 135 rfl 3 3 .i64 impl_giveTeeth.law3 Try.underlying135 Try.underlying3 (impl_giveTeeth.zero3 _) w3.heap.size x8.length D rfl (by exact HM.out) _ _ rfl (Maps.keyOf_int_mk Try.underlying3 CW.out) ?_; intro c_ hat_ hwc_; rw [HS.out]))
            repeat (go_quiet (first | (at_lookup; refine wpList_lookup_own_ok_int _ rfl _ _ 135 rfl 3 3 .i64 impl_giveTeeth.law3 Try.underlying135 Try.underlying3 (impl_giveTeeth.zero3 _) w3.heap.size x8.length D rfl (by exact HM.out) _ _ rfl (Maps.keyOf_int_mk Try.underlying3 CW.out) ?_; intro c_ hat_ hwc_; rw [HS.out])); try go_wp2)
            go_roundg k2
            case measure => have := HK1.out; have := HK2.out; omega
            case rel => exact ⟨x12, (wrap64 (x30 + 1)), fin2, fin2, H', ⟨by have := HK1.out; have := HK2.out; omega⟩, ⟨rup HO8.out⟩, ⟨HM.out⟩, ⟨by (with_reducible repeat (first | apply Kd.R_alloc | apply Kd.R_drewN | apply Kd.R_drew)); exact HOT.out⟩, ⟨by (with_reducible repeat (first | refine blk_drewN ?_ _ | refine blk_drew ?_ | refine blk_alloc ?_ _)); exact BKX.out⟩, ⟨bl⟩⟩
           | false =>
            have HS := Aside0.mk hl
            clear HS0 hl
            have H' := Aside0.mk H
            clear H
            have p164 : 0 ≤ (x30 : Int) := od
            have q164 : x30 < (t28.length : Int) := od
            obtain ⟨ad164, e164, hx164_0⟩ := Kd.at_int (Kd.R_reads' HOT.out).2.2 x30 p164 q164
            cases e164
            replace p164 := eq_true p164
            replace q164 := eq_true q164
            have hcz30_0 : wr.cell? ⟨gbx, 0, none⟩ = some (.int .i64 ((rd_T97 l1 x21).f0)) := (blk_cell BKX.out 0).trans rfl
            have hcz30_1 : wr.cell? ⟨gbx, 1, none⟩ = some (.int .i64 ((rd_T97 l1 x21).f1)) := (blk_cell BKX.out 1).trans rfl
            have hfz30_0 := blk_frozen BKX.out 0
            have hfz30_1 := blk_frozen BKX.out 1
            go_wp2_with (first | (at_lookup; refine wpList_lookup_own_ok_int _ rfl _ _ 135 rfl 3 3 .i64 impl_giveTeeth.law3 Try.underlying135 Try.underlying3 (impl_giveTeeth.zero3 _) w3.heap.size x8.length D rfl (by exact HM.out) _ _ rfl (Maps.keyOf_int_mk Try.underlying3 CW.out) ?_; intro c_ hat_ hwc_; rw [HS.out]))
            repeat (go_quiet (first | (at_lookup; refine wpList_lookup_own_ok_int _ rfl _ _ 135 rfl 3 3 .i64 impl_giveTeeth.law3 Try.underlying135 Try.underlying3 (impl_giveTeeth.zero3 _) w3.heap.size x8.length D rfl (by exact HM.out) _ _ rfl (Maps.keyOf_int_mk Try.underlying3 CW.out) ?_; intro c_ hat_ hwc_; rw [HS.out])); try go_wp2)
            go_roundg k2
            case measure => have := HK1.out; have := HK2.out; omega
            case rel => exact ⟨x12, (wrap64 (x30 + 1)), fin2, fin2, H', ⟨by have := HK1.out; have := HK2.out; omega⟩, ⟨rup HO8.out⟩, ⟨HM.out⟩, ⟨by (with_reducible repeat (first | apply Kd.R_alloc | apply Kd.R_drewN | apply Kd.R_drew)); exact HOT.out⟩, ⟨by (with_reducible repeat (first | refine blk_drewN ?_ _ | refine blk_drew ?_ | refine blk_alloc ?_ _)); exact BKX.out⟩, ⟨bl⟩⟩
         ·rw [if_neg cw] at H
          exact absurd H (by simp)
        ·rw [if_neg c24] at H
         exact absurd H (by simp)
       ·rw [if_neg c23] at H
        have c23b0 : decide (x30 < (t28.length : Int)) = false := decide_eq_false c23
        clear c23
        by_cases c31 : x12 < 0
        ·rw [if_pos c31] at H
         have c31b0 : decide (x12 < 0) = true := decide_eq_true c31
         clear c31
         simp only [Option.some.injEq, Prod.mk.injEq] at H
         obtain ⟨rfl, rfl⟩ := H
         go_wp2
         repeat (go_quiet (fail); try go_wp2)
         go_ret2
         exact ⟨_, rfl, Kd.R_nil _ _ _ _ _, bl⟩
        ·rw [if_neg c31] at H
         have c31b0 : decide (x12 < 0) = false := decide_eq_false c31
         clear c31
         by_cases cw : (Lit.int .i64 x12).wf = true
         ·by_cases cv : (Lit.int .i64 ((rd_T97 l1 x21).f1)).wf = true
          ·by_cases c32 : x8.length < 17592186044416
           ·rw [if_pos cw, if_pos cv, if_pos c32] at H
            have CW := Aside0.mk cw
            have CV := Aside0.mk cv
            have CL := Aside0.mk c32
            clear cw cv c32
            have H' := Aside0.mk H
            clear H
            have hcz30_0 : wr.cell? ⟨gbx, 0, none⟩ = some (.int .i64 ((rd_T97 l1 x21).f0)) := (blk_cell BKX.out 0).trans rfl
            have hcz30_1 : wr.cell? ⟨gbx, 1, none⟩ = some (.int .i64 ((rd_T97 l1 x21).f1)) := (blk_cell BKX.out 1).trans rfl
            have hfz30_0 := blk_frozen BKX.out 0
            have hfz30_1 := blk_frozen BKX.out 1
            go_wp2_with (first | (at_mapUpdate; refine wpList_mapUpdate_own _ rfl _ _ _ 135 rfl 3 3 impl_giveTeeth.law3 Try.underlying135 _ w3.heap.size x8.length D rfl (by exact HM.out) (by have := CL.out; unfold maxLen; omega) _ _ _ rfl rfl (Maps.keyOf_int_mk Try.underlying3 CW.out) _ [] (plainElem_int Try.underlying3 CV.out) ?_; intro w31 hown1 hgrow1; have n0_ := Aside0.mk hown1; have n1_ := Aside0.mk (Kd.R_grown (ok := fun k_ => k_ ≠ w3.heap.size) (rup HO8.out) hgrow1 (fun k_ hk_ e_ => hk_ (by injection e_))); have n2_ := Aside0.mk ((show Below w.heap.size w _ from bl).grown hgrow1 (below_size HB.out) (fun j hj => by cases hj; exact BGE.out)); clear HM HO8 HB hown1 hgrow1; have HM := n0_; have HO8 := n1_; have HB := n2_; clear n0_ n1_ n2_) | ((with_reducible refine gate_builtin (b := .append) (xs := #[.tmp 62, .tmp 64]) rfl ?_); at_builtin; refine Kd.R_append (Kd.int .i64) (w0 := w) w.heap.size rfl (.tmp 62) (.tmp 64) 39 3 (.int .i64 0) 8 rfl Try.underlying39 info3 rfl (by decide) (by omega) u8 x8 x12 [.int .i64 x12] (fun k_ => k_ ≠ w3.heap.size) (fun _ => False) rfl (by first | (go_simp; done) | (go_simp; rfl)) ?aP (fun _ hk => hk.elim) ?aF ?aO ?aB ?aS ?aL ?_; (case aP => exact rfl); (case aB => exact bl); (case aF => exact (fun k_ hk_ e_ => by subst e_; exact absurd hk_ (Nat.not_le_of_lt (World.ownsMap.lt (by first | exact HM.out | exact HM.out.alloc _))))); (case aO => exact (rup HO8.out)); (case aS => exact (below_size bl)); (case aL => have := CL.out; omega); intro v160 w12 ho hb hg hat; have n0_ := Aside0.mk (World.ownsMap.kept (by first | exact HM.out | exact HM.out.alloc _) hg (fun e_ => HO8.out.1 _ e_.symm rfl)); have n1_ := Aside0.mk (hb); have n2_ := Aside0.mk (ho); clear HM HB HO8; have HM := n0_; have HB := n1_; have HO8 := n2_; clear n0_ n1_ n2_; clear ho hb hg hat))
            repeat (go_quiet (first | (at_mapUpdate; refine wpList_mapUpdate_own _ rfl _ _ _ 135 rfl 3 3 impl_giveTeeth.law3 Try.underlying135 _ w3.heap.size x8.length D rfl (by exact HM.out) (by have := CL.out; unfold maxLen; omega) _ _ _ rfl rfl (Maps.keyOf_int_mk Try.underlying3 CW.out) _ [] (plainElem_int Try.underlying3 CV.out) ?_; intro w31 hown1 hgrow1; have n0_ := Aside0.mk hown1; have n1_ := Aside0.mk (Kd.R_grown (ok := fun k_ => k_ ≠ w3.heap.size) (rup HO8.out) hgrow1 (fun k_ hk_ e_ => hk_ (by injection e_))); have n2_ := Aside0.mk ((show Below w.heap.size w _ from bl).grown hgrow1 (below_size HB.out) (fun j hj => by cases hj; exact BGE.out)); clear HM HO8 HB hown1 hgrow1; have HM := n0_; have HO8 := n1_; have HB := n2_; clear n0_ n1_ n2_) | ((with_reducible refine gate_builtin (b := .append) (xs := #[.tmp 62, .tmp 64]) rfl ?_); at_builtin; refine Kd.R_append (Kd.int .i64) (w0 := w) w.heap.size rfl (.tmp 62) (.tmp 64) 39 3 (.int .i64 0) 8 rfl Try.underlying39 info3 rfl (by decide) (by omega) u8 x8 x12 [.int .i64 x12] (fun k_ => k_ ≠ w3.heap.size) (fun _ => False) rfl (by first | (go_simp; done) | (go_simp; rfl)) ?aP (fun _ hk => hk.elim) ?aF ?aO ?aB ?aS ?aL ?_; (case aP => exact rfl); (case aB => exact bl); (case aF => exact (fun k_ hk_ e_ => by subst e_; exact absurd hk_ (Nat.not_le_of_lt (World.ownsMap.lt (by first | exact HM.out | exact HM.out.alloc _))))); (case aO => exact (rup HO8.out)); (case aS => exact (below_size bl)); (case aL => have := CL.out; omega); intro v160 w12 ho hb hg hat; have n0_ := Aside0.mk (World.ownsMap.kept (by first | exact HM.out | exact HM.out.alloc _) hg (fun e_ => HO8.out.1 _ e_.symm rfl)); have n1_ := Aside0.mk (hb); have n2_ := Aside0.mk (ho); clear HM HB HO8; have HM := n0_; have HB := n1_; have HO8 := n2_; clear n0_ n1_ n2_; clear ho hb hg hat)); try go_wp2)
            go_roundg k2
            case measure => have := HK1.out; have := HK2.out; omega
            case rel => exact ⟨x8 ++ [x12], impl_giveTeeth.upd x9 x12 ((rd_T97 l1 x21).f1), (wrap64 (x21 + 1)), _, fin2, H', ⟨by have := HK1.out; have := HK2.out; omega⟩, ⟨rup HO8.out⟩, ⟨by rw [List.length_append]; exact HM.out⟩, ⟨impl_giveTeeth.agree_put HG.out _ _⟩, ⟨bl⟩⟩
           ·rw [if_pos cw, if_pos cv, if_neg c32] at H
            exact absurd H (by simp)
          ·rw [if_pos cw, if_neg cv] at H
           exact absurd H (by simp)
         ·rw [if_neg cw] at H
          exact absurd H (by simp)
    ·rw [if_neg c10] at H
     exact absurd H (by simp)
   ·rw [if_neg c9] at H
    have c9b0 : decide (x21 < (l1.length : Int)) = false := decide_eq_false c9
    clear c9
    simp only [Option.some.injEq, Prod.mk.injEq] at H
    obtain ⟨rfl, rfl⟩ := H
    go_wp2
    repeat (go_quiet (fail); try go_wp2)
    go_ret2
    exact ⟨_, rfl, by (with_reducible repeat (first | apply Kd.R_alloc | apply Kd.R_drewN | apply Kd.R_drew)); exact Kd.R_mono HO8.out (fun _ _ => trivial), bl⟩

/-! ### slices_Clone_int_int: function 109 -/
def slices_Clone_int_int.f (l0 : List Int) : Option (List Int) := if l0.length < 17592186044416 then some l0 else none
set_option maxHeartbeats 8000000 in
set_option maxRecDepth 100000 in
theorem slices_Clone_int_int.calls (A0 : Option Addr) (c0 : Nat) (l0 : List Int) (r : List Int) (w : World) (hr0 : Kd.C (Kd.int .i64) w A0 l0.length l0) (hc0 : l0.length ≤ c0) (h : slices_Clone_int_int.f l0 = some r) :
  Calls Try.prog 109 #[.slice A0 l0.length c0] w fun e w' => ∃ v0_ : Value, e = .returned (v0_) ∧ Kd.R (Kd.int .i64) 3 w' w.heap.size (fun _ => True) v0_ r ∧ Below w.heap.size w w' := by
 have hlt : l0.length < 17592186044416 := by
  by_cases c : l0.length < 17592186044416
  ·exact c
  ·rw [slices_Clone_int_int.f, if_neg c] at h; cases h
 rw [slices_Clone_int_int.f, if_pos hlt] at h
 obtain rfl := Option.some.inj h
 clear h
 have HL := Aside0.mk hlt
 have HR0 := Aside0.mk hr0
 have HB := Aside0.mk (Below.refl w.heap.size w)
 have hq : ∀ (w : World) (a : Option Addr) (l c : Nat), (binOp .eql 39 (.slice a l c) (.slice none 0 0)).run Try.prog w = .ok (.bool a.isNone) w := fun w a l c => Go.Lib.run_eql_slice_nil w _ _ a l c _ _ Try.underlying39
 rcases A0 with _ | ad
 ·have h0 : l0 = [] := by
   rcases Nat.eq_zero_or_pos l0.length with h0 | h0
   ·exact List.eq_nil_of_length_eq_zero h0
   ·obtain ⟨ad, h, _⟩ := hr0.2.2 h0
    cases h
  subst h0
  clear hr0 hlt hc0
  go_enter Try.func109, Try.ntmps109
  go_wp2
  go_ret
  exact ⟨_, rfl, Kd.R_nil _ _ _ _ _, HB.out⟩
 ·clear hr0 hlt hc0
  go_enter Try.func109, Try.ntmps109
  go_wp2_with (first | ((with_reducible refine gate_dst (N := 5) rfl ?_); refine Kd.R_lit (Kd.int .i64) _ 3 ?hg (N := 5) ?hd (xs := ([] : List Int)) (inner := []) (ok := fun _ => True) (okp := fun _ => True) ?hr ?hp (fun _ hk => hk) trivial (Below.refl _ _) (Nat.le_refl _) (by simp) ?_; (case hd => rfl); (case hg => rfl); (case hr => first | (go_simp; done) | (go_simp; rfl)); (case hp => exact (Reps.none _ _)); intro v115 w15 ho16 hb hg_ hnew_; clear hg_ hnew_; have n0_ := Aside0.mk (Kd.R_lower ho16 (below_size HB.out)); have n1_ := Aside0.mk (below_step HB.out hb); clear HB; have HO116 := n0_; have HB := n1_; clear n0_ n1_; clear hb ho16) | ((with_reducible refine gate_builtin (b := .append) (xs := #[.tmp 5, .tmp 6]) rfl ?_); at_builtin; refine Kd.R_append_rows (Kd.int .i64) (w0 := w) w.heap.size rfl (.tmp 5) (.tmp 6) 39 3 (.int .i64 0) 8 rfl Try.underlying39 info3 rfl (by decide) (by omega) v115 [] l0 _ _ _ (fun _ => True) (fun _ => False) rfl rfl ?aO ?aR (fun _ _ h => h) (fun _ h => h.elim) ?aF ?aB ?aS ?aL ?_; (case aR => exact (Kd.C_below HR0.out HB.out)); (case aB => exact HB.out); (case aF => exact (fun _ _ => trivial)); (case aO => exact HO116.out); (case aS => exact (below_size HB.out)); (case aL => have := HL.out; simp only [List.length_nil]; omega); intro v118 w17 ho hb hg hat; have n0_ := Aside0.mk (hb); have n1_ := Aside0.mk (ho); clear HB; clear HO116; have HB := n0_; have HO119 := n1_; clear n0_ n1_; clear ho hb hg hat))
  go_ret
  exact ⟨_, rfl, HO119.out, HB.out⟩

/-! ### slices_Sort_int_int: function 147 -/
namespace slices_Sort_int_int
open Go.Shelf in
shelf_lay Lays.n189 Nm 189 at Try as layd
end slices_Sort_int_int
def slices_Sort_int_int.f (l0 : List Int) : Option (List Int) := if l0.length < 4611686018427387904 then some (l0.mergeSort fun x y => decide (x ≤ y)) else none
theorem slices_Sort_int_int.encs_ (xs : List Int) : encs (Value.int .i64) xs = xs.map (Value.int .i64) := rfl
open Go.Sort in
set_option maxHeartbeats 8000000 in
set_option maxRecDepth 100000 in
theorem slices_Sort_int_int.calls (P0_ : Nat → Prop) (u9000_ : Value) (l0 : List Int) (r : List Int) (w0 w : World) (hB : Below w0.heap.size w0 w) (ho0 : Kd.R (Kd.int .i64) 3 w w0.heap.size P0_ u9000_ l0) (h : slices_Sort_int_int.f l0 = some r) :
  Calls Try.prog 147 #[u9000_] w fun e w' => e = .returned (.tuple #[]) ∧ Kd.R (Kd.int .i64) 3 w' w0.heap.size (fun k_ => (P0_ k_ ∨ w.heap.size ≤ k_)) u9000_ r ∧ Below w0.heap.size w0 w' ∧ Kept w w' (fun k_ => P0_ k_) := by
 have hlt : l0.length < 4611686018427387904 := by
  by_cases c : l0.length < 4611686018427387904
  ·exact c
  ·rw [slices_Sort_int_int.f, if_neg c] at h; cases h
 rw [slices_Sort_int_int.f, if_pos hlt] at h
 obtain rfl := Option.some.inj h
 clear h
 obtain ⟨hok, inner, hown, hreps⟩ := ho0
 have hin : inner = l0.map (Value.int .i64) := by
  apply List.ext_getElem?
  intro j
  have h1 : inner.length = l0.length := by rw [hreps.1]; exact Nat.mul_one _
  by_cases hj : j < l0.length
  ·have h2 := hreps.2 j l0[j] (List.getElem?_eq_getElem hj)
   have h3 : (inner.drop (j * 1)).take 1 = [Value.int .i64 l0[j]] := h2
   rw [Nat.mul_one] at h3
   have h4 : ((inner.drop j).take 1)[0]? = some (Value.int .i64 l0[j]) := by rw [h3]; rfl
   rw [List.getElem?_take_of_lt (by omega), List.getElem?_drop, Nat.add_zero] at h4
   rw [h4]
   simp [hj]
  ·rw [List.getElem?_eq_none (by omega), List.getElem?_eq_none (by simp; omega)]
 subst hin
 rcases hown.2 with ⟨rfl, hn⟩ | ⟨g, cap, cur, rfl, hbase, hb, h1, h2, h3, h4⟩
 ·obtain rfl : l0 = [] := List.eq_nil_of_length_eq_zero hn
  refine (Any.slices_Sort_int_none slices_Sort_int_int.layd none 0 w).mono ?_
  rintro e w' ⟨rfl, rfl⟩
  rw [show ([] : List Int).mergeSort (fun x y => decide (x ≤ y)) = [] from List.mergeSort_nil]
  exact ⟨rfl, Kd.R_nil _ _ _ _ _, hB, Kept.refl _ _⟩
 ·have hg : g < w.heap.size := (Array.getElem?_eq_some_iff.1 hb).1
  refine (Any.slices_Sort_int slices_Sort_int_int.layd g 0 cap l0 w (holds_of_blockI hb (by rw [← h4]; exact congrArg (fun n => List.take n cur.toList) (Nat.mul_one _).symm)) hg hlt).mono ?_
  rintro e w' ⟨rfl, n, os, rfl⟩
  have hl : (l0.mergeSort fun x y => decide (x ≤ y)).length = l0.length := List.length_mergeSort _
  have hgr := grownBy_sortedI (n := n) (os := os) (w := w) (g := g) (l0.mergeSort fun x y => decide (x ≤ y)).toArray
  have hP : P0_ g := hok g (by simp [Value.ownBlock])
  refine ⟨rfl, ⟨?_, (l0.mergeSort fun x y => decide (x ≤ y)).map (Value.int .i64), ?_, ?_⟩, ?_, ?_⟩
  ·intro k hk
   obtain rfl : g = k := by simpa [Value.ownBlock] using hk
   exact .inl hP
  ·rw [hl]
   exact ownsRow_sortedI hl hbase hb h1 h2 h3
  ·refine ⟨by rw [List.length_map]; exact (Nat.mul_one _).symm, fun j p hp => ?_⟩
   show (((l0.mergeSort fun x y => decide (x ≤ y)).map (Value.int .i64)).drop (j * 1)).take 1 = [Value.int .i64 p]
   rw [Nat.mul_one]
   apply List.ext_getElem?
   intro i
   by_cases hi : i < 1
   ·obtain rfl : i = 0 := by omega
    rw [List.getElem?_take_of_lt (by omega), List.getElem?_drop, Nat.add_zero, List.getElem?_map, hp]
    rfl
   ·rw [List.getElem?_take_eq_none (by omega), List.getElem?_eq_none (by simp; omega)]
  ·exact hB.grown hgr hB.size (fun k hk => by cases hk; exact hbase)
  ·exact Kept.of_grown hgr (Kept.refl _ _) (fun k hk => by cases hk; exact .inl hP)

/-! ### sort_Ints: function 110 -/
def sort_Ints.f (l0 : List Int) : Option (List Int) := (slices_Sort_int_int.f l0).bind fun t242 => (some t242)
set_option maxHeartbeats 8000000 in
set_option maxRecDepth 100000 in
theorem sort_Ints.calls (P0_ : Nat → Prop) (u9000_ : Value) (l0 : List Int) (r : List Int) (w0 w : World) (hB : Below w0.heap.size w0 w) (ho0 : Kd.R (Kd.int .i64) 3 w w0.heap.size P0_ u9000_ l0) (h : sort_Ints.f l0 = some r) :
  Calls Try.prog 110 #[u9000_] w fun e w' => e = .returned (.tuple #[]) ∧ Kd.R (Kd.int .i64) 3 w' w0.heap.size (fun k_ => (P0_ k_ ∨ w.heap.size ≤ k_)) u9000_ r ∧ Below w0.heap.size w0 w' ∧ Kept w w' (fun k_ => P0_ k_) := by
 have HO0 := Aside0.mk (show Kd.R (Kd.int .i64) 3 w w0.heap.size (fun k_ => (P0_ k_ ∨ w.heap.size ≤ k_)) u9000_ l0 from Kd.R_mono ho0 (fun k_ hk => (.inl hk)))
 have HK := Aside0.mk (Kept.refl w (fun k_ => P0_ k_))
 have HW0 := Aside0.mk hB.size
 have HB := Aside0.mk hB
 clear hB
 have H : ((slices_Sort_int_int.f l0).bind fun t242 => (some t242)) = some r := h
 clear h
 replace H := Option.bind_eq_some_iff.mp H
 obtain ⟨t242, A20, H⟩ := H
 replace H : (some t242) = some r := H
 have A2 := Aside0.mk A20
 clear A20
 obtain rfl := Option.some.inj H
 obtain ⟨Ao3, co3, eo3⟩ := Kd.R_slice HO0.out
 subst eo3
 go_enter Try.func110, Try.ntmps110
 go_wp2_with (first | ((with_reducible refine gate_callee (f := 147) rfl ?_); refine goesL_ (some 3) rfl rfl Try.func147 (by kernel_rfl) rfl #[.slice Ao3 l0.length co3] rfl (by (try simp only [List.map_toArray, List.map_cons, List.map_nil]); first | done | rfl | (simp only [List.length_drop, List.length_take]; rfl)) ?_; (with_reducible refine (slices_Sort_int_int.calls (fun k_ => some k_ = (.slice Ao3 l0.length co3 : Value).ownBlock) (.slice Ao3 l0.length co3) l0 t242 w0 _ ?side1 ?side2 A2.out).mono ?_); (case side1 => repeat (first | (with_reducible first | exact HB.out | apply below_alloc | apply pw_below_drewN | apply below_drew1) | exact HB.out)); (case side2 => exact Kd.R_tight rfl HO0.out); rintro e w4 ⟨rfl, hy0, hb, hkp⟩; refine ⟨_, rfl, ?_⟩; have n0_ := Aside0.mk (Kd.R_reok rfl hy0 (fun k_ e_ => HO0.out.1 k_ e_)); have n1_ := Aside0.mk (Kept.then_ (S := (fun k_ => P0_ k_)) (by repeat (first | (with_reducible first | exact HK.out | apply Kept.alloc | apply Kept.drewN | apply Kept.drew) | exact HK.out)) hkp (fun k_ hs_ => (fun e_ => (HO0.out.1 k_ e_.symm)) hs_)); have n2_ := Aside0.mk (hb); clear HO0; clear HK; clear HB; have HO0 := n0_; have HK := n1_; have HB := n2_; clear n0_ n1_ n2_; (try clear hb); (try clear hkp); (try clear hy0)))
 first | go_end0 | ((try simp only [Exit.inBlock, Exit.then]); refine bodyPost_ret (results_none rfl _ _ _) rfl ?_)
 exact ⟨fin1, by (with_reducible repeat (first | apply Kd.R_alloc | apply Kd.R_drewN | apply Kd.R_drew)); exact HO0.out, by repeat (first | (with_reducible first | exact HB.out | apply below_alloc | apply pw_below_drewN | apply below_drew1) | exact HB.out), by repeat (first | (with_reducible first | exact HK.out | apply Kept.alloc | apply Kept.drewN | apply Kept.drew) | exact HK.out)⟩

end Go.Proofs.Ytjniaiobnbdhhac.PFnExactDampersNeeded
