/- The walks of functions that FnExactHoleErrors reaches: what they return is what the plain functions of the same names say. Made by a program of this session after the kit's print. No conditions beyond the arguments' being read. -/
import Derived.Test.YtjniaiobnbdhhabSHoleErrors0
import Derived.Test.YtjniaiobnbdhhabSHoleErrors11
import Derived.Test.YtjniaiobnbdhhabSHoleErrors12
import Derived.Test.YtjniaiobnbdhhabSHoleErrors13
namespace Go.Proofs.Ytjniaiobnbdhhab.PFnExactHoleErrors
open Go.RowKit Go.Proofs.YtjniaiobnbdhhabW.PrintWords Go.Proofs.YtjniaiobnbdhhabW.PrintLast Go.Proofs.YtjniaiobnbdhhabW.PrintMore
attribute [local go_sem] max2_int min2_int max_two min_two max_three min_three max_four min_four   -- for this text's walks alone
set_option linter.unusedVariables false
set_option linter.unusedSimpArgs false

/-! ### impl_canMatch: function 68 -/
def impl_canMatch.f (k : Nat) (l0_0 : List Int) (a0_1 : Int) (l1 : List (S95)) (l2 : List (S80)) : Option (Bool) := (impl_IsInstrument.f k l0_0 a0_1).bind fun t304 => (if t304 = true then ((impl_IsScore.f k l1).bind fun t305 => (if t305 = true then ((impl_IsSheet.f k l2).bind fun t306 => (some t306)) else (some false))) else (some false))
set_option maxHeartbeats 8000000 in
set_option maxRecDepth 100000 in
theorem impl_canMatch.calls (k : Nat) (A0_0 : Option Addr) (c0_0 : Nat) (l0_0 : List Int) (a0_1 : Int) (A1 : Option Addr) (c1 : Nat) (l1 : List (S95)) (A2 : Option Addr) (c2 : Nat) (l2 : List (S80)) (r : Bool) (w : World) (hr0_0 : Kd.C (Kd.int .i64) w A0_0 l0_0.length l0_0) (hc0_0 : l0_0.length ≤ c0_0) (hr1 : Kd.C k95 w A1 l1.length l1) (hc1 : l1.length ≤ c1) (hr2 : Kd.C k80 w A2 l2.length l2) (hc2 : l2.length ≤ c2) (h : impl_canMatch.f k l0_0 a0_1 l1 l2 = some r) :
  Calls Try.prog 68 #[.agg #[.slice A0_0 l0_0.length c0_0, .int .i64 a0_1], .slice A1 l1.length c1, .slice A2 l2.length c2] w fun e w' => e = .returned (.bool r) ∧ Below w.heap.size w w' := by
 have hu44 := Try.underlying44
 have HR0_0 := Aside0.mk hr0_0
 have HC0_0 := Aside0.mk hc0_0
 clear hr0_0 hc0_0
 have HR1 := Aside0.mk hr1
 have HC1 := Aside0.mk hc1
 clear hr1 hc1
 have HR2 := Aside0.mk hr2
 have HC2 := Aside0.mk hc2
 clear hr2 hc2
 have HB := Aside0.mk (Below.refl w.heap.size w)
 have H : ((impl_IsInstrument.f k l0_0 a0_1).bind fun t304 => (if t304 = true then ((impl_IsScore.f k l1).bind fun t305 => (if t305 = true then ((impl_IsSheet.f k l2).bind fun t306 => (some t306)) else (some false))) else (some false))) = some r := h
 clear h
 replace H := Option.bind_eq_some_iff.mp H
 obtain ⟨t304, A40, H⟩ := H
 replace H : (if t304 = true then ((impl_IsScore.f k l1).bind fun t305 => (if t305 = true then ((impl_IsSheet.f k l2).bind fun t306 => (some t306)) else (some false))) else (some false)) = some r := H
 have A4 := Aside0.mk A40
 clear A40
 by_cases c5 : t304 = true
 ·subst c5
  have H1 : ((impl_IsScore.f k l1).bind fun t305 => (if t305 = true then ((impl_IsSheet.f k l2).bind fun t306 => (some t306)) else (some false))) = some r := by rw [if_pos rfl] at H; exact H
  clear H
  have H := H1
  clear H1
  replace H := Option.bind_eq_some_iff.mp H
  obtain ⟨t305, A60, H⟩ := H
  replace H : (if t305 = true then ((impl_IsSheet.f k l2).bind fun t306 => (some t306)) else (some false)) = some r := H
  have A6 := Aside0.mk A60
  clear A60
  by_cases c7 : t305 = true
  ·subst c7
   have H1 : ((impl_IsSheet.f k l2).bind fun t306 => (some t306)) = some r := by rw [if_pos rfl] at H; exact H
   clear H
   have H := H1
   clear H1
   replace H := Option.bind_eq_some_iff.mp H
   obtain ⟨t306, A80, H⟩ := H
   replace H : (some t306) = some r := H
   have A8 := Aside0.mk A80
   clear A80
   obtain rfl := Option.some.inj H
   go_enter Try.func68, Try.ntmps68
   go_wp2_with (first | ((with_reducible refine gate_dst (N := 3) rfl ?_); refine box_event ?hg (N := 3) ?hd (cs := #[.slice A0_0 l0_0.length c0_0, .int .i64 a0_1]) (t := 44) ?hr ?_; (case hd => rfl); (case hg => rfl); (case hr => first | (go_simp; done) | (go_simp; rfl)); intro gb303 hg w9 hbox hb; have n0_ := Aside0.mk (below_step bl hb); have n1_ := Aside0.mk (hbox); have n2_ := Aside0.mk ((by rw [hg]; exact (below_size bl) : w.heap.size ≤ gb303)); have n3_ := Aside0.mk ((by rw [hg]; exact (below_size bl) : w.heap.size ≤ gb303)); clear HB; have HB := n0_; have BK303 := n1_; have GW303 := n2_; have GE303 := n3_; clear n0_ n1_ n2_ n3_; clear hb hbox hg; have hcz10_0 : w9.cell? ⟨gb303, 0, none⟩ = some (.slice A0_0 l0_0.length c0_0) := (blk_cell BK303.out 0).trans rfl; have hcz10_1 : w9.cell? ⟨gb303, 1, none⟩ = some (.int .i64 a0_1) := (blk_cell BK303.out 1).trans rfl; have hfz10_0 := blk_frozen BK303.out 0; have hfz10_1 := blk_frozen BK303.out 1) | ((with_reducible refine gate_callee (f := 96) rfl ?_); refine goesL_ (some 8) rfl rfl Try.func96 (by kernel_rfl) rfl #[.agg #[.slice A0_0 l0_0.length c0_0, .int .i64 a0_1]] rfl (by (try simp only [List.map_toArray, List.map_cons, List.map_nil]); first | done | rfl | (simp only [List.length_drop, List.length_take]; rfl)) ?_; (with_reducible refine (impl_IsInstrument.calls k _ _ l0_0 a0_1 true _ ?side1 ?side2 A4.out).mono ?_); (case side1 => repeat (first | exact (Kd.C_below HR0_0.out HB.out) | (with_reducible refine Kd.C_alloc ?_ _) | (with_reducible refine Kd.C_drewN ?_ _) | (with_reducible refine Kd.C_drew ?_))); (case side2 => exact HC0_0.out); rintro e w11 ⟨rfl, hb⟩; refine ⟨_, rfl, ?_⟩; have n0_ := Aside0.mk (blk_below (g := gb303) (o := .cells #[.slice A0_0 l0_0.length c0_0, .int .i64 a0_1] 44 (0, 0)) (bup BK303.out) hb); have n1_ := Aside0.mk (below_step bl hb); clear BK303; clear HB; have BK303 := n0_; have HB := n1_; clear n0_ n1_; (try clear hb); (try clear hb2); (try clear hk); (try clear hi)) | (go_at_call 97; (with_reducible refine (impl_IsScore.calls k _ _ l1 true _ ?side1 ?side2 A6.out).mono ?_); (case side1 => repeat (first | exact (Kd.C_below HR1.out HB.out) | (with_reducible refine Kd.C_alloc ?_ _) | (with_reducible refine Kd.C_drewN ?_ _) | (with_reducible refine Kd.C_drew ?_))); (case side2 => exact HC1.out); rintro e w12 ⟨rfl, hb⟩; have n0_ := Aside0.mk (blk_below (g := gb303) (o := .cells #[.slice A0_0 l0_0.length c0_0, .int .i64 a0_1] 44 (0, 0)) (bup BK303.out) hb); have n1_ := Aside0.mk (below_step bl hb); clear BK303; clear HB; have BK303 := n0_; have HB := n1_; clear n0_ n1_; (try clear hb); (try clear hb2); (try clear hk); (try clear hi)) | (go_at_call 89; (with_reducible refine (impl_IsSheet.calls k _ _ l2 t306 _ ?side1 ?side2 A8.out).mono ?_); (case side1 => repeat (first | exact (Kd.C_below HR2.out HB.out) | (with_reducible refine Kd.C_alloc ?_ _) | (with_reducible refine Kd.C_drewN ?_ _) | (with_reducible refine Kd.C_drew ?_))); (case side2 => exact HC2.out); rintro e w13 ⟨rfl, hb⟩; have n0_ := Aside0.mk (blk_below (g := gb303) (o := .cells #[.slice A0_0 l0_0.length c0_0, .int .i64 a0_1] 44 (0, 0)) (bup BK303.out) hb); have n1_ := Aside0.mk (below_step bl hb); clear BK303; clear HB; have BK303 := n0_; have HB := n1_; clear n0_ n1_; (try clear hb); (try clear hb2); (try clear hk); (try clear hi)))
   go_ret
   exact ⟨fin1, bl⟩
  ·replace c7 := Bool.eq_false_iff.mpr c7
   subst c7
   have H1 : (some false) = some r := by rw [if_neg (show ¬ (false = true) by decide)] at H; exact H
   clear H
   have H := H1
   clear H1
   obtain rfl := Option.some.inj H
   go_enter Try.func68, Try.ntmps68
   go_wp2_with (first | ((with_reducible refine gate_dst (N := 3) rfl ?_); refine box_event ?hg (N := 3) ?hd (cs := #[.slice A0_0 l0_0.length c0_0, .int .i64 a0_1]) (t := 44) ?hr ?_; (case hd => rfl); (case hg => rfl); (case hr => first | (go_simp; done) | (go_simp; rfl)); intro gb303 hg w14 hbox hb; have n0_ := Aside0.mk (below_step bl hb); have n1_ := Aside0.mk (hbox); have n2_ := Aside0.mk ((by rw [hg]; exact (below_size bl) : w.heap.size ≤ gb303)); have n3_ := Aside0.mk ((by rw [hg]; exact (below_size bl) : w.heap.size ≤ gb303)); clear HB; have HB := n0_; have BK303 := n1_; have GW303 := n2_; have GE303 := n3_; clear n0_ n1_ n2_ n3_; clear hb hbox hg; have hcz15_0 : w14.cell? ⟨gb303, 0, none⟩ = some (.slice A0_0 l0_0.length c0_0) := (blk_cell BK303.out 0).trans rfl; have hcz15_1 : w14.cell? ⟨gb303, 1, none⟩ = some (.int .i64 a0_1) := (blk_cell BK303.out 1).trans rfl; have hfz15_0 := blk_frozen BK303.out 0; have hfz15_1 := blk_frozen BK303.out 1) | ((with_reducible refine gate_callee (f := 96) rfl ?_); refine goesL_ (some 8) rfl rfl Try.func96 (by kernel_rfl) rfl #[.agg #[.slice A0_0 l0_0.length c0_0, .int .i64 a0_1]] rfl (by (try simp only [List.map_toArray, List.map_cons, List.map_nil]); first | done | rfl | (simp only [List.length_drop, List.length_take]; rfl)) ?_; (with_reducible refine (impl_IsInstrument.calls k _ _ l0_0 a0_1 true _ ?side1 ?side2 A4.out).mono ?_); (case side1 => repeat (first | exact (Kd.C_below HR0_0.out HB.out) | (with_reducible refine Kd.C_alloc ?_ _) | (with_reducible refine Kd.C_drewN ?_ _) | (with_reducible refine Kd.C_drew ?_))); (case side2 => exact HC0_0.out); rintro e w16 ⟨rfl, hb⟩; refine ⟨_, rfl, ?_⟩; have n0_ := Aside0.mk (blk_below (g := gb303) (o := .cells #[.slice A0_0 l0_0.length c0_0, .int .i64 a0_1] 44 (0, 0)) (bup BK303.out) hb); have n1_ := Aside0.mk (below_step bl hb); clear BK303; clear HB; have BK303 := n0_; have HB := n1_; clear n0_ n1_; (try clear hb); (try clear hb2); (try clear hk); (try clear hi)) | (go_at_call 97; (with_reducible refine (impl_IsScore.calls k _ _ l1 false _ ?side1 ?side2 A6.out).mono ?_); (case side1 => repeat (first | exact (Kd.C_below HR1.out HB.out) | (with_reducible refine Kd.C_alloc ?_ _) | (with_reducible refine Kd.C_drewN ?_ _) | (with_reducible refine Kd.C_drew ?_))); (case side2 => exact HC1.out); rintro e w17 ⟨rfl, hb⟩; have n0_ := Aside0.mk (blk_below (g := gb303) (o := .cells #[.slice A0_0 l0_0.length c0_0, .int .i64 a0_1] 44 (0, 0)) (bup BK303.out) hb); have n1_ := Aside0.mk (below_step bl hb); clear BK303; clear HB; have BK303 := n0_; have HB := n1_; clear n0_ n1_; (try clear hb); (try clear hb2); (try clear hk); (try clear hi)))
   go_ret
   exact ⟨fin1, bl⟩
 ·replace c5 := Bool.eq_false_iff.mpr c5
  subst c5
  have H1 : (some false) = some r := by rw [if_neg (show ¬ (false = true) by decide)] at H; exact H
  clear H
  have H := H1
  clear H1
  obtain rfl := Option.some.inj H
  go_enter Try.func68, Try.ntmps68
  go_wp2_with (first | ((with_reducible refine gate_dst (N := 3) rfl ?_); refine box_event ?hg (N := 3) ?hd (cs := #[.slice A0_0 l0_0.length c0_0, .int .i64 a0_1]) (t := 44) ?hr ?_; (case hd => rfl); (case hg => rfl); (case hr => first | (go_simp; done) | (go_simp; rfl)); intro gb303 hg w18 hbox hb; have n0_ := Aside0.mk (below_step bl hb); have n1_ := Aside0.mk (hbox); have n2_ := Aside0.mk ((by rw [hg]; exact (below_size bl) : w.heap.size ≤ gb303)); have n3_ := Aside0.mk ((by rw [hg]; exact (below_size bl) : w.heap.size ≤ gb303)); clear HB; have HB := n0_; have BK303 := n1_; have GW303 := n2_; have GE303 := n3_; clear n0_ n1_ n2_ n3_; clear hb hbox hg; have hcz19_0 : w18.cell? ⟨gb303, 0, none⟩ = some (.slice A0_0 l0_0.length c0_0) := (blk_cell BK303.out 0).trans rfl; have hcz19_1 : w18.cell? ⟨gb303, 1, none⟩ = some (.int .i64 a0_1) := (blk_cell BK303.out 1).trans rfl; have hfz19_0 := blk_frozen BK303.out 0; have hfz19_1 := blk_frozen BK303.out 1) | ((with_reducible refine gate_callee (f := 96) rfl ?_); refine goesL_ (some 8) rfl rfl Try.func96 (by kernel_rfl) rfl #[.agg #[.slice A0_0 l0_0.length c0_0, .int .i64 a0_1]] rfl (by (try simp only [List.map_toArray, List.map_cons, List.map_nil]); first | done | rfl | (simp only [List.length_drop, List.length_take]; rfl)) ?_; (with_reducible refine (impl_IsInstrument.calls k _ _ l0_0 a0_1 false _ ?side1 ?side2 A4.out).mono ?_); (case side1 => repeat (first | exact (Kd.C_below HR0_0.out HB.out) | (with_reducible refine Kd.C_alloc ?_ _) | (with_reducible refine Kd.C_drewN ?_ _) | (with_reducible refine Kd.C_drew ?_))); (case side2 => exact HC0_0.out); rintro e w20 ⟨rfl, hb⟩; refine ⟨_, rfl, ?_⟩; have n0_ := Aside0.mk (blk_below (g := gb303) (o := .cells #[.slice A0_0 l0_0.length c0_0, .int .i64 a0_1] 44 (0, 0)) (bup BK303.out) hb); have n1_ := Aside0.mk (below_step bl hb); clear BK303; clear HB; have BK303 := n0_; have HB := n1_; clear n0_ n1_; (try clear hb); (try clear hb2); (try clear hk); (try clear hi)))
  go_ret
  exact ⟨fin1, bl⟩

/-! ### slices_Index_int_int: function 100 -/
def slices_Index_int_int.l0 : Nat → List Int → Int → Int → Int → Option (Int)
 | 0, _, _, _, _ => none
 | k + 1, x0, x1, x7, x8 => if x8 < x7 then (if 0 ≤ x8 then (if x8 < (x0.length : Int) then (if x1 = (rd x0 x8) then (some x8) else (slices_Index_int_int.l0 k x0 x1 x7 (wrap64 (x8 + 1)))) else (none)) else (none)) else (some (-1))
def slices_Index_int_int.f (k : Nat) (l0 : List Int) (a1 : Int) : Option (Int) := slices_Index_int_int.l0 k l0 a1 (l0.length : Int) 0
set_option maxHeartbeats 8000000 in
set_option maxRecDepth 100000 in
theorem slices_Index_int_int.calls (k : Nat) (A0 : Option Addr) (c0 : Nat) (l0 : List Int) (a1 : Int) (r : Int) (w : World) (hr0 : Kd.C (Kd.int .i64) w A0 l0.length l0) (hc0 : l0.length ≤ c0) (h : slices_Index_int_int.f k l0 a1 = some r) :
  Calls Try.prog 100 #[.slice A0 l0.length c0, .int .i64 a1] w fun e w' => e = .returned (.int .i64 r) ∧ Drawn0 w w' := by
 have HR0 := Aside0.mk hr0
 have HC0 := Aside0.mk hc0
 clear hr0 hc0
 have H : (slices_Index_int_int.l0 k l0 a1 (l0.length : Int) 0) = some r := h
 clear h
 have H' := Aside0.mk H
 clear H
 go_enter Try.func100, Try.ntmps100
 go_wp2
 go_loopg [8] k (fun kq v8 w' => ∃ (x8_1 : Int), v8 = .int .i64 x8_1 ∧ Aside0 (slices_Index_int_int.l0 kq l0 a1 (l0.length : Int) x8_1 = some r) ∧ Aside0 (kq ≤ k) ∧ Drawn0 w w')
 case atStart => exact ⟨(0), fin2, H', ⟨Nat.le_refl _⟩, by repeat (first | exact Drawn0.refl _ | apply Drawn0.step)⟩
 case round =>
  clear H'
  try clear c1
  try clear p2
  obtain ⟨x8_1, rfl, HA, HK1, ⟨m1, rfl⟩⟩ := hrel
  cases gk with
  | zero => exact absurd HA.out (by simp [slices_Index_int_int.l0])
  | succ k1 =>
   have H := HA.out
   clear HA
   simp only [slices_Index_int_int.l0] at H
   by_cases c3 : x8_1 < (l0.length : Int)
   ·rw [if_pos c3] at H
    have c3b0 : decide (x8_1 < (l0.length : Int)) = true := decide_eq_true c3
    clear c3
    by_cases c4 : 0 ≤ x8_1
    ·rw [if_pos c4] at H
     have c4b0 : decide (0 ≤ x8_1) = true := decide_eq_true c4
     clear c4
     by_cases c5 : x8_1 < (l0.length : Int)
     ·rw [if_pos c5] at H
      have c5b0 : decide (x8_1 < (l0.length : Int)) = true := decide_eq_true c5
      clear c5
      by_cases c6 : a1 = (rd l0 x8_1)
      ·rw [if_pos c6] at H
       have c6b0 : (a1 == (rd l0 x8_1)) = true := beq_iff_eq.mpr c6
       have c6b1 : (a1 != (rd l0 x8_1)) = false := bne_eq_false_iff_eq.mpr c6
       clear c6
       obtain rfl := Option.some.inj H
       have p307 : 0 ≤ (x8_1 : Int) := od
       have q307 : x8_1 < (l0.length : Int) := od
       obtain ⟨ad307, e307, hx307_0⟩ := Kd.at_int HR0.out x8_1 p307 q307
       cases e307
       replace p307 := eq_true p307
       replace q307 := eq_true q307
       go_wp2
       go_ret
       exact ⟨by first | rfl | (simp; done) | (simp [*]; done), by repeat (first | exact Drawn0.refl _ | apply Drawn0.step)⟩
      ·rw [if_neg c6] at H
       have c6b0 : (a1 == (rd l0 x8_1)) = false := beq_eq_false_iff_ne.mpr c6
       have c6b1 : (a1 != (rd l0 x8_1)) = true := bne_iff_ne.mpr c6
       have H' := Aside0.mk H
       clear H
       have p307 : 0 ≤ (x8_1 : Int) := od
       have q307 : x8_1 < (l0.length : Int) := od
       obtain ⟨ad307, e307, hx307_0⟩ := Kd.at_int HR0.out x8_1 p307 q307
       cases e307
       replace p307 := eq_true p307
       replace q307 := eq_true q307
       go_wp2
       go_roundg k1
       case measure => have := HK1.out; omega
       case rel => exact ⟨(wrap64 (x8_1 + 1)), fin2, H', ⟨by have := HK1.out; omega⟩, by repeat (first | exact Drawn0.refl _ | apply Drawn0.step)⟩
     ·rw [if_neg c5] at H
      exact absurd H (by simp)
    ·rw [if_neg c4] at H
     exact absurd H (by simp)
   ·rw [if_neg c3] at H
    have c3b0 : decide (x8_1 < (l0.length : Int)) = false := decide_eq_false c3
    clear c3
    obtain rfl := Option.some.inj H
    go_wp2
    go_ret
    exact ⟨by first | rfl | (simp; done) | (simp [*]; done), by repeat (first | exact Drawn0.refl _ | apply Drawn0.step)⟩

/-! ### impl_matched: function 76 -/
mutual
def impl_matched.l0 : Nat → List (S80) → List Bool → List Int → List (S95) → Int → Int → List Int → Int → Option (List Int × List Int)
 | 0, _, _, _, _, _, _, _, _ => none
 | k + 1, x2, x8, x9, x22, x23, x24, x309000, x309001 => if x24 < x23 then (if 0 ≤ x24 then (if x24 < (x22.length : Int) then ((slices_Index_int_int.f k x309000 ((rd_T95 x22 x24).f0)).bind fun t317 => (impl_matched.l1 k x2 x8 x9 t317 (-1) x22 x23 x24 x2 (x2.length : Int) 0 x309000 x309001)) else (none)) else (none)) else (impl_matched.l2 k x8 x9 (([] : List Int)) (x2.length : Int) 0)
def impl_matched.l1 : Nat → List (S80) → List Bool → List Int → Int → Int → List (S95) → Int → Int → List (S80) → Int → Int → List Int → Int → Option (List Int × List Int)
 | 0, _, _, _, _, _, _, _, _, _, _, _, _, _ => none
 | k + 1, x2, x8, x9, x12, x13, x22, x23, x24, x33, x34, x35, x309000, x309001 => if x35 < x34 then (if 0 ≤ x35 then (if x35 < (x33.length : Int) then (if x12 ≥ 0 then (if ((rd_T80 x33 x35).f0) = x12 then (if x35 < (x8.length : Int) then (if rdOf false x8 x35 = true then (impl_matched.l1 k x2 x8 x9 x12 x13 x22 x23 x24 x33 x34 (wrap64 (x35 + 1)) x309000 x309001) else (if x9.length < 17592186044416 then (impl_matched.l0 k x2 (x8.set (x35 : Int).toNat true) (x9 ++ [x35]) x22 x23 (wrap64 (x24 + 1)) x309000 x309001) else (none))) else (none)) else (impl_matched.l1 k x2 x8 x9 x12 x13 x22 x23 x24 x33 x34 (wrap64 (x35 + 1)) x309000 x309001)) else (impl_matched.l1 k x2 x8 x9 x12 x13 x22 x23 x24 x33 x34 (wrap64 (x35 + 1)) x309000 x309001)) else (none)) else (none)) else (if x9.length < 17592186044416 then (impl_matched.l0 k x2 x8 (x9 ++ [x13]) x22 x23 (wrap64 (x24 + 1)) x309000 x309001) else (none))
def impl_matched.l2 : Nat → List Bool → List Int → List Int → Int → Int → Option (List Int × List Int)
 | 0, _, _, _, _, _ => none
 | k + 1, x8, x9, x16, x67, x68 => if x68 < x67 then (if 0 ≤ x68 then (if x68 < (x8.length : Int) then (if rdOf false x8 x68 = true then (impl_matched.l2 k x8 x9 x16 x67 (wrap64 (x68 + 1))) else (if x16.length < 17592186044416 then (impl_matched.l2 k x8 x9 (x16 ++ [x68]) x67 (wrap64 (x68 + 1))) else (none))) else (none)) else (none)) else (some (x9, x16))
end
def impl_matched.f (k : Nat) (l0_0 : List Int) (a0_1 : Int) (l1 : List (S95)) (l2 : List (S80)) : Option (List Int × List Int) := if 0 ≤ (l2.length : Int) then (if ((l2.length : Int) : Int).toNat ≤ 281474976710656 then (impl_matched.l0 k l2 (List.replicate ((l2.length : Int) : Int).toNat false) (([] : List Int)) l1 (l1.length : Int) 0 l0_0 a0_1) else (none)) else (none)
set_option maxHeartbeats 8000000 in
set_option maxRecDepth 100000 in
theorem impl_matched.calls (k : Nat) (A0_0 : Option Addr) (c0_0 : Nat) (l0_0 : List Int) (a0_1 : Int) (A1 : Option Addr) (c1 : Nat) (l1 : List (S95)) (A2 : Option Addr) (c2 : Nat) (l2 : List (S80)) (r1 : List Int) (r2 : List Int) (w : World) (hr0_0 : Kd.C (Kd.int .i64) w A0_0 l0_0.length l0_0) (hc0_0 : l0_0.length ≤ c0_0) (hr1 : Kd.C k95 w A1 l1.length l1) (hc1 : l1.length ≤ c1) (hr2 : Kd.C k80 w A2 l2.length l2) (hc2 : l2.length ≤ c2) (h : impl_matched.f k l0_0 a0_1 l1 l2 = some (r1, r2)) :
  Calls Try.prog 76 #[.agg #[.slice A0_0 l0_0.length c0_0, .int .i64 a0_1], .slice A1 l1.length c1, .slice A2 l2.length c2] w fun e w' => ∃ v0_ v1_ : Value, e = .returned (.tuple #[v0_, v1_]) ∧ Kd.R (Kd.int .i64) 3 w' w.heap.size (fun k_ => some k_ ≠ (v1_ : Value).ownBlock) v0_ r1 ∧ Kd.R (Kd.int .i64) 3 w' w.heap.size (fun k_ => some k_ ≠ (v0_ : Value).ownBlock) v1_ r2 ∧ Below w.heap.size w w' := by
 have hu44 := Try.underlying44
 have hu95 := Try.underlying95
 have hu80 := Try.underlying80
 have HR0_0 := Aside0.mk hr0_0
 have HC0_0 := Aside0.mk hc0_0
 clear hr0_0 hc0_0
 have HR1 := Aside0.mk hr1
 have HC1 := Aside0.mk hc1
 clear hr1 hc1
 have HR2 := Aside0.mk hr2
 have HC2 := Aside0.mk hc2
 clear hr2 hc2
 have HB := Aside0.mk (Below.refl w.heap.size w)
 have H : (if 0 ≤ (l2.length : Int) then (if ((l2.length : Int) : Int).toNat ≤ 281474976710656 then (impl_matched.l0 k l2 (List.replicate ((l2.length : Int) : Int).toNat false) (([] : List Int)) l1 (l1.length : Int) 0 l0_0 a0_1) else (none)) else (none)) = some (r1, r2) := h
 clear h
 by_cases c4 : 0 ≤ (l2.length : Int)
 ·rw [if_pos c4] at H
  have c4b0 := eq_true c4
  have c4b1 : decide (0 ≤ (l2.length : Int)) = true := decide_eq_true c4
  clear c4
  by_cases c5 : ((l2.length : Int) : Int).toNat ≤ 281474976710656
  ·rw [if_pos c5] at H
   have c5b0 := eq_true c5
   have c5b1 : decide (((l2.length : Int) : Int).toNat ≤ 281474976710656) = true := decide_eq_true c5
   clear c5
   obtain ⟨y309, hy309⟩ : ∃ y_ : List Bool, y_ = (List.replicate ((l2.length : Int) : Int).toNat false) := ⟨_, rfl⟩
   replace H : (impl_matched.l0 k l2 y309 (([] : List Int)) l1 (l1.length : Int) 0 l0_0 a0_1) = some (r1, r2) := by first | (rw [hy309]; with_reducible exact H) | (have H2_ := (Option.bind_some _ _).symm.trans H; rw [hy309]; with_reducible exact H2_) | (have H2_ := (Option.bind_some _ _).symm.trans H; with_reducible exact H2_) | with_reducible exact H | (rw [hy309]; exact H) | exact H
   have Ny309 := Aside0.mk hy309
   clear hy309
   obtain ⟨y312, hy312⟩ : ∃ y_ : List Int, y_ = (([] : List Int)) := ⟨_, rfl⟩
   replace H : (impl_matched.l0 k l2 y309 y312 l1 (l1.length : Int) 0 l0_0 a0_1) = some (r1, r2) := by first | (rw [hy312]; with_reducible exact H) | (have H2_ := (Option.bind_some _ _).symm.trans H; rw [hy312]; with_reducible exact H2_) | (have H2_ := (Option.bind_some _ _).symm.trans H; with_reducible exact H2_) | with_reducible exact H | (rw [hy312]; exact H) | exact H
   have Ny312 := Aside0.mk hy312
   clear hy312
   have H' := Aside0.mk H
   clear H
   go_enter Try.func76, Try.ntmps76
   go_wp2_with (first | ((with_reducible refine gate_dst (N := 3) rfl ?_); refine box_event ?hg (N := 3) ?hd (cs := #[.slice A0_0 l0_0.length c0_0, .int .i64 a0_1]) (t := 44) ?hr ?_; (case hd => rfl); (case hg => rfl); (case hr => first | (go_simp; done) | (go_simp; rfl)); intro gb308 hg w6 hbox hb; have n0_ := Aside0.mk (below_step bl hb); have n1_ := Aside0.mk (hbox); have n2_ := Aside0.mk ((by rw [hg]; exact (below_size bl) : w.heap.size ≤ gb308)); have n3_ := Aside0.mk ((by rw [hg]; exact (below_size bl) : w.heap.size ≤ gb308)); clear HB; have HB := n0_; have BK308 := n1_; have GW308 := n2_; have GE308 := n3_; clear n0_ n1_ n2_ n3_; clear hb hbox hg) | ((with_reducible refine gate_dst (N := 20) rfl ?_); refine Kd.R_make Kd.bool _ 4 rfl (N := 20) rfl 93 _ _ rfl (l2.length : Int) rfl rfl Try.underlying93 (.bool false) 1 info4 rfl (by decide) (by omega) false (ok := fun _ => True) (okp := fun _ => True) rfl (fun _ hk => hk) trivial (od) (Nat.le_trans (Nat.mul_le_mul_right _ (od : (l2.length : Int).toNat ≤ 281474976710656)) (by omega)) (Below.refl _ _) (Nat.le_refl _) ?_; intro v310 w7 ho8 hb hg_ hnew_; clear hg_ hnew_; (first | rw [← Ny309.out] at ho8 | (simp only [Int.reduceToNat] at ho8; rw [← Ny309.out] at ho8)); have n0_ := Aside0.mk (Kd.R_lower ho8 (below_size bl)); have n1_ := Aside0.mk (blk_below (g := gb308) (o := .cells #[.slice A0_0 l0_0.length c0_0, .int .i64 a0_1] 44 (0, 0)) (bup BK308.out) hb); have n2_ := Aside0.mk (below_step bl hb); clear BK308; clear HB; have HO311 := n0_; have BK308 := n1_; have HB := n2_; clear n0_ n1_ n2_; clear hb ho8) | ((with_reducible refine gate_dst (N := 21) rfl ?_); refine Kd.R_lit (Kd.int .i64) _ 3 ?hg (N := 21) ?hd (xs := ([] : List Int)) (inner := []) (ok := fun _ => True) (okp := fun _ => True) ?hr ?hp (fun _ hk => hk) trivial (Below.refl _ _) (Nat.le_refl _) (by simp) ?_; (case hd => rfl); (case hg => rfl); (case hr => first | (go_simp; done) | (go_simp; rfl)); (case hp => exact (Reps.none _ _)); intro v313 w9 ho10 hb hg_ hnew_; clear hg_ hnew_; (first | rw [← Ny312.out] at ho10 | (simp only [Int.reduceToNat] at ho10; rw [← Ny312.out] at ho10)); have n0_ := Aside0.mk (Kd.R_below (rup HO311.out) hb); have n1_ := Aside0.mk (Kd.R_lower ho10 (below_size bl)); have n2_ := Aside0.mk (blk_below (g := gb308) (o := .cells #[.slice A0_0 l0_0.length c0_0, .int .i64 a0_1] 44 (0, 0)) (bup BK308.out) hb); have n3_ := Aside0.mk (below_step bl hb); clear HO311; clear BK308; clear HB; have HO311 := n0_; have HO314 := n1_; have BK308 := n2_; have HB := n3_; clear n0_ n1_ n2_ n3_; clear hb ho10))
   go_loopg [9, 24] k (fun kq v9 v24 w' => ∃ (x8_1 : List Bool) (x9_1 : List Int) (x24_1 : Int), v24 = .int .i64 x24_1 ∧ Aside0 (impl_matched.l0 kq l2 x8_1 x9_1 l1 (l1.length : Int) x24_1 l0_0 a0_1 = some (r1, r2)) ∧ Aside0 (kq ≤ k) ∧ Aside0 (Kd.R Kd.bool 4 w' w.heap.size (fun _ => True) v310 x8_1) ∧ Aside0 (Kd.R (Kd.int .i64) 3 w' w.heap.size (fun _ => True) v9 x9_1) ∧ Aside0 (w'.heap[gb308]? = some (.cells #[(.slice A0_0 l0_0.length c0_0), .int .i64 a0_1] 44 (0, 0))) ∧ Aside0 (Below w.heap.size w w'))
   case atStart => exact ⟨(y309), (y312), (0), fin2, H', ⟨Nat.le_refl _⟩, ⟨rup HO311.out⟩, ⟨rup HO314.out⟩, ⟨bup BK308.out⟩, ⟨bl⟩⟩
   case round =>
    clear H'
    try clear c1
    try clear c2
    try clear p2
    try clear c4
    try clear c4b0
    try clear c4b1
    try clear c5
    try clear c5b0
    try clear c5b1
    try clear c7
    obtain ⟨x8_1, x9_1, x24_1, rfl, HA, HK1, HO_8, HO_9, BK308, HB⟩ := hrel
    cases gk with
    | zero => exact absurd HA.out (by simp [impl_matched.l0])
    | succ k1 =>
     have H := HA.out
     clear HA
     simp only [impl_matched.l0] at H
     by_cases c11 : x24_1 < (l1.length : Int)
     ·rw [if_pos c11] at H
      have c11b0 : decide (x24_1 < (l1.length : Int)) = true := decide_eq_true c11
      clear c11
      by_cases c12 : 0 ≤ x24_1
      ·rw [if_pos c12] at H
       have c12b0 : decide (0 ≤ x24_1) = true := decide_eq_true c12
       clear c12
       by_cases c13 : x24_1 < (l1.length : Int)
       ·rw [if_pos c13] at H
        have c13b0 : decide (x24_1 < (l1.length : Int)) = true := decide_eq_true c13
        clear c13
        replace H := Option.bind_eq_some_iff.mp H
        obtain ⟨t317, A140, H⟩ := H
        replace H : (impl_matched.l1 k1 l2 x8_1 x9_1 t317 (-1) l1 (l1.length : Int) x24_1 l2 (l2.length : Int) 0 l0_0 a0_1) = some (r1, r2) := H
        have A14 := Aside0.mk A140
        clear A140
        have H' := Aside0.mk H
        clear H
        have p315 : 0 ≤ (x24_1 : Int) := od
        have q315 : x24_1 < (l1.length : Int) := od
        obtain ⟨ad315, e315, hx315_0, hx315_1, hx315_2⟩ := at_T95 HR1.out x24_1 p315 q315
        cases e315
        replace hx315_0 := (HB.out.cell (World.block_lt_of_cell? w _ hx315_0)).trans hx315_0
        replace hx315_1 := (HB.out.cell (World.block_lt_of_cell? w _ hx315_1)).trans hx315_1
        replace hx315_2 := (HB.out.cell (World.block_lt_of_cell? w _ hx315_2)).trans hx315_2
        replace p315 := eq_true p315
        replace q315 := eq_true q315
        go_wp2_with (first | ((with_reducible refine gate_dst (N := 11) rfl ?_); refine box_event ?hg (N := 11) ?hd (cs := #[.int .i64 0, .int .i64 0, .int .i64 0]) (t := 95) ?hr ?_; (case hd => rfl); (case hg => rfl); (case hr => first | (go_simp; done) | (go_simp; rfl)); intro gb316 hg w15 hbox hb; have n0_ := Aside0.mk (Kd.R_below (rup HO_8.out) hb); have n1_ := Aside0.mk (Kd.R_below (rup HO_9.out) hb); have n2_ := Aside0.mk (blk_below (g := gb308) (o := .cells #[.slice A0_0 l0_0.length c0_0, .int .i64 a0_1] 44 (0, 0)) (bup BK308.out) hb); have n3_ := Aside0.mk (below_step bl hb); have n4_ := Aside0.mk (hbox); have n5_ := Aside0.mk ((by rw [hg]; exact (below_size bl) : w.heap.size ≤ gb316)); have n6_ := Aside0.mk ((by rw [hg]; exact (below_size bl) : w.heap.size ≤ gb316)); have n7_ := Aside0.mk ((by rw [hg]; exact Nat.ne_of_lt (blk_lt (g := gb308) (o := .cells #[.slice A0_0 l0_0.length c0_0, .int .i64 a0_1] 44 (0, 0)) (bup BK308.out)) : gb308 ≠ gb316)); have n8_ := Aside0.mk ((by rw [hg]; exact Nat.ne_of_gt (blk_lt (g := gb308) (o := .cells #[.slice A0_0 l0_0.length c0_0, .int .i64 a0_1] 44 (0, 0)) (bup BK308.out)) : gb316 ≠ gb308)); clear HO_8; clear HO_9; clear BK308; clear HB; have HO_8 := n0_; have HO_9 := n1_; have BK308 := n2_; have HB := n3_; have BK316 := n4_; have GW316 := n5_; have GE316 := n6_; have NB308_316 := n7_; have NB316_308 := n8_; clear n0_ n1_ n2_ n3_ n4_ n5_ n6_ n7_ n8_; clear hb hbox hg; have hnb16 := NB316_308.out; have hnc16 := NB308_316.out; have hcz17_0 : w15.cell? ⟨gb316, 0, none⟩ = some (.int .i64 0) := (blk_cell BK316.out 0).trans rfl; have hcz17_1 : w15.cell? ⟨gb316, 1, none⟩ = some (.int .i64 0) := (blk_cell BK316.out 1).trans rfl; have hcz17_2 : w15.cell? ⟨gb316, 2, none⟩ = some (.int .i64 0) := (blk_cell BK316.out 2).trans rfl; have hfz17_0 := blk_frozen BK316.out 0; have hfz17_1 := blk_frozen BK316.out 1; have hfz17_2 := blk_frozen BK316.out 2; have hcz18_0 : w15.cell? ⟨gb308, 0, none⟩ = some (.slice A0_0 l0_0.length c0_0) := (blk_cell BK308.out 0).trans rfl; have hcz18_1 : w15.cell? ⟨gb308, 1, none⟩ = some (.int .i64 a0_1) := (blk_cell BK308.out 1).trans rfl; have hfz18_0 := blk_frozen BK308.out 0; have hfz18_1 := blk_frozen BK308.out 1) | ((with_reducible refine gate_callee (f := 100) rfl ?_); refine goesL_ (some 32) rfl rfl Try.func100 (by kernel_rfl) rfl #[.slice A0_0 l0_0.length c0_0, .int .i64 ((rd_T95 l1 x24_1).f0)] rfl (by (try simp only [List.map_toArray, List.map_cons, List.map_nil]); first | done | rfl | (simp only [List.length_drop, List.length_take]; rfl)) ?_; (with_reducible refine (slices_Index_int_int.calls k1 _ _ l0_0 ((rd_T95 l1 x24_1).f0) t317 _ ?side1 ?side2 A14.out).mono ?_); (case side1 => exact Kd.C_below HR0_0.out bl); (case side2 => exact HC0_0.out); rintro e w' ⟨rfl, ⟨nd, rfl⟩⟩; refine ⟨_, rfl, ?_⟩))
        go_loopg [13, 35] k1 (fun kq v13 v35 w' => ∃ (x8_2 : List Bool) (x13_2 : Int) (x35_2 : Int), v13 = .int .i64 x13_2 ∧ v35 = .int .i64 x35_2 ∧ Aside0 (impl_matched.l1 kq l2 x8_2 x9_1 t317 x13_2 l1 (l1.length : Int) x24_1 l2 (l2.length : Int) x35_2 l0_0 a0_1 = some (r1, r2)) ∧ Aside0 (kq ≤ k1) ∧ Aside0 (Kd.R Kd.bool 4 w' w.heap.size (fun _ => True) v310 x8_2) ∧ Aside0 (Kd.R (Kd.int .i64) 3 w' w.heap.size (fun _ => True) u9 x9_1) ∧ Aside0 (w'.heap[gb308]? = some (.cells #[(.slice A0_0 l0_0.length c0_0), .int .i64 a0_1] 44 (0, 0))) ∧ Aside0 (w'.heap[gb316]? = some (.cells #[.int .i64 ((rd_T95 l1 x24_1).f0), .int .i64 ((rd_T95 l1 x24_1).f1), .int .i64 ((rd_T95 l1 x24_1).f2)] 95 (0, 0))) ∧ Aside0 (Below w.heap.size w w'))
        case atStart => exact ⟨(x8_1), ((-1)), (0), fin2, fin2, H', ⟨Nat.le_refl _⟩, ⟨by (with_reducible repeat (first | apply Kd.R_alloc | apply Kd.R_drewN | apply Kd.R_drew)); exact Kd.R_mono (Kd.R_far (p := ⟨gb316, 2, none⟩) (Kd.R_far (p := ⟨gb316, 1, none⟩) (Kd.R_far (p := ⟨gb316, 0, none⟩) (Kd.R_types HO_8.out BK316.out (by decide)) (fun _ hk => hk.2) (.int .i64 ((rd_T95 l1 x24_1).f0))) (fun _ hk => hk.2) (.int .i64 ((rd_T95 l1 x24_1).f1))) (fun _ hk => hk.2) (.int .i64 ((rd_T95 l1 x24_1).f2))) (fun _ hk => trivial)⟩, ⟨by (with_reducible repeat (first | apply Kd.R_alloc | apply Kd.R_drewN | apply Kd.R_drew)); exact Kd.R_mono (Kd.R_far (p := ⟨gb316, 2, none⟩) (Kd.R_far (p := ⟨gb316, 1, none⟩) (Kd.R_far (p := ⟨gb316, 0, none⟩) (Kd.R_types HO_9.out BK316.out (by decide)) (fun _ hk => hk.2) (.int .i64 ((rd_T95 l1 x24_1).f0))) (fun _ hk => hk.2) (.int .i64 ((rd_T95 l1 x24_1).f1))) (fun _ hk => hk.2) (.int .i64 ((rd_T95 l1 x24_1).f2))) (fun _ hk => trivial)⟩, ⟨by (with_reducible repeat (first | refine blk_drewN ?_ _ | refine blk_drew ?_ | refine blk_alloc ?_ _)); refine blk_far ?_ NB308_316.out _; (with_reducible repeat (first | refine blk_drewN ?_ _ | refine blk_drew ?_ | refine blk_alloc ?_ _)); refine blk_far ?_ NB308_316.out _; (with_reducible repeat (first | refine blk_drewN ?_ _ | refine blk_drew ?_ | refine blk_alloc ?_ _)); refine blk_far ?_ NB308_316.out _; (with_reducible repeat (first | refine blk_drewN ?_ _ | refine blk_drew ?_ | refine blk_alloc ?_ _)); exact BK308.out⟩, ⟨by (with_reducible repeat (first | refine blk_drewN ?_ _ | refine blk_drew ?_ | refine blk_alloc ?_ _)); refine blk_put (cs := #[.int .i64 ((rd_T95 l1 x24_1).f0), .int .i64 ((rd_T95 l1 x24_1).f1), .int .i64 0]) ?_ 2 _ rfl; (with_reducible repeat (first | refine blk_drewN ?_ _ | refine blk_drew ?_ | refine blk_alloc ?_ _)); refine blk_put (cs := #[.int .i64 ((rd_T95 l1 x24_1).f0), .int .i64 0, .int .i64 0]) ?_ 1 _ rfl; (with_reducible repeat (first | refine blk_drewN ?_ _ | refine blk_drew ?_ | refine blk_alloc ?_ _)); refine blk_put (cs := #[.int .i64 0, .int .i64 0, .int .i64 0]) ?_ 0 _ rfl; (with_reducible repeat (first | refine blk_drewN ?_ _ | refine blk_drew ?_ | refine blk_alloc ?_ _)); exact BK316.out⟩, ⟨bl⟩⟩
        case round =>
         clear H'
         try clear c1
         try clear c2
         try clear p2
         try clear p3
         try clear q3
         try clear hx3
         try clear c4
         try clear c4b0
         try clear c4b1
         try clear c5
         try clear c5b0
         try clear c5b1
         try clear c7
         try clear c10
         try clear c11
         try clear c11b0
         try clear c12
         try clear c12b0
         try clear c13
         try clear c13b0
         try clear c16
         try clear hcz17_0
         try clear hcz17_1
         try clear hcz17_2
         try clear hcz18_0
         try clear hcz18_1
         try clear hfz17_0
         try clear hfz17_1
         try clear hfz17_2
         try clear hfz18_0
         try clear hfz18_1
         try clear hx315_0
         try clear hx315_1
         try clear hx315_2
         try clear p2
         try clear p315
         try clear q315
         obtain ⟨x8_2, x13_2, x35_2, rfl, rfl, HA, HK2, HO_8, HO_9, BK308, BK316, HB⟩ := hrel
         cases gk with
         | zero => exact absurd HA.out (by simp [impl_matched.l1])
         | succ k2 =>
          have H := HA.out
          clear HA
          simp only [impl_matched.l1] at H
          by_cases c19 : x35_2 < (l2.length : Int)
          ·rw [if_pos c19] at H
           have c19b0 : decide (x35_2 < (l2.length : Int)) = true := decide_eq_true c19
           clear c19
           by_cases c20 : 0 ≤ x35_2
           ·rw [if_pos c20] at H
            have c20b0 : decide (0 ≤ x35_2) = true := decide_eq_true c20
            clear c20
            by_cases c21 : x35_2 < (l2.length : Int)
            ·rw [if_pos c21] at H
             have c21b0 : decide (x35_2 < (l2.length : Int)) = true := decide_eq_true c21
             clear c21
             by_cases c22 : t317 ≥ 0
             ·rw [if_pos c22] at H
              have c22b0 : decide (0 ≤ t317) = true := decide_eq_true c22
              clear c22
              by_cases c23 : ((rd_T80 l2 x35_2).f0) = t317
              ·rw [if_pos c23] at H
               have c23b0 : (((rd_T80 l2 x35_2).f0) == t317) = true := beq_iff_eq.mpr c23
               have c23b1 : (((rd_T80 l2 x35_2).f0) != t317) = false := bne_eq_false_iff_eq.mpr c23
               clear c23
               by_cases c24 : x35_2 < (x8_2.length : Int)
               ·rw [if_pos c24] at H
                have c24b0 : decide (x35_2 < (x8_2.length : Int)) = true := decide_eq_true c24
                clear c24
                obtain ⟨bq25, hbq25⟩ : ∃ b_ : Bool, b_ = (rdOf false x8_2 x35_2) := ⟨_, rfl⟩
                replace H : (if bq25 = true then (impl_matched.l1 k2 l2 x8_2 x9_1 t317 x13_2 l1 (l1.length : Int) x24_1 l2 (l2.length : Int) (wrap64 (x35_2 + 1)) l0_0 a0_1) else (if x9_1.length < 17592186044416 then (impl_matched.l0 k2 l2 (x8_2.set (x35_2 : Int).toNat true) (x9_1 ++ [x35_2]) l1 (l1.length : Int) (wrap64 (x24_1 + 1)) l0_0 a0_1) else (none))) = some (r1, r2) := by rw [← hbq25] at H; exact H
                have Nbq25 := Aside0.mk hbq25
                clear hbq25
                by_cases c26 : bq25 = true
                ·subst c26
                 have H1 : (impl_matched.l1 k2 l2 x8_2 x9_1 t317 x13_2 l1 (l1.length : Int) x24_1 l2 (l2.length : Int) (wrap64 (x35_2 + 1)) l0_0 a0_1) = some (r1, r2) := by rw [if_pos rfl] at H; exact H
                 clear H
                 have H := H1
                 clear H1
                 have H' := Aside0.mk H
                 clear H
                 have p318 : 0 ≤ (x35_2 : Int) := od
                 have q318 : x35_2 < (l2.length : Int) := od
                 obtain ⟨ad318, e318, hx318_0, hx318_1, hx318_2⟩ := at_T80 HR2.out x35_2 p318 q318
                 cases e318
                 replace hx318_0 := (HB.out.cell (World.block_lt_of_cell? w _ hx318_0)).trans hx318_0
                 replace hx318_1 := (HB.out.cell (World.block_lt_of_cell? w _ hx318_1)).trans hx318_1
                 replace hx318_2 := (HB.out.cell (World.block_lt_of_cell? w _ hx318_2)).trans hx318_2
                 replace p318 := eq_true p318
                 replace q318 := eq_true q318
                 go_wp2_with (first | ((with_reducible refine gate_dst (N := 15) rfl ?_); refine box_event ?hg (N := 15) ?hd (cs := #[.int .i64 0, .int .i64 0, .int .i64 0]) (t := 80) ?hr ?_; (case hd => rfl); (case hg => rfl); (case hr => first | (go_simp; done) | (go_simp; rfl)); intro gb319 hg w27 hbox hb; have n0_ := Aside0.mk (Kd.R_below (rup HO_8.out) hb); have n1_ := Aside0.mk (Kd.R_below (rup HO_9.out) hb); have n2_ := Aside0.mk (blk_below (g := gb308) (o := .cells #[.slice A0_0 l0_0.length c0_0, .int .i64 a0_1] 44 (0, 0)) (bup BK308.out) hb); have n3_ := Aside0.mk (blk_below (g := gb316) (o := .cells #[.int .i64 ((rd_T95 l1 x24_1).f0), .int .i64 ((rd_T95 l1 x24_1).f1), .int .i64 ((rd_T95 l1 x24_1).f2)] 95 (0, 0)) (bup BK316.out) hb); have n4_ := Aside0.mk (below_step bl hb); have n5_ := Aside0.mk (hbox); have n6_ := Aside0.mk ((by rw [hg]; exact (below_size bl) : w.heap.size ≤ gb319)); have n7_ := Aside0.mk ((by rw [hg]; exact (below_size bl) : w.heap.size ≤ gb319)); have n8_ := Aside0.mk ((by rw [hg]; exact Nat.ne_of_lt (blk_lt (g := gb308) (o := .cells #[.slice A0_0 l0_0.length c0_0, .int .i64 a0_1] 44 (0, 0)) (bup BK308.out)) : gb308 ≠ gb319)); have n9_ := Aside0.mk ((by rw [hg]; exact Nat.ne_of_gt (blk_lt (g := gb308) (o := .cells #[.slice A0_0 l0_0.length c0_0, .int .i64 a0_1] 44 (0, 0)) (bup BK308.out)) : gb319 ≠ gb308)); have n10_ := Aside0.mk ((by rw [hg]; exact Nat.ne_of_lt (blk_lt (g := gb316) (o := .cells #[.int .i64 ((rd_T95 l1 x24_1).f0), .int .i64 ((rd_T95 l1 x24_1).f1), .int .i64 ((rd_T95 l1 x24_1).f2)] 95 (0, 0)) (bup BK316.out)) : gb316 ≠ gb319)); have n11_ := Aside0.mk ((by rw [hg]; exact Nat.ne_of_gt (blk_lt (g := gb316) (o := .cells #[.int .i64 ((rd_T95 l1 x24_1).f0), .int .i64 ((rd_T95 l1 x24_1).f1), .int .i64 ((rd_T95 l1 x24_1).f2)] 95 (0, 0)) (bup BK316.out)) : gb319 ≠ gb316)); clear HO_8; clear HO_9; clear BK308; clear BK316; clear HB; have HO_8 := n0_; have HO_9 := n1_; have BK308 := n2_; have BK316 := n3_; have HB := n4_; have BK319 := n5_; have GW319 := n6_; have GE319 := n7_; have NB308_319 := n8_; have NB319_308 := n9_; have NB316_319 := n10_; have NB319_316 := n11_; clear n0_ n1_ n2_ n3_ n4_ n5_ n6_ n7_ n8_ n9_ n10_ n11_; clear hb hbox hg; have hnb28 := NB319_308.out; have hnc28 := NB308_319.out; have hnb29 := NB319_316.out; have hnc29 := NB316_319.out; have hcz30_0 : w27.cell? ⟨gb319, 0, none⟩ = some (.int .i64 0) := (blk_cell BK319.out 0).trans rfl; have hcz30_1 : w27.cell? ⟨gb319, 1, none⟩ = some (.int .i64 0) := (blk_cell BK319.out 1).trans rfl; have hcz30_2 : w27.cell? ⟨gb319, 2, none⟩ = some (.int .i64 0) := (blk_cell BK319.out 2).trans rfl; have hfz30_0 := blk_frozen BK319.out 0; have hfz30_1 := blk_frozen BK319.out 1; have hfz30_2 := blk_frozen BK319.out 2; obtain ⟨Ao31, co31, eo31⟩ := Kd.R_slice HO_8.out; subst eo31; have p320 : 0 ≤ (x35_2 : Int) := od; have q320 : x35_2 < (x8_2.length : Int) := od; obtain ⟨ad320, e320, hx320_0⟩ := Kd.at_bool (Kd.R_reads' HO_8.out).2.2 x35_2 p320 q320; (try rw [← Nbq25.out] at hx320_0); cases e320; have hn320_0 : ad320.block ≠ gb319 := Kd.own_blk (Kd.R_ne HO_8.out BK319.out (by decide)); have hn320_1 : ad320.block ≠ gb319 := Kd.own_blk (Kd.R_ne HO_8.out BK319.out (by decide)); have hn320_2 : ad320.block ≠ gb319 := Kd.own_blk (Kd.R_ne HO_8.out BK319.out (by decide)); replace hx320_0 := (cell_far (p := ⟨gb319, 0, none⟩) (by first | (rw [add_block]; exact hn320_0) | (show (Addr.add _ _).block ≠ _; rw [add_block]; exact hn320_0) | exact hn320_0) (.int .i64 ((rd_T80 l2 x35_2).f0))).trans hx320_0; replace hx320_0 := (cell_far (p := ⟨gb319, 1, none⟩) (by first | (rw [add_block]; exact hn320_1) | (show (Addr.add _ _).block ≠ _; rw [add_block]; exact hn320_1) | exact hn320_1) (.int .i64 ((rd_T80 l2 x35_2).f1))).trans hx320_0; replace hx320_0 := (cell_far (p := ⟨gb319, 2, none⟩) (by first | (rw [add_block]; exact hn320_2) | (show (Addr.add _ _).block ≠ _; rw [add_block]; exact hn320_2) | exact hn320_2) (.int .i64 ((rd_T80 l2 x35_2).f2))).trans hx320_0; clear hn320_0; clear hn320_1; clear hn320_2; replace p320 := eq_true p320; replace q320 := eq_true q320))
                 go_roundg k2
                 case measure => have := HK1.out; have := HK2.out; omega
                 case rel => exact ⟨(x8_2), (x13_2), (wrap64 (x35_2 + 1)), fin2, fin2, H', ⟨by have := HK1.out; have := HK2.out; omega⟩, ⟨by (with_reducible repeat (first | apply Kd.R_alloc | apply Kd.R_drewN | apply Kd.R_drew)); exact Kd.R_mono (Kd.R_far (p := ⟨gb319, 2, none⟩) (Kd.R_far (p := ⟨gb319, 1, none⟩) (Kd.R_far (p := ⟨gb319, 0, none⟩) (Kd.R_types HO_8.out BK319.out (by decide)) (fun _ hk => hk.2) (.int .i64 ((rd_T80 l2 x35_2).f0))) (fun _ hk => hk.2) (.int .i64 ((rd_T80 l2 x35_2).f1))) (fun _ hk => hk.2) (.int .i64 ((rd_T80 l2 x35_2).f2))) (fun _ hk => trivial)⟩, ⟨by (with_reducible repeat (first | apply Kd.R_alloc | apply Kd.R_drewN | apply Kd.R_drew)); exact Kd.R_mono (Kd.R_far (p := ⟨gb319, 2, none⟩) (Kd.R_far (p := ⟨gb319, 1, none⟩) (Kd.R_far (p := ⟨gb319, 0, none⟩) (Kd.R_types HO_9.out BK319.out (by decide)) (fun _ hk => hk.2) (.int .i64 ((rd_T80 l2 x35_2).f0))) (fun _ hk => hk.2) (.int .i64 ((rd_T80 l2 x35_2).f1))) (fun _ hk => hk.2) (.int .i64 ((rd_T80 l2 x35_2).f2))) (fun _ hk => trivial)⟩, ⟨by (with_reducible repeat (first | refine blk_drewN ?_ _ | refine blk_drew ?_ | refine blk_alloc ?_ _)); refine blk_far ?_ NB308_319.out _; (with_reducible repeat (first | refine blk_drewN ?_ _ | refine blk_drew ?_ | refine blk_alloc ?_ _)); refine blk_far ?_ NB308_319.out _; (with_reducible repeat (first | refine blk_drewN ?_ _ | refine blk_drew ?_ | refine blk_alloc ?_ _)); refine blk_far ?_ NB308_319.out _; (with_reducible repeat (first | refine blk_drewN ?_ _ | refine blk_drew ?_ | refine blk_alloc ?_ _)); exact BK308.out⟩, ⟨by (with_reducible repeat (first | refine blk_drewN ?_ _ | refine blk_drew ?_ | refine blk_alloc ?_ _)); refine blk_far ?_ NB316_319.out _; (with_reducible repeat (first | refine blk_drewN ?_ _ | refine blk_drew ?_ | refine blk_alloc ?_ _)); refine blk_far ?_ NB316_319.out _; (with_reducible repeat (first | refine blk_drewN ?_ _ | refine blk_drew ?_ | refine blk_alloc ?_ _)); refine blk_far ?_ NB316_319.out _; (with_reducible repeat (first | refine blk_drewN ?_ _ | refine blk_drew ?_ | refine blk_alloc ?_ _)); exact BK316.out⟩, ⟨bl⟩⟩
                ·replace c26 := Bool.eq_false_iff.mpr c26
                 subst c26
                 have H1 : (if x9_1.length < 17592186044416 then (impl_matched.l0 k2 l2 (x8_2.set (x35_2 : Int).toNat true) (x9_1 ++ [x35_2]) l1 (l1.length : Int) (wrap64 (x24_1 + 1)) l0_0 a0_1) else (none)) = some (r1, r2) := by rw [if_neg (show ¬ (false = true) by decide)] at H; exact H
                 clear H
                 have H := H1
                 clear H1
                 obtain ⟨y321, hy321⟩ : ∃ y_ : List Bool, y_ = (x8_2.set (x35_2 : Int).toNat true) := ⟨_, rfl⟩
                 replace H : (if x9_1.length < 17592186044416 then (impl_matched.l0 k2 l2 y321 (x9_1 ++ [x35_2]) l1 (l1.length : Int) (wrap64 (x24_1 + 1)) l0_0 a0_1) else (none)) = some (r1, r2) := by first | (rw [hy321]; with_reducible exact H) | (have H2_ := (Option.bind_some _ _).symm.trans H; rw [hy321]; with_reducible exact H2_) | (have H2_ := (Option.bind_some _ _).symm.trans H; with_reducible exact H2_) | with_reducible exact H | (rw [hy321]; exact H) | exact H
                 have Ny321 := Aside0.mk hy321
                 clear hy321
                 by_cases c33 : x9_1.length < 17592186044416
                 ·rw [if_pos c33] at H
                  have LMc33 := Aside0.mk c33
                  clear c33
                  obtain ⟨y322, hy322⟩ : ∃ y_ : List Int, y_ = (x9_1 ++ [x35_2]) := ⟨_, rfl⟩
                  replace H : (impl_matched.l0 k2 l2 y321 y322 l1 (l1.length : Int) (wrap64 (x24_1 + 1)) l0_0 a0_1) = some (r1, r2) := by first | (rw [hy322]; with_reducible exact H) | (have H2_ := (Option.bind_some _ _).symm.trans H; rw [hy322]; with_reducible exact H2_) | (have H2_ := (Option.bind_some _ _).symm.trans H; with_reducible exact H2_) | with_reducible exact H | (rw [hy322]; exact H) | exact H
                  have Ny322 := Aside0.mk hy322
                  clear hy322
                  have H' := Aside0.mk H
                  clear H
                  have p318 : 0 ≤ (x35_2 : Int) := od
                  have q318 : x35_2 < (l2.length : Int) := od
                  obtain ⟨ad318, e318, hx318_0, hx318_1, hx318_2⟩ := at_T80 HR2.out x35_2 p318 q318
                  cases e318
                  replace hx318_0 := (HB.out.cell (World.block_lt_of_cell? w _ hx318_0)).trans hx318_0
                  replace hx318_1 := (HB.out.cell (World.block_lt_of_cell? w _ hx318_1)).trans hx318_1
                  replace hx318_2 := (HB.out.cell (World.block_lt_of_cell? w _ hx318_2)).trans hx318_2
                  replace p318 := eq_true p318
                  replace q318 := eq_true q318
                  go_wp2_with (first | ((with_reducible refine gate_dst (N := 15) rfl ?_); refine box_event ?hg (N := 15) ?hd (cs := #[.int .i64 0, .int .i64 0, .int .i64 0]) (t := 80) ?hr ?_; (case hd => rfl); (case hg => rfl); (case hr => first | (go_simp; done) | (go_simp; rfl)); intro gb319 hg w34 hbox hb; have n0_ := Aside0.mk (Kd.R_below (rup HO_8.out) hb); have n1_ := Aside0.mk (Kd.R_below (rup HO_9.out) hb); have n2_ := Aside0.mk (blk_below (g := gb308) (o := .cells #[.slice A0_0 l0_0.length c0_0, .int .i64 a0_1] 44 (0, 0)) (bup BK308.out) hb); have n3_ := Aside0.mk (blk_below (g := gb316) (o := .cells #[.int .i64 ((rd_T95 l1 x24_1).f0), .int .i64 ((rd_T95 l1 x24_1).f1), .int .i64 ((rd_T95 l1 x24_1).f2)] 95 (0, 0)) (bup BK316.out) hb); have n4_ := Aside0.mk (below_step bl hb); have n5_ := Aside0.mk (hbox); have n6_ := Aside0.mk ((by rw [hg]; exact (below_size bl) : w.heap.size ≤ gb319)); have n7_ := Aside0.mk ((by rw [hg]; exact (below_size bl) : w.heap.size ≤ gb319)); have n8_ := Aside0.mk ((by rw [hg]; exact Nat.ne_of_lt (blk_lt (g := gb308) (o := .cells #[.slice A0_0 l0_0.length c0_0, .int .i64 a0_1] 44 (0, 0)) (bup BK308.out)) : gb308 ≠ gb319)); have n9_ := Aside0.mk ((by rw [hg]; exact Nat.ne_of_gt (blk_lt (g := gb308) (o := .cells #[.slice A0_0 l0_0.length c0_0, .int .i64 a0_1] 44 (0, 0)) (bup BK308.out)) : gb319 ≠ gb308)); have n10_ := Aside0.mk ((by rw [hg]; exact Nat.ne_of_lt (blk_lt (g := gb316) (o := .cells #[.int .i64 ((rd_T95 l1 x24_1).f0), .int .i64 ((rd_T95 l1 x24_1).f1), .int .i64 ((rd_T95 l1 x24_1).f2)] 95 (0, 0)) (bup BK316.out)) : gb316 ≠ gb319)); have n11_ := Aside0.mk ((by rw [hg]; exact Nat.ne_of_gt (blk_lt (g := gb316) (o := .cells #[.int .i64 ((rd_T95 l1 x24_1).f0), .int .i64 ((rd_T95 l1 x24_1).f1), .int .i64 ((rd_T95 l1 x24_1).f2)] 95 (0, 0)) (bup BK316.out)) : gb319 ≠ gb316)); clear HO_8; clear HO_9; clear BK308; clear BK316; clear HB; have HO_8 := n0_; have HO_9 := n1_; have BK308 := n2_; have BK316 := n3_; have HB := n4_; have BK319 := n5_; have GW319 := n6_; have GE319 := n7_; have NB308_319 := n8_; have NB319_308 := n9_; have NB316_319 := n10_; have NB319_316 := n11_; clear n0_ n1_ n2_ n3_ n4_ n5_ n6_ n7_ n8_ n9_ n10_ n11_; clear hb hbox hg; have hnb35 := NB319_308.out; have hnc35 := NB308_319.out; have hnb36 := NB319_316.out; have hnc36 := NB316_319.out; have hcz37_0 : w34.cell? ⟨gb319, 0, none⟩ = some (.int .i64 0) := (blk_cell BK319.out 0).trans rfl; have hcz37_1 : w34.cell? ⟨gb319, 1, none⟩ = some (.int .i64 0) := (blk_cell BK319.out 1).trans rfl; have hcz37_2 : w34.cell? ⟨gb319, 2, none⟩ = some (.int .i64 0) := (blk_cell BK319.out 2).trans rfl; have hfz37_0 := blk_frozen BK319.out 0; have hfz37_1 := blk_frozen BK319.out 1; have hfz37_2 := blk_frozen BK319.out 2) | ((with_reducible refine gate_store (t := 80) (p := 15) rfl ?_); refine store_event (t := 80) (p := 15) (v := ?vo_w38) (w1 := (((w34.setCell ⟨gb319, 0, none⟩ (.int .i64 ((rd_T80 l2 x35_2).f0))).setCell ⟨gb319, 1, none⟩ (.int .i64 ((rd_T80 l2 x35_2).f1))).setCell ⟨gb319, 2, none⟩ (.int .i64 ((rd_T80 l2 x35_2).f2)))) ?hg ?ho ?hn ?hr ?_; (case ho => rfl); (case hg => rfl); (case hn => rfl); (case hr => first | (go_simp; done) | (go_simp; rfl)); intro w38 hw; have n0_ : Aside0 (Kd.R Kd.bool 4 w38 w.heap.size (fun _ => True) v310 x8_2) := ⟨(by rw [hw]; exact (by (with_reducible repeat (first | apply Kd.R_alloc | apply Kd.R_drewN | apply Kd.R_drew)); exact Kd.R_mono (Kd.R_far (p := ⟨gb319, 2, none⟩) (Kd.R_far (p := ⟨gb319, 1, none⟩) (Kd.R_far (p := ⟨gb319, 0, none⟩) (Kd.R_types HO_8.out BK319.out (by decide)) (fun _ hk => hk.2) (.int .i64 ((rd_T80 l2 x35_2).f0))) (fun _ hk => hk.2) (.int .i64 ((rd_T80 l2 x35_2).f1))) (fun _ hk => hk.2) (.int .i64 ((rd_T80 l2 x35_2).f2))) (fun _ hk => trivial)))⟩; have n1_ : Aside0 (Kd.R (Kd.int .i64) 3 w38 w.heap.size (fun _ => True) u9 x9_1) := ⟨(by rw [hw]; exact (by (with_reducible repeat (first | apply Kd.R_alloc | apply Kd.R_drewN | apply Kd.R_drew)); exact Kd.R_mono (Kd.R_far (p := ⟨gb319, 2, none⟩) (Kd.R_far (p := ⟨gb319, 1, none⟩) (Kd.R_far (p := ⟨gb319, 0, none⟩) (Kd.R_types HO_9.out BK319.out (by decide)) (fun _ hk => hk.2) (.int .i64 ((rd_T80 l2 x35_2).f0))) (fun _ hk => hk.2) (.int .i64 ((rd_T80 l2 x35_2).f1))) (fun _ hk => hk.2) (.int .i64 ((rd_T80 l2 x35_2).f2))) (fun _ hk => trivial)))⟩; have n2_ : Aside0 (w38.heap[gb308]? = some (.cells #[.slice A0_0 l0_0.length c0_0, .int .i64 a0_1] 44 (0, 0))) := ⟨(by rw [hw]; exact (by (with_reducible repeat (first | refine blk_drewN ?_ _ | refine blk_drew ?_ | refine blk_alloc ?_ _)); refine blk_far ?_ NB308_319.out _; (with_reducible repeat (first | refine blk_drewN ?_ _ | refine blk_drew ?_ | refine blk_alloc ?_ _)); refine blk_far ?_ NB308_319.out _; (with_reducible repeat (first | refine blk_drewN ?_ _ | refine blk_drew ?_ | refine blk_alloc ?_ _)); refine blk_far ?_ NB308_319.out _; (with_reducible repeat (first | refine blk_drewN ?_ _ | refine blk_drew ?_ | refine blk_alloc ?_ _)); exact BK308.out))⟩; have n3_ : Aside0 (w38.heap[gb316]? = some (.cells #[.int .i64 ((rd_T95 l1 x24_1).f0), .int .i64 ((rd_T95 l1 x24_1).f1), .int .i64 ((rd_T95 l1 x24_1).f2)] 95 (0, 0))) := ⟨(by rw [hw]; exact (by (with_reducible repeat (first | refine blk_drewN ?_ _ | refine blk_drew ?_ | refine blk_alloc ?_ _)); refine blk_far ?_ NB316_319.out _; (with_reducible repeat (first | refine blk_drewN ?_ _ | refine blk_drew ?_ | refine blk_alloc ?_ _)); refine blk_far ?_ NB316_319.out _; (with_reducible repeat (first | refine blk_drewN ?_ _ | refine blk_drew ?_ | refine blk_alloc ?_ _)); refine blk_far ?_ NB316_319.out _; (with_reducible repeat (first | refine blk_drewN ?_ _ | refine blk_drew ?_ | refine blk_alloc ?_ _)); exact BK316.out))⟩; have n4_ : Aside0 (w38.heap[gb319]? = some (.cells #[.int .i64 ((rd_T80 l2 x35_2).f0), .int .i64 ((rd_T80 l2 x35_2).f1), .int .i64 ((rd_T80 l2 x35_2).f2)] 80 (0, 0))) := ⟨(by rw [hw]; exact (by (with_reducible repeat (first | refine blk_drewN ?_ _ | refine blk_drew ?_ | refine blk_alloc ?_ _)); refine blk_put (cs := #[.int .i64 ((rd_T80 l2 x35_2).f0), .int .i64 ((rd_T80 l2 x35_2).f1), .int .i64 0]) ?_ 2 _ rfl; (with_reducible repeat (first | refine blk_drewN ?_ _ | refine blk_drew ?_ | refine blk_alloc ?_ _)); refine blk_put (cs := #[.int .i64 ((rd_T80 l2 x35_2).f0), .int .i64 0, .int .i64 0]) ?_ 1 _ rfl; (with_reducible repeat (first | refine blk_drewN ?_ _ | refine blk_drew ?_ | refine blk_alloc ?_ _)); refine blk_put (cs := #[.int .i64 0, .int .i64 0, .int .i64 0]) ?_ 0 _ rfl; (with_reducible repeat (first | refine blk_drewN ?_ _ | refine blk_drew ?_ | refine blk_alloc ?_ _)); exact BK319.out))⟩; have n5_ : Aside0 (Below w.heap.size w w38) := ⟨(by rw [hw]; exact bl)⟩; clear hw; clear HO_8; clear HO_9; clear BK308; clear BK316; clear BK319; clear HB; have HO_8 := n0_; have HO_9 := n1_; have BK308 := n2_; have BK316 := n3_; have BK319 := n4_; have HB := n5_; clear n0_ n1_ n2_ n3_ n4_ n5_; have hcz39_0 : w38.cell? ⟨gb319, 0, none⟩ = some (.int .i64 ((rd_T80 l2 x35_2).f0)) := (blk_cell BK319.out 0).trans rfl; have hcz39_1 : w38.cell? ⟨gb319, 1, none⟩ = some (.int .i64 ((rd_T80 l2 x35_2).f1)) := (blk_cell BK319.out 1).trans rfl; have hcz39_2 : w38.cell? ⟨gb319, 2, none⟩ = some (.int .i64 ((rd_T80 l2 x35_2).f2)) := (blk_cell BK319.out 2).trans rfl; have hfz39_0 := blk_frozen BK319.out 0; have hfz39_1 := blk_frozen BK319.out 1; have hfz39_2 := blk_frozen BK319.out 2; obtain ⟨Ao40, co40, eo40⟩ := Kd.R_slice HO_8.out; subst eo40; have p320 : 0 ≤ (x35_2 : Int) := od; have q320 : x35_2 < (x8_2.length : Int) := od; obtain ⟨ad320, e320, hx320_0⟩ := Kd.at_bool (Kd.R_reads' HO_8.out).2.2 x35_2 p320 q320; (try rw [← Nbq25.out] at hx320_0); cases e320; replace p320 := eq_true p320; replace q320 := eq_true q320; have p32 : 0 ≤ (x35_2 : Int) := od; have q32 : (x35_2 : Int) < ((x8_2.length : Int) : Int) := od; obtain ⟨go32, co32, eo32, gb32, gl32, cl32, HG32⟩ := Kd.R_form HO_8.out (by omega); (first | cases eo32 | (injection eo32 with ea_ en_ ec_; (first | subst ea_ | (injection ea_ with ea_; subst ea_)); subst ec_; clear en_)); have GB32 := Aside0.mk gb32; have GG32 := Aside0.mk HG32; clear gb32 gl32 HG32; (first | simp only [add_plain] at hx320_0 | skip); obtain ⟨hx32_0, hf32_0⟩ := Kd.R_celln false HO_8.out (x35_2 : Int) p32 q32; replace p32 := eq_true p32; replace q32 := eq_true q32; obtain ⟨hy41_, hz41_⟩ := Kd.R_celln false HO_8.out (x35_2 : Int) (od) (od); have HP41 := Kd.R_putg HO_8.out (x35_2 : Int) true) | ((with_reducible refine gate_store (t := 4) (p := 58) rfl ?_); refine store_event (t := 4) (p := 58) (v := ?vo_w42) (w1 := (w38.setCell ⟨go32, (x35_2 : Int).toNat, none⟩ (.bool true))) ?hg ?ho ?hn ?hr ?_; (case ho => rfl); (case hg => rfl); (case hn => rfl); (case hr => first | (go_simp; done) | (go_simp; rfl)); intro w42 hw; have hg : w38.grownBy w42 (some go32) := (by rw [hw]; exact HP41.2); have hp_ : Kd.R Kd.bool 4 w42 w.heap.size (fun _ => True) (.slice (some ⟨go32, 0, none⟩) x8_2.length co40) y321 := (by rw [hw, Ny321.out]; exact HP41.1); clear HP41; have n0_ := Aside0.mk (hp_); have n1_ := Aside0.mk (Kd.R_over' (v := (.slice (some ⟨go32, 0, none⟩) x8_2.length co40)) (rup HO_9.out) (Kd.R_typed HO_8.out) (by decide) hg); have n2_ := Aside0.mk (blk_grown (g := gb308) (o := .cells #[.slice A0_0 l0_0.length c0_0, .int .i64 a0_1] 44 (0, 0)) (bup BK308.out) hg (Kd.R_ne HO_8.out BK308.out (by decide))); have n3_ := Aside0.mk (blk_grown (g := gb316) (o := .cells #[.int .i64 ((rd_T95 l1 x24_1).f0), .int .i64 ((rd_T95 l1 x24_1).f1), .int .i64 ((rd_T95 l1 x24_1).f2)] 95 (0, 0)) (bup BK316.out) hg (Kd.R_ne HO_8.out BK316.out (by decide))); have n4_ := Aside0.mk (blk_grown (g := gb319) (o := .cells #[.int .i64 ((rd_T80 l2 x35_2).f0), .int .i64 ((rd_T80 l2 x35_2).f1), .int .i64 ((rd_T80 l2 x35_2).f2)] 80 (0, 0)) (bup BK319.out) hg (Kd.R_ne HO_8.out BK319.out (by decide))); have n5_ := Aside0.mk ((by rw [hw]; exact below_set (HB.out) GB32.out : Below w.heap.size w w42)); clear HO_8; clear HO_9; clear BK308; clear BK316; clear BK319; clear HB; have HO_8 := n0_; have HO_9 := n1_; have BK308 := n2_; have BK316 := n3_; have BK319 := n4_; have HB := n5_; clear n0_ n1_ n2_ n3_ n4_ n5_; clear hg hw hp_) | ((with_reducible refine gate_builtin (b := .append) (xs := #[.tmp 60, .tmp 62]) rfl ?_); at_builtin; refine Kd.R_append (Kd.int .i64) (w0 := w) w.heap.size rfl (.tmp 60) (.tmp 62) 34 3 (.int .i64 0) 8 rfl Try.underlying34 info3 rfl (by decide) (by omega) u9 x9_1 x35_2 [.int .i64 x35_2] (fun _ => True) (fun _ => False) rfl rfl ?aP (fun _ hk => hk.elim) ?aF ?aO ?aB ?aS ?aL ?_; (case aP => exact rfl); (case aB => exact bl); (case aF => exact (fun _ _ => trivial)); (case aO => exact (rup HO_9.out)); (case aS => exact (below_size bl)); (case aL => have := LMc33.out; omega); intro v323 w43 ho hb hg hat; rw [← Ny322.out] at ho; have n0_ := Aside0.mk (Kd.R_over' (rup HO_8.out) (Kd.R_typed (rup HO_9.out)) (by decide) hg); have n1_ := Aside0.mk (blk_grown (g := gb308) (o := .cells #[.slice A0_0 l0_0.length c0_0, .int .i64 a0_1] 44 (0, 0)) (bup BK308.out) hg (Kd.R_ne HO_9.out BK308.out (by decide))); have n2_ := Aside0.mk (blk_grown (g := gb316) (o := .cells #[.int .i64 ((rd_T95 l1 x24_1).f0), .int .i64 ((rd_T95 l1 x24_1).f1), .int .i64 ((rd_T95 l1 x24_1).f2)] 95 (0, 0)) (bup BK316.out) hg (Kd.R_ne HO_9.out BK316.out (by decide))); have n3_ := Aside0.mk (blk_grown (g := gb319) (o := .cells #[.int .i64 ((rd_T80 l2 x35_2).f0), .int .i64 ((rd_T80 l2 x35_2).f1), .int .i64 ((rd_T80 l2 x35_2).f2)] 80 (0, 0)) (bup BK319.out) hg (Kd.R_ne HO_9.out BK319.out (by decide))); have n4_ := Aside0.mk (hb); have n5_ := Aside0.mk (ho); clear HO_8; clear BK308; clear BK316; clear BK319; clear HB; clear HO_9; have HO_8 := n0_; have BK308 := n1_; have BK316 := n2_; have BK319 := n3_; have HB := n4_; have HO324 := n5_; clear n0_ n1_ n2_ n3_ n4_ n5_; clear ho hb hg hat))
                  go_roundg k2
                  case measure => have := HK1.out; have := HK2.out; omega
                  case rel => exact ⟨(y321), (y322), (wrap64 (x24_1 + 1)), fin2, H', ⟨by have := HK1.out; have := HK2.out; omega⟩, ⟨rup HO_8.out⟩, ⟨rup HO324.out⟩, ⟨bup BK308.out⟩, ⟨bl⟩⟩
                 ·rw [if_neg c33] at H
                  exact absurd H (by simp)
               ·rw [if_neg c24] at H
                exact absurd H (by simp)
              ·rw [if_neg c23] at H
               have c23b0 : (((rd_T80 l2 x35_2).f0) == t317) = false := beq_eq_false_iff_ne.mpr c23
               have c23b1 : (((rd_T80 l2 x35_2).f0) != t317) = true := bne_iff_ne.mpr c23
               have H' := Aside0.mk H
               clear H
               have p318 : 0 ≤ (x35_2 : Int) := od
               have q318 : x35_2 < (l2.length : Int) := od
               obtain ⟨ad318, e318, hx318_0, hx318_1, hx318_2⟩ := at_T80 HR2.out x35_2 p318 q318
               cases e318
               replace hx318_0 := (HB.out.cell (World.block_lt_of_cell? w _ hx318_0)).trans hx318_0
               replace hx318_1 := (HB.out.cell (World.block_lt_of_cell? w _ hx318_1)).trans hx318_1
               replace hx318_2 := (HB.out.cell (World.block_lt_of_cell? w _ hx318_2)).trans hx318_2
               replace p318 := eq_true p318
               replace q318 := eq_true q318
               go_wp2_with (first | ((with_reducible refine gate_dst (N := 15) rfl ?_); refine box_event ?hg (N := 15) ?hd (cs := #[.int .i64 0, .int .i64 0, .int .i64 0]) (t := 80) ?hr ?_; (case hd => rfl); (case hg => rfl); (case hr => first | (go_simp; done) | (go_simp; rfl)); intro gb319 hg w44 hbox hb; have n0_ := Aside0.mk (Kd.R_below (rup HO_8.out) hb); have n1_ := Aside0.mk (Kd.R_below (rup HO_9.out) hb); have n2_ := Aside0.mk (blk_below (g := gb308) (o := .cells #[.slice A0_0 l0_0.length c0_0, .int .i64 a0_1] 44 (0, 0)) (bup BK308.out) hb); have n3_ := Aside0.mk (blk_below (g := gb316) (o := .cells #[.int .i64 ((rd_T95 l1 x24_1).f0), .int .i64 ((rd_T95 l1 x24_1).f1), .int .i64 ((rd_T95 l1 x24_1).f2)] 95 (0, 0)) (bup BK316.out) hb); have n4_ := Aside0.mk (below_step bl hb); have n5_ := Aside0.mk (hbox); have n6_ := Aside0.mk ((by rw [hg]; exact (below_size bl) : w.heap.size ≤ gb319)); have n7_ := Aside0.mk ((by rw [hg]; exact (below_size bl) : w.heap.size ≤ gb319)); have n8_ := Aside0.mk ((by rw [hg]; exact Nat.ne_of_lt (blk_lt (g := gb308) (o := .cells #[.slice A0_0 l0_0.length c0_0, .int .i64 a0_1] 44 (0, 0)) (bup BK308.out)) : gb308 ≠ gb319)); have n9_ := Aside0.mk ((by rw [hg]; exact Nat.ne_of_gt (blk_lt (g := gb308) (o := .cells #[.slice A0_0 l0_0.length c0_0, .int .i64 a0_1] 44 (0, 0)) (bup BK308.out)) : gb319 ≠ gb308)); have n10_ := Aside0.mk ((by rw [hg]; exact Nat.ne_of_lt (blk_lt (g := gb316) (o := .cells #[.int .i64 ((rd_T95 l1 x24_1).f0), .int .i64 ((rd_T95 l1 x24_1).f1), .int .i64 ((rd_T95 l1 x24_1).f2)] 95 (0, 0)) (bup BK316.out)) : gb316 ≠ gb319)); have n11_ := Aside0.mk ((by rw [hg]; exact Nat.ne_of_gt (blk_lt (g := gb316) (o := .cells #[.int .i64 ((rd_T95 l1 x24_1).f0), .int .i64 ((rd_T95 l1 x24_1).f1), .int .i64 ((rd_T95 l1 x24_1).f2)] 95 (0, 0)) (bup BK316.out)) : gb319 ≠ gb316)); clear HO_8; clear HO_9; clear BK308; clear BK316; clear HB; have HO_8 := n0_; have HO_9 := n1_; have BK308 := n2_; have BK316 := n3_; have HB := n4_; have BK319 := n5_; have GW319 := n6_; have GE319 := n7_; have NB308_319 := n8_; have NB319_308 := n9_; have NB316_319 := n10_; have NB319_316 := n11_; clear n0_ n1_ n2_ n3_ n4_ n5_ n6_ n7_ n8_ n9_ n10_ n11_; clear hb hbox hg; have hnb45 := NB319_308.out; have hnc45 := NB308_319.out; have hnb46 := NB319_316.out; have hnc46 := NB316_319.out; have hcz47_0 : w44.cell? ⟨gb319, 0, none⟩ = some (.int .i64 0) := (blk_cell BK319.out 0).trans rfl; have hcz47_1 : w44.cell? ⟨gb319, 1, none⟩ = some (.int .i64 0) := (blk_cell BK319.out 1).trans rfl; have hcz47_2 : w44.cell? ⟨gb319, 2, none⟩ = some (.int .i64 0) := (blk_cell BK319.out 2).trans rfl; have hfz47_0 := blk_frozen BK319.out 0; have hfz47_1 := blk_frozen BK319.out 1; have hfz47_2 := blk_frozen BK319.out 2))
               go_roundg k2
               case measure => have := HK1.out; have := HK2.out; omega
               case rel => exact ⟨(x8_2), (x13_2), (wrap64 (x35_2 + 1)), fin2, fin2, H', ⟨by have := HK1.out; have := HK2.out; omega⟩, ⟨by (with_reducible repeat (first | apply Kd.R_alloc | apply Kd.R_drewN | apply Kd.R_drew)); exact Kd.R_mono (Kd.R_far (p := ⟨gb319, 2, none⟩) (Kd.R_far (p := ⟨gb319, 1, none⟩) (Kd.R_far (p := ⟨gb319, 0, none⟩) (Kd.R_types HO_8.out BK319.out (by decide)) (fun _ hk => hk.2) (.int .i64 ((rd_T80 l2 x35_2).f0))) (fun _ hk => hk.2) (.int .i64 ((rd_T80 l2 x35_2).f1))) (fun _ hk => hk.2) (.int .i64 ((rd_T80 l2 x35_2).f2))) (fun _ hk => trivial)⟩, ⟨by (with_reducible repeat (first | apply Kd.R_alloc | apply Kd.R_drewN | apply Kd.R_drew)); exact Kd.R_mono (Kd.R_far (p := ⟨gb319, 2, none⟩) (Kd.R_far (p := ⟨gb319, 1, none⟩) (Kd.R_far (p := ⟨gb319, 0, none⟩) (Kd.R_types HO_9.out BK319.out (by decide)) (fun _ hk => hk.2) (.int .i64 ((rd_T80 l2 x35_2).f0))) (fun _ hk => hk.2) (.int .i64 ((rd_T80 l2 x35_2).f1))) (fun _ hk => hk.2) (.int .i64 ((rd_T80 l2 x35_2).f2))) (fun _ hk => trivial)⟩, ⟨by (with_reducible repeat (first | refine blk_drewN ?_ _ | refine blk_drew ?_ | refine blk_alloc ?_ _)); refine blk_far ?_ NB308_319.out _; (with_reducible repeat (first | refine blk_drewN ?_ _ | refine blk_drew ?_ | refine blk_alloc ?_ _)); refine blk_far ?_ NB308_319.out _; (with_reducible repeat (first | refine blk_drewN ?_ _ | refine blk_drew ?_ | refine blk_alloc ?_ _)); refine blk_far ?_ NB308_319.out _; (with_reducible repeat (first | refine blk_drewN ?_ _ | refine blk_drew ?_ | refine blk_alloc ?_ _)); exact BK308.out⟩, ⟨by (with_reducible repeat (first | refine blk_drewN ?_ _ | refine blk_drew ?_ | refine blk_alloc ?_ _)); refine blk_far ?_ NB316_319.out _; (with_reducible repeat (first | refine blk_drewN ?_ _ | refine blk_drew ?_ | refine blk_alloc ?_ _)); refine blk_far ?_ NB316_319.out _; (with_reducible repeat (first | refine blk_drewN ?_ _ | refine blk_drew ?_ | refine blk_alloc ?_ _)); refine blk_far ?_ NB316_319.out _; (with_reducible repeat (first | refine blk_drewN ?_ _ | refine blk_drew ?_ | refine blk_alloc ?_ _)); exact BK316.out⟩, ⟨bl⟩⟩
             ·rw [if_neg c22] at H
              have c22b0 : decide (0 ≤ t317) = false := decide_eq_false c22
              clear c22
              have H' := Aside0.mk H
              clear H
              have p318 : 0 ≤ (x35_2 : Int) := od
              have q318 : x35_2 < (l2.length : Int) := od
              obtain ⟨ad318, e318, hx318_0, hx318_1, hx318_2⟩ := at_T80 HR2.out x35_2 p318 q318
              cases e318
              replace hx318_0 := (HB.out.cell (World.block_lt_of_cell? w _ hx318_0)).trans hx318_0
              replace hx318_1 := (HB.out.cell (World.block_lt_of_cell? w _ hx318_1)).trans hx318_1
              replace hx318_2 := (HB.out.cell (World.block_lt_of_cell? w _ hx318_2)).trans hx318_2
              replace p318 := eq_true p318
              replace q318 := eq_true q318
              go_wp2_with (first | ((with_reducible refine gate_dst (N := 15) rfl ?_); refine box_event ?hg (N := 15) ?hd (cs := #[.int .i64 0, .int .i64 0, .int .i64 0]) (t := 80) ?hr ?_; (case hd => rfl); (case hg => rfl); (case hr => first | (go_simp; done) | (go_simp; rfl)); intro gb319 hg w48 hbox hb; have n0_ := Aside0.mk (Kd.R_below (rup HO_8.out) hb); have n1_ := Aside0.mk (Kd.R_below (rup HO_9.out) hb); have n2_ := Aside0.mk (blk_below (g := gb308) (o := .cells #[.slice A0_0 l0_0.length c0_0, .int .i64 a0_1] 44 (0, 0)) (bup BK308.out) hb); have n3_ := Aside0.mk (blk_below (g := gb316) (o := .cells #[.int .i64 ((rd_T95 l1 x24_1).f0), .int .i64 ((rd_T95 l1 x24_1).f1), .int .i64 ((rd_T95 l1 x24_1).f2)] 95 (0, 0)) (bup BK316.out) hb); have n4_ := Aside0.mk (below_step bl hb); have n5_ := Aside0.mk (hbox); have n6_ := Aside0.mk ((by rw [hg]; exact (below_size bl) : w.heap.size ≤ gb319)); have n7_ := Aside0.mk ((by rw [hg]; exact (below_size bl) : w.heap.size ≤ gb319)); have n8_ := Aside0.mk ((by rw [hg]; exact Nat.ne_of_lt (blk_lt (g := gb308) (o := .cells #[.slice A0_0 l0_0.length c0_0, .int .i64 a0_1] 44 (0, 0)) (bup BK308.out)) : gb308 ≠ gb319)); have n9_ := Aside0.mk ((by rw [hg]; exact Nat.ne_of_gt (blk_lt (g := gb308) (o := .cells #[.slice A0_0 l0_0.length c0_0, .int .i64 a0_1] 44 (0, 0)) (bup BK308.out)) : gb319 ≠ gb308)); have n10_ := Aside0.mk ((by rw [hg]; exact Nat.ne_of_lt (blk_lt (g := gb316) (o := .cells #[.int .i64 ((rd_T95 l1 x24_1).f0), .int .i64 ((rd_T95 l1 x24_1).f1), .int .i64 ((rd_T95 l1 x24_1).f2)] 95 (0, 0)) (bup BK316.out)) : gb316 ≠ gb319)); have n11_ := Aside0.mk ((by rw [hg]; exact Nat.ne_of_gt (blk_lt (g := gb316) (o := .cells #[.int .i64 ((rd_T95 l1 x24_1).f0), .int .i64 ((rd_T95 l1 x24_1).f1), .int .i64 ((rd_T95 l1 x24_1).f2)] 95 (0, 0)) (bup BK316.out)) : gb319 ≠ gb316)); clear HO_8; clear HO_9; clear BK308; clear BK316; clear HB; have HO_8 := n0_; have HO_9 := n1_; have BK308 := n2_; have BK316 := n3_; have HB := n4_; have BK319 := n5_; have GW319 := n6_; have GE319 := n7_; have NB308_319 := n8_; have NB319_308 := n9_; have NB316_319 := n10_; have NB319_316 := n11_; clear n0_ n1_ n2_ n3_ n4_ n5_ n6_ n7_ n8_ n9_ n10_ n11_; clear hb hbox hg; have hnb49 := NB319_308.out; have hnc49 := NB308_319.out; have hnb50 := NB319_316.out; have hnc50 := NB316_319.out; have hcz51_0 : w48.cell? ⟨gb319, 0, none⟩ = some (.int .i64 0) := (blk_cell BK319.out 0).trans rfl; have hcz51_1 : w48.cell? ⟨gb319, 1, none⟩ = some (.int .i64 0) := (blk_cell BK319.out 1).trans rfl; have hcz51_2 : w48.cell? ⟨gb319, 2, none⟩ = some (.int .i64 0) := (blk_cell BK319.out 2).trans rfl; have hfz51_0 := blk_frozen BK319.out 0; have hfz51_1 := blk_frozen BK319.out 1; have hfz51_2 := blk_frozen BK319.out 2))
              go_roundg k2
              case measure => have := HK1.out; have := HK2.out; omega
              case rel => exact ⟨(x8_2), (x13_2), (wrap64 (x35_2 + 1)), fin2, fin2, H', ⟨by have := HK1.out; have := HK2.out; omega⟩, ⟨by (with_reducible repeat (first | apply Kd.R_alloc | apply Kd.R_drewN | apply Kd.R_drew)); exact Kd.R_mono (Kd.R_far (p := ⟨gb319, 2, none⟩) (Kd.R_far (p := ⟨gb319, 1, none⟩) (Kd.R_far (p := ⟨gb319, 0, none⟩) (Kd.R_types HO_8.out BK319.out (by decide)) (fun _ hk => hk.2) (.int .i64 ((rd_T80 l2 x35_2).f0))) (fun _ hk => hk.2) (.int .i64 ((rd_T80 l2 x35_2).f1))) (fun _ hk => hk.2) (.int .i64 ((rd_T80 l2 x35_2).f2))) (fun _ hk => trivial)⟩, ⟨by (with_reducible repeat (first | apply Kd.R_alloc | apply Kd.R_drewN | apply Kd.R_drew)); exact Kd.R_mono (Kd.R_far (p := ⟨gb319, 2, none⟩) (Kd.R_far (p := ⟨gb319, 1, none⟩) (Kd.R_far (p := ⟨gb319, 0, none⟩) (Kd.R_types HO_9.out BK319.out (by decide)) (fun _ hk => hk.2) (.int .i64 ((rd_T80 l2 x35_2).f0))) (fun _ hk => hk.2) (.int .i64 ((rd_T80 l2 x35_2).f1))) (fun _ hk => hk.2) (.int .i64 ((rd_T80 l2 x35_2).f2))) (fun _ hk => trivial)⟩, ⟨by (with_reducible repeat (first | refine blk_drewN ?_ _ | refine blk_drew ?_ | refine blk_alloc ?_ _)); refine blk_far ?_ NB308_319.out _; (with_reducible repeat (first | refine blk_drewN ?_ _ | refine blk_drew ?_ | refine blk_alloc ?_ _)); refine blk_far ?_ NB308_319.out _; (with_reducible repeat (first | refine blk_drewN ?_ _ | refine blk_drew ?_ | refine blk_alloc ?_ _)); refine blk_far ?_ NB308_319.out _; (with_reducible repeat (first | refine blk_drewN ?_ _ | refine blk_drew ?_ | refine blk_alloc ?_ _)); exact BK308.out⟩, ⟨by (with_reducible repeat (first | refine blk_drewN ?_ _ | refine blk_drew ?_ | refine blk_alloc ?_ _)); refine blk_far ?_ NB316_319.out _; (with_reducible repeat (first | refine blk_drewN ?_ _ | refine blk_drew ?_ | refine blk_alloc ?_ _)); refine blk_far ?_ NB316_319.out _; (with_reducible repeat (first | refine blk_drewN ?_ _ | refine blk_drew ?_ | refine blk_alloc ?_ _)); refine blk_far ?_ NB316_319.out _; (with_reducible repeat (first | refine blk_drewN ?_ _ | refine blk_drew ?_ | refine blk_alloc ?_ _)); exact BK316.out⟩, ⟨bl⟩⟩
            ·rw [if_neg c21] at H
             exact absurd H (by simp)
           ·rw [if_neg c20] at H
            exact absurd H (by simp)
          ·rw [if_neg c19] at H
           have c19b0 : decide (x35_2 < (l2.length : Int)) = false := decide_eq_false c19
           clear c19
           by_cases c52 : x9_1.length < 17592186044416
           ·rw [if_pos c52] at H
            have LMc52 := Aside0.mk c52
            clear c52
            obtain ⟨y325, hy325⟩ : ∃ y_ : List Int, y_ = (x9_1 ++ [x13_2]) := ⟨_, rfl⟩
            replace H : (impl_matched.l0 k2 l2 x8_2 y325 l1 (l1.length : Int) (wrap64 (x24_1 + 1)) l0_0 a0_1) = some (r1, r2) := by first | (rw [hy325]; with_reducible exact H) | (have H2_ := (Option.bind_some _ _).symm.trans H; rw [hy325]; with_reducible exact H2_) | (have H2_ := (Option.bind_some _ _).symm.trans H; with_reducible exact H2_) | with_reducible exact H | (rw [hy325]; exact H) | exact H
            have Ny325 := Aside0.mk hy325
            clear hy325
            have H' := Aside0.mk H
            clear H
            go_wp2_with (first | ((with_reducible refine gate_builtin (b := .append) (xs := #[.tmp 60, .tmp 62]) rfl ?_); at_builtin; refine Kd.R_append (Kd.int .i64) (w0 := w) w.heap.size rfl (.tmp 60) (.tmp 62) 34 3 (.int .i64 0) 8 rfl Try.underlying34 info3 rfl (by decide) (by omega) u9 x9_1 x13_2 [.int .i64 x13_2] (fun _ => True) (fun _ => False) rfl rfl ?aP (fun _ hk => hk.elim) ?aF ?aO ?aB ?aS ?aL ?_; (case aP => exact rfl); (case aB => exact bl); (case aF => exact (fun _ _ => trivial)); (case aO => exact (rup HO_9.out)); (case aS => exact (below_size bl)); (case aL => have := LMc52.out; omega); intro v326 w53 ho hb hg hat; rw [← Ny325.out] at ho; have n0_ := Aside0.mk (Kd.R_over' (rup HO_8.out) (Kd.R_typed (rup HO_9.out)) (by decide) hg); have n1_ := Aside0.mk (blk_grown (g := gb308) (o := .cells #[.slice A0_0 l0_0.length c0_0, .int .i64 a0_1] 44 (0, 0)) (bup BK308.out) hg (Kd.R_ne HO_9.out BK308.out (by decide))); have n2_ := Aside0.mk (blk_grown (g := gb316) (o := .cells #[.int .i64 ((rd_T95 l1 x24_1).f0), .int .i64 ((rd_T95 l1 x24_1).f1), .int .i64 ((rd_T95 l1 x24_1).f2)] 95 (0, 0)) (bup BK316.out) hg (Kd.R_ne HO_9.out BK316.out (by decide))); have n3_ := Aside0.mk (hb); have n4_ := Aside0.mk (ho); clear HO_8; clear BK308; clear BK316; clear HB; clear HO_9; have HO_8 := n0_; have BK308 := n1_; have BK316 := n2_; have HB := n3_; have HO327 := n4_; clear n0_ n1_ n2_ n3_ n4_; clear ho hb hg hat))
            go_roundg k2
            case measure => have := HK1.out; have := HK2.out; omega
            case rel => exact ⟨(x8_2), (y325), (wrap64 (x24_1 + 1)), fin2, H', ⟨by have := HK1.out; have := HK2.out; omega⟩, ⟨rup HO_8.out⟩, ⟨rup HO327.out⟩, ⟨bup BK308.out⟩, ⟨bl⟩⟩
           ·rw [if_neg c52] at H
            exact absurd H (by simp)
       ·rw [if_neg c13] at H
        exact absurd H (by simp)
      ·rw [if_neg c12] at H
       exact absurd H (by simp)
     ·rw [if_neg c11] at H
      have c11b0 : decide (x24_1 < (l1.length : Int)) = false := decide_eq_false c11
      clear c11
      obtain ⟨y328, hy328⟩ : ∃ y_ : List Int, y_ = (([] : List Int)) := ⟨_, rfl⟩
      replace H : (impl_matched.l2 k1 x8_1 x9_1 y328 (l2.length : Int) 0) = some (r1, r2) := by first | (rw [hy328]; with_reducible exact H) | (have H2_ := (Option.bind_some _ _).symm.trans H; rw [hy328]; with_reducible exact H2_) | (have H2_ := (Option.bind_some _ _).symm.trans H; with_reducible exact H2_) | with_reducible exact H | (rw [hy328]; exact H) | exact H
      have Ny328 := Aside0.mk hy328
      clear hy328
      have H' := Aside0.mk H
      clear H
      go_wp2_with (first | ((with_reducible refine gate_dst (N := 65) rfl ?_); refine Kd.R_lit (Kd.int .i64) _ 3 ?hg (N := 65) ?hd (xs := ([] : List Int)) (inner := []) (ok := fun _ => True) (okp := fun _ => True) ?hr ?hp (fun _ hk => hk) trivial (Below.refl _ _) (Nat.le_refl _) (by simp) ?_; (case hd => rfl); (case hg => rfl); (case hr => first | (go_simp; done) | (go_simp; rfl)); (case hp => exact (Reps.none _ _)); intro v329 w54 ho55 hb hg_ hnew_; clear hg_ hnew_; (first | rw [← Ny328.out] at ho55 | (simp only [Int.reduceToNat] at ho55; rw [← Ny328.out] at ho55)); have n0_ := Aside0.mk (Kd.R_below (rup HO_8.out) hb); have n1_ := Aside0.mk (Kd.R_elder' (rup HO_9.out) (Kd.R_base ho55) hb); have n2_ := Aside0.mk (Kd.R_lower (Kd.R_new' ho55 (Kd.R_lt (rup HO_9.out))) (below_size bl)); have n3_ := Aside0.mk (blk_below (g := gb308) (o := .cells #[.slice A0_0 l0_0.length c0_0, .int .i64 a0_1] 44 (0, 0)) (bup BK308.out) hb); have n4_ := Aside0.mk (below_step bl hb); clear HO_8; clear HO_9; clear BK308; clear HB; have HO_8 := n0_; have HO_9 := n1_; have HO330 := n2_; have BK308 := n3_; have HB := n4_; clear n0_ n1_ n2_ n3_ n4_; clear hb ho55))
      go_loopg [16, 68] k1 (fun kq v16 v68 w' => ∃ (x16_2 : List Int) (x68_2 : Int), v68 = .int .i64 x68_2 ∧ Aside0 (impl_matched.l2 kq x8_1 x9_1 x16_2 (l2.length : Int) x68_2 = some (r1, r2)) ∧ Aside0 (kq ≤ k1) ∧ Aside0 (Kd.R Kd.bool 4 w' w.heap.size (fun _ => True) v310 x8_1) ∧ Aside0 (Kd.R (Kd.int .i64) 3 w' w.heap.size (fun k_ => some k_ ≠ (v16 : Value).ownBlock) u9 x9_1) ∧ Aside0 (Kd.R (Kd.int .i64) 3 w' w.heap.size (fun k_ => some k_ ≠ (u9 : Value).ownBlock) v16 x16_2) ∧ Aside0 (w'.heap[gb308]? = some (.cells #[(.slice A0_0 l0_0.length c0_0), .int .i64 a0_1] 44 (0, 0))) ∧ Aside0 (Below w.heap.size w w'))
      case atStart => exact ⟨(y328), (0), fin2, H', ⟨Nat.le_refl _⟩, ⟨rup HO_8.out⟩, ⟨by (with_reducible repeat (first | apply Kd.R_alloc | apply Kd.R_drewN | apply Kd.R_drew)); exact Kd.R_mono HO_9.out (fun _ hk => hk.2)⟩, ⟨by (with_reducible repeat (first | apply Kd.R_alloc | apply Kd.R_drewN | apply Kd.R_drew)); exact Kd.R_mono HO330.out (fun _ hk => hk.2)⟩, ⟨bup BK308.out⟩, ⟨bl⟩⟩
      case round =>
       clear H'
       try clear c1
       try clear c2
       try clear p2
       try clear q2
       try clear c3
       try clear p3
       try clear q3
       try clear hx3
       try clear hf3
       try clear c4
       try clear c4b0
       try clear c4b1
       try clear c5
       try clear c5b0
       try clear c5b1
       try clear p6
       try clear c7
       try clear c10
       try clear c11
       try clear c11b0
       try clear c12
       try clear c12b0
       try clear c13
       try clear c13b0
       try clear c16
       try clear c19
       try clear c19b0
       try clear c20
       try clear c20b0
       try clear c21
       try clear c21b0
       try clear c22
       try clear c22b0
       try clear c23
       try clear c23b0
       try clear c23b1
       try clear c24
       try clear c24b0
       try clear q25
       try clear c26
       try clear c28
       try clear c29
       try clear p31
       try clear q31
       try clear hx31
       try clear p32
       try clear q32
       try clear hx32
       try clear hf32
       try clear c33
       try clear c35
       try clear c36
       try clear c45
       try clear c46
       try clear c49
       try clear c50
       try clear c52
       try clear hcz17_0
       try clear hcz17_1
       try clear hcz17_2
       try clear hcz18_0
       try clear hcz18_1
       try clear hcz30_0
       try clear hcz30_1
       try clear hcz30_2
       try clear hcz37_0
       try clear hcz37_1
       try clear hcz37_2
       try clear hcz39_0
       try clear hcz39_1
       try clear hcz39_2
       try clear hcz47_0
       try clear hcz47_1
       try clear hcz47_2
       try clear hcz51_0
       try clear hcz51_1
       try clear hcz51_2
       try clear hfz17_0
       try clear hfz17_1
       try clear hfz17_2
       try clear hfz18_0
       try clear hfz18_1
       try clear hfz30_0
       try clear hfz30_1
       try clear hfz30_2
       try clear hfz37_0
       try clear hfz37_1
       try clear hfz37_2
       try clear hfz39_0
       try clear hfz39_1
       try clear hfz39_2
       try clear hfz47_0
       try clear hfz47_1
       try clear hfz47_2
       try clear hfz51_0
       try clear hfz51_1
       try clear hfz51_2
       try clear hx315_0
       try clear hx315_1
       try clear hx315_2
       try clear hx318_0
       try clear hx318_1
       try clear hx318_2
       try clear hx320_0
       try clear hx32_0
       try clear p2
       try clear p3
       try clear p315
       try clear p318
       try clear p32
       try clear p320
       try clear q3
       try clear q315
       try clear q318
       try clear q32
       try clear q320
       obtain ⟨x16_2, x68_2, rfl, HA, HK2, HO_8, HO_9, HO_16, BK308, HB⟩ := hrel
       cases gk with
       | zero => exact absurd HA.out (by simp [impl_matched.l2])
       | succ k2 =>
        have H := HA.out
        clear HA
        simp only [impl_matched.l2] at H
        by_cases c56 : x68_2 < (l2.length : Int)
        ·rw [if_pos c56] at H
         have c56b0 : decide (x68_2 < (l2.length : Int)) = true := decide_eq_true c56
         clear c56
         by_cases c57 : 0 ≤ x68_2
         ·rw [if_pos c57] at H
          have c57b0 : decide (0 ≤ x68_2) = true := decide_eq_true c57
          clear c57
          by_cases c58 : x68_2 < (x8_1.length : Int)
          ·rw [if_pos c58] at H
           have c58b0 : decide (x68_2 < (x8_1.length : Int)) = true := decide_eq_true c58
           clear c58
           obtain ⟨bq59, hbq59⟩ : ∃ b_ : Bool, b_ = (rdOf false x8_1 x68_2) := ⟨_, rfl⟩
           replace H : (if bq59 = true then (impl_matched.l2 k2 x8_1 x9_1 x16_2 (l2.length : Int) (wrap64 (x68_2 + 1))) else (if x16_2.length < 17592186044416 then (impl_matched.l2 k2 x8_1 x9_1 (x16_2 ++ [x68_2]) (l2.length : Int) (wrap64 (x68_2 + 1))) else (none))) = some (r1, r2) := by rw [← hbq59] at H; exact H
           have Nbq59 := Aside0.mk hbq59
           clear hbq59
           by_cases c60 : bq59 = true
           ·subst c60
            have H1 : (impl_matched.l2 k2 x8_1 x9_1 x16_2 (l2.length : Int) (wrap64 (x68_2 + 1))) = some (r1, r2) := by rw [if_pos rfl] at H; exact H
            clear H
            have H := H1
            clear H1
            have H' := Aside0.mk H
            clear H
            obtain ⟨Ao61, co61, eo61⟩ := Kd.R_slice HO_8.out
            subst eo61
            have p331 : 0 ≤ (x68_2 : Int) := od
            have q331 : x68_2 < (x8_1.length : Int) := od
            obtain ⟨ad331, e331, hx331_0⟩ := Kd.at_bool (Kd.R_reads' HO_8.out).2.2 x68_2 p331 q331
            (try rw [← Nbq59.out] at hx331_0)
            cases e331
            replace p331 := eq_true p331
            replace q331 := eq_true q331
            go_wp2
            go_roundg k2
            case measure => have := HK1.out; have := HK2.out; omega
            case rel => exact ⟨(x16_2), (wrap64 (x68_2 + 1)), fin2, H', ⟨by have := HK1.out; have := HK2.out; omega⟩, ⟨rup HO_8.out⟩, ⟨rup HO_9.out⟩, ⟨rup HO_16.out⟩, ⟨bup BK308.out⟩, ⟨bl⟩⟩
           ·replace c60 := Bool.eq_false_iff.mpr c60
            subst c60
            have H1 : (if x16_2.length < 17592186044416 then (impl_matched.l2 k2 x8_1 x9_1 (x16_2 ++ [x68_2]) (l2.length : Int) (wrap64 (x68_2 + 1))) else (none)) = some (r1, r2) := by rw [if_neg (show ¬ (false = true) by decide)] at H; exact H
            clear H
            have H := H1
            clear H1
            by_cases c62 : x16_2.length < 17592186044416
            ·rw [if_pos c62] at H
             have LMc62 := Aside0.mk c62
             clear c62
             obtain ⟨y332, hy332⟩ : ∃ y_ : List Int, y_ = (x16_2 ++ [x68_2]) := ⟨_, rfl⟩
             replace H : (impl_matched.l2 k2 x8_1 x9_1 y332 (l2.length : Int) (wrap64 (x68_2 + 1))) = some (r1, r2) := by first | (rw [hy332]; with_reducible exact H) | (have H2_ := (Option.bind_some _ _).symm.trans H; rw [hy332]; with_reducible exact H2_) | (have H2_ := (Option.bind_some _ _).symm.trans H; with_reducible exact H2_) | with_reducible exact H | (rw [hy332]; exact H) | exact H
             have Ny332 := Aside0.mk hy332
             clear hy332
             have H' := Aside0.mk H
             clear H
             obtain ⟨Ao63, co63, eo63⟩ := Kd.R_slice HO_8.out
             subst eo63
             have p331 : 0 ≤ (x68_2 : Int) := od
             have q331 : x68_2 < (x8_1.length : Int) := od
             obtain ⟨ad331, e331, hx331_0⟩ := Kd.at_bool (Kd.R_reads' HO_8.out).2.2 x68_2 p331 q331
             (try rw [← Nbq59.out] at hx331_0)
             cases e331
             replace p331 := eq_true p331
             replace q331 := eq_true q331
             go_wp2_with (first | ((with_reducible refine gate_builtin (b := .append) (xs := #[.tmp 76, .tmp 78]) rfl ?_); at_builtin; refine Kd.R_append (Kd.int .i64) (w0 := w) w.heap.size rfl (.tmp 76) (.tmp 78) 34 3 (.int .i64 0) 8 rfl Try.underlying34 info3 rfl (by decide) (by omega) u16 x16_2 x68_2 [.int .i64 x68_2] (fun k_ => some k_ ≠ (u9 : Value).ownBlock) (fun _ => False) rfl rfl ?aP (fun _ hk => hk.elim) ?aF ?aO ?aB ?aS ?aL ?_; (case aP => exact rfl); (case aB => exact bl); (case aF => exact (fun k_ hk => Kd.fresh' (Kd.R_lt (rup HO_9.out)) k_ hk)); (case aO => exact (rup HO_16.out)); (case aS => exact (below_size bl)); (case aL => have := LMc62.out; omega); intro v333 w64 ho hb hg hat; rw [← Ny332.out] at ho; have n0_ := Aside0.mk (Kd.R_over' (rup HO_8.out) (Kd.R_typed (rup HO_16.out)) (by decide) hg); have n1_ := Aside0.mk (Kd.R_after (ok := (fun _ => True)) (by (with_reducible repeat (first | apply Kd.R_alloc | apply Kd.R_drewN | apply Kd.R_drew)); exact Kd.R_mono HO_9.out (fun _ hk => ⟨trivial, hk⟩)) hg hat); have n2_ := Aside0.mk (blk_grown (g := gb308) (o := .cells #[.slice A0_0 l0_0.length c0_0, .int .i64 a0_1] 44 (0, 0)) (bup BK308.out) hg (Kd.R_ne HO_16.out BK308.out (by decide))); have n3_ := Aside0.mk (hb); have n4_ := Aside0.mk (ho); clear HO_8; clear HO_9; clear BK308; clear HB; clear HO_16; have HO_8 := n0_; have HO_9 := n1_; have BK308 := n2_; have HB := n3_; have HO334 := n4_; clear n0_ n1_ n2_ n3_ n4_; clear ho hb hg hat))
             go_roundg k2
             case measure => have := HK1.out; have := HK2.out; omega
             case rel => exact ⟨(y332), (wrap64 (x68_2 + 1)), fin2, H', ⟨by have := HK1.out; have := HK2.out; omega⟩, ⟨rup HO_8.out⟩, ⟨by (with_reducible repeat (first | apply Kd.R_alloc | apply Kd.R_drewN | apply Kd.R_drew)); exact Kd.R_mono HO_9.out (fun _ hk => hk.2)⟩, ⟨rup HO334.out⟩, ⟨bup BK308.out⟩, ⟨bl⟩⟩
            ·rw [if_neg c62] at H
             exact absurd H (by simp)
          ·rw [if_neg c58] at H
           exact absurd H (by simp)
         ·rw [if_neg c57] at H
          exact absurd H (by simp)
        ·rw [if_neg c56] at H
         have c56b0 : decide (x68_2 < (l2.length : Int)) = false := decide_eq_false c56
         clear c56
         simp only [Option.some.injEq, Prod.mk.injEq] at H
         obtain ⟨rfl, rfl⟩ := H
         go_wp2
         go_ret2
         exact ⟨_, _, fin1, by (with_reducible repeat (first | apply Kd.R_alloc | apply Kd.R_drewN | apply Kd.R_drew)); exact HO_9.out, by (with_reducible repeat (first | apply Kd.R_alloc | apply Kd.R_drewN | apply Kd.R_drew)); exact HO_16.out, bl⟩
  ·rw [if_neg c5] at H
   exact absurd H (by simp)
 ·rw [if_neg c4] at H
  exact absurd H (by simp)

end Go.Proofs.Ytjniaiobnbdhhab.PFnExactHoleErrors
