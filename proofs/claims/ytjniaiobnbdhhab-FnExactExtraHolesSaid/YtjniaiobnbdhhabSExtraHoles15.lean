/- The walks of functions that FnExactExtraHoles reaches: what they return is what the plain functions of the same names say. Made by a program of this session after the kit's print. No conditions beyond the arguments' being read. -/
import Derived.Test.YtjniaiobnbdhhabSExtraHoles0
import Derived.Test.YtjniaiobnbdhhabSExtraHoles1
import Derived.Test.YtjniaiobnbdhhabSExtraHoles2
import Derived.Test.YtjniaiobnbdhhabSExtraHoles3
import Derived.Test.YtjniaiobnbdhhabSExtraHoles9
import Derived.Test.YtjniaiobnbdhhabSExtraHoles13
import Derived.Test.YtjniaiobnbdhhabSExtraHoles14
namespace Go.Proofs.Ytjniaiobnbdhhab.PFnExactExtraHoles
open Go.RowKit Go.Proofs.YtjniaiobnbdhhabW.PrintWords Go.Proofs.YtjniaiobnbdhhabW.PrintLast Go.Proofs.YtjniaiobnbdhhabW.PrintMore
attribute [local go_sem] max2_int min2_int max_two min_two max_three min_three max_four min_four   -- for this text's walks alone
set_option linter.unusedVariables false
set_option linter.unusedSimpArgs false

/-! ### laws_FnExactExtraHoles: function 6 -/
mutual
def laws_FnExactExtraHoles.j0 : Nat → List (S101) → List (S82) → List Int → Bool → List (S95) → List (S80) → List Int → Bool → Bool → List Int → Int → List Int → Int → Option (Bool)
 | 0, _, _, _, _, _, _, _, _, _, _, _, _, _ => none
 | k + 1, x1, x2, x8, x9, x11, x12, x13, x14, x66, x320000, x320001, x342000, x342001 => if x66 = true then (some false) else ((laws_toInstrument.f k x320000 x320001).bind fun bt353 => ((laws_eqInstrument.f k x342000 x342001 bt353.1 bt353.2).bind fun t357 => (if t357 = true then ((laws_toNoteS.f k x1).bind fun t358 => ((laws_eqNoteS.f k x11 t358).bind fun t361 => (if t361 = true then ((laws_toHoleS.f k x2).bind fun t362 => ((laws_eqHoleS.f k x12 t362).bind fun t365 => (if t365 = true then ((laws_markInstrument.f k x342000 x342001 1).bind fun bt366 => ((laws_markNoteS.f k x11 bt366.1).bind fun bt368 => ((laws_markHoleS.f k x12 bt368.1).bind fun bt370 => (if bt370.1 < 0 then (laws_FnExactExtraHoles.j1 k x1 x2 x8 x9 x13 true x320000 x320001) else ((laws_eqIntS.f k x13 x8).bind fun t372 => (if t372 = true then (laws_FnExactExtraHoles.j1 k x1 x2 x8 x9 x13 (x14 != x9) x320000 x320001) else (laws_FnExactExtraHoles.j1 k x1 x2 x8 x9 x13 true x320000 x320001))))))) else (some false)))) else (some false)))) else (some false))))
def laws_FnExactExtraHoles.j1 : Nat → List (S101) → List (S82) → List Int → Bool → List Int → Bool → List Int → Int → Option (Bool)
 | 0, _, _, _, _, _, _, _, _ => none
 | k + 1, x1, x2, x8, x9, x13, x103, x320000, x320001 => if x103 = true then (some false) else ((laws_markIntS.f k x13 1).bind fun bt373 => ((laws_heldIntS.f k bt373.2 1).bind fun t375 => (if t375 < 0 then (some false) else (if t375 = bt373.1 then ((laws_toInstrument.f k x320000 x320001).bind fun bt376 => ((laws_toNoteS.f k x1).bind fun t380 => ((laws_toHoleS.f k x2).bind fun t383 => ((impl_ExtraHoles.f k bt376.1 bt376.2 t380 t383).bind fun bt386 => ((laws_eqIntS.f k bt386.1 x8).bind fun t390 => (if t390 = true then (laws_FnExactExtraHoles.j2 k bt373.2 bt373.1 (bt386.2 != x9)) else (laws_FnExactExtraHoles.j2 k bt373.2 bt373.1 true))))))) else (some false)))))
def laws_FnExactExtraHoles.j2 : Nat → List Int → Int → Bool → Option (Bool)
 | 0, _, _, _ => none
 | k + 1, x13, x16, x133 => if x133 = true then (some false) else ((laws_heldIntS.f k x13 1).bind fun t391 => (if t391 < 0 then (some false) else (if t391 = x16 then (some true) else (some false))))
end
def laws_FnExactExtraHoles.f (k : Nat) (l0_0 : List Int) (a0_1 : Int) (l1 : List (S101)) (l2 : List (S82)) : Option (Bool) := (laws_szInstrument.f l0_0 a0_1 1048576).bind fun t320 => (if t320 < 0 then (some true) else ((laws_szNoteS.f l1 t320).bind fun t321 => (if t321 < 0 then (some true) else ((laws_szHoleS.f l2 t321).bind fun t322 => (if t322 < 0 then (some true) else ((laws_toInstrument.f k l0_0 a0_1).bind fun bt323 => ((laws_toNoteS.f k l1).bind fun t327 => ((laws_toHoleS.f k l2).bind fun t330 => ((spec_ExtraHoles.f k bt323.1 bt323.2 t327 t330).bind fun bt333 => ((laws_toInstrument.f k l0_0 a0_1).bind fun bt337 => ((laws_toNoteS.f k l1).bind fun t342 => ((laws_toHoleS.f k l2).bind fun t345 => ((impl_ExtraHoles.f k bt337.1 bt337.2 t342 t345).bind fun bt348 => ((laws_eqIntS.f k bt348.1 bt333.1).bind fun t352 => (if t352 = true then (laws_FnExactExtraHoles.j0 k l1 l2 bt333.1 bt333.2 t342 t345 bt348.1 bt348.2 (bt348.2 != bt333.2) l0_0 a0_1 bt337.1 bt337.2) else (laws_FnExactExtraHoles.j0 k l1 l2 bt333.1 bt333.2 t342 t345 bt348.1 bt348.2 true l0_0 a0_1 bt337.1 bt337.2))))))))))))))))
set_option maxHeartbeats 8000000 in
set_option maxRecDepth 100000 in
theorem laws_FnExactExtraHoles.calls (k : Nat) (A0_0 : Option Addr) (c0_0 : Nat) (l0_0 : List Int) (a0_1 : Int) (A1 : Option Addr) (c1 : Nat) (l1 : List (S101)) (A2 : Option Addr) (c2 : Nat) (l2 : List (S82)) (r : Bool) (w : World) (hr0_0 : Kd.C (Kd.int .i64) w A0_0 l0_0.length l0_0) (hc0_0 : l0_0.length ≤ c0_0) (hr1 : Kd.C k101 w A1 l1.length l1) (hc1 : l1.length ≤ c1) (hr2 : Kd.C k82 w A2 l2.length l2) (hc2 : l2.length ≤ c2) (h : laws_FnExactExtraHoles.f k l0_0 a0_1 l1 l2 = some r) (hrt : Aside0 (r = true)) :
  Calls Try.prog 6 #[.agg #[.slice A0_0 l0_0.length c0_0, .int .i64 a0_1], .slice A1 l1.length c1, .slice A2 l2.length c2] w fun e w' => e = .returned (.bool r) ∧ Below w.heap.size w w' := by
 have hu36 := Try.underlying36
 have hu44 := Try.underlying44
 have HR0_0 := Aside0.mk hr0_0
 have HC0_0 := Aside0.mk hc0_0
 clear hr0_0 hc0_0
 have HR1 := Aside0.mk hr1
 have HC1 := Aside0.mk hc1
 clear hr1 hc1
 have HR2 := Aside0.mk hr2
 have HC2 := Aside0.mk hc2
 clear hr2 hc2
 have HB := Aside0.mk (Below.refl w.heap.size w)
 have H : ((laws_szInstrument.f l0_0 a0_1 1048576).bind fun t320 => (if t320 < 0 then (some true) else ((laws_szNoteS.f l1 t320).bind fun t321 => (if t321 < 0 then (some true) else ((laws_szHoleS.f l2 t321).bind fun t322 => (if t322 < 0 then (some true) else ((laws_toInstrument.f k l0_0 a0_1).bind fun bt323 => ((laws_toNoteS.f k l1).bind fun t327 => ((laws_toHoleS.f k l2).bind fun t330 => ((spec_ExtraHoles.f k bt323.1 bt323.2 t327 t330).bind fun bt333 => ((laws_toInstrument.f k l0_0 a0_1).bind fun bt337 => ((laws_toNoteS.f k l1).bind fun t342 => ((laws_toHoleS.f k l2).bind fun t345 => ((impl_ExtraHoles.f k bt337.1 bt337.2 t342 t345).bind fun bt348 => ((laws_eqIntS.f k bt348.1 bt333.1).bind fun t352 => (if t352 = true then (laws_FnExactExtraHoles.j0 k l1 l2 bt333.1 bt333.2 t342 t345 bt348.1 bt348.2 (bt348.2 != bt333.2) l0_0 a0_1 bt337.1 bt337.2) else (laws_FnExactExtraHoles.j0 k l1 l2 bt333.1 bt333.2 t342 t345 bt348.1 bt348.2 true l0_0 a0_1 bt337.1 bt337.2))))))))))))))))) = some r := h
 clear h
 replace H := Option.bind_eq_some_iff.mp H
 obtain ⟨t320, A40, H⟩ := H
 replace H : (if t320 < 0 then (some true) else ((laws_szNoteS.f l1 t320).bind fun t321 => (if t321 < 0 then (some true) else ((laws_szHoleS.f l2 t321).bind fun t322 => (if t322 < 0 then (some true) else ((laws_toInstrument.f k l0_0 a0_1).bind fun bt323 => ((laws_toNoteS.f k l1).bind fun t327 => ((laws_toHoleS.f k l2).bind fun t330 => ((spec_ExtraHoles.f k bt323.1 bt323.2 t327 t330).bind fun bt333 => ((laws_toInstrument.f k l0_0 a0_1).bind fun bt337 => ((laws_toNoteS.f k l1).bind fun t342 => ((laws_toHoleS.f k l2).bind fun t345 => ((impl_ExtraHoles.f k bt337.1 bt337.2 t342 t345).bind fun bt348 => ((laws_eqIntS.f k bt348.1 bt333.1).bind fun t352 => (if t352 = true then (laws_FnExactExtraHoles.j0 k l1 l2 bt333.1 bt333.2 t342 t345 bt348.1 bt348.2 (bt348.2 != bt333.2) l0_0 a0_1 bt337.1 bt337.2) else (laws_FnExactExtraHoles.j0 k l1 l2 bt333.1 bt333.2 t342 t345 bt348.1 bt348.2 true l0_0 a0_1 bt337.1 bt337.2)))))))))))))))) = some r := H
 have A4 := Aside0.mk A40
 clear A40
 by_cases c5 : t320 < 0
 ·rw [if_pos c5] at H
  have c5b0 : decide (t320 < 0) = true := decide_eq_true c5
  clear c5
  obtain rfl := Option.some.inj H
  go_enter Try.func6, Try.ntmps6
  go_wp2_with (first | ((with_reducible refine gate_dst (N := 3) rfl ?_); refine box_event ?hg (N := 3) ?hd (cs := #[.slice A0_0 l0_0.length c0_0, .int .i64 a0_1]) (t := 36) ?hr ?_; (case hd => rfl); (case hg => rfl); (case hr => first | (go_simp; done) | (go_simp; rfl)); intro gb319 hg w6 hbox hb; have n0_ := Aside0.mk (below_step bl hb); have n1_ := Aside0.mk (hbox); have n2_ := Aside0.mk ((by rw [hg]; exact (below_size bl) : w.heap.size ≤ gb319)); have n3_ := Aside0.mk ((by rw [hg]; exact (below_size bl) : w.heap.size ≤ gb319)); clear HB; have HB := n0_; have BK319 := n1_; have GW319 := n2_; have GE319 := n3_; clear n0_ n1_ n2_ n3_; clear hb hbox hg; have hcz7_0 : w6.cell? ⟨gb319, 0, none⟩ = some (.slice A0_0 l0_0.length c0_0) := (blk_cell BK319.out 0).trans rfl; have hcz7_1 : w6.cell? ⟨gb319, 1, none⟩ = some (.int .i64 a0_1) := (blk_cell BK319.out 1).trans rfl; have hfz7_0 := blk_frozen BK319.out 0; have hfz7_1 := blk_frozen BK319.out 1) | ((with_reducible refine gate_callee (f := 22) rfl ?_); refine goesL_ (some 22) rfl rfl Try.func22 (by kernel_rfl) rfl #[.agg #[.slice A0_0 l0_0.length c0_0, .int .i64 a0_1], .int .i64 1048576] rfl (by (try simp only [List.map_toArray, List.map_cons, List.map_nil]); first | done | rfl | (simp only [List.length_drop, List.length_take]; rfl)) ?_; (with_reducible refine (laws_szInstrument.calls _ _ l0_0 a0_1 1048576 t320 _ ?side1 ?side2 A4.out).mono ?_); (case side1 => repeat (first | exact (Kd.C_below HR0_0.out HB.out) | (with_reducible refine Kd.C_alloc ?_ _) | (with_reducible refine Kd.C_drewN ?_ _) | (with_reducible refine Kd.C_drew ?_))); (case side2 => exact HC0_0.out); rintro e w8 ⟨rfl, hb⟩; refine ⟨_, rfl, ?_⟩; have n0_ := Aside0.mk (blk_below (g := gb319) (o := .cells #[.slice A0_0 l0_0.length c0_0, .int .i64 a0_1] 36 (0, 0)) (bup BK319.out) hb); have n1_ := Aside0.mk (below_step bl hb); clear BK319; clear HB; have BK319 := n0_; have HB := n1_; clear n0_ n1_; (try clear hb); (try clear hb2); (try clear hk); (try clear hi)))
  go_ret
  exact ⟨fin1, bl⟩
 ·rw [if_neg c5] at H
  have c5b0 : decide (t320 < 0) = false := decide_eq_false c5
  clear c5
  replace H := Option.bind_eq_some_iff.mp H
  obtain ⟨t321, A90, H⟩ := H
  replace H : (if t321 < 0 then (some true) else ((laws_szHoleS.f l2 t321).bind fun t322 => (if t322 < 0 then (some true) else ((laws_toInstrument.f k l0_0 a0_1).bind fun bt323 => ((laws_toNoteS.f k l1).bind fun t327 => ((laws_toHoleS.f k l2).bind fun t330 => ((spec_ExtraHoles.f k bt323.1 bt323.2 t327 t330).bind fun bt333 => ((laws_toInstrument.f k l0_0 a0_1).bind fun bt337 => ((laws_toNoteS.f k l1).bind fun t342 => ((laws_toHoleS.f k l2).bind fun t345 => ((impl_ExtraHoles.f k bt337.1 bt337.2 t342 t345).bind fun bt348 => ((laws_eqIntS.f k bt348.1 bt333.1).bind fun t352 => (if t352 = true then (laws_FnExactExtraHoles.j0 k l1 l2 bt333.1 bt333.2 t342 t345 bt348.1 bt348.2 (bt348.2 != bt333.2) l0_0 a0_1 bt337.1 bt337.2) else (laws_FnExactExtraHoles.j0 k l1 l2 bt333.1 bt333.2 t342 t345 bt348.1 bt348.2 true l0_0 a0_1 bt337.1 bt337.2)))))))))))))) = some r := H
  have A9 := Aside0.mk A90
  clear A90
  by_cases c10 : t321 < 0
  ·rw [if_pos c10] at H
   have c10b0 : decide (t321 < 0) = true := decide_eq_true c10
   clear c10
   obtain rfl := Option.some.inj H
   go_enter Try.func6, Try.ntmps6
   go_wp2_with (first | ((with_reducible refine gate_dst (N := 3) rfl ?_); refine box_event ?hg (N := 3) ?hd (cs := #[.slice A0_0 l0_0.length c0_0, .int .i64 a0_1]) (t := 36) ?hr ?_; (case hd => rfl); (case hg => rfl); (case hr => first | (go_simp; done) | (go_simp; rfl)); intro gb319 hg w11 hbox hb; have n0_ := Aside0.mk (below_step bl hb); have n1_ := Aside0.mk (hbox); have n2_ := Aside0.mk ((by rw [hg]; exact (below_size bl) : w.heap.size ≤ gb319)); have n3_ := Aside0.mk ((by rw [hg]; exact (below_size bl) : w.heap.size ≤ gb319)); clear HB; have HB := n0_; have BK319 := n1_; have GW319 := n2_; have GE319 := n3_; clear n0_ n1_ n2_ n3_; clear hb hbox hg; have hcz12_0 : w11.cell? ⟨gb319, 0, none⟩ = some (.slice A0_0 l0_0.length c0_0) := (blk_cell BK319.out 0).trans rfl; have hcz12_1 : w11.cell? ⟨gb319, 1, none⟩ = some (.int .i64 a0_1) := (blk_cell BK319.out 1).trans rfl; have hfz12_0 := blk_frozen BK319.out 0; have hfz12_1 := blk_frozen BK319.out 1) | ((with_reducible refine gate_callee (f := 22) rfl ?_); refine goesL_ (some 22) rfl rfl Try.func22 (by kernel_rfl) rfl #[.agg #[.slice A0_0 l0_0.length c0_0, .int .i64 a0_1], .int .i64 1048576] rfl (by (try simp only [List.map_toArray, List.map_cons, List.map_nil]); first | done | rfl | (simp only [List.length_drop, List.length_take]; rfl)) ?_; (with_reducible refine (laws_szInstrument.calls _ _ l0_0 a0_1 1048576 t320 _ ?side1 ?side2 A4.out).mono ?_); (case side1 => repeat (first | exact (Kd.C_below HR0_0.out HB.out) | (with_reducible refine Kd.C_alloc ?_ _) | (with_reducible refine Kd.C_drewN ?_ _) | (with_reducible refine Kd.C_drew ?_))); (case side2 => exact HC0_0.out); rintro e w13 ⟨rfl, hb⟩; refine ⟨_, rfl, ?_⟩; have n0_ := Aside0.mk (blk_below (g := gb319) (o := .cells #[.slice A0_0 l0_0.length c0_0, .int .i64 a0_1] 36 (0, 0)) (bup BK319.out) hb); have n1_ := Aside0.mk (below_step bl hb); clear BK319; clear HB; have BK319 := n0_; have HB := n1_; clear n0_ n1_; (try clear hb); (try clear hb2); (try clear hk); (try clear hi)) | ((with_reducible refine gate_callee (f := 23) rfl ?_); refine goesL_ (some 27) rfl rfl Try.func23 (by kernel_rfl) rfl #[.slice A1 l1.length c1, .int .i64 t320] rfl (by (try simp only [List.map_toArray, List.map_cons, List.map_nil]); first | done | rfl | (simp only [List.length_drop, List.length_take]; rfl)) ?_; (with_reducible refine (laws_szNoteS.calls _ _ l1 t320 t321 _ ?side1 ?side2 A9.out).mono ?_); (case side1 => repeat (first | exact (Kd.C_below HR1.out HB.out) | (with_reducible refine Kd.C_alloc ?_ _) | (with_reducible refine Kd.C_drewN ?_ _) | (with_reducible refine Kd.C_drew ?_))); (case side2 => exact HC1.out); rintro e w' ⟨rfl, ⟨nd, rfl⟩⟩; refine ⟨_, rfl, ?_⟩))
   go_ret
   exact ⟨fin1, bl⟩
  ·rw [if_neg c10] at H
   have c10b0 : decide (t321 < 0) = false := decide_eq_false c10
   clear c10
   replace H := Option.bind_eq_some_iff.mp H
   obtain ⟨t322, A140, H⟩ := H
   replace H : (if t322 < 0 then (some true) else ((laws_toInstrument.f k l0_0 a0_1).bind fun bt323 => ((laws_toNoteS.f k l1).bind fun t327 => ((laws_toHoleS.f k l2).bind fun t330 => ((spec_ExtraHoles.f k bt323.1 bt323.2 t327 t330).bind fun bt333 => ((laws_toInstrument.f k l0_0 a0_1).bind fun bt337 => ((laws_toNoteS.f k l1).bind fun t342 => ((laws_toHoleS.f k l2).bind fun t345 => ((impl_ExtraHoles.f k bt337.1 bt337.2 t342 t345).bind fun bt348 => ((laws_eqIntS.f k bt348.1 bt333.1).bind fun t352 => (if t352 = true then (laws_FnExactExtraHoles.j0 k l1 l2 bt333.1 bt333.2 t342 t345 bt348.1 bt348.2 (bt348.2 != bt333.2) l0_0 a0_1 bt337.1 bt337.2) else (laws_FnExactExtraHoles.j0 k l1 l2 bt333.1 bt333.2 t342 t345 bt348.1 bt348.2 true l0_0 a0_1 bt337.1 bt337.2)))))))))))) = some r := H
   have A14 := Aside0.mk A140
   clear A140
   by_cases c15 : t322 < 0
   ·rw [if_pos c15] at H
    have c15b0 : decide (t322 < 0) = true := decide_eq_true c15
    clear c15
    obtain rfl := Option.some.inj H
    go_enter Try.func6, Try.ntmps6
    go_wp2_with (first | ((with_reducible refine gate_dst (N := 3) rfl ?_); refine box_event ?hg (N := 3) ?hd (cs := #[.slice A0_0 l0_0.length c0_0, .int .i64 a0_1]) (t := 36) ?hr ?_; (case hd => rfl); (case hg => rfl); (case hr => first | (go_simp; done) | (go_simp; rfl)); intro gb319 hg w16 hbox hb; have n0_ := Aside0.mk (below_step bl hb); have n1_ := Aside0.mk (hbox); have n2_ := Aside0.mk ((by rw [hg]; exact (below_size bl) : w.heap.size ≤ gb319)); have n3_ := Aside0.mk ((by rw [hg]; exact (below_size bl) : w.heap.size ≤ gb319)); clear HB; have HB := n0_; have BK319 := n1_; have GW319 := n2_; have GE319 := n3_; clear n0_ n1_ n2_ n3_; clear hb hbox hg; have hcz17_0 : w16.cell? ⟨gb319, 0, none⟩ = some (.slice A0_0 l0_0.length c0_0) := (blk_cell BK319.out 0).trans rfl; have hcz17_1 : w16.cell? ⟨gb319, 1, none⟩ = some (.int .i64 a0_1) := (blk_cell BK319.out 1).trans rfl; have hfz17_0 := blk_frozen BK319.out 0; have hfz17_1 := blk_frozen BK319.out 1) | ((with_reducible refine gate_callee (f := 22) rfl ?_); refine goesL_ (some 22) rfl rfl Try.func22 (by kernel_rfl) rfl #[.agg #[.slice A0_0 l0_0.length c0_0, .int .i64 a0_1], .int .i64 1048576] rfl (by (try simp only [List.map_toArray, List.map_cons, List.map_nil]); first | done | rfl | (simp only [List.length_drop, List.length_take]; rfl)) ?_; (with_reducible refine (laws_szInstrument.calls _ _ l0_0 a0_1 1048576 t320 _ ?side1 ?side2 A4.out).mono ?_); (case side1 => repeat (first | exact (Kd.C_below HR0_0.out HB.out) | (with_reducible refine Kd.C_alloc ?_ _) | (with_reducible refine Kd.C_drewN ?_ _) | (with_reducible refine Kd.C_drew ?_))); (case side2 => exact HC0_0.out); rintro e w18 ⟨rfl, hb⟩; refine ⟨_, rfl, ?_⟩; have n0_ := Aside0.mk (blk_below (g := gb319) (o := .cells #[.slice A0_0 l0_0.length c0_0, .int .i64 a0_1] 36 (0, 0)) (bup BK319.out) hb); have n1_ := Aside0.mk (below_step bl hb); clear BK319; clear HB; have BK319 := n0_; have HB := n1_; clear n0_ n1_; (try clear hb); (try clear hb2); (try clear hk); (try clear hi)) | ((with_reducible refine gate_callee (f := 23) rfl ?_); refine goesL_ (some 27) rfl rfl Try.func23 (by kernel_rfl) rfl #[.slice A1 l1.length c1, .int .i64 t320] rfl (by (try simp only [List.map_toArray, List.map_cons, List.map_nil]); first | done | rfl | (simp only [List.length_drop, List.length_take]; rfl)) ?_; (with_reducible refine (laws_szNoteS.calls _ _ l1 t320 t321 _ ?side1 ?side2 A9.out).mono ?_); (case side1 => repeat (first | exact (Kd.C_below HR1.out HB.out) | (with_reducible refine Kd.C_alloc ?_ _) | (with_reducible refine Kd.C_drewN ?_ _) | (with_reducible refine Kd.C_drew ?_))); (case side2 => exact HC1.out); rintro e w' ⟨rfl, ⟨nd, rfl⟩⟩; refine ⟨_, rfl, ?_⟩) | ((with_reducible refine gate_callee (f := 11) rfl ?_); refine goesL_ (some 32) rfl rfl Try.func11 (by kernel_rfl) rfl #[.slice A2 l2.length c2, .int .i64 t321] rfl (by (try simp only [List.map_toArray, List.map_cons, List.map_nil]); first | done | rfl | (simp only [List.length_drop, List.length_take]; rfl)) ?_; (with_reducible refine (laws_szHoleS.calls _ _ l2 t321 t322 _ ?side1 ?side2 A14.out).mono ?_); (case side1 => repeat (first | exact (Kd.C_below HR2.out bl) | (with_reducible refine Kd.C_alloc ?_ _) | (with_reducible refine Kd.C_drewN ?_ _) | (with_reducible refine Kd.C_drew ?_))); (case side2 => exact HC2.out); rintro e w' ⟨rfl, ⟨nd, rfl⟩⟩; refine ⟨_, rfl, ?_⟩))
    go_ret
    exact ⟨fin1, bl⟩
   ·rw [if_neg c15] at H
    have c15b0 : decide (t322 < 0) = false := decide_eq_false c15
    clear c15
    replace H := Option.bind_eq_some_iff.mp H
    obtain ⟨⟨t323, t326⟩, A190, H⟩ := H
    replace H : ((laws_toNoteS.f k l1).bind fun t327 => ((laws_toHoleS.f k l2).bind fun t330 => ((spec_ExtraHoles.f k t323 t326 t327 t330).bind fun bt333 => ((laws_toInstrument.f k l0_0 a0_1).bind fun bt337 => ((laws_toNoteS.f k l1).bind fun t342 => ((laws_toHoleS.f k l2).bind fun t345 => ((impl_ExtraHoles.f k bt337.1 bt337.2 t342 t345).bind fun bt348 => ((laws_eqIntS.f k bt348.1 bt333.1).bind fun t352 => (if t352 = true then (laws_FnExactExtraHoles.j0 k l1 l2 bt333.1 bt333.2 t342 t345 bt348.1 bt348.2 (bt348.2 != bt333.2) l0_0 a0_1 bt337.1 bt337.2) else (laws_FnExactExtraHoles.j0 k l1 l2 bt333.1 bt333.2 t342 t345 bt348.1 bt348.2 true l0_0 a0_1 bt337.1 bt337.2)))))))))) = some r := H
    have A19 := Aside0.mk A190
    clear A190
    replace H := Option.bind_eq_some_iff.mp H
    obtain ⟨t327, A200, H⟩ := H
    replace H : ((laws_toHoleS.f k l2).bind fun t330 => ((spec_ExtraHoles.f k t323 t326 t327 t330).bind fun bt333 => ((laws_toInstrument.f k l0_0 a0_1).bind fun bt337 => ((laws_toNoteS.f k l1).bind fun t342 => ((laws_toHoleS.f k l2).bind fun t345 => ((impl_ExtraHoles.f k bt337.1 bt337.2 t342 t345).bind fun bt348 => ((laws_eqIntS.f k bt348.1 bt333.1).bind fun t352 => (if t352 = true then (laws_FnExactExtraHoles.j0 k l1 l2 bt333.1 bt333.2 t342 t345 bt348.1 bt348.2 (bt348.2 != bt333.2) l0_0 a0_1 bt337.1 bt337.2) else (laws_FnExactExtraHoles.j0 k l1 l2 bt333.1 bt333.2 t342 t345 bt348.1 bt348.2 true l0_0 a0_1 bt337.1 bt337.2))))))))) = some r := H
    have A20 := Aside0.mk A200
    clear A200
    replace H := Option.bind_eq_some_iff.mp H
    obtain ⟨t330, A210, H⟩ := H
    replace H : ((spec_ExtraHoles.f k t323 t326 t327 t330).bind fun bt333 => ((laws_toInstrument.f k l0_0 a0_1).bind fun bt337 => ((laws_toNoteS.f k l1).bind fun t342 => ((laws_toHoleS.f k l2).bind fun t345 => ((impl_ExtraHoles.f k bt337.1 bt337.2 t342 t345).bind fun bt348 => ((laws_eqIntS.f k bt348.1 bt333.1).bind fun t352 => (if t352 = true then (laws_FnExactExtraHoles.j0 k l1 l2 bt333.1 bt333.2 t342 t345 bt348.1 bt348.2 (bt348.2 != bt333.2) l0_0 a0_1 bt337.1 bt337.2) else (laws_FnExactExtraHoles.j0 k l1 l2 bt333.1 bt333.2 t342 t345 bt348.1 bt348.2 true l0_0 a0_1 bt337.1 bt337.2)))))))) = some r := H
    have A21 := Aside0.mk A210
    clear A210
    replace H := Option.bind_eq_some_iff.mp H
    obtain ⟨⟨t333, t336⟩, A220, H⟩ := H
    replace H : ((laws_toInstrument.f k l0_0 a0_1).bind fun bt337 => ((laws_toNoteS.f k l1).bind fun t342 => ((laws_toHoleS.f k l2).bind fun t345 => ((impl_ExtraHoles.f k bt337.1 bt337.2 t342 t345).bind fun bt348 => ((laws_eqIntS.f k bt348.1 t333).bind fun t352 => (if t352 = true then (laws_FnExactExtraHoles.j0 k l1 l2 t333 t336 t342 t345 bt348.1 bt348.2 (bt348.2 != t336) l0_0 a0_1 bt337.1 bt337.2) else (laws_FnExactExtraHoles.j0 k l1 l2 t333 t336 t342 t345 bt348.1 bt348.2 true l0_0 a0_1 bt337.1 bt337.2))))))) = some r := H
    have A22 := Aside0.mk A220
    clear A220
    replace H := Option.bind_eq_some_iff.mp H
    obtain ⟨⟨t337, t340⟩, A230, H⟩ := H
    replace H : ((laws_toNoteS.f k l1).bind fun t342 => ((laws_toHoleS.f k l2).bind fun t345 => ((impl_ExtraHoles.f k t337 t340 t342 t345).bind fun bt348 => ((laws_eqIntS.f k bt348.1 t333).bind fun t352 => (if t352 = true then (laws_FnExactExtraHoles.j0 k l1 l2 t333 t336 t342 t345 bt348.1 bt348.2 (bt348.2 != t336) l0_0 a0_1 t337 t340) else (laws_FnExactExtraHoles.j0 k l1 l2 t333 t336 t342 t345 bt348.1 bt348.2 true l0_0 a0_1 t337 t340)))))) = some r := H
    have A23 := Aside0.mk A230
    clear A230
    replace H := Option.bind_eq_some_iff.mp H
    obtain ⟨t342, A240, H⟩ := H
    replace H : ((laws_toHoleS.f k l2).bind fun t345 => ((impl_ExtraHoles.f k t337 t340 t342 t345).bind fun bt348 => ((laws_eqIntS.f k bt348.1 t333).bind fun t352 => (if t352 = true then (laws_FnExactExtraHoles.j0 k l1 l2 t333 t336 t342 t345 bt348.1 bt348.2 (bt348.2 != t336) l0_0 a0_1 t337 t340) else (laws_FnExactExtraHoles.j0 k l1 l2 t333 t336 t342 t345 bt348.1 bt348.2 true l0_0 a0_1 t337 t340))))) = some r := H
    have A24 := Aside0.mk A240
    clear A240
    replace H := Option.bind_eq_some_iff.mp H
    obtain ⟨t345, A250, H⟩ := H
    replace H : ((impl_ExtraHoles.f k t337 t340 t342 t345).bind fun bt348 => ((laws_eqIntS.f k bt348.1 t333).bind fun t352 => (if t352 = true then (laws_FnExactExtraHoles.j0 k l1 l2 t333 t336 t342 t345 bt348.1 bt348.2 (bt348.2 != t336) l0_0 a0_1 t337 t340) else (laws_FnExactExtraHoles.j0 k l1 l2 t333 t336 t342 t345 bt348.1 bt348.2 true l0_0 a0_1 t337 t340)))) = some r := H
    have A25 := Aside0.mk A250
    clear A250
    replace H := Option.bind_eq_some_iff.mp H
    obtain ⟨⟨t348, t351⟩, A260, H⟩ := H
    replace H : ((laws_eqIntS.f k t348 t333).bind fun t352 => (if t352 = true then (laws_FnExactExtraHoles.j0 k l1 l2 t333 t336 t342 t345 t348 t351 (t351 != t336) l0_0 a0_1 t337 t340) else (laws_FnExactExtraHoles.j0 k l1 l2 t333 t336 t342 t345 t348 t351 true l0_0 a0_1 t337 t340))) = some r := H
    have A26 := Aside0.mk A260
    clear A260
    have HC27 := Aside0.mk H
    clear H
    go_enter Try.func6, Try.ntmps6
    go_upto_region 16 with (first | ((with_reducible refine gate_dst (N := 3) rfl ?_); refine box_event ?hg (N := 3) ?hd (cs := #[.slice A0_0 l0_0.length c0_0, .int .i64 a0_1]) (t := 36) ?hr ?_; (case hd => rfl); (case hg => rfl); (case hr => first | (go_simp; done) | (go_simp; rfl)); intro gb319 hg w28 hbox hb; have n0_ := Aside0.mk (below_step bl hb); have n1_ := Aside0.mk (hbox); have n2_ := Aside0.mk ((by rw [hg]; exact (below_size bl) : w.heap.size ≤ gb319)); have n3_ := Aside0.mk ((by rw [hg]; exact (below_size bl) : w.heap.size ≤ gb319)); clear HB; have HB := n0_; have BK319 := n1_; have GW319 := n2_; have GE319 := n3_; clear n0_ n1_ n2_ n3_; clear hb hbox hg; have hcz29_0 : w28.cell? ⟨gb319, 0, none⟩ = some (.slice A0_0 l0_0.length c0_0) := (blk_cell BK319.out 0).trans rfl; have hcz29_1 : w28.cell? ⟨gb319, 1, none⟩ = some (.int .i64 a0_1) := (blk_cell BK319.out 1).trans rfl; have hfz29_0 := blk_frozen BK319.out 0; have hfz29_1 := blk_frozen BK319.out 1) | ((with_reducible refine gate_callee (f := 22) rfl ?_); refine goesL_ (some 22) rfl rfl Try.func22 (by kernel_rfl) rfl #[.agg #[.slice A0_0 l0_0.length c0_0, .int .i64 a0_1], .int .i64 1048576] rfl (by (try simp only [List.map_toArray, List.map_cons, List.map_nil]); first | done | rfl | (simp only [List.length_drop, List.length_take]; rfl)) ?_; (with_reducible refine (laws_szInstrument.calls _ _ l0_0 a0_1 1048576 t320 _ ?side1 ?side2 A4.out).mono ?_); (case side1 => repeat (first | exact (Kd.C_below HR0_0.out HB.out) | (with_reducible refine Kd.C_alloc ?_ _) | (with_reducible refine Kd.C_drewN ?_ _) | (with_reducible refine Kd.C_drew ?_))); (case side2 => exact HC0_0.out); rintro e w30 ⟨rfl, hb⟩; refine ⟨_, rfl, ?_⟩; have n0_ := Aside0.mk (blk_below (g := gb319) (o := .cells #[.slice A0_0 l0_0.length c0_0, .int .i64 a0_1] 36 (0, 0)) (bup BK319.out) hb); have n1_ := Aside0.mk (below_step bl hb); clear BK319; clear HB; have BK319 := n0_; have HB := n1_; clear n0_ n1_; (try clear hb); (try clear hb2); (try clear hk); (try clear hi)) | ((with_reducible refine gate_callee (f := 23) rfl ?_); refine goesL_ (some 27) rfl rfl Try.func23 (by kernel_rfl) rfl #[.slice A1 l1.length c1, .int .i64 t320] rfl (by (try simp only [List.map_toArray, List.map_cons, List.map_nil]); first | done | rfl | (simp only [List.length_drop, List.length_take]; rfl)) ?_; (with_reducible refine (laws_szNoteS.calls _ _ l1 t320 t321 _ ?side1 ?side2 A9.out).mono ?_); (case side1 => repeat (first | exact (Kd.C_below HR1.out HB.out) | (with_reducible refine Kd.C_alloc ?_ _) | (with_reducible refine Kd.C_drewN ?_ _) | (with_reducible refine Kd.C_drew ?_))); (case side2 => exact HC1.out); rintro e w' ⟨rfl, ⟨nd, rfl⟩⟩; refine ⟨_, rfl, ?_⟩; (try (rw [drewN_self w30]; generalize hq_ : World.drewN w30 _ = w30; have n0_ : Aside0 (w30.heap[gb319]? = some (.cells #[.slice A0_0 l0_0.length c0_0, .int .i64 a0_1] 36 (0, 0))) := ⟨by rw [← hq_]; exact (bup BK319.out)⟩; have n1_ : Aside0 (Below w.heap.size w w30) := ⟨by rw [← hq_]; exact bl⟩; clear BK319 HB hq_; have BK319 := n0_; have HB := n1_; clear n0_ n1_))) | ((with_reducible refine gate_callee (f := 11) rfl ?_); refine goesL_ (some 32) rfl rfl Try.func11 (by kernel_rfl) rfl #[.slice A2 l2.length c2, .int .i64 t321] rfl (by (try simp only [List.map_toArray, List.map_cons, List.map_nil]); first | done | rfl | (simp only [List.length_drop, List.length_take]; rfl)) ?_; (with_reducible refine (laws_szHoleS.calls _ _ l2 t321 t322 _ ?side1 ?side2 A14.out).mono ?_); (case side1 => repeat (first | exact (Kd.C_below HR2.out HB.out) | (with_reducible refine Kd.C_alloc ?_ _) | (with_reducible refine Kd.C_drewN ?_ _) | (with_reducible refine Kd.C_drew ?_))); (case side2 => exact HC2.out); rintro e w' ⟨rfl, ⟨nd, rfl⟩⟩; refine ⟨_, rfl, ?_⟩; (try (rw [drewN_self w30]; generalize hq_ : World.drewN w30 _ = w30; have n0_ : Aside0 (w30.heap[gb319]? = some (.cells #[.slice A0_0 l0_0.length c0_0, .int .i64 a0_1] 36 (0, 0))) := ⟨by rw [← hq_]; exact (bup BK319.out)⟩; have n1_ : Aside0 (Below w.heap.size w w30) := ⟨by rw [← hq_]; exact bl⟩; clear BK319 HB hq_; have BK319 := n0_; have HB := n1_; clear n0_ n1_)); have hcz31_0 : w30.cell? ⟨gb319, 0, none⟩ = some (.slice A0_0 l0_0.length c0_0) := (blk_cell BK319.out 0).trans rfl; have hcz31_1 : w30.cell? ⟨gb319, 1, none⟩ = some (.int .i64 a0_1) := (blk_cell BK319.out 1).trans rfl; have hfz31_0 := blk_frozen BK319.out 0; have hfz31_1 := blk_frozen BK319.out 1) | ((with_reducible refine gate_callee (f := 25) rfl ?_); refine goesL_ (some 37) rfl rfl Try.func25 (by kernel_rfl) rfl #[.agg #[.slice A0_0 l0_0.length c0_0, .int .i64 a0_1]] rfl (by (try simp only [List.map_toArray, List.map_cons, List.map_nil]); first | done | rfl | (simp only [List.length_drop, List.length_take]; rfl)) ?_; (with_reducible refine (laws_toInstrument.calls k _ _ l0_0 a0_1 t323 t326 _ ?side1 ?side2 A19.out).mono ?_); (case side1 => repeat (first | exact (Kd.C_below HR0_0.out HB.out) | (with_reducible refine Kd.C_alloc ?_ _) | (with_reducible refine Kd.C_drewN ?_ _) | (with_reducible refine Kd.C_drew ?_))); (case side2 => exact HC0_0.out); rintro e w32 ⟨v324, rfl, ho0, hb⟩; refine ⟨_, rfl, ?_⟩; have n0_ := Aside0.mk (Kd.R_lower ho0 (below_size bl)); have n1_ := Aside0.mk (blk_below (g := gb319) (o := .cells #[.slice A0_0 l0_0.length c0_0, .int .i64 a0_1] 36 (0, 0)) (bup BK319.out) hb); have n2_ := Aside0.mk (below_step bl hb); clear BK319; clear HB; have HO325 := n0_; have BK319 := n1_; have HB := n2_; clear n0_ n1_ n2_; (try clear hb); (try clear hb2); (try clear hk); (try clear hi); (try clear ho0)) | ((with_reducible refine gate_callee (f := 26) rfl ?_); refine goesL_ (some 39) rfl rfl Try.func26 (by kernel_rfl) rfl #[.slice A1 l1.length c1] rfl (by (try simp only [List.map_toArray, List.map_cons, List.map_nil]); first | done | rfl | (simp only [List.length_drop, List.length_take]; rfl)) ?_; (with_reducible refine (laws_toNoteS.calls k _ _ l1 t327 _ ?side1 ?side2 A20.out).mono ?_); (case side1 => repeat (first | exact (Kd.C_below HR1.out HB.out) | (with_reducible refine Kd.C_alloc ?_ _) | (with_reducible refine Kd.C_drewN ?_ _) | (with_reducible refine Kd.C_drew ?_))); (case side2 => exact HC1.out); rintro e w33 ⟨v328, rfl, ho0, hb⟩; refine ⟨_, rfl, ?_⟩; have n0_ := Aside0.mk (Kd.R_below (rup HO325.out) hb); have n1_ := Aside0.mk (Kd.R_lower ho0 (below_size bl)); have n2_ := Aside0.mk (blk_below (g := gb319) (o := .cells #[.slice A0_0 l0_0.length c0_0, .int .i64 a0_1] 36 (0, 0)) (bup BK319.out) hb); have n3_ := Aside0.mk (below_step bl hb); clear HO325; clear BK319; clear HB; have HO325 := n0_; have HO329 := n1_; have BK319 := n2_; have HB := n3_; clear n0_ n1_ n2_ n3_; (try clear hb); (try clear hb2); (try clear hk); (try clear hi); (try clear ho0)) | ((with_reducible refine gate_callee (f := 13) rfl ?_); refine goesL_ (some 41) rfl rfl Try.func13 (by kernel_rfl) rfl #[.slice A2 l2.length c2] rfl (by (try simp only [List.map_toArray, List.map_cons, List.map_nil]); first | done | rfl | (simp only [List.length_drop, List.length_take]; rfl)) ?_; (with_reducible refine (laws_toHoleS.calls k _ _ l2 t330 _ ?side1 ?side2 A21.out).mono ?_); (case side1 => repeat (first | exact (Kd.C_below HR2.out HB.out) | (with_reducible refine Kd.C_alloc ?_ _) | (with_reducible refine Kd.C_drewN ?_ _) | (with_reducible refine Kd.C_drew ?_))); (case side2 => exact HC2.out); rintro e w34 ⟨v331, rfl, ho0, hb⟩; refine ⟨_, rfl, ?_⟩; have n0_ := Aside0.mk (Kd.R_below (rup HO325.out) hb); have n1_ := Aside0.mk (Kd.R_below (rup HO329.out) hb); have n2_ := Aside0.mk (Kd.R_lower ho0 (below_size bl)); have n3_ := Aside0.mk (blk_below (g := gb319) (o := .cells #[.slice A0_0 l0_0.length c0_0, .int .i64 a0_1] 36 (0, 0)) (bup BK319.out) hb); have n4_ := Aside0.mk (below_step bl hb); clear HO325; clear HO329; clear BK319; clear HB; have HO325 := n0_; have HO329 := n1_; have HO332 := n2_; have BK319 := n3_; have HB := n4_; clear n0_ n1_ n2_ n3_ n4_; (try clear hb); (try clear hb2); (try clear hk); (try clear hi); (try clear ho0); obtain ⟨Ao35, co35, eo35⟩ := Kd.R_slice HO325.out; subst eo35; obtain ⟨Ao36, co36, eo36⟩ := Kd.R_slice HO329.out; subst eo36; obtain ⟨Ao37, co37, eo37⟩ := Kd.R_slice HO332.out; subst eo37) | ((with_reducible refine gate_callee (f := 31) rfl ?_); refine goesL_ (some 42) rfl rfl Try.func31 (by kernel_rfl) rfl #[.agg #[.slice Ao35 t323.length co35, .int .i64 t326], .slice Ao36 t327.length co36, .slice Ao37 t330.length co37] rfl (by (try simp only [List.map_toArray, List.map_cons, List.map_nil]); first | done | rfl | (simp only [List.length_drop, List.length_take]; rfl)) ?_; (with_reducible refine (spec_ExtraHoles.calls k _ _ t323 t326 _ _ t327 _ _ t330 t333 t336 _ ?side1 ?side2 ?side3 ?side4 ?side5 ?side6 A22.out).mono ?_); (case side1 => repeat (first | exact (Kd.R_reads' HO325.out).2.2 | (with_reducible refine Kd.C_alloc ?_ _) | (with_reducible refine Kd.C_drewN ?_ _) | (with_reducible refine Kd.C_drew ?_))); (case side2 => exact (Kd.R_reads' HO325.out).2.1); (case side3 => repeat (first | exact (Kd.R_reads' HO329.out).2.2 | (with_reducible refine Kd.C_alloc ?_ _) | (with_reducible refine Kd.C_drewN ?_ _) | (with_reducible refine Kd.C_drew ?_))); (case side4 => exact (Kd.R_reads' HO329.out).2.1); (case side5 => repeat (first | exact (Kd.R_reads' HO332.out).2.2 | (with_reducible refine Kd.C_alloc ?_ _) | (with_reducible refine Kd.C_drewN ?_ _) | (with_reducible refine Kd.C_drew ?_))); (case side6 => exact (Kd.R_reads' HO332.out).2.1); rintro e w38 ⟨v334, rfl, ho0, hb⟩; refine ⟨_, rfl, ?_⟩; have n0_ := Aside0.mk (Kd.R_elder' (rup HO325.out) (Kd.R_base ho0) hb); have n1_ := Aside0.mk (Kd.R_below (rup HO329.out) hb); have n2_ := Aside0.mk (Kd.R_below (rup HO332.out) hb); have n3_ := Aside0.mk (Kd.R_lower (Kd.R_new' ho0 (Kd.R_lt (rup HO325.out))) (below_size bl)); have n4_ := Aside0.mk (blk_below (g := gb319) (o := .cells #[.slice A0_0 l0_0.length c0_0, .int .i64 a0_1] 36 (0, 0)) (bup BK319.out) hb); have n5_ := Aside0.mk (below_step bl hb); clear HO325; clear HO329; clear HO332; clear BK319; clear HB; have HO325 := n0_; have HO329 := n1_; have HO332 := n2_; have HO335 := n3_; have BK319 := n4_; have HB := n5_; clear n0_ n1_ n2_ n3_ n4_ n5_; (try clear hb); (try clear hb2); (try clear hk); (try clear hi); (try clear ho0); have hcz39_0 : w38.cell? ⟨gb319, 0, none⟩ = some (.slice A0_0 l0_0.length c0_0) := (blk_cell BK319.out 0).trans rfl; have hcz39_1 : w38.cell? ⟨gb319, 1, none⟩ = some (.int .i64 a0_1) := (blk_cell BK319.out 1).trans rfl; have hfz39_0 := blk_frozen BK319.out 0; have hfz39_1 := blk_frozen BK319.out 1) | ((with_reducible refine gate_callee (f := 25) rfl ?_); refine goesL_ (some 46) rfl rfl Try.func25 (by kernel_rfl) rfl #[.agg #[.slice A0_0 l0_0.length c0_0, .int .i64 a0_1]] rfl (by (try simp only [List.map_toArray, List.map_cons, List.map_nil]); first | done | rfl | (simp only [List.length_drop, List.length_take]; rfl)) ?_; (with_reducible refine (laws_toInstrument.calls k _ _ l0_0 a0_1 t337 t340 _ ?side1 ?side2 A23.out).mono ?_); (case side1 => repeat (first | exact (Kd.C_below HR0_0.out HB.out) | (with_reducible refine Kd.C_alloc ?_ _) | (with_reducible refine Kd.C_drewN ?_ _) | (with_reducible refine Kd.C_drew ?_))); (case side2 => exact HC0_0.out); rintro e w40 ⟨v338, rfl, ho0, hb⟩; refine ⟨_, rfl, ?_⟩; have n0_ := Aside0.mk (Kd.R_elder' (rup HO325.out) (Kd.R_base ho0) hb); have n1_ := Aside0.mk (Kd.R_below (rup HO329.out) hb); have n2_ := Aside0.mk (Kd.R_below (rup HO332.out) hb); have n3_ := Aside0.mk (Kd.R_elder' (rup HO335.out) (Kd.R_base ho0) hb); have n4_ := Aside0.mk (Kd.R_lower (Kd.R_new' (Kd.R_new' ho0 (Kd.R_lt (rup HO325.out))) (Kd.R_lt (rup HO335.out))) (below_size bl)); have n5_ := Aside0.mk (blk_below (g := gb319) (o := .cells #[.slice A0_0 l0_0.length c0_0, .int .i64 a0_1] 36 (0, 0)) (bup BK319.out) hb); have n6_ := Aside0.mk (below_step bl hb); clear HO325; clear HO329; clear HO332; clear HO335; clear BK319; clear HB; have HO325 := n0_; have HO329 := n1_; have HO332 := n2_; have HO335 := n3_; have HO339 := n4_; have BK319 := n5_; have HB := n6_; clear n0_ n1_ n2_ n3_ n4_ n5_ n6_; (try clear hb); (try clear hb2); (try clear hk); (try clear hi); (try clear ho0)) | ((with_reducible refine gate_dst (N := 10) rfl ?_); refine box_event ?hg (N := 10) ?hd (cs := #[.slice none 0 0, .int .i64 0]) (t := 44) ?hr ?_; (case hd => rfl); (case hg => rfl); (case hr => first | (go_simp; done) | (go_simp; rfl)); intro gb341 hg w41 hbox hb; have n0_ := Aside0.mk (Kd.R_below (rup HO325.out) hb); have n1_ := Aside0.mk (Kd.R_below (rup HO329.out) hb); have n2_ := Aside0.mk (Kd.R_below (rup HO332.out) hb); have n3_ := Aside0.mk (Kd.R_below (rup HO335.out) hb); have n4_ := Aside0.mk (Kd.R_below (rup HO339.out) hb); have n5_ := Aside0.mk (blk_below (g := gb319) (o := .cells #[.slice A0_0 l0_0.length c0_0, .int .i64 a0_1] 36 (0, 0)) (bup BK319.out) hb); have n6_ := Aside0.mk (below_step bl hb); have n7_ := Aside0.mk (hbox); have n8_ := Aside0.mk ((by rw [hg]; exact (below_size bl) : w.heap.size ≤ gb341)); have n9_ := Aside0.mk ((by rw [hg]; exact (below_size bl) : w.heap.size ≤ gb341)); have n10_ := Aside0.mk ((by rw [hg]; exact Nat.ne_of_lt (blk_lt (g := gb319) (o := .cells #[.slice A0_0 l0_0.length c0_0, .int .i64 a0_1] 36 (0, 0)) (bup BK319.out)) : gb319 ≠ gb341)); have n11_ := Aside0.mk ((by rw [hg]; exact Nat.ne_of_gt (blk_lt (g := gb319) (o := .cells #[.slice A0_0 l0_0.length c0_0, .int .i64 a0_1] 36 (0, 0)) (bup BK319.out)) : gb341 ≠ gb319)); clear HO325; clear HO329; clear HO332; clear HO335; clear HO339; clear BK319; clear HB; have HO325 := n0_; have HO329 := n1_; have HO332 := n2_; have HO335 := n3_; have HO339 := n4_; have BK319 := n5_; have HB := n6_; have BK341 := n7_; have GW341 := n8_; have GE341 := n9_; have NB319_341 := n10_; have NB341_319 := n11_; clear n0_ n1_ n2_ n3_ n4_ n5_ n6_ n7_ n8_ n9_ n10_ n11_; clear hb hbox hg; obtain ⟨Ao42, co42, eo42⟩ := Kd.R_slice HO339.out; subst eo42; have hnb43 := NB341_319.out; have hnc43 := NB319_341.out; have hcz44_0 : w41.cell? ⟨gb341, 0, none⟩ = some (.slice none 0 0) := (blk_cell BK341.out 0).trans rfl; have hcz44_1 : w41.cell? ⟨gb341, 1, none⟩ = some (.int .i64 0) := (blk_cell BK341.out 1).trans rfl; have hfz44_0 := blk_frozen BK341.out 0; have hfz44_1 := blk_frozen BK341.out 1) | ((with_reducible refine gate_callee (f := 26) rfl ?_); refine goesL_ (some 48) rfl rfl Try.func26 (by kernel_rfl) rfl #[.slice A1 l1.length c1] rfl (by (try simp only [List.map_toArray, List.map_cons, List.map_nil]); first | done | rfl | (simp only [List.length_drop, List.length_take]; rfl)) ?_; (with_reducible refine (laws_toNoteS.calls k _ _ l1 t342 _ ?side1 ?side2 A24.out).mono ?_); (case side1 => exact Kd.C_below HR1.out bl); (case side2 => exact HC1.out); rintro e w45 ⟨v343, rfl, ho0, hb⟩; refine ⟨_, rfl, ?_⟩; have n0_ := Aside0.mk (Kd.R_below (by (with_reducible repeat (first | apply Kd.R_alloc | apply Kd.R_drewN | apply Kd.R_drew)); exact (Kd.R_mono (Kd.R_far (p := ⟨gb341, 1, none⟩) (Kd.R_far (p := ⟨gb341, 0, none⟩) (Kd.R_types HO325.out BK341.out (by decide)) (fun _ hk => hk.2) (.slice Ao42 t337.length co42)) (fun _ hk => hk.2) (.int .i64 t340)) (fun _ h_ => h_.1))) hb); have n1_ := Aside0.mk (Kd.R_elder' (by (with_reducible repeat (first | apply Kd.R_alloc | apply Kd.R_drewN | apply Kd.R_drew)); exact (Kd.R_mono (Kd.R_far (p := ⟨gb341, 1, none⟩) (Kd.R_far (p := ⟨gb341, 0, none⟩) (Kd.R_types HO329.out BK341.out (by decide)) (fun _ hk => hk.2) (.slice Ao42 t337.length co42)) (fun _ hk => hk.2) (.int .i64 t340)) (fun _ h_ => h_.1))) (Kd.R_base ho0) hb); have n2_ := Aside0.mk (Kd.R_below (by (with_reducible repeat (first | apply Kd.R_alloc | apply Kd.R_drewN | apply Kd.R_drew)); exact (Kd.R_mono (Kd.R_far (p := ⟨gb341, 1, none⟩) (Kd.R_far (p := ⟨gb341, 0, none⟩) (Kd.R_types HO332.out BK341.out (by decide)) (fun _ hk => hk.2) (.slice Ao42 t337.length co42)) (fun _ hk => hk.2) (.int .i64 t340)) (fun _ h_ => h_.1))) hb); have n3_ := Aside0.mk (Kd.R_below (by (with_reducible repeat (first | apply Kd.R_alloc | apply Kd.R_drewN | apply Kd.R_drew)); exact (Kd.R_mono (Kd.R_far (p := ⟨gb341, 1, none⟩) (Kd.R_far (p := ⟨gb341, 0, none⟩) (Kd.R_types HO335.out BK341.out (by decide)) (fun _ hk => hk.2) (.slice Ao42 t337.length co42)) (fun _ hk => hk.2) (.int .i64 t340)) (fun _ h_ => h_.1))) hb); have n4_ := Aside0.mk (Kd.R_below (by (with_reducible repeat (first | apply Kd.R_alloc | apply Kd.R_drewN | apply Kd.R_drew)); exact (Kd.R_mono (Kd.R_far (p := ⟨gb341, 1, none⟩) (Kd.R_far (p := ⟨gb341, 0, none⟩) (Kd.R_types HO339.out BK341.out (by decide)) (fun _ hk => hk.2) (.slice Ao42 t337.length co42)) (fun _ hk => hk.2) (.int .i64 t340)) (fun _ h_ => h_.1))) hb); have n5_ := Aside0.mk (Kd.R_lower (Kd.R_new' ho0 (Kd.R_lt (by (with_reducible repeat (first | apply Kd.R_alloc | apply Kd.R_drewN | apply Kd.R_drew)); exact (Kd.R_mono (Kd.R_far (p := ⟨gb341, 1, none⟩) (Kd.R_far (p := ⟨gb341, 0, none⟩) (Kd.R_types HO329.out BK341.out (by decide)) (fun _ hk => hk.2) (.slice Ao42 t337.length co42)) (fun _ hk => hk.2) (.int .i64 t340)) (fun _ h_ => h_.1))))) (below_size bl)); have n6_ := Aside0.mk (blk_below (g := gb319) (o := .cells #[.slice A0_0 l0_0.length c0_0, .int .i64 a0_1] 36 (0, 0)) (by (with_reducible repeat (first | refine blk_drewN ?_ _ | refine blk_drew ?_ | refine blk_alloc ?_ _)); refine blk_far ?_ NB319_341.out _; (with_reducible repeat (first | refine blk_drewN ?_ _ | refine blk_drew ?_ | refine blk_alloc ?_ _)); refine blk_far ?_ NB319_341.out _; (with_reducible repeat (first | refine blk_drewN ?_ _ | refine blk_drew ?_ | refine blk_alloc ?_ _)); exact BK319.out) hb); have n7_ := Aside0.mk (blk_below (g := gb341) (o := .cells #[.slice Ao42 t337.length co42, .int .i64 t340] 44 (0, 0)) (by (with_reducible repeat (first | refine blk_drewN ?_ _ | refine blk_drew ?_ | refine blk_alloc ?_ _)); refine blk_put (cs := #[.slice Ao42 t337.length co42, .int .i64 0]) ?_ 1 _ rfl; (with_reducible repeat (first | refine blk_drewN ?_ _ | refine blk_drew ?_ | refine blk_alloc ?_ _)); refine blk_put (cs := #[.slice none 0 0, .int .i64 0]) ?_ 0 _ rfl; (with_reducible repeat (first | refine blk_drewN ?_ _ | refine blk_drew ?_ | refine blk_alloc ?_ _)); exact BK341.out) hb); have n8_ := Aside0.mk (below_step bl hb); clear HO325; clear HO329; clear HO332; clear HO335; clear HO339; clear BK319; clear BK341; clear HB; have HO325 := n0_; have HO329 := n1_; have HO332 := n2_; have HO335 := n3_; have HO339 := n4_; have HO344 := n5_; have BK319 := n6_; have BK341 := n7_; have HB := n8_; clear n0_ n1_ n2_ n3_ n4_ n5_ n6_ n7_ n8_; (try clear hb); (try clear hb2); (try clear hk); (try clear hi); (try clear ho0)) | ((with_reducible refine gate_callee (f := 13) rfl ?_); refine goesL_ (some 50) rfl rfl Try.func13 (by kernel_rfl) rfl #[.slice A2 l2.length c2] rfl (by (try simp only [List.map_toArray, List.map_cons, List.map_nil]); first | done | rfl | (simp only [List.length_drop, List.length_take]; rfl)) ?_; (with_reducible refine (laws_toHoleS.calls k _ _ l2 t345 _ ?side1 ?side2 A25.out).mono ?_); (case side1 => repeat (first | exact (Kd.C_below HR2.out HB.out) | (with_reducible refine Kd.C_alloc ?_ _) | (with_reducible refine Kd.C_drewN ?_ _) | (with_reducible refine Kd.C_drew ?_))); (case side2 => exact HC2.out); rintro e w46 ⟨v346, rfl, ho0, hb⟩; refine ⟨_, rfl, ?_⟩; have n0_ := Aside0.mk (Kd.R_below (rup HO325.out) hb); have n1_ := Aside0.mk (Kd.R_below (rup HO329.out) hb); have n2_ := Aside0.mk (Kd.R_elder' (rup HO332.out) (Kd.R_base ho0) hb); have n3_ := Aside0.mk (Kd.R_below (rup HO335.out) hb); have n4_ := Aside0.mk (Kd.R_below (rup HO339.out) hb); have n5_ := Aside0.mk (Kd.R_below (rup HO344.out) hb); have n6_ := Aside0.mk (Kd.R_lower (Kd.R_new' ho0 (Kd.R_lt (rup HO332.out))) (below_size bl)); have n7_ := Aside0.mk (blk_below (g := gb319) (o := .cells #[.slice A0_0 l0_0.length c0_0, .int .i64 a0_1] 36 (0, 0)) (bup BK319.out) hb); have n8_ := Aside0.mk (blk_below (g := gb341) (o := .cells #[.slice Ao42 t337.length co42, .int .i64 t340] 44 (0, 0)) (bup BK341.out) hb); have n9_ := Aside0.mk (below_step bl hb); clear HO325; clear HO329; clear HO332; clear HO335; clear HO339; clear HO344; clear BK319; clear BK341; clear HB; have HO325 := n0_; have HO329 := n1_; have HO332 := n2_; have HO335 := n3_; have HO339 := n4_; have HO344 := n5_; have HO347 := n6_; have BK319 := n7_; have BK341 := n8_; have HB := n9_; clear n0_ n1_ n2_ n3_ n4_ n5_ n6_ n7_ n8_ n9_; (try clear hb); (try clear hb2); (try clear hk); (try clear hi); (try clear ho0); have hcz47_0 : w46.cell? ⟨gb341, 0, none⟩ = some (.slice Ao42 t337.length co42) := (blk_cell BK341.out 0).trans rfl; have hcz47_1 : w46.cell? ⟨gb341, 1, none⟩ = some (.int .i64 t340) := (blk_cell BK341.out 1).trans rfl; have hfz47_0 := blk_frozen BK341.out 0; have hfz47_1 := blk_frozen BK341.out 1; obtain ⟨Ao48, co48, eo48⟩ := Kd.R_slice HO344.out; subst eo48; obtain ⟨Ao49, co49, eo49⟩ := Kd.R_slice HO347.out; subst eo49) | ((with_reducible refine gate_callee (f := 32) rfl ?_); refine goesL_ (some 55) rfl rfl Try.func32 (by kernel_rfl) rfl #[.agg #[.slice Ao42 t337.length co42, .int .i64 t340], .slice Ao48 t342.length co48, .slice Ao49 t345.length co49] rfl (by (try simp only [List.map_toArray, List.map_cons, List.map_nil]); first | done | rfl | (simp only [List.length_drop, List.length_take]; rfl)) ?_; (with_reducible refine (impl_ExtraHoles.calls k _ _ t337 t340 _ _ t342 _ _ t345 t348 t351 _ ?side1 ?side2 ?side3 ?side4 ?side5 ?side6 A26.out).mono ?_); (case side1 => repeat (first | exact (Kd.R_reads' HO339.out).2.2 | (with_reducible refine Kd.C_alloc ?_ _) | (with_reducible refine Kd.C_drewN ?_ _) | (with_reducible refine Kd.C_drew ?_))); (case side2 => exact (Kd.R_reads' HO339.out).2.1); (case side3 => repeat (first | exact (Kd.R_reads' HO344.out).2.2 | (with_reducible refine Kd.C_alloc ?_ _) | (with_reducible refine Kd.C_drewN ?_ _) | (with_reducible refine Kd.C_drew ?_))); (case side4 => exact (Kd.R_reads' HO344.out).2.1); (case side5 => repeat (first | exact (Kd.R_reads' HO347.out).2.2 | (with_reducible refine Kd.C_alloc ?_ _) | (with_reducible refine Kd.C_drewN ?_ _) | (with_reducible refine Kd.C_drew ?_))); (case side6 => exact (Kd.R_reads' HO347.out).2.1); rintro e w50 ⟨v349, rfl, ho0, hb⟩; refine ⟨_, rfl, ?_⟩; have n0_ := Aside0.mk (Kd.R_elder' (rup HO325.out) (Kd.R_base ho0) hb); have n1_ := Aside0.mk (Kd.R_below (rup HO329.out) hb); have n2_ := Aside0.mk (Kd.R_below (rup HO332.out) hb); have n3_ := Aside0.mk (Kd.R_elder' (rup HO335.out) (Kd.R_base ho0) hb); have n4_ := Aside0.mk (Kd.R_elder' (rup HO339.out) (Kd.R_base ho0) hb); have n5_ := Aside0.mk (Kd.R_below (rup HO344.out) hb); have n6_ := Aside0.mk (Kd.R_below (rup HO347.out) hb); have n7_ := Aside0.mk (Kd.R_lower (Kd.R_new' (Kd.R_new' (Kd.R_new' ho0 (Kd.R_lt (rup HO325.out))) (Kd.R_lt (rup HO335.out))) (Kd.R_lt (rup HO339.out))) (below_size bl)); have n8_ := Aside0.mk (blk_below (g := gb319) (o := .cells #[.slice A0_0 l0_0.length c0_0, .int .i64 a0_1] 36 (0, 0)) (bup BK319.out) hb); have n9_ := Aside0.mk (blk_below (g := gb341) (o := .cells #[.slice Ao42 t337.length co42, .int .i64 t340] 44 (0, 0)) (bup BK341.out) hb); have n10_ := Aside0.mk (below_step bl hb); clear HO325; clear HO329; clear HO332; clear HO335; clear HO339; clear HO344; clear HO347; clear BK319; clear BK341; clear HB; have HO325 := n0_; have HO329 := n1_; have HO332 := n2_; have HO335 := n3_; have HO339 := n4_; have HO344 := n5_; have HO347 := n6_; have HO350 := n7_; have BK319 := n8_; have BK341 := n9_; have HB := n10_; clear n0_ n1_ n2_ n3_ n4_ n5_ n6_ n7_ n8_ n9_ n10_; (try clear hb); (try clear hb2); (try clear hk); (try clear hi); (try clear ho0)))
    (try simp only [Act.put, List.setIfInBounds_toArray, List.set_cons_zero, List.set_cons_succ])
    go_cut [66] (fun v66 wc => ∃ (kq : Nat) (x66_26 : Bool), v66 = .bool x66_26 ∧ Aside0 (laws_FnExactExtraHoles.j0 kq l1 l2 t333 t336 t342 t345 t348 t351 x66_26 l0_0 a0_1 t337 t340 = some r) ∧ Aside0 (kq ≤ k) ∧ Aside0 (Kd.R (Kd.int .i64) 3 wc w.heap.size (fun k_ => some k_ ≠ (v349 : Value).ownBlock ∧ some k_ ≠ ((.slice Ao42 t337.length co42) : Value).ownBlock) v334 t333) ∧ Aside0 (Kd.R k95 95 wc w.heap.size (fun _ => True) (.slice Ao48 t342.length co48) t342) ∧ Aside0 (Kd.R k80 80 wc w.heap.size (fun _ => True) (.slice Ao49 t345.length co49) t345) ∧ Aside0 (Kd.R (Kd.int .i64) 3 wc w.heap.size (fun k_ => some k_ ≠ (v334 : Value).ownBlock ∧ some k_ ≠ ((.slice Ao42 t337.length co42) : Value).ownBlock) v349 t348) ∧ Aside0 (Kd.R (Kd.int .i64) 3 wc w.heap.size (fun k_ => some k_ ≠ (v334 : Value).ownBlock ∧ some k_ ≠ (v349 : Value).ownBlock) (.slice Ao42 t337.length co42) t337) ∧ Aside0 (wc.heap[gb319]? = some (.cells #[(.slice A0_0 l0_0.length c0_0), .int .i64 a0_1] 36 (0, 0))) ∧ Aside0 (wc.heap[gb341]? = some (.cells #[(.slice Ao42 t337.length co42), .int .i64 t340] 44 (0, 0))) ∧ Aside0 (Below w.heap.size w wc))
    case first =>
     have H := HC27.out
     clear HC27
     replace H := Option.bind_eq_some_iff.mp H
     obtain ⟨t352, A510, H⟩ := H
     replace H : (if t352 = true then (laws_FnExactExtraHoles.j0 k l1 l2 t333 t336 t342 t345 t348 t351 (t351 != t336) l0_0 a0_1 t337 t340) else (laws_FnExactExtraHoles.j0 k l1 l2 t333 t336 t342 t345 t348 t351 true l0_0 a0_1 t337 t340)) = some r := H
     have A51 := Aside0.mk A510
     clear A510
     by_cases c52 : t352 = true
     ·subst c52
      have H1 : (laws_FnExactExtraHoles.j0 k l1 l2 t333 t336 t342 t345 t348 t351 (t351 != t336) l0_0 a0_1 t337 t340) = some r := by rw [if_pos rfl] at H; exact H
      clear H
      have H := H1
      clear H1
      have H' := Aside0.mk H
      clear H
      obtain ⟨Ao53, co53, eo53⟩ := Kd.R_slice HO350.out
      subst eo53
      obtain ⟨Ao54, co54, eo54⟩ := Kd.R_slice HO335.out
      subst eo54
      go_wp2_with (first | ((with_reducible refine gate_callee (f := 33) rfl ?_); refine goesL_ (some 60) rfl rfl Try.func33 (by kernel_rfl) rfl #[.slice Ao53 t348.length co53, .slice Ao54 t333.length co54] rfl (by (try simp only [List.map_toArray, List.map_cons, List.map_nil]); first | done | rfl | (simp only [List.length_drop, List.length_take]; rfl)) ?_; (with_reducible refine (laws_eqIntS.calls k _ _ t348 _ _ t333 true _ ?side1 ?side2 ?side3 ?side4 A51.out).mono ?_); (case side1 => repeat (first | exact (Kd.R_reads' HO350.out).2.2 | (with_reducible refine Kd.C_alloc ?_ _) | (with_reducible refine Kd.C_drewN ?_ _) | (with_reducible refine Kd.C_drew ?_))); (case side2 => exact (Kd.R_reads' HO350.out).2.1); (case side3 => repeat (first | exact (Kd.R_reads' HO335.out).2.2 | (with_reducible refine Kd.C_alloc ?_ _) | (with_reducible refine Kd.C_drewN ?_ _) | (with_reducible refine Kd.C_drew ?_))); (case side4 => exact (Kd.R_reads' HO335.out).2.1); rintro e w' ⟨rfl, ⟨nd, rfl⟩⟩; refine ⟨_, rfl, ?_⟩))
      go_meet
      case rel => exact ⟨_, ((t351 != t336)), fin2, H', ⟨by first | omega | exact Nat.le_refl _⟩, ⟨by (with_reducible repeat (first | apply Kd.R_alloc | apply Kd.R_drewN | apply Kd.R_drew)); exact Kd.R_mono HO335.out (fun _ hk => ⟨hk.2, hk.1.2⟩)⟩, ⟨by (with_reducible repeat (first | apply Kd.R_alloc | apply Kd.R_drewN | apply Kd.R_drew)); exact Kd.R_mono HO344.out (fun _ hk => trivial)⟩, ⟨by (with_reducible repeat (first | apply Kd.R_alloc | apply Kd.R_drewN | apply Kd.R_drew)); exact Kd.R_mono HO347.out (fun _ hk => trivial)⟩, ⟨by (with_reducible repeat (first | apply Kd.R_alloc | apply Kd.R_drewN | apply Kd.R_drew)); exact Kd.R_mono HO350.out (fun _ hk => ⟨hk.1.2, hk.2⟩)⟩, ⟨by (with_reducible repeat (first | apply Kd.R_alloc | apply Kd.R_drewN | apply Kd.R_drew)); exact Kd.R_mono HO339.out (fun _ hk => ⟨hk.1.2, hk.2⟩)⟩, ⟨bup BK319.out⟩, ⟨bup BK341.out⟩, ⟨bl⟩⟩
     ·replace c52 := Bool.eq_false_iff.mpr c52
      subst c52
      have H1 : (laws_FnExactExtraHoles.j0 k l1 l2 t333 t336 t342 t345 t348 t351 true l0_0 a0_1 t337 t340) = some r := by rw [if_neg (show ¬ (false = true) by decide)] at H; exact H
      clear H
      have H := H1
      clear H1
      have H' := Aside0.mk H
      clear H
      obtain ⟨Ao55, co55, eo55⟩ := Kd.R_slice HO350.out
      subst eo55
      obtain ⟨Ao56, co56, eo56⟩ := Kd.R_slice HO335.out
      subst eo56
      go_wp2_with (first | ((with_reducible refine gate_callee (f := 33) rfl ?_); refine goesL_ (some 60) rfl rfl Try.func33 (by kernel_rfl) rfl #[.slice Ao55 t348.length co55, .slice Ao56 t333.length co56] rfl (by (try simp only [List.map_toArray, List.map_cons, List.map_nil]); first | done | rfl | (simp only [List.length_drop, List.length_take]; rfl)) ?_; (with_reducible refine (laws_eqIntS.calls k _ _ t348 _ _ t333 false _ ?side1 ?side2 ?side3 ?side4 A51.out).mono ?_); (case side1 => repeat (first | exact (Kd.R_reads' HO350.out).2.2 | (with_reducible refine Kd.C_alloc ?_ _) | (with_reducible refine Kd.C_drewN ?_ _) | (with_reducible refine Kd.C_drew ?_))); (case side2 => exact (Kd.R_reads' HO350.out).2.1); (case side3 => repeat (first | exact (Kd.R_reads' HO335.out).2.2 | (with_reducible refine Kd.C_alloc ?_ _) | (with_reducible refine Kd.C_drewN ?_ _) | (with_reducible refine Kd.C_drew ?_))); (case side4 => exact (Kd.R_reads' HO335.out).2.1); rintro e w' ⟨rfl, ⟨nd, rfl⟩⟩; refine ⟨_, rfl, ?_⟩))
      go_meet
      case rel => exact ⟨_, (true), fin2, H', ⟨by first | omega | exact Nat.le_refl _⟩, ⟨by (with_reducible repeat (first | apply Kd.R_alloc | apply Kd.R_drewN | apply Kd.R_drew)); exact Kd.R_mono HO335.out (fun _ hk => ⟨hk.2, hk.1.2⟩)⟩, ⟨by (with_reducible repeat (first | apply Kd.R_alloc | apply Kd.R_drewN | apply Kd.R_drew)); exact Kd.R_mono HO344.out (fun _ hk => trivial)⟩, ⟨by (with_reducible repeat (first | apply Kd.R_alloc | apply Kd.R_drewN | apply Kd.R_drew)); exact Kd.R_mono HO347.out (fun _ hk => trivial)⟩, ⟨by (with_reducible repeat (first | apply Kd.R_alloc | apply Kd.R_drewN | apply Kd.R_drew)); exact Kd.R_mono HO350.out (fun _ hk => ⟨hk.1.2, hk.2⟩)⟩, ⟨by (with_reducible repeat (first | apply Kd.R_alloc | apply Kd.R_drewN | apply Kd.R_drew)); exact Kd.R_mono HO339.out (fun _ hk => ⟨hk.1.2, hk.2⟩)⟩, ⟨bup BK319.out⟩, ⟨bup BK341.out⟩, ⟨bl⟩⟩
    case rest =>
     clear HC27
     try clear c1
     try clear c2
     try clear p2
     try clear c3
     try clear c4
     try clear c5
     try clear c5b0
     try clear c6
     try clear c10
     try clear c10b0
     try clear c11
     try clear c13
     try clear c15
     try clear c15b0
     try clear c22
     try clear c23
     try clear c25
     try clear c26
     try clear c31
     try clear c32
     try clear c33
     try clear c43
     try clear c52
     try clear hcz12_0
     try clear hcz12_1
     try clear hcz17_0
     try clear hcz17_1
     try clear hcz29_0
     try clear hcz29_1
     try clear hcz31_0
     try clear hcz31_1
     try clear hcz39_0
     try clear hcz39_1
     try clear hcz44_0
     try clear hcz44_1
     try clear hcz47_0
     try clear hcz47_1
     try clear hcz7_0
     try clear hcz7_1
     try clear hfz12_0
     try clear hfz12_1
     try clear hfz17_0
     try clear hfz17_1
     try clear hfz29_0
     try clear hfz29_1
     try clear hfz31_0
     try clear hfz31_1
     try clear hfz39_0
     try clear hfz39_1
     try clear hfz44_0
     try clear hfz44_1
     try clear hfz47_0
     try clear hfz47_1
     try clear hfz7_0
     try clear hfz7_1
     obtain ⟨kq, x66_26, rfl, HA, HJ26, HO_8, HO_11, HO_12, HO_13, HO_342000, BK319, BK341, HB⟩ := hcut
     cases kq with
     | zero => exact absurd HA.out (by simp [laws_FnExactExtraHoles.j0])
     | succ kj26 =>
      have H := HA.out
      clear HA
      simp only [laws_FnExactExtraHoles.j0] at H
      by_cases c57 : x66_26 = true
      ·subst c57
       have H1 : (some false) = some r := by rw [if_pos rfl] at H; exact H
       clear H
       have H := H1
       clear H1
       obtain rfl := Option.some.inj H
       exact absurd hrt.out (by simp)
      ·replace c57 := Bool.eq_false_iff.mpr c57
       subst c57
       have H1 : ((laws_toInstrument.f kj26 l0_0 a0_1).bind fun bt353 => ((laws_eqInstrument.f kj26 t337 t340 bt353.1 bt353.2).bind fun t357 => (if t357 = true then ((laws_toNoteS.f kj26 l1).bind fun t358 => ((laws_eqNoteS.f kj26 t342 t358).bind fun t361 => (if t361 = true then ((laws_toHoleS.f kj26 l2).bind fun t362 => ((laws_eqHoleS.f kj26 t345 t362).bind fun t365 => (if t365 = true then ((laws_markInstrument.f kj26 t337 t340 1).bind fun bt366 => ((laws_markNoteS.f kj26 t342 bt366.1).bind fun bt368 => ((laws_markHoleS.f kj26 t345 bt368.1).bind fun bt370 => (if bt370.1 < 0 then (laws_FnExactExtraHoles.j1 kj26 l1 l2 t333 t336 t348 true l0_0 a0_1) else ((laws_eqIntS.f kj26 t348 t333).bind fun t372 => (if t372 = true then (laws_FnExactExtraHoles.j1 kj26 l1 l2 t333 t336 t348 (t351 != t336) l0_0 a0_1) else (laws_FnExactExtraHoles.j1 kj26 l1 l2 t333 t336 t348 true l0_0 a0_1))))))) else (some false)))) else (some false)))) else (some false)))) = some r := by rw [if_neg (show ¬ (false = true) by decide)] at H; exact H
       clear H
       have H := H1
       clear H1
       replace H := Option.bind_eq_some_iff.mp H
       obtain ⟨⟨t353, t356⟩, A580, H⟩ := H
       replace H : ((laws_eqInstrument.f kj26 t337 t340 t353 t356).bind fun t357 => (if t357 = true then ((laws_toNoteS.f kj26 l1).bind fun t358 => ((laws_eqNoteS.f kj26 t342 t358).bind fun t361 => (if t361 = true then ((laws_toHoleS.f kj26 l2).bind fun t362 => ((laws_eqHoleS.f kj26 t345 t362).bind fun t365 => (if t365 = true then ((laws_markInstrument.f kj26 t337 t340 1).bind fun bt366 => ((laws_markNoteS.f kj26 t342 bt366.1).bind fun bt368 => ((laws_markHoleS.f kj26 t345 bt368.1).bind fun bt370 => (if bt370.1 < 0 then (laws_FnExactExtraHoles.j1 kj26 l1 l2 t333 t336 t348 true l0_0 a0_1) else ((laws_eqIntS.f kj26 t348 t333).bind fun t372 => (if t372 = true then (laws_FnExactExtraHoles.j1 kj26 l1 l2 t333 t336 t348 (t351 != t336) l0_0 a0_1) else (laws_FnExactExtraHoles.j1 kj26 l1 l2 t333 t336 t348 true l0_0 a0_1))))))) else (some false)))) else (some false)))) else (some false))) = some r := H
       have A58 := Aside0.mk A580
       clear A580
       replace H := Option.bind_eq_some_iff.mp H
       obtain ⟨t357, A590, H⟩ := H
       replace H : (if t357 = true then ((laws_toNoteS.f kj26 l1).bind fun t358 => ((laws_eqNoteS.f kj26 t342 t358).bind fun t361 => (if t361 = true then ((laws_toHoleS.f kj26 l2).bind fun t362 => ((laws_eqHoleS.f kj26 t345 t362).bind fun t365 => (if t365 = true then ((laws_markInstrument.f kj26 t337 t340 1).bind fun bt366 => ((laws_markNoteS.f kj26 t342 bt366.1).bind fun bt368 => ((laws_markHoleS.f kj26 t345 bt368.1).bind fun bt370 => (if bt370.1 < 0 then (laws_FnExactExtraHoles.j1 kj26 l1 l2 t333 t336 t348 true l0_0 a0_1) else ((laws_eqIntS.f kj26 t348 t333).bind fun t372 => (if t372 = true then (laws_FnExactExtraHoles.j1 kj26 l1 l2 t333 t336 t348 (t351 != t336) l0_0 a0_1) else (laws_FnExactExtraHoles.j1 kj26 l1 l2 t333 t336 t348 true l0_0 a0_1))))))) else (some false)))) else (some false)))) else (some false)) = some r := H
       have A59 := Aside0.mk A590
       clear A590
       by_cases c60 : t357 = true
       ·subst c60
        have H1 : ((laws_toNoteS.f kj26 l1).bind fun t358 => ((laws_eqNoteS.f kj26 t342 t358).bind fun t361 => (if t361 = true then ((laws_toHoleS.f kj26 l2).bind fun t362 => ((laws_eqHoleS.f kj26 t345 t362).bind fun t365 => (if t365 = true then ((laws_markInstrument.f kj26 t337 t340 1).bind fun bt366 => ((laws_markNoteS.f kj26 t342 bt366.1).bind fun bt368 => ((laws_markHoleS.f kj26 t345 bt368.1).bind fun bt370 => (if bt370.1 < 0 then (laws_FnExactExtraHoles.j1 kj26 l1 l2 t333 t336 t348 true l0_0 a0_1) else ((laws_eqIntS.f kj26 t348 t333).bind fun t372 => (if t372 = true then (laws_FnExactExtraHoles.j1 kj26 l1 l2 t333 t336 t348 (t351 != t336) l0_0 a0_1) else (laws_FnExactExtraHoles.j1 kj26 l1 l2 t333 t336 t348 true l0_0 a0_1))))))) else (some false)))) else (some false)))) = some r := by rw [if_pos rfl] at H; exact H
        clear H
        have H := H1
        clear H1
        replace H := Option.bind_eq_some_iff.mp H
        obtain ⟨t358, A610, H⟩ := H
        replace H : ((laws_eqNoteS.f kj26 t342 t358).bind fun t361 => (if t361 = true then ((laws_toHoleS.f kj26 l2).bind fun t362 => ((laws_eqHoleS.f kj26 t345 t362).bind fun t365 => (if t365 = true then ((laws_markInstrument.f kj26 t337 t340 1).bind fun bt366 => ((laws_markNoteS.f kj26 t342 bt366.1).bind fun bt368 => ((laws_markHoleS.f kj26 t345 bt368.1).bind fun bt370 => (if bt370.1 < 0 then (laws_FnExactExtraHoles.j1 kj26 l1 l2 t333 t336 t348 true l0_0 a0_1) else ((laws_eqIntS.f kj26 t348 t333).bind fun t372 => (if t372 = true then (laws_FnExactExtraHoles.j1 kj26 l1 l2 t333 t336 t348 (t351 != t336) l0_0 a0_1) else (laws_FnExactExtraHoles.j1 kj26 l1 l2 t333 t336 t348 true l0_0 a0_1))))))) else (some false)))) else (some false))) = some r := H
        have A61 := Aside0.mk A610
        clear A610
        replace H := Option.bind_eq_some_iff.mp H
        obtain ⟨t361, A620, H⟩ := H
        replace H : (if t361 = true then ((laws_toHoleS.f kj26 l2).bind fun t362 => ((laws_eqHoleS.f kj26 t345 t362).bind fun t365 => (if t365 = true then ((laws_markInstrument.f kj26 t337 t340 1).bind fun bt366 => ((laws_markNoteS.f kj26 t342 bt366.1).bind fun bt368 => ((laws_markHoleS.f kj26 t345 bt368.1).bind fun bt370 => (if bt370.1 < 0 then (laws_FnExactExtraHoles.j1 kj26 l1 l2 t333 t336 t348 true l0_0 a0_1) else ((laws_eqIntS.f kj26 t348 t333).bind fun t372 => (if t372 = true then (laws_FnExactExtraHoles.j1 kj26 l1 l2 t333 t336 t348 (t351 != t336) l0_0 a0_1) else (laws_FnExactExtraHoles.j1 kj26 l1 l2 t333 t336 t348 true l0_0 a0_1))))))) else (some false)))) else (some false)) = some r := H
        have A62 := Aside0.mk A620
        clear A620
        by_cases c63 : t361 = true
        ·subst c63
         have H1 : ((laws_toHoleS.f kj26 l2).bind fun t362 => ((laws_eqHoleS.f kj26 t345 t362).bind fun t365 => (if t365 = true then ((laws_markInstrument.f kj26 t337 t340 1).bind fun bt366 => ((laws_markNoteS.f kj26 t342 bt366.1).bind fun bt368 => ((laws_markHoleS.f kj26 t345 bt368.1).bind fun bt370 => (if bt370.1 < 0 then (laws_FnExactExtraHoles.j1 kj26 l1 l2 t333 t336 t348 true l0_0 a0_1) else ((laws_eqIntS.f kj26 t348 t333).bind fun t372 => (if t372 = true then (laws_FnExactExtraHoles.j1 kj26 l1 l2 t333 t336 t348 (t351 != t336) l0_0 a0_1) else (laws_FnExactExtraHoles.j1 kj26 l1 l2 t333 t336 t348 true l0_0 a0_1))))))) else (some false)))) = some r := by rw [if_pos rfl] at H; exact H
         clear H
         have H := H1
         clear H1
         replace H := Option.bind_eq_some_iff.mp H
         obtain ⟨t362, A640, H⟩ := H
         replace H : ((laws_eqHoleS.f kj26 t345 t362).bind fun t365 => (if t365 = true then ((laws_markInstrument.f kj26 t337 t340 1).bind fun bt366 => ((laws_markNoteS.f kj26 t342 bt366.1).bind fun bt368 => ((laws_markHoleS.f kj26 t345 bt368.1).bind fun bt370 => (if bt370.1 < 0 then (laws_FnExactExtraHoles.j1 kj26 l1 l2 t333 t336 t348 true l0_0 a0_1) else ((laws_eqIntS.f kj26 t348 t333).bind fun t372 => (if t372 = true then (laws_FnExactExtraHoles.j1 kj26 l1 l2 t333 t336 t348 (t351 != t336) l0_0 a0_1) else (laws_FnExactExtraHoles.j1 kj26 l1 l2 t333 t336 t348 true l0_0 a0_1))))))) else (some false))) = some r := H
         have A64 := Aside0.mk A640
         clear A640
         replace H := Option.bind_eq_some_iff.mp H
         obtain ⟨t365, A650, H⟩ := H
         replace H : (if t365 = true then ((laws_markInstrument.f kj26 t337 t340 1).bind fun bt366 => ((laws_markNoteS.f kj26 t342 bt366.1).bind fun bt368 => ((laws_markHoleS.f kj26 t345 bt368.1).bind fun bt370 => (if bt370.1 < 0 then (laws_FnExactExtraHoles.j1 kj26 l1 l2 t333 t336 t348 true l0_0 a0_1) else ((laws_eqIntS.f kj26 t348 t333).bind fun t372 => (if t372 = true then (laws_FnExactExtraHoles.j1 kj26 l1 l2 t333 t336 t348 (t351 != t336) l0_0 a0_1) else (laws_FnExactExtraHoles.j1 kj26 l1 l2 t333 t336 t348 true l0_0 a0_1))))))) else (some false)) = some r := H
         have A65 := Aside0.mk A650
         clear A650
         by_cases c66 : t365 = true
         ·subst c66
          have H1 : ((laws_markInstrument.f kj26 t337 t340 1).bind fun bt366 => ((laws_markNoteS.f kj26 t342 bt366.1).bind fun bt368 => ((laws_markHoleS.f kj26 t345 bt368.1).bind fun bt370 => (if bt370.1 < 0 then (laws_FnExactExtraHoles.j1 kj26 l1 l2 t333 t336 t348 true l0_0 a0_1) else ((laws_eqIntS.f kj26 t348 t333).bind fun t372 => (if t372 = true then (laws_FnExactExtraHoles.j1 kj26 l1 l2 t333 t336 t348 (t351 != t336) l0_0 a0_1) else (laws_FnExactExtraHoles.j1 kj26 l1 l2 t333 t336 t348 true l0_0 a0_1))))))) = some r := by rw [if_pos rfl] at H; exact H
          clear H
          have H := H1
          clear H1
          replace H := Option.bind_eq_some_iff.mp H
          obtain ⟨⟨t366, t367⟩, A670, H⟩ := H
          replace H : ((laws_markNoteS.f kj26 t342 t366).bind fun bt368 => ((laws_markHoleS.f kj26 t345 bt368.1).bind fun bt370 => (if bt370.1 < 0 then (laws_FnExactExtraHoles.j1 kj26 l1 l2 t333 t336 t348 true l0_0 a0_1) else ((laws_eqIntS.f kj26 t348 t333).bind fun t372 => (if t372 = true then (laws_FnExactExtraHoles.j1 kj26 l1 l2 t333 t336 t348 (t351 != t336) l0_0 a0_1) else (laws_FnExactExtraHoles.j1 kj26 l1 l2 t333 t336 t348 true l0_0 a0_1)))))) = some r := H
          have A67 := Aside0.mk A670
          clear A670
          replace H := Option.bind_eq_some_iff.mp H
          obtain ⟨⟨t368, t369⟩, A680, H⟩ := H
          replace H : ((laws_markHoleS.f kj26 t345 t368).bind fun bt370 => (if bt370.1 < 0 then (laws_FnExactExtraHoles.j1 kj26 l1 l2 t333 t336 t348 true l0_0 a0_1) else ((laws_eqIntS.f kj26 t348 t333).bind fun t372 => (if t372 = true then (laws_FnExactExtraHoles.j1 kj26 l1 l2 t333 t336 t348 (t351 != t336) l0_0 a0_1) else (laws_FnExactExtraHoles.j1 kj26 l1 l2 t333 t336 t348 true l0_0 a0_1))))) = some r := H
          have A68 := Aside0.mk A680
          clear A680
          replace H := Option.bind_eq_some_iff.mp H
          obtain ⟨⟨t370, t371⟩, A690, H⟩ := H
          replace H : (if t370 < 0 then (laws_FnExactExtraHoles.j1 kj26 l1 l2 t333 t336 t348 true l0_0 a0_1) else ((laws_eqIntS.f kj26 t348 t333).bind fun t372 => (if t372 = true then (laws_FnExactExtraHoles.j1 kj26 l1 l2 t333 t336 t348 (t351 != t336) l0_0 a0_1) else (laws_FnExactExtraHoles.j1 kj26 l1 l2 t333 t336 t348 true l0_0 a0_1)))) = some r := H
          have A69 := Aside0.mk A690
          clear A690
          have HC70 := Aside0.mk H
          clear H
          try go_wp2
          have n0_ := Aside0.mk (Kd.R_drew HO_8.out)
          have n1_ := Aside0.mk (Kd.R_drew HO_11.out)
          have n2_ := Aside0.mk (Kd.R_drew HO_12.out)
          have n3_ := Aside0.mk (Kd.R_drew HO_13.out)
          have n4_ := Aside0.mk (Kd.R_drew HO_342000.out)
          have n5_ := Aside0.mk (blk_drew BK319.out)
          have n6_ := Aside0.mk (blk_drew BK341.out)
          have n7_ := Aside0.mk (below_drew1 HB.out)
          clear HO_8
          clear HO_11
          clear HO_12
          clear HO_13
          clear HO_342000
          clear BK319
          clear BK341
          clear HB
          have HO_8 := n0_
          have HO_11 := n1_
          have HO_12 := n2_
          have HO_13 := n3_
          have HO_342000 := n4_
          have BK319 := n5_
          have BK341 := n6_
          have HB := n7_
          clear n0_ n1_ n2_ n3_ n4_ n5_ n6_ n7_
          refine start_ (n := 5) (S := fun w' => w'.cell? ⟨gb341, 0, none⟩ = some (.slice Ao42 t337.length co42) ∧ w'.cell? ⟨gb341, 1, none⟩ = some (.int .i64 t340) ∧ w'.cell? ⟨gb319, 0, none⟩ = some (.slice A0_0 l0_0.length c0_0) ∧ w'.cell? ⟨gb319, 1, none⟩ = some (.int .i64 a0_1)) (ds := []) #[false, false, false, false, false] (by kernel_rfl) rfl rfl ⟨(blk_cell BK341.out 0).trans rfl, (blk_cell BK341.out 1).trans rfl, (blk_cell BK319.out 0).trans rfl, (blk_cell BK319.out 1).trans rfl⟩ (fun hHeld => ?_)
          generalize wc.drew = w71 at HO_8 HO_11 HO_12 HO_13 HO_342000 BK319 BK341 HB hHeld ⊢
          refine take_ (i := 0) (N := some 67) (v := ?_) (a' := ?_) #[true, false, false, false, false] rfl rfl (by kernel_rfl) (fun _ _ _ h => h) (Or.inl ⟨by rfl, ?_⟩) hHeld ?_ ?_
          rotate_left
          ·rintro w' ⟨s0, s1, s2, s3⟩
           go_simp
           with_reducible rfl
          rotate_left
          ·simp only [Act.put, List.setIfInBounds_toArray, List.set_cons_zero, List.set_cons_succ, i64_w, i32_w]
           rfl
          refine take_ (i := 1) (N := some 68) (v := ?_) (a' := ?_) #[true, true, false, false, false] rfl rfl (by kernel_rfl) (fun _ _ _ h => h) (Or.inl ⟨by rfl, ?_⟩) hHeld ?_ ?_
          rotate_left
          ·rintro w' ⟨s0, s1, s2, s3⟩
           go_simp
           with_reducible rfl
          rotate_left
          ·simp only [Act.put, List.setIfInBounds_toArray, List.set_cons_zero, List.set_cons_succ, i64_w, i32_w]
           rfl
          refine one_ (i := 2) (N := some 69) #[true, true, true, false, false] rfl rfl (by kernel_rfl) (by decide) (fun K hK => ?_)
          refine goes_ Try.func25 (by kernel_rfl) rfl #[.agg #[.slice A0_0 l0_0.length c0_0, .int .i64 a0_1]] (by rfl) rfl rfl (by (try simp only [List.map_toArray, List.map_cons, List.map_nil]); first | done | rfl | (simp only [List.length_drop, List.length_take]; rfl)) ?_
          with_reducible refine (laws_toInstrument.calls kj26 _ _ l0_0 a0_1 t353 t356 _ ?side1 ?side2 A58.out).mono ?_
          (case side1 => repeat (first | exact (Kd.C_below HR0_0.out HB.out) | (with_reducible refine Kd.C_alloc ?_ _) | (with_reducible refine Kd.C_drewN ?_ _) | (with_reducible refine Kd.C_drew ?_)))
          (case side2 => exact HC0_0.out)
          rintro e w72 ⟨v354, rfl, ho0, hb⟩
          refine ⟨_, rfl, ?_⟩
          have n0_ := Aside0.mk (Kd.R_elder' (rup HO_8.out) (Kd.R_base ho0) hb)
          have n1_ := Aside0.mk (Kd.R_below (rup HO_11.out) hb)
          have n2_ := Aside0.mk (Kd.R_below (rup HO_12.out) hb)
          have n3_ := Aside0.mk (Kd.R_elder' (rup HO_13.out) (Kd.R_base ho0) hb)
          have n4_ := Aside0.mk (Kd.R_elder' (rup HO_342000.out) (Kd.R_base ho0) hb)
          have n5_ := Aside0.mk (Kd.R_lower (Kd.R_new' (Kd.R_new' (Kd.R_new' ho0 (Kd.R_lt (rup HO_8.out))) (Kd.R_lt (rup HO_13.out))) (Kd.R_lt (rup HO_342000.out))) (below_size bl))
          have n6_ := Aside0.mk (blk_below (g := gb319) (o := .cells #[.slice A0_0 l0_0.length c0_0, .int .i64 a0_1] 36 (0, 0)) (bup BK319.out) hb)
          have n7_ := Aside0.mk (blk_below (g := gb341) (o := .cells #[.slice Ao42 t337.length co42, .int .i64 t340] 44 (0, 0)) (bup BK341.out) hb)
          have n8_ := Aside0.mk (below_step bl hb)
          clear HO_8
          clear HO_11
          clear HO_12
          clear HO_13
          clear HO_342000
          clear BK319
          clear BK341
          clear HB
          have HO_8 := n0_
          have HO_11 := n1_
          have HO_12 := n2_
          have HO_13 := n3_
          have HO_342000 := n4_
          have HO355 := n5_
          have BK319 := n6_
          have BK341 := n7_
          have HB := n8_
          clear n0_ n1_ n2_ n3_ n4_ n5_ n6_ n7_ n8_
          (try clear hb)
          (try clear hb2)
          (try clear hk)
          (try clear hi)
          (try clear ho0)
          obtain ⟨Ao73, co73, eo73⟩ := Kd.R_slice HO355.out
          (first | subst eo73 | (injection eo73 with f1_ f2_ f3_; have f4_ := f1_.symm; have f5_ := f3_.symm; clear f1_ f2_ f3_; subst f4_; subst f5_))
          refine hK.out _ _ ⟨(blk_cell BK341.out 0).trans rfl, (blk_cell BK341.out 1).trans rfl, (blk_cell BK319.out 0).trans rfl, (blk_cell BK319.out 1).trans rfl⟩ (fun hHeld => ?_)
          clear hK K
          refine norm_ (a' := ?_) ?_ ?_
          rotate_left
          ·show Act.put _ (some 69) _ = _
           simp only [Act.put, List.setIfInBounds_toArray, List.set_cons_zero, List.set_cons_succ, i64_w, i32_w]
           rfl
          refine one_ (i := 3) (N := some 70) #[true, true, true, true, false] rfl rfl (by kernel_rfl) (by decide) (fun K hK => ?_)
          refine goes_ Try.func29 (by kernel_rfl) rfl #[.agg #[.slice Ao42 t337.length co42, .int .i64 t340], .agg #[.slice Ao73 t353.length co73, .int .i64 t356]] (by rfl) rfl rfl (by (try simp only [List.map_toArray, List.map_cons, List.map_nil]); first | done | rfl | (simp only [List.length_drop, List.length_take]; rfl)) ?_
          with_reducible refine (laws_eqInstrument.calls kj26 _ _ t337 t340 _ _ t353 t356 true _ ?side1 ?side2 ?side3 ?side4 A59.out).mono ?_
          (case side1 => repeat (first | exact (Kd.R_reads' HO_342000.out).2.2 | (with_reducible refine Kd.C_alloc ?_ _) | (with_reducible refine Kd.C_drewN ?_ _) | (with_reducible refine Kd.C_drew ?_)))
          (case side2 => exact (Kd.R_reads' HO_342000.out).2.1)
          (case side3 => repeat (first | exact (Kd.R_reads' HO355.out).2.2 | (with_reducible refine Kd.C_alloc ?_ _) | (with_reducible refine Kd.C_drewN ?_ _) | (with_reducible refine Kd.C_drew ?_)))
          (case side4 => exact (Kd.R_reads' HO355.out).2.1)
          rintro e w74 ⟨rfl, hb⟩
          refine ⟨_, rfl, ?_⟩
          have n0_ := Aside0.mk (Kd.R_below (rup HO_8.out) hb)
          have n1_ := Aside0.mk (Kd.R_below (rup HO_11.out) hb)
          have n2_ := Aside0.mk (Kd.R_below (rup HO_12.out) hb)
          have n3_ := Aside0.mk (Kd.R_below (rup HO_13.out) hb)
          have n4_ := Aside0.mk (Kd.R_below (rup HO_342000.out) hb)
          have n5_ := Aside0.mk (Kd.R_below (rup HO355.out) hb)
          have n6_ := Aside0.mk (blk_below (g := gb319) (o := .cells #[.slice A0_0 l0_0.length c0_0, .int .i64 a0_1] 36 (0, 0)) (bup BK319.out) hb)
          have n7_ := Aside0.mk (blk_below (g := gb341) (o := .cells #[.slice Ao42 t337.length co42, .int .i64 t340] 44 (0, 0)) (bup BK341.out) hb)
          have n8_ := Aside0.mk (below_step bl hb)
          clear HO_8
          clear HO_11
          clear HO_12
          clear HO_13
          clear HO_342000
          clear HO355
          clear BK319
          clear BK341
          clear HB
          have HO_8 := n0_
          have HO_11 := n1_
          have HO_12 := n2_
          have HO_13 := n3_
          have HO_342000 := n4_
          have HO355 := n5_
          have BK319 := n6_
          have BK341 := n7_
          have HB := n8_
          clear n0_ n1_ n2_ n3_ n4_ n5_ n6_ n7_ n8_
          (try clear hb)
          (try clear hb2)
          (try clear hk)
          (try clear hi)
          refine hK.out _ _ ⟨(blk_cell BK341.out 0).trans rfl, (blk_cell BK341.out 1).trans rfl, (blk_cell BK319.out 0).trans rfl, (blk_cell BK319.out 1).trans rfl⟩ (fun hHeld => ?_)
          clear hK K
          refine norm_ (a' := ?_) ?_ ?_
          rotate_left
          ·show Act.put _ (some 70) _ = _
           simp only [Act.put, List.setIfInBounds_toArray, List.set_cons_zero, List.set_cons_succ, i64_w, i32_w]
           rfl
          refine pure_ (i := 4) (N := some 71) (v := ?_) (a' := ?_) #[true, true, true, true, true] rfl rfl (by kernel_rfl) (fun _ _ _ h => h) (Or.inl ⟨by rfl, ?_⟩) ?_ ?_
          rotate_left
          ·intro w'
           go_simp
           with_reducible rfl
          rotate_left
          ·simp only [Act.put, List.setIfInBounds_toArray, List.set_cons_zero, List.set_cons_succ, i64_w, i32_w]
           rfl
          refine done_ (by kernel_rfl) ?_
          go_upto_region 28 with (first | ((with_reducible refine gate_callee (f := 26) rfl ?_); refine goesL_ (some 74) rfl rfl Try.func26 (by kernel_rfl) rfl #[.slice A1 l1.length c1] rfl (by (try simp only [List.map_toArray, List.map_cons, List.map_nil]); first | done | rfl | (simp only [List.length_drop, List.length_take]; rfl)) ?_; (with_reducible refine (laws_toNoteS.calls kj26 _ _ l1 t358 _ ?side1 ?side2 A61.out).mono ?_); (case side1 => repeat (first | exact (Kd.C_below HR1.out HB.out) | (with_reducible refine Kd.C_alloc ?_ _) | (with_reducible refine Kd.C_drewN ?_ _) | (with_reducible refine Kd.C_drew ?_))); (case side2 => exact HC1.out); rintro e w75 ⟨v359, rfl, ho0, hb⟩; refine ⟨_, rfl, ?_⟩; have n0_ := Aside0.mk (Kd.R_below (rup HO_8.out) hb); have n1_ := Aside0.mk (Kd.R_elder' (rup HO_11.out) (Kd.R_base ho0) hb); have n2_ := Aside0.mk (Kd.R_below (rup HO_12.out) hb); have n3_ := Aside0.mk (Kd.R_below (rup HO_13.out) hb); have n4_ := Aside0.mk (Kd.R_below (rup HO_342000.out) hb); have n5_ := Aside0.mk (Kd.R_below (rup HO355.out) hb); have n6_ := Aside0.mk (Kd.R_lower (Kd.R_new' ho0 (Kd.R_lt (rup HO_11.out))) (below_size bl)); have n7_ := Aside0.mk (blk_below (g := gb319) (o := .cells #[.slice A0_0 l0_0.length c0_0, .int .i64 a0_1] 36 (0, 0)) (bup BK319.out) hb); have n8_ := Aside0.mk (blk_below (g := gb341) (o := .cells #[.slice Ao42 t337.length co42, .int .i64 t340] 44 (0, 0)) (bup BK341.out) hb); have n9_ := Aside0.mk (below_step bl hb); clear HO_8; clear HO_11; clear HO_12; clear HO_13; clear HO_342000; clear HO355; clear BK319; clear BK341; clear HB; have HO_8 := n0_; have HO_11 := n1_; have HO_12 := n2_; have HO_13 := n3_; have HO_342000 := n4_; have HO355 := n5_; have HO360 := n6_; have BK319 := n7_; have BK341 := n8_; have HB := n9_; clear n0_ n1_ n2_ n3_ n4_ n5_ n6_ n7_ n8_ n9_; (try clear hb); (try clear hb2); (try clear hk); (try clear hi); (try clear ho0); obtain ⟨Ao76, co76, eo76⟩ := Kd.R_slice HO360.out; subst eo76) | ((with_reducible refine gate_callee (f := 30) rfl ?_); refine goesL_ (some 75) rfl rfl Try.func30 (by kernel_rfl) rfl #[.slice Ao48 t342.length co48, .slice Ao76 t358.length co76] rfl (by (try simp only [List.map_toArray, List.map_cons, List.map_nil]); first | done | rfl | (simp only [List.length_drop, List.length_take]; rfl)) ?_; (with_reducible refine (laws_eqNoteS.calls kj26 _ _ t342 _ _ t358 true _ ?side1 ?side2 ?side3 ?side4 A62.out).mono ?_); (case side1 => repeat (first | exact (Kd.R_reads' HO_11.out).2.2 | (with_reducible refine Kd.C_alloc ?_ _) | (with_reducible refine Kd.C_drewN ?_ _) | (with_reducible refine Kd.C_drew ?_))); (case side2 => exact (Kd.R_reads' HO_11.out).2.1); (case side3 => repeat (first | exact (Kd.R_reads' HO360.out).2.2 | (with_reducible refine Kd.C_alloc ?_ _) | (with_reducible refine Kd.C_drewN ?_ _) | (with_reducible refine Kd.C_drew ?_))); (case side4 => exact (Kd.R_reads' HO360.out).2.1); rintro e w77 ⟨rfl, hb⟩; refine ⟨_, rfl, ?_⟩; have n0_ := Aside0.mk (Kd.R_below (rup HO_8.out) hb); have n1_ := Aside0.mk (Kd.R_below (rup HO_11.out) hb); have n2_ := Aside0.mk (Kd.R_below (rup HO_12.out) hb); have n3_ := Aside0.mk (Kd.R_below (rup HO_13.out) hb); have n4_ := Aside0.mk (Kd.R_below (rup HO_342000.out) hb); have n5_ := Aside0.mk (Kd.R_below (rup HO355.out) hb); have n6_ := Aside0.mk (Kd.R_below (rup HO360.out) hb); have n7_ := Aside0.mk (blk_below (g := gb319) (o := .cells #[.slice A0_0 l0_0.length c0_0, .int .i64 a0_1] 36 (0, 0)) (bup BK319.out) hb); have n8_ := Aside0.mk (blk_below (g := gb341) (o := .cells #[.slice Ao42 t337.length co42, .int .i64 t340] 44 (0, 0)) (bup BK341.out) hb); have n9_ := Aside0.mk (below_step bl hb); clear HO_8; clear HO_11; clear HO_12; clear HO_13; clear HO_342000; clear HO355; clear HO360; clear BK319; clear BK341; clear HB; have HO_8 := n0_; have HO_11 := n1_; have HO_12 := n2_; have HO_13 := n3_; have HO_342000 := n4_; have HO355 := n5_; have HO360 := n6_; have BK319 := n7_; have BK341 := n8_; have HB := n9_; clear n0_ n1_ n2_ n3_ n4_ n5_ n6_ n7_ n8_ n9_; (try clear hb); (try clear hb2); (try clear hk); (try clear hi)) | ((with_reducible refine gate_callee (f := 13) rfl ?_); refine goesL_ (some 79) rfl rfl Try.func13 (by kernel_rfl) rfl #[.slice A2 l2.length c2] rfl (by (try simp only [List.map_toArray, List.map_cons, List.map_nil]); first | done | rfl | (simp only [List.length_drop, List.length_take]; rfl)) ?_; (with_reducible refine (laws_toHoleS.calls kj26 _ _ l2 t362 _ ?side1 ?side2 A64.out).mono ?_); (case side1 => repeat (first | exact (Kd.C_below HR2.out HB.out) | (with_reducible refine Kd.C_alloc ?_ _) | (with_reducible refine Kd.C_drewN ?_ _) | (with_reducible refine Kd.C_drew ?_))); (case side2 => exact HC2.out); rintro e w78 ⟨v363, rfl, ho0, hb⟩; refine ⟨_, rfl, ?_⟩; have n0_ := Aside0.mk (Kd.R_below (rup HO_8.out) hb); have n1_ := Aside0.mk (Kd.R_below (rup HO_11.out) hb); have n2_ := Aside0.mk (Kd.R_elder' (rup HO_12.out) (Kd.R_base ho0) hb); have n3_ := Aside0.mk (Kd.R_below (rup HO_13.out) hb); have n4_ := Aside0.mk (Kd.R_below (rup HO_342000.out) hb); have n5_ := Aside0.mk (Kd.R_below (rup HO355.out) hb); have n6_ := Aside0.mk (Kd.R_below (rup HO360.out) hb); have n7_ := Aside0.mk (Kd.R_lower (Kd.R_new' ho0 (Kd.R_lt (rup HO_12.out))) (below_size bl)); have n8_ := Aside0.mk (blk_below (g := gb319) (o := .cells #[.slice A0_0 l0_0.length c0_0, .int .i64 a0_1] 36 (0, 0)) (bup BK319.out) hb); have n9_ := Aside0.mk (blk_below (g := gb341) (o := .cells #[.slice Ao42 t337.length co42, .int .i64 t340] 44 (0, 0)) (bup BK341.out) hb); have n10_ := Aside0.mk (below_step bl hb); clear HO_8; clear HO_11; clear HO_12; clear HO_13; clear HO_342000; clear HO355; clear HO360; clear BK319; clear BK341; clear HB; have HO_8 := n0_; have HO_11 := n1_; have HO_12 := n2_; have HO_13 := n3_; have HO_342000 := n4_; have HO355 := n5_; have HO360 := n6_; have HO364 := n7_; have BK319 := n8_; have BK341 := n9_; have HB := n10_; clear n0_ n1_ n2_ n3_ n4_ n5_ n6_ n7_ n8_ n9_ n10_; (try clear hb); (try clear hb2); (try clear hk); (try clear hi); (try clear ho0); obtain ⟨Ao79, co79, eo79⟩ := Kd.R_slice HO364.out; subst eo79) | ((with_reducible refine gate_callee (f := 16) rfl ?_); refine goesL_ (some 80) rfl rfl Try.func16 (by kernel_rfl) rfl #[.slice Ao49 t345.length co49, .slice Ao79 t362.length co79] rfl (by (try simp only [List.map_toArray, List.map_cons, List.map_nil]); first | done | rfl | (simp only [List.length_drop, List.length_take]; rfl)) ?_; (with_reducible refine (laws_eqHoleS.calls kj26 _ _ t345 _ _ t362 true _ ?side1 ?side2 ?side3 ?side4 A65.out).mono ?_); (case side1 => repeat (first | exact (Kd.R_reads' HO_12.out).2.2 | (with_reducible refine Kd.C_alloc ?_ _) | (with_reducible refine Kd.C_drewN ?_ _) | (with_reducible refine Kd.C_drew ?_))); (case side2 => exact (Kd.R_reads' HO_12.out).2.1); (case side3 => repeat (first | exact (Kd.R_reads' HO364.out).2.2 | (with_reducible refine Kd.C_alloc ?_ _) | (with_reducible refine Kd.C_drewN ?_ _) | (with_reducible refine Kd.C_drew ?_))); (case side4 => exact (Kd.R_reads' HO364.out).2.1); rintro e w80 ⟨rfl, hb⟩; refine ⟨_, rfl, ?_⟩; have n0_ := Aside0.mk (Kd.R_below (rup HO_8.out) hb); have n1_ := Aside0.mk (Kd.R_below (rup HO_11.out) hb); have n2_ := Aside0.mk (Kd.R_below (rup HO_12.out) hb); have n3_ := Aside0.mk (Kd.R_below (rup HO_13.out) hb); have n4_ := Aside0.mk (Kd.R_below (rup HO_342000.out) hb); have n5_ := Aside0.mk (Kd.R_below (rup HO355.out) hb); have n6_ := Aside0.mk (Kd.R_below (rup HO360.out) hb); have n7_ := Aside0.mk (Kd.R_below (rup HO364.out) hb); have n8_ := Aside0.mk (blk_below (g := gb319) (o := .cells #[.slice A0_0 l0_0.length c0_0, .int .i64 a0_1] 36 (0, 0)) (bup BK319.out) hb); have n9_ := Aside0.mk (blk_below (g := gb341) (o := .cells #[.slice Ao42 t337.length co42, .int .i64 t340] 44 (0, 0)) (bup BK341.out) hb); have n10_ := Aside0.mk (below_step bl hb); clear HO_8; clear HO_11; clear HO_12; clear HO_13; clear HO_342000; clear HO355; clear HO360; clear HO364; clear BK319; clear BK341; clear HB; have HO_8 := n0_; have HO_11 := n1_; have HO_12 := n2_; have HO_13 := n3_; have HO_342000 := n4_; have HO355 := n5_; have HO360 := n6_; have HO364 := n7_; have BK319 := n8_; have BK341 := n9_; have HB := n10_; clear n0_ n1_ n2_ n3_ n4_ n5_ n6_ n7_ n8_ n9_ n10_; (try clear hb); (try clear hb2); (try clear hk); (try clear hi); have hnb81 := NB341_319.out; have hnc81 := NB319_341.out; have hcz82_0 : w80.cell? ⟨gb341, 0, none⟩ = some (.slice Ao42 t337.length co42) := (blk_cell BK341.out 0).trans rfl; have hcz82_1 : w80.cell? ⟨gb341, 1, none⟩ = some (.int .i64 t340) := (blk_cell BK341.out 1).trans rfl; have hfz82_0 := blk_frozen BK341.out 0; have hfz82_1 := blk_frozen BK341.out 1) | ((with_reducible refine gate_callee (f := 34) rfl ?_); refine goesL_ (some 84) rfl rfl Try.func34 (by kernel_rfl) rfl #[.agg #[.slice Ao42 t337.length co42, .int .i64 t340], .int .i64 1] rfl (by (try simp only [List.map_toArray, List.map_cons, List.map_nil]); first | done | rfl | (simp only [List.length_drop, List.length_take]; rfl)) ?_; (with_reducible refine (laws_markInstrument.calls kj26 (fun k_ => some k_ = (.slice Ao42 t337.length co42 : Value).ownBlock) (.slice Ao42 t337.length co42) t337 t340 1 t366 t367 w _ ?side1 ?side2 A67.out).mono ?_); (case side1 => repeat (first | (with_reducible first | exact HB.out | apply below_alloc | apply pw_below_drewN | apply below_drew1 | refine below_set ?_ GE319.out | refine below_set ?_ GE341.out) | exact HB.out)); (case side2 => exact Kd.R_tight rfl HO_342000.out); rintro e w83 ⟨rfl, hy0, hb, hkp⟩; refine ⟨_, rfl, ?_⟩; have n0_ := Aside0.mk (Kd.R_mono (ok' := fun k_ => some k_ ≠ (v349 : Value).ownBlock ∧ some k_ ≠ (.slice Ao42 t337.length co42 : Value).ownBlock ∧ some k_ ≠ (.slice Ao73 t353.length co73 : Value).ownBlock) (Kd.R_keptB (HO_8.out) hkp (fun k_ hk_ hs_ => (hk_.1.2) hs_)) (fun k_ hk_ => ⟨hk_.1.1.1, hk_.1.1.2, hk_.1.2⟩)); have n1_ := Aside0.mk (Kd.R_mono (ok' := fun k_ => some k_ ≠ (.slice Ao76 t358.length co76 : Value).ownBlock) (Kd.R_keptB ((Kd.R_apart' HO_11.out (Kd.R_typed HO_342000.out) (by decide))) hkp (fun k_ hk_ hs_ => (hk_.2) hs_)) (fun k_ hk_ => hk_.1.1.2)); have n2_ := Aside0.mk (Kd.R_mono (ok' := fun k_ => some k_ ≠ (.slice Ao79 t362.length co79 : Value).ownBlock) (Kd.R_keptB ((Kd.R_apart' HO_12.out (Kd.R_typed HO_342000.out) (by decide))) hkp (fun k_ hk_ hs_ => (hk_.2) hs_)) (fun k_ hk_ => hk_.1.1.2)); have n3_ := Aside0.mk (Kd.R_mono (ok' := fun k_ => some k_ ≠ (v334 : Value).ownBlock ∧ some k_ ≠ (.slice Ao42 t337.length co42 : Value).ownBlock ∧ some k_ ≠ (.slice Ao73 t353.length co73 : Value).ownBlock) (Kd.R_keptB (HO_13.out) hkp (fun k_ hk_ hs_ => (hk_.1.2) hs_)) (fun k_ hk_ => ⟨hk_.1.1.1, hk_.1.1.2, hk_.1.2⟩)); have n4_ := Aside0.mk (Kd.R_reok rfl hy0 (fun k_ e_ => HO_342000.out.1 k_ e_)); have n5_ := Aside0.mk (blk_kept (bup BK319.out) hkp (fun hs_ => (fun e_ => (Kd.R_ne HO_342000.out BK319.out (by decide)) e_) hs_)); have n6_ := Aside0.mk (blk_kept (bup BK341.out) hkp (fun hs_ => (fun e_ => (Kd.R_ne HO_342000.out BK341.out (by decide)) e_) hs_)); have n7_ := Aside0.mk (Kd.R_mono (ok' := fun k_ => some k_ ≠ (v334 : Value).ownBlock ∧ some k_ ≠ (v349 : Value).ownBlock ∧ some k_ ≠ (.slice Ao42 t337.length co42 : Value).ownBlock) (Kd.R_keptB (HO355.out) hkp (fun k_ hk_ hs_ => (hk_.2) hs_)) (fun k_ hk_ => ⟨hk_.1.1.1.2, hk_.1.1.2, hk_.1.2⟩)); have n8_ := Aside0.mk (Kd.R_mono (ok' := fun k_ => some k_ ≠ (.slice Ao48 t342.length co48 : Value).ownBlock) (Kd.R_keptB ((Kd.R_apart' HO360.out (Kd.R_typed HO_342000.out) (by decide))) hkp (fun k_ hk_ hs_ => (hk_.2) hs_)) (fun k_ hk_ => hk_.1.1.2)); have n9_ := Aside0.mk (Kd.R_mono (ok' := fun k_ => some k_ ≠ (.slice Ao49 t345.length co49 : Value).ownBlock) (Kd.R_keptB ((Kd.R_apart' HO364.out (Kd.R_typed HO_342000.out) (by decide))) hkp (fun k_ hk_ hs_ => (hk_.2) hs_)) (fun k_ hk_ => hk_.1.1.2)); have n10_ := Aside0.mk (hb); clear HO_8; clear HO_11; clear HO_12; clear HO_13; clear HO_342000; clear BK319; clear BK341; clear HO355; clear HO360; clear HO364; clear HB; have HO_8 := n0_; have HO_11 := n1_; have HO_12 := n2_; have HO_13 := n3_; have HO_342000 := n4_; have BK319 := n5_; have BK341 := n6_; have HO355 := n7_; have HO360 := n8_; have HO364 := n9_; have HB := n10_; clear n0_ n1_ n2_ n3_ n4_ n5_ n6_ n7_ n8_ n9_ n10_; (try clear hb); (try clear hkp); (try clear hy0)) | ((with_reducible refine gate_callee (f := 35) rfl ?_); refine goesL_ (some 87) rfl rfl Try.func35 (by kernel_rfl) rfl #[.slice Ao48 t342.length co48, .int .i64 t366] rfl (by (try simp only [List.map_toArray, List.map_cons, List.map_nil]); first | done | rfl | (simp only [List.length_drop, List.length_take]; rfl)) ?_; (with_reducible refine (laws_markNoteS.calls kj26 (fun k_ => some k_ = (.slice Ao48 t342.length co48 : Value).ownBlock) (.slice Ao48 t342.length co48) t342 t366 t368 t369 w _ ?side1 ?side2 A68.out).mono ?_); (case side1 => repeat (first | (with_reducible first | exact HB.out | apply below_alloc | apply pw_below_drewN | apply below_drew1 | refine below_set ?_ GE319.out | refine below_set ?_ GE341.out) | exact HB.out)); (case side2 => exact Kd.R_tight rfl HO_11.out); rintro e w84 ⟨rfl, hy0, hb, hkp⟩; refine ⟨_, rfl, ?_⟩; have n0_ := Aside0.mk (Kd.R_mono (ok' := fun k_ => some k_ ≠ (v349 : Value).ownBlock ∧ some k_ ≠ (.slice Ao42 t337.length co42 : Value).ownBlock ∧ some k_ ≠ (.slice Ao73 t353.length co73 : Value).ownBlock) (Kd.R_keptB ((Kd.R_apart' HO_8.out (Kd.R_typed HO_11.out) (by decide))) hkp (fun k_ hk_ hs_ => (hk_.2) hs_)) (fun k_ hk_ => ⟨hk_.1.1.1, hk_.1.1.2.1, hk_.1.1.2.2⟩)); have n1_ := Aside0.mk (Kd.R_reok rfl hy0 (fun k_ e_ => HO_11.out.1 k_ e_)); have n2_ := Aside0.mk (Kd.R_mono (ok' := fun k_ => some k_ ≠ (.slice Ao79 t362.length co79 : Value).ownBlock) (Kd.R_keptB ((Kd.R_apart' HO_12.out (Kd.R_typed HO_11.out) (by decide))) hkp (fun k_ hk_ hs_ => (hk_.2) hs_)) (fun k_ hk_ => hk_.1.1)); have n3_ := Aside0.mk (Kd.R_mono (ok' := fun k_ => some k_ ≠ (v334 : Value).ownBlock ∧ some k_ ≠ (.slice Ao42 t337.length co42 : Value).ownBlock ∧ some k_ ≠ (.slice Ao73 t353.length co73 : Value).ownBlock) (Kd.R_keptB ((Kd.R_apart' HO_13.out (Kd.R_typed HO_11.out) (by decide))) hkp (fun k_ hk_ hs_ => (hk_.2) hs_)) (fun k_ hk_ => ⟨hk_.1.1.1, hk_.1.1.2.1, hk_.1.1.2.2⟩)); have n4_ := Aside0.mk (Kd.R_mono (ok' := fun k_ => some k_ ≠ (v334 : Value).ownBlock ∧ some k_ ≠ (v349 : Value).ownBlock ∧ some k_ ≠ (.slice Ao73 t353.length co73 : Value).ownBlock) (Kd.R_keptB ((Kd.R_apart' HO_342000.out (Kd.R_typed HO_11.out) (by decide))) hkp (fun k_ hk_ hs_ => (hk_.2) hs_)) (fun k_ hk_ => ⟨hk_.1.1.1.1, hk_.1.1.1.2, hk_.1.1.2⟩)); have n5_ := Aside0.mk (blk_kept (bup BK319.out) hkp (fun hs_ => (fun e_ => (Kd.R_ne HO_11.out BK319.out (by decide)) e_) hs_)); have n6_ := Aside0.mk (blk_kept (bup BK341.out) hkp (fun hs_ => (fun e_ => (Kd.R_ne HO_11.out BK341.out (by decide)) e_) hs_)); have n7_ := Aside0.mk (Kd.R_mono (ok' := fun k_ => some k_ ≠ (v334 : Value).ownBlock ∧ some k_ ≠ (v349 : Value).ownBlock ∧ some k_ ≠ (.slice Ao42 t337.length co42 : Value).ownBlock) (Kd.R_keptB ((Kd.R_apart' HO355.out (Kd.R_typed HO_11.out) (by decide))) hkp (fun k_ hk_ hs_ => (hk_.2) hs_)) (fun k_ hk_ => ⟨hk_.1.1.1, hk_.1.1.2.1, hk_.1.1.2.2⟩)); have n8_ := Aside0.mk (Kd.R_mono (ok' := fun k_ => some k_ ≠ (.slice Ao48 t342.length co48 : Value).ownBlock) (Kd.R_keptB (HO360.out) hkp (fun k_ hk_ hs_ => (hk_) hs_)) (fun k_ hk_ => hk_.1)); have n9_ := Aside0.mk (Kd.R_mono (ok' := fun k_ => some k_ ≠ (.slice Ao49 t345.length co49 : Value).ownBlock) (Kd.R_keptB ((Kd.R_apart' HO364.out (Kd.R_typed HO_11.out) (by decide))) hkp (fun k_ hk_ hs_ => (hk_.2) hs_)) (fun k_ hk_ => hk_.1.1)); have n10_ := Aside0.mk (hb); clear HO_8; clear HO_11; clear HO_12; clear HO_13; clear HO_342000; clear BK319; clear BK341; clear HO355; clear HO360; clear HO364; clear HB; have HO_8 := n0_; have HO_11 := n1_; have HO_12 := n2_; have HO_13 := n3_; have HO_342000 := n4_; have BK319 := n5_; have BK341 := n6_; have HO355 := n7_; have HO360 := n8_; have HO364 := n9_; have HB := n10_; clear n0_ n1_ n2_ n3_ n4_ n5_ n6_ n7_ n8_ n9_ n10_; (try clear hb); (try clear hkp); (try clear hy0)) | ((with_reducible refine gate_callee (f := 17) rfl ?_); refine goesL_ (some 90) rfl rfl Try.func17 (by kernel_rfl) rfl #[.slice Ao49 t345.length co49, .int .i64 t368] rfl (by (try simp only [List.map_toArray, List.map_cons, List.map_nil]); first | done | rfl | (simp only [List.length_drop, List.length_take]; rfl)) ?_; (with_reducible refine (laws_markHoleS.calls kj26 (fun k_ => some k_ = (.slice Ao49 t345.length co49 : Value).ownBlock) (.slice Ao49 t345.length co49) t345 t368 t370 t371 w _ ?side1 ?side2 A69.out).mono ?_); (case side1 => repeat (first | (with_reducible first | exact HB.out | apply below_alloc | apply pw_below_drewN | apply below_drew1 | refine below_set ?_ GE319.out | refine below_set ?_ GE341.out) | exact HB.out)); (case side2 => exact Kd.R_tight rfl HO_12.out); rintro e w85 ⟨rfl, hy0, hb, hkp⟩; refine ⟨_, rfl, ?_⟩; have n0_ := Aside0.mk (Kd.R_mono (ok' := fun k_ => some k_ ≠ (v349 : Value).ownBlock ∧ some k_ ≠ (.slice Ao42 t337.length co42 : Value).ownBlock ∧ some k_ ≠ (.slice Ao73 t353.length co73 : Value).ownBlock) (Kd.R_keptB ((Kd.R_apart' HO_8.out (Kd.R_typed HO_12.out) (by decide))) hkp (fun k_ hk_ hs_ => (hk_.2) hs_)) (fun k_ hk_ => ⟨hk_.1.1.1, hk_.1.1.2.1, hk_.1.1.2.2⟩)); have n1_ := Aside0.mk (Kd.R_mono (ok' := fun k_ => some k_ ≠ (.slice Ao76 t358.length co76 : Value).ownBlock) (Kd.R_keptB ((Kd.R_apart' HO_11.out (Kd.R_typed HO_12.out) (by decide))) hkp (fun k_ hk_ hs_ => (hk_.2) hs_)) (fun k_ hk_ => hk_.1.1)); have n2_ := Aside0.mk (Kd.R_reok rfl hy0 (fun k_ e_ => HO_12.out.1 k_ e_)); have n3_ := Aside0.mk (Kd.R_mono (ok' := fun k_ => some k_ ≠ (v334 : Value).ownBlock ∧ some k_ ≠ (.slice Ao42 t337.length co42 : Value).ownBlock ∧ some k_ ≠ (.slice Ao73 t353.length co73 : Value).ownBlock) (Kd.R_keptB ((Kd.R_apart' HO_13.out (Kd.R_typed HO_12.out) (by decide))) hkp (fun k_ hk_ hs_ => (hk_.2) hs_)) (fun k_ hk_ => ⟨hk_.1.1.1, hk_.1.1.2.1, hk_.1.1.2.2⟩)); have n4_ := Aside0.mk (Kd.R_mono (ok' := fun k_ => some k_ ≠ (v334 : Value).ownBlock ∧ some k_ ≠ (v349 : Value).ownBlock ∧ some k_ ≠ (.slice Ao73 t353.length co73 : Value).ownBlock) (Kd.R_keptB ((Kd.R_apart' HO_342000.out (Kd.R_typed HO_12.out) (by decide))) hkp (fun k_ hk_ hs_ => (hk_.2) hs_)) (fun k_ hk_ => ⟨hk_.1.1.1, hk_.1.1.2.1, hk_.1.1.2.2⟩)); have n5_ := Aside0.mk (blk_kept (bup BK319.out) hkp (fun hs_ => (fun e_ => (Kd.R_ne HO_12.out BK319.out (by decide)) e_) hs_)); have n6_ := Aside0.mk (blk_kept (bup BK341.out) hkp (fun hs_ => (fun e_ => (Kd.R_ne HO_12.out BK341.out (by decide)) e_) hs_)); have n7_ := Aside0.mk (Kd.R_mono (ok' := fun k_ => some k_ ≠ (v334 : Value).ownBlock ∧ some k_ ≠ (v349 : Value).ownBlock ∧ some k_ ≠ (.slice Ao42 t337.length co42 : Value).ownBlock) (Kd.R_keptB ((Kd.R_apart' HO355.out (Kd.R_typed HO_12.out) (by decide))) hkp (fun k_ hk_ hs_ => (hk_.2) hs_)) (fun k_ hk_ => ⟨hk_.1.1.1, hk_.1.1.2.1, hk_.1.1.2.2⟩)); have n8_ := Aside0.mk (Kd.R_mono (ok' := fun k_ => some k_ ≠ (.slice Ao48 t342.length co48 : Value).ownBlock) (Kd.R_keptB ((Kd.R_apart' HO360.out (Kd.R_typed HO_12.out) (by decide))) hkp (fun k_ hk_ hs_ => (hk_.2) hs_)) (fun k_ hk_ => hk_.1.1)); have n9_ := Aside0.mk (Kd.R_mono (ok' := fun k_ => some k_ ≠ (.slice Ao49 t345.length co49 : Value).ownBlock) (Kd.R_keptB (HO364.out) hkp (fun k_ hk_ hs_ => (hk_) hs_)) (fun k_ hk_ => hk_.1)); have n10_ := Aside0.mk (hb); clear HO_8; clear HO_11; clear HO_12; clear HO_13; clear HO_342000; clear BK319; clear BK341; clear HO355; clear HO360; clear HO364; clear HB; have HO_8 := n0_; have HO_11 := n1_; have HO_12 := n2_; have HO_13 := n3_; have HO_342000 := n4_; have BK319 := n5_; have BK341 := n6_; have HO355 := n7_; have HO360 := n8_; have HO364 := n9_; have HB := n10_; clear n0_ n1_ n2_ n3_ n4_ n5_ n6_ n7_ n8_ n9_ n10_; (try clear hb); (try clear hkp); (try clear hy0)))
          (try simp only [Act.put, List.setIfInBounds_toArray, List.set_cons_zero, List.set_cons_succ])
          go_cut [103] (fun v103 wc => ∃ (kq : Nat) (x103_69 : Bool), v103 = .bool x103_69 ∧ Aside0 (laws_FnExactExtraHoles.j1 kq l1 l2 t333 t336 t348 x103_69 l0_0 a0_1 = some r) ∧ Aside0 (kq ≤ kj26) ∧ Aside0 (Kd.R (Kd.int .i64) 3 wc w.heap.size (fun k_ => some k_ ≠ (v349 : Value).ownBlock ∧ some k_ ≠ ((.slice Ao42 t337.length co42) : Value).ownBlock) v334 t333) ∧ Aside0 (Kd.R (Kd.int .i64) 3 wc w.heap.size (fun k_ => some k_ ≠ (v334 : Value).ownBlock ∧ some k_ ≠ ((.slice Ao42 t337.length co42) : Value).ownBlock) v349 t348) ∧ Aside0 (Kd.R (Kd.int .i64) 3 wc w.heap.size (fun k_ => some k_ ≠ (v334 : Value).ownBlock ∧ some k_ ≠ (v349 : Value).ownBlock) (.slice Ao42 t337.length co42) t367) ∧ Aside0 (wc.heap[gb319]? = some (.cells #[(.slice A0_0 l0_0.length c0_0), .int .i64 a0_1] 36 (0, 0))) ∧ Aside0 (wc.heap[gb341]? = some (.cells #[(.slice Ao42 t337.length co42), .int .i64 t340] 44 (0, 0))) ∧ Aside0 (Below w.heap.size w wc))
          case first =>
           have H := HC70.out
           clear HC70
           by_cases c86 : t370 < 0
           ·rw [if_pos c86] at H
            have c86b0 : decide (t370 < 0) = true := decide_eq_true c86
            clear c86
            (first | rw [c86b0] | (simp only [i64_w, i32_w]; rw [c86b0]) | skip)
            have H' := Aside0.mk H
            clear H
            go_wp2
            go_meet
            case rel => exact ⟨_, (true), fin2, H', ⟨by have := HJ26.out; first | omega | exact Nat.le_refl _⟩, ⟨by (with_reducible repeat (first | apply Kd.R_alloc | apply Kd.R_drewN | apply Kd.R_drew)); exact Kd.R_mono HO_8.out (fun _ hk => ⟨hk.1, hk.2.1⟩)⟩, ⟨by (with_reducible repeat (first | apply Kd.R_alloc | apply Kd.R_drewN | apply Kd.R_drew)); exact Kd.R_mono HO_13.out (fun _ hk => ⟨hk.1, hk.2.1⟩)⟩, ⟨by (with_reducible repeat (first | apply Kd.R_alloc | apply Kd.R_drewN | apply Kd.R_drew)); exact Kd.R_mono HO_342000.out (fun _ hk => ⟨hk.1, hk.2.1⟩)⟩, ⟨bup BK319.out⟩, ⟨bup BK341.out⟩, ⟨bl⟩⟩
           ·rw [if_neg c86] at H
            have c86b0 : decide (t370 < 0) = false := decide_eq_false c86
            clear c86
            (first | rw [c86b0] | (simp only [i64_w, i32_w]; rw [c86b0]) | skip)
            replace H := Option.bind_eq_some_iff.mp H
            obtain ⟨t372, A870, H⟩ := H
            replace H : (if t372 = true then (laws_FnExactExtraHoles.j1 kj26 l1 l2 t333 t336 t348 (t351 != t336) l0_0 a0_1) else (laws_FnExactExtraHoles.j1 kj26 l1 l2 t333 t336 t348 true l0_0 a0_1)) = some r := H
            have A87 := Aside0.mk A870
            clear A870
            by_cases c88 : t372 = true
            ·subst c88
             have H1 : (laws_FnExactExtraHoles.j1 kj26 l1 l2 t333 t336 t348 (t351 != t336) l0_0 a0_1) = some r := by rw [if_pos rfl] at H; exact H
             clear H
             have H := H1
             clear H1
             have H' := Aside0.mk H
             clear H
             obtain ⟨Ao89, co89, eo89⟩ := Kd.R_slice HO_13.out
             subst eo89
             obtain ⟨Ao90, co90, eo90⟩ := Kd.R_slice HO_8.out
             subst eo90
             go_wp2_with (first | (go_at_call 33; (with_reducible refine (laws_eqIntS.calls kj26 _ _ t348 _ _ t333 true _ ?side1 ?side2 ?side3 ?side4 A87.out).mono ?_); (case side1 => repeat (first | exact (Kd.R_reads' HO_13.out).2.2 | (with_reducible refine Kd.C_alloc ?_ _) | (with_reducible refine Kd.C_drewN ?_ _) | (with_reducible refine Kd.C_drew ?_))); (case side2 => exact (Kd.R_reads' HO_13.out).2.1); (case side3 => repeat (first | exact (Kd.R_reads' HO_8.out).2.2 | (with_reducible refine Kd.C_alloc ?_ _) | (with_reducible refine Kd.C_drewN ?_ _) | (with_reducible refine Kd.C_drew ?_))); (case side4 => exact (Kd.R_reads' HO_8.out).2.1); rintro e w' ⟨rfl, ⟨nd, rfl⟩⟩))
             go_meet
             case rel => exact ⟨_, ((t351 != t336)), fin2, H', ⟨by have := HJ26.out; first | omega | exact Nat.le_refl _⟩, ⟨by (with_reducible repeat (first | apply Kd.R_alloc | apply Kd.R_drewN | apply Kd.R_drew)); exact Kd.R_mono HO_8.out (fun _ hk => ⟨hk.1, hk.2.1⟩)⟩, ⟨by (with_reducible repeat (first | apply Kd.R_alloc | apply Kd.R_drewN | apply Kd.R_drew)); exact Kd.R_mono HO_13.out (fun _ hk => ⟨hk.1, hk.2.1⟩)⟩, ⟨by (with_reducible repeat (first | apply Kd.R_alloc | apply Kd.R_drewN | apply Kd.R_drew)); exact Kd.R_mono HO_342000.out (fun _ hk => ⟨hk.1, hk.2.1⟩)⟩, ⟨bup BK319.out⟩, ⟨bup BK341.out⟩, ⟨bl⟩⟩
            ·replace c88 := Bool.eq_false_iff.mpr c88
             subst c88
             have H1 : (laws_FnExactExtraHoles.j1 kj26 l1 l2 t333 t336 t348 true l0_0 a0_1) = some r := by rw [if_neg (show ¬ (false = true) by decide)] at H; exact H
             clear H
             have H := H1
             clear H1
             have H' := Aside0.mk H
             clear H
             obtain ⟨Ao91, co91, eo91⟩ := Kd.R_slice HO_13.out
             subst eo91
             obtain ⟨Ao92, co92, eo92⟩ := Kd.R_slice HO_8.out
             subst eo92
             go_wp2_with (first | (go_at_call 33; (with_reducible refine (laws_eqIntS.calls kj26 _ _ t348 _ _ t333 false _ ?side1 ?side2 ?side3 ?side4 A87.out).mono ?_); (case side1 => repeat (first | exact (Kd.R_reads' HO_13.out).2.2 | (with_reducible refine Kd.C_alloc ?_ _) | (with_reducible refine Kd.C_drewN ?_ _) | (with_reducible refine Kd.C_drew ?_))); (case side2 => exact (Kd.R_reads' HO_13.out).2.1); (case side3 => repeat (first | exact (Kd.R_reads' HO_8.out).2.2 | (with_reducible refine Kd.C_alloc ?_ _) | (with_reducible refine Kd.C_drewN ?_ _) | (with_reducible refine Kd.C_drew ?_))); (case side4 => exact (Kd.R_reads' HO_8.out).2.1); rintro e w' ⟨rfl, ⟨nd, rfl⟩⟩))
             go_meet
             case rel => exact ⟨_, (true), fin2, H', ⟨by have := HJ26.out; first | omega | exact Nat.le_refl _⟩, ⟨by (with_reducible repeat (first | apply Kd.R_alloc | apply Kd.R_drewN | apply Kd.R_drew)); exact Kd.R_mono HO_8.out (fun _ hk => ⟨hk.1, hk.2.1⟩)⟩, ⟨by (with_reducible repeat (first | apply Kd.R_alloc | apply Kd.R_drewN | apply Kd.R_drew)); exact Kd.R_mono HO_13.out (fun _ hk => ⟨hk.1, hk.2.1⟩)⟩, ⟨by (with_reducible repeat (first | apply Kd.R_alloc | apply Kd.R_drewN | apply Kd.R_drew)); exact Kd.R_mono HO_342000.out (fun _ hk => ⟨hk.1, hk.2.1⟩)⟩, ⟨bup BK319.out⟩, ⟨bup BK341.out⟩, ⟨bl⟩⟩
          case rest =>
           clear HC70
           try clear c1
           try clear c2
           try clear p2
           try clear c3
           try clear c4
           try clear c5
           try clear c5b0
           try clear c6
           try clear c8
           try clear c10
           try clear c10b0
           try clear c11
           try clear c13
           try clear c15
           try clear c15b0
           try clear c16
           try clear c17
           try clear c22
           try clear c23
           try clear c25
           try clear c26
           try clear c29
           try clear c30
           try clear c31
           try clear c32
           try clear c33
           try clear c34
           try clear c35
           try clear c43
           try clear c52
           try clear c57
           try clear c60
           try clear c63
           try clear c66
           try clear c81
           try clear c86
           try clear c86b0
           try clear c88
           try clear hcz12_0
           try clear hcz12_1
           try clear hcz17_0
           try clear hcz17_1
           try clear hcz29_0
           try clear hcz29_1
           try clear hcz31_0
           try clear hcz31_1
           try clear hcz39_0
           try clear hcz39_1
           try clear hcz44_0
           try clear hcz44_1
           try clear hcz47_0
           try clear hcz47_1
           try clear hcz7_0
           try clear hcz7_1
           try clear hcz82_0
           try clear hcz82_1
           try clear hfz12_0
           try clear hfz12_1
           try clear hfz17_0
           try clear hfz17_1
           try clear hfz29_0
           try clear hfz29_1
           try clear hfz31_0
           try clear hfz31_1
           try clear hfz39_0
           try clear hfz39_1
           try clear hfz44_0
           try clear hfz44_1
           try clear hfz47_0
           try clear hfz47_1
           try clear hfz7_0
           try clear hfz7_1
           try clear hfz82_0
           try clear hfz82_1
           try clear p2
           obtain ⟨kq, x103_69, rfl, HA, HJ69, HO_8, HO_13, HO_342000, BK319, BK341, HB⟩ := hcut
           have hl342000_69 := (Kd.R_reads' HO_342000.out).1
           rw [hl342000_69] at HO_342000
           (try simp only [hl342000_69])
           (try simp only [hl342000_69] at BK319)
           (try simp only [hl342000_69] at BK341)
           (try simp only [hl342000_69] at HO_8)
           (try simp only [hl342000_69] at HO_13)
           cases kq with
           | zero => exact absurd HA.out (by simp [laws_FnExactExtraHoles.j1])
           | succ kj69 =>
            have H := HA.out
            clear HA
            simp only [laws_FnExactExtraHoles.j1] at H
            by_cases c93 : x103_69 = true
            ·subst c93
             have H1 : (some false) = some r := by rw [if_pos rfl] at H; exact H
             clear H
             have H := H1
             clear H1
             obtain rfl := Option.some.inj H
             exact absurd hrt.out (by simp)
            ·replace c93 := Bool.eq_false_iff.mpr c93
             subst c93
             have H1 : ((laws_markIntS.f kj69 t348 1).bind fun bt373 => ((laws_heldIntS.f kj69 bt373.2 1).bind fun t375 => (if t375 < 0 then (some false) else (if t375 = bt373.1 then ((laws_toInstrument.f kj69 l0_0 a0_1).bind fun bt376 => ((laws_toNoteS.f kj69 l1).bind fun t380 => ((laws_toHoleS.f kj69 l2).bind fun t383 => ((impl_ExtraHoles.f kj69 bt376.1 bt376.2 t380 t383).bind fun bt386 => ((laws_eqIntS.f kj69 bt386.1 t333).bind fun t390 => (if t390 = true then (laws_FnExactExtraHoles.j2 kj69 bt373.2 bt373.1 (bt386.2 != t336)) else (laws_FnExactExtraHoles.j2 kj69 bt373.2 bt373.1 true))))))) else (some false))))) = some r := by rw [if_neg (show ¬ (false = true) by decide)] at H; exact H
             clear H
             have H := H1
             clear H1
             replace H := Option.bind_eq_some_iff.mp H
             obtain ⟨⟨t373, t374⟩, A940, H⟩ := H
             replace H : ((laws_heldIntS.f kj69 t374 1).bind fun t375 => (if t375 < 0 then (some false) else (if t375 = t373 then ((laws_toInstrument.f kj69 l0_0 a0_1).bind fun bt376 => ((laws_toNoteS.f kj69 l1).bind fun t380 => ((laws_toHoleS.f kj69 l2).bind fun t383 => ((impl_ExtraHoles.f kj69 bt376.1 bt376.2 t380 t383).bind fun bt386 => ((laws_eqIntS.f kj69 bt386.1 t333).bind fun t390 => (if t390 = true then (laws_FnExactExtraHoles.j2 kj69 t374 t373 (bt386.2 != t336)) else (laws_FnExactExtraHoles.j2 kj69 t374 t373 true))))))) else (some false)))) = some r := H
             have A94 := Aside0.mk A940
             clear A940
             replace H := Option.bind_eq_some_iff.mp H
             obtain ⟨t375, A950, H⟩ := H
             replace H : (if t375 < 0 then (some false) else (if t375 = t373 then ((laws_toInstrument.f kj69 l0_0 a0_1).bind fun bt376 => ((laws_toNoteS.f kj69 l1).bind fun t380 => ((laws_toHoleS.f kj69 l2).bind fun t383 => ((impl_ExtraHoles.f kj69 bt376.1 bt376.2 t380 t383).bind fun bt386 => ((laws_eqIntS.f kj69 bt386.1 t333).bind fun t390 => (if t390 = true then (laws_FnExactExtraHoles.j2 kj69 t374 t373 (bt386.2 != t336)) else (laws_FnExactExtraHoles.j2 kj69 t374 t373 true))))))) else (some false))) = some r := H
             have A95 := Aside0.mk A950
             clear A950
             by_cases c96 : t375 < 0
             ·rw [if_pos c96] at H
              have c96b0 : decide (t375 < 0) = true := decide_eq_true c96
              clear c96
              obtain rfl := Option.some.inj H
              obtain ⟨Ao97, co97, eo97⟩ := Kd.R_slice HO_13.out
              subst eo97
              go_wp2_with (first | ((with_reducible refine gate_callee (f := 36) rfl ?_); refine goesL_ (some 106) rfl rfl Try.func36 (by kernel_rfl) rfl #[.slice Ao97 t348.length co97, .int .i64 1] rfl (by (try simp only [List.map_toArray, List.map_cons, List.map_nil]); first | done | rfl | (simp only [List.length_drop, List.length_take]; rfl)) ?_; (with_reducible refine (laws_markIntS.calls kj69 (fun k_ => some k_ = (.slice Ao97 t348.length co97 : Value).ownBlock) (.slice Ao97 t348.length co97) t348 1 t373 t374 w _ ?side1 ?side2 A94.out).mono ?_); (case side1 => repeat (first | (with_reducible first | exact HB.out | apply below_alloc | apply pw_below_drewN | apply below_drew1 | refine below_set ?_ GE319.out | refine below_set ?_ GE341.out) | exact HB.out)); (case side2 => exact Kd.R_tight rfl HO_13.out); rintro e w98 ⟨rfl, hy0, hb, hkp⟩; refine ⟨_, rfl, ?_⟩; have n0_ := Aside0.mk (Kd.R_mono (ok' := fun k_ => some k_ ≠ (.slice Ao97 t348.length co97 : Value).ownBlock ∧ some k_ ≠ (.slice Ao42 t367.length co42 : Value).ownBlock) (Kd.R_keptB (HO_8.out) hkp (fun k_ hk_ hs_ => (hk_.1) hs_)) (fun k_ hk_ => ⟨hk_.1.1, hk_.1.2⟩)); have n1_ := Aside0.mk (Kd.R_reok rfl hy0 (fun k_ e_ => HO_13.out.1 k_ e_)); have n2_ := Aside0.mk (Kd.R_mono (ok' := fun k_ => some k_ ≠ (v334 : Value).ownBlock ∧ some k_ ≠ (.slice Ao97 t348.length co97 : Value).ownBlock) (Kd.R_keptB (HO_342000.out) hkp (fun k_ hk_ hs_ => (hk_.2) hs_)) (fun k_ hk_ => ⟨hk_.1.1, hk_.1.2⟩)); have n3_ := Aside0.mk (blk_kept (bup BK319.out) hkp (fun hs_ => (fun e_ => (Kd.R_ne HO_13.out BK319.out (by decide)) e_) hs_)); have n4_ := Aside0.mk (blk_kept (bup BK341.out) hkp (fun hs_ => (fun e_ => (Kd.R_ne HO_13.out BK341.out (by decide)) e_) hs_)); have n5_ := Aside0.mk (hb); clear HO_8; clear HO_13; clear HO_342000; clear BK319; clear BK341; clear HB; have HO_8 := n0_; have HO_13 := n1_; have HO_342000 := n2_; have BK319 := n3_; have BK341 := n4_; have HB := n5_; clear n0_ n1_ n2_ n3_ n4_ n5_; (try clear hb); (try clear hkp); (try clear hy0)) | ((with_reducible refine gate_callee (f := 37) rfl ?_); refine goesL_ (some 109) rfl rfl Try.func37 (by kernel_rfl) rfl #[.slice Ao97 t374.length co97, .int .i64 1] rfl (by (try simp only [List.map_toArray, List.map_cons, List.map_nil]); first | done | (rw [show t374.length = t348.length from (Kd.R_reads' HO_13.out).1.symm] <;> rfl) | rfl | (simp only [List.length_drop, List.length_take]; rfl)) ?_; (with_reducible refine (laws_heldIntS.calls kj69 _ _ t374 1 t375 _ ?side1 ?side2 A95.out).mono ?_); (case side1 => repeat (first | exact (Kd.R_reads' HO_13.out).2.2 | (with_reducible refine Kd.C_alloc ?_ _) | (with_reducible refine Kd.C_drewN ?_ _) | (with_reducible refine Kd.C_drew ?_))); (case side2 => rw [show t374.length = t348.length from (Kd.R_reads' HO_13.out).1.symm]; exact (Kd.R_reads' HO_13.out).2.1); rintro e w' ⟨rfl, ⟨nd, rfl⟩⟩; refine ⟨_, rfl, ?_⟩))
              go_ret
              exact ⟨fin1, bl⟩
             ·rw [if_neg c96] at H
              have c96b0 : decide (t375 < 0) = false := decide_eq_false c96
              clear c96
              by_cases c99 : t375 = t373
              ·rw [if_pos c99] at H
               have c99b0 : (t375 == t373) = true := beq_iff_eq.mpr c99
               have c99b1 : (t375 != t373) = false := bne_eq_false_iff_eq.mpr c99
               clear c99
               replace H := Option.bind_eq_some_iff.mp H
               obtain ⟨⟨t376, t379⟩, A1000, H⟩ := H
               replace H : ((laws_toNoteS.f kj69 l1).bind fun t380 => ((laws_toHoleS.f kj69 l2).bind fun t383 => ((impl_ExtraHoles.f kj69 t376 t379 t380 t383).bind fun bt386 => ((laws_eqIntS.f kj69 bt386.1 t333).bind fun t390 => (if t390 = true then (laws_FnExactExtraHoles.j2 kj69 t374 t373 (bt386.2 != t336)) else (laws_FnExactExtraHoles.j2 kj69 t374 t373 true)))))) = some r := H
               have A100 := Aside0.mk A1000
               clear A1000
               replace H := Option.bind_eq_some_iff.mp H
               obtain ⟨t380, A1010, H⟩ := H
               replace H : ((laws_toHoleS.f kj69 l2).bind fun t383 => ((impl_ExtraHoles.f kj69 t376 t379 t380 t383).bind fun bt386 => ((laws_eqIntS.f kj69 bt386.1 t333).bind fun t390 => (if t390 = true then (laws_FnExactExtraHoles.j2 kj69 t374 t373 (bt386.2 != t336)) else (laws_FnExactExtraHoles.j2 kj69 t374 t373 true))))) = some r := H
               have A101 := Aside0.mk A1010
               clear A1010
               replace H := Option.bind_eq_some_iff.mp H
               obtain ⟨t383, A1020, H⟩ := H
               replace H : ((impl_ExtraHoles.f kj69 t376 t379 t380 t383).bind fun bt386 => ((laws_eqIntS.f kj69 bt386.1 t333).bind fun t390 => (if t390 = true then (laws_FnExactExtraHoles.j2 kj69 t374 t373 (bt386.2 != t336)) else (laws_FnExactExtraHoles.j2 kj69 t374 t373 true)))) = some r := H
               have A102 := Aside0.mk A1020
               clear A1020
               replace H := Option.bind_eq_some_iff.mp H
               obtain ⟨⟨t386, t389⟩, A1030, H⟩ := H
               replace H : ((laws_eqIntS.f kj69 t386 t333).bind fun t390 => (if t390 = true then (laws_FnExactExtraHoles.j2 kj69 t374 t373 (t389 != t336)) else (laws_FnExactExtraHoles.j2 kj69 t374 t373 true))) = some r := H
               have A103 := Aside0.mk A1030
               clear A1030
               have HC104 := Aside0.mk H
               clear H
               obtain ⟨Ao105, co105, eo105⟩ := Kd.R_slice HO_13.out
               subst eo105
               go_upto_region 39 with (first | ((with_reducible refine gate_callee (f := 36) rfl ?_); refine goesL_ (some 106) rfl rfl Try.func36 (by kernel_rfl) rfl #[.slice Ao105 t348.length co105, .int .i64 1] rfl (by (try simp only [List.map_toArray, List.map_cons, List.map_nil]); first | done | rfl | (simp only [List.length_drop, List.length_take]; rfl)) ?_; (with_reducible refine (laws_markIntS.calls kj69 (fun k_ => some k_ = (.slice Ao105 t348.length co105 : Value).ownBlock) (.slice Ao105 t348.length co105) t348 1 t373 t374 w _ ?side1 ?side2 A94.out).mono ?_); (case side1 => repeat (first | (with_reducible first | exact HB.out | apply below_alloc | apply pw_below_drewN | apply below_drew1 | refine below_set ?_ GE319.out | refine below_set ?_ GE341.out) | exact HB.out)); (case side2 => exact Kd.R_tight rfl HO_13.out); rintro e w106 ⟨rfl, hy0, hb, hkp⟩; refine ⟨_, rfl, ?_⟩; have n0_ := Aside0.mk (Kd.R_mono (ok' := fun k_ => some k_ ≠ (.slice Ao105 t348.length co105 : Value).ownBlock ∧ some k_ ≠ (.slice Ao42 t367.length co42 : Value).ownBlock) (Kd.R_keptB (HO_8.out) hkp (fun k_ hk_ hs_ => (hk_.1) hs_)) (fun k_ hk_ => ⟨hk_.1.1, hk_.1.2⟩)); have n1_ := Aside0.mk (Kd.R_reok rfl hy0 (fun k_ e_ => HO_13.out.1 k_ e_)); have n2_ := Aside0.mk (Kd.R_mono (ok' := fun k_ => some k_ ≠ (v334 : Value).ownBlock ∧ some k_ ≠ (.slice Ao105 t348.length co105 : Value).ownBlock) (Kd.R_keptB (HO_342000.out) hkp (fun k_ hk_ hs_ => (hk_.2) hs_)) (fun k_ hk_ => ⟨hk_.1.1, hk_.1.2⟩)); have n3_ := Aside0.mk (blk_kept (bup BK319.out) hkp (fun hs_ => (fun e_ => (Kd.R_ne HO_13.out BK319.out (by decide)) e_) hs_)); have n4_ := Aside0.mk (blk_kept (bup BK341.out) hkp (fun hs_ => (fun e_ => (Kd.R_ne HO_13.out BK341.out (by decide)) e_) hs_)); have n5_ := Aside0.mk (hb); clear HO_8; clear HO_13; clear HO_342000; clear BK319; clear BK341; clear HB; have HO_8 := n0_; have HO_13 := n1_; have HO_342000 := n2_; have BK319 := n3_; have BK341 := n4_; have HB := n5_; clear n0_ n1_ n2_ n3_ n4_ n5_; (try clear hb); (try clear hkp); (try clear hy0)) | ((with_reducible refine gate_callee (f := 37) rfl ?_); refine goesL_ (some 109) rfl rfl Try.func37 (by kernel_rfl) rfl #[.slice Ao105 t374.length co105, .int .i64 1] rfl (by (try simp only [List.map_toArray, List.map_cons, List.map_nil]); first | done | (rw [show t374.length = t348.length from (Kd.R_reads' HO_13.out).1.symm] <;> rfl) | rfl | (simp only [List.length_drop, List.length_take]; rfl)) ?_; (with_reducible refine (laws_heldIntS.calls kj69 _ _ t374 1 t375 _ ?side1 ?side2 A95.out).mono ?_); (case side1 => repeat (first | exact (Kd.R_reads' HO_13.out).2.2 | (with_reducible refine Kd.C_alloc ?_ _) | (with_reducible refine Kd.C_drewN ?_ _) | (with_reducible refine Kd.C_drew ?_))); (case side2 => rw [show t374.length = t348.length from (Kd.R_reads' HO_13.out).1.symm]; exact (Kd.R_reads' HO_13.out).2.1); rintro e w' ⟨rfl, ⟨nd, rfl⟩⟩; refine ⟨_, rfl, ?_⟩; have hnb107 := NB319_341.out; have hnc107 := NB341_319.out; have hcz108_0 : w106.cell? ⟨gb319, 0, none⟩ = some (.slice A0_0 l0_0.length c0_0) := (blk_cell BK319.out 0).trans rfl; have hcz108_1 : w106.cell? ⟨gb319, 1, none⟩ = some (.int .i64 a0_1) := (blk_cell BK319.out 1).trans rfl; have hfz108_0 := blk_frozen BK319.out 0; have hfz108_1 := blk_frozen BK319.out 1) | ((with_reducible refine gate_callee (f := 25) rfl ?_); refine goesL_ (some 117) rfl rfl Try.func25 (by kernel_rfl) rfl #[.agg #[.slice A0_0 l0_0.length c0_0, .int .i64 a0_1]] rfl (by (try simp only [List.map_toArray, List.map_cons, List.map_nil]); first | done | rfl | (simp only [List.length_drop, List.length_take]; rfl)) ?_; (with_reducible refine (laws_toInstrument.calls kj69 _ _ l0_0 a0_1 t376 t379 _ ?side1 ?side2 A100.out).mono ?_); (case side1 => repeat (first | exact (Kd.C_below HR0_0.out bl) | (with_reducible refine Kd.C_alloc ?_ _) | (with_reducible refine Kd.C_drewN ?_ _) | (with_reducible refine Kd.C_drew ?_))); (case side2 => exact HC0_0.out); rintro e w109 ⟨v377, rfl, ho0, hb⟩; refine ⟨_, rfl, ?_⟩; have n0_ := Aside0.mk (Kd.R_elder' (rup HO_8.out) (Kd.R_base ho0) hb); have n1_ := Aside0.mk (Kd.R_elder' (rup HO_13.out) (Kd.R_base ho0) hb); have n2_ := Aside0.mk (Kd.R_elder' (rup HO_342000.out) (Kd.R_base ho0) hb); have n3_ := Aside0.mk (Kd.R_lower (Kd.R_new' (Kd.R_new' (Kd.R_new' ho0 (Kd.R_lt (rup HO_8.out))) (Kd.R_lt (rup HO_13.out))) (Kd.R_lt (rup HO_342000.out))) (below_size bl)); have n4_ := Aside0.mk (blk_below (g := gb319) (o := .cells #[.slice A0_0 l0_0.length c0_0, .int .i64 a0_1] 36 (0, 0)) (bup BK319.out) hb); have n5_ := Aside0.mk (blk_below (g := gb341) (o := .cells #[.slice Ao42 t367.length co42, .int .i64 t340] 44 (0, 0)) (bup BK341.out) hb); have n6_ := Aside0.mk (below_step bl hb); clear HO_8; clear HO_13; clear HO_342000; clear BK319; clear BK341; clear HB; have HO_8 := n0_; have HO_13 := n1_; have HO_342000 := n2_; have HO378 := n3_; have BK319 := n4_; have BK341 := n5_; have HB := n6_; clear n0_ n1_ n2_ n3_ n4_ n5_ n6_; (try clear hb); (try clear hb2); (try clear hk); (try clear hi); (try clear ho0)) | ((with_reducible refine gate_callee (f := 26) rfl ?_); refine goesL_ (some 119) rfl rfl Try.func26 (by kernel_rfl) rfl #[.slice A1 l1.length c1] rfl (by (try simp only [List.map_toArray, List.map_cons, List.map_nil]); first | done | rfl | (simp only [List.length_drop, List.length_take]; rfl)) ?_; (with_reducible refine (laws_toNoteS.calls kj69 _ _ l1 t380 _ ?side1 ?side2 A101.out).mono ?_); (case side1 => repeat (first | exact (Kd.C_below HR1.out HB.out) | (with_reducible refine Kd.C_alloc ?_ _) | (with_reducible refine Kd.C_drewN ?_ _) | (with_reducible refine Kd.C_drew ?_))); (case side2 => exact HC1.out); rintro e w110 ⟨v381, rfl, ho0, hb⟩; refine ⟨_, rfl, ?_⟩; have n0_ := Aside0.mk (Kd.R_below (rup HO_8.out) hb); have n1_ := Aside0.mk (Kd.R_below (rup HO_13.out) hb); have n2_ := Aside0.mk (Kd.R_below (rup HO_342000.out) hb); have n3_ := Aside0.mk (Kd.R_below (rup HO378.out) hb); have n4_ := Aside0.mk (Kd.R_lower ho0 (below_size bl)); have n5_ := Aside0.mk (blk_below (g := gb319) (o := .cells #[.slice A0_0 l0_0.length c0_0, .int .i64 a0_1] 36 (0, 0)) (bup BK319.out) hb); have n6_ := Aside0.mk (blk_below (g := gb341) (o := .cells #[.slice Ao42 t367.length co42, .int .i64 t340] 44 (0, 0)) (bup BK341.out) hb); have n7_ := Aside0.mk (below_step bl hb); clear HO_8; clear HO_13; clear HO_342000; clear HO378; clear BK319; clear BK341; clear HB; have HO_8 := n0_; have HO_13 := n1_; have HO_342000 := n2_; have HO378 := n3_; have HO382 := n4_; have BK319 := n5_; have BK341 := n6_; have HB := n7_; clear n0_ n1_ n2_ n3_ n4_ n5_ n6_ n7_; (try clear hb); (try clear hb2); (try clear hk); (try clear hi); (try clear ho0)) | ((with_reducible refine gate_callee (f := 13) rfl ?_); refine goesL_ (some 121) rfl rfl Try.func13 (by kernel_rfl) rfl #[.slice A2 l2.length c2] rfl (by (try simp only [List.map_toArray, List.map_cons, List.map_nil]); first | done | rfl | (simp only [List.length_drop, List.length_take]; rfl)) ?_; (with_reducible refine (laws_toHoleS.calls kj69 _ _ l2 t383 _ ?side1 ?side2 A102.out).mono ?_); (case side1 => repeat (first | exact (Kd.C_below HR2.out HB.out) | (with_reducible refine Kd.C_alloc ?_ _) | (with_reducible refine Kd.C_drewN ?_ _) | (with_reducible refine Kd.C_drew ?_))); (case side2 => exact HC2.out); rintro e w111 ⟨v384, rfl, ho0, hb⟩; refine ⟨_, rfl, ?_⟩; have n0_ := Aside0.mk (Kd.R_below (rup HO_8.out) hb); have n1_ := Aside0.mk (Kd.R_below (rup HO_13.out) hb); have n2_ := Aside0.mk (Kd.R_below (rup HO_342000.out) hb); have n3_ := Aside0.mk (Kd.R_below (rup HO378.out) hb); have n4_ := Aside0.mk (Kd.R_below (rup HO382.out) hb); have n5_ := Aside0.mk (Kd.R_lower ho0 (below_size bl)); have n6_ := Aside0.mk (blk_below (g := gb319) (o := .cells #[.slice A0_0 l0_0.length c0_0, .int .i64 a0_1] 36 (0, 0)) (bup BK319.out) hb); have n7_ := Aside0.mk (blk_below (g := gb341) (o := .cells #[.slice Ao42 t367.length co42, .int .i64 t340] 44 (0, 0)) (bup BK341.out) hb); have n8_ := Aside0.mk (below_step bl hb); clear HO_8; clear HO_13; clear HO_342000; clear HO378; clear HO382; clear BK319; clear BK341; clear HB; have HO_8 := n0_; have HO_13 := n1_; have HO_342000 := n2_; have HO378 := n3_; have HO382 := n4_; have HO385 := n5_; have BK319 := n6_; have BK341 := n7_; have HB := n8_; clear n0_ n1_ n2_ n3_ n4_ n5_ n6_ n7_ n8_; (try clear hb); (try clear hb2); (try clear hk); (try clear hi); (try clear ho0); obtain ⟨Ao112, co112, eo112⟩ := Kd.R_slice HO378.out; subst eo112; obtain ⟨Ao113, co113, eo113⟩ := Kd.R_slice HO382.out; subst eo113; obtain ⟨Ao114, co114, eo114⟩ := Kd.R_slice HO385.out; subst eo114) | ((with_reducible refine gate_callee (f := 32) rfl ?_); refine goesL_ (some 122) rfl rfl Try.func32 (by kernel_rfl) rfl #[.agg #[.slice Ao112 t376.length co112, .int .i64 t379], .slice Ao113 t380.length co113, .slice Ao114 t383.length co114] rfl (by (try simp only [List.map_toArray, List.map_cons, List.map_nil]); first | done | rfl | (simp only [List.length_drop, List.length_take]; rfl)) ?_; (with_reducible refine (impl_ExtraHoles.calls kj69 _ _ t376 t379 _ _ t380 _ _ t383 t386 t389 _ ?side1 ?side2 ?side3 ?side4 ?side5 ?side6 A103.out).mono ?_); (case side1 => repeat (first | exact (Kd.R_reads' HO378.out).2.2 | (with_reducible refine Kd.C_alloc ?_ _) | (with_reducible refine Kd.C_drewN ?_ _) | (with_reducible refine Kd.C_drew ?_))); (case side2 => exact (Kd.R_reads' HO378.out).2.1); (case side3 => repeat (first | exact (Kd.R_reads' HO382.out).2.2 | (with_reducible refine Kd.C_alloc ?_ _) | (with_reducible refine Kd.C_drewN ?_ _) | (with_reducible refine Kd.C_drew ?_))); (case side4 => exact (Kd.R_reads' HO382.out).2.1); (case side5 => repeat (first | exact (Kd.R_reads' HO385.out).2.2 | (with_reducible refine Kd.C_alloc ?_ _) | (with_reducible refine Kd.C_drewN ?_ _) | (with_reducible refine Kd.C_drew ?_))); (case side6 => exact (Kd.R_reads' HO385.out).2.1); rintro e w115 ⟨v387, rfl, ho0, hb⟩; refine ⟨_, rfl, ?_⟩; have n0_ := Aside0.mk (Kd.R_elder' (rup HO_8.out) (Kd.R_base ho0) hb); have n1_ := Aside0.mk (Kd.R_elder' (rup HO_13.out) (Kd.R_base ho0) hb); have n2_ := Aside0.mk (Kd.R_elder' (rup HO_342000.out) (Kd.R_base ho0) hb); have n3_ := Aside0.mk (Kd.R_elder' (rup HO378.out) (Kd.R_base ho0) hb); have n4_ := Aside0.mk (Kd.R_below (rup HO382.out) hb); have n5_ := Aside0.mk (Kd.R_below (rup HO385.out) hb); have n6_ := Aside0.mk (Kd.R_lower (Kd.R_new' (Kd.R_new' (Kd.R_new' (Kd.R_new' ho0 (Kd.R_lt (rup HO_8.out))) (Kd.R_lt (rup HO_13.out))) (Kd.R_lt (rup HO_342000.out))) (Kd.R_lt (rup HO378.out))) (below_size bl)); have n7_ := Aside0.mk (blk_below (g := gb319) (o := .cells #[.slice A0_0 l0_0.length c0_0, .int .i64 a0_1] 36 (0, 0)) (bup BK319.out) hb); have n8_ := Aside0.mk (blk_below (g := gb341) (o := .cells #[.slice Ao42 t367.length co42, .int .i64 t340] 44 (0, 0)) (bup BK341.out) hb); have n9_ := Aside0.mk (below_step bl hb); clear HO_8; clear HO_13; clear HO_342000; clear HO378; clear HO382; clear HO385; clear BK319; clear BK341; clear HB; have HO_8 := n0_; have HO_13 := n1_; have HO_342000 := n2_; have HO378 := n3_; have HO382 := n4_; have HO385 := n5_; have HO388 := n6_; have BK319 := n7_; have BK341 := n8_; have HB := n9_; clear n0_ n1_ n2_ n3_ n4_ n5_ n6_ n7_ n8_ n9_; (try clear hb); (try clear hb2); (try clear hk); (try clear hi); (try clear ho0)))
               (try simp only [Act.put, List.setIfInBounds_toArray, List.set_cons_zero, List.set_cons_succ])
               go_cut [133] (fun v133 wc => ∃ (kq : Nat) (x133_103 : Bool), v133 = .bool x133_103 ∧ Aside0 (laws_FnExactExtraHoles.j2 kq t374 t373 x133_103 = some r) ∧ Aside0 (kq ≤ kj69) ∧ Aside0 (Kd.R (Kd.int .i64) 3 wc w.heap.size (fun k_ => some k_ ≠ ((.slice Ao42 t367.length co42) : Value).ownBlock) (.slice Ao105 t348.length co105) t374) ∧ Aside0 (Kd.R (Kd.int .i64) 3 wc w.heap.size (fun k_ => some k_ ≠ ((.slice Ao105 t348.length co105) : Value).ownBlock) (.slice Ao42 t367.length co42) t367) ∧ Aside0 (wc.heap[gb319]? = some (.cells #[(.slice A0_0 l0_0.length c0_0), .int .i64 a0_1] 36 (0, 0))) ∧ Aside0 (wc.heap[gb341]? = some (.cells #[(.slice Ao42 t367.length co42), .int .i64 t340] 44 (0, 0))) ∧ Aside0 (Below w.heap.size w wc))
               case first =>
                have H := HC104.out
                clear HC104
                replace H := Option.bind_eq_some_iff.mp H
                obtain ⟨t390, A1160, H⟩ := H
                replace H : (if t390 = true then (laws_FnExactExtraHoles.j2 kj69 t374 t373 (t389 != t336)) else (laws_FnExactExtraHoles.j2 kj69 t374 t373 true)) = some r := H
                have A116 := Aside0.mk A1160
                clear A1160
                by_cases c117 : t390 = true
                ·subst c117
                 have H1 : (laws_FnExactExtraHoles.j2 kj69 t374 t373 (t389 != t336)) = some r := by rw [if_pos rfl] at H; exact H
                 clear H
                 have H := H1
                 clear H1
                 have H' := Aside0.mk H
                 clear H
                 obtain ⟨Ao118, co118, eo118⟩ := Kd.R_slice HO388.out
                 subst eo118
                 obtain ⟨Ao119, co119, eo119⟩ := Kd.R_slice HO_8.out
                 subst eo119
                 go_wp2_with (first | ((with_reducible refine gate_callee (f := 33) rfl ?_); refine goesL_ (some 127) rfl rfl Try.func33 (by kernel_rfl) rfl #[.slice Ao118 t386.length co118, .slice Ao119 t333.length co119] rfl (by (try simp only [List.map_toArray, List.map_cons, List.map_nil]); first | done | rfl | (simp only [List.length_drop, List.length_take]; rfl)) ?_; (with_reducible refine (laws_eqIntS.calls kj69 _ _ t386 _ _ t333 true _ ?side1 ?side2 ?side3 ?side4 A116.out).mono ?_); (case side1 => repeat (first | exact (Kd.R_reads' HO388.out).2.2 | (with_reducible refine Kd.C_alloc ?_ _) | (with_reducible refine Kd.C_drewN ?_ _) | (with_reducible refine Kd.C_drew ?_))); (case side2 => exact (Kd.R_reads' HO388.out).2.1); (case side3 => repeat (first | exact (Kd.R_reads' HO_8.out).2.2 | (with_reducible refine Kd.C_alloc ?_ _) | (with_reducible refine Kd.C_drewN ?_ _) | (with_reducible refine Kd.C_drew ?_))); (case side4 => exact (Kd.R_reads' HO_8.out).2.1); rintro e w' ⟨rfl, ⟨nd, rfl⟩⟩; refine ⟨_, rfl, ?_⟩))
                 go_meet
                 case rel => exact ⟨_, ((t389 != t336)), fin2, H', ⟨by have := HJ26.out; have := HJ69.out; first | omega | exact Nat.le_refl _⟩, ⟨by (try simp only [hl342000_69]); (with_reducible repeat (first | apply Kd.R_alloc | apply Kd.R_drewN | apply Kd.R_drew)); exact Kd.R_mono HO_13.out (fun _ hk => hk.1.1.2)⟩, ⟨by (try simp only [hl342000_69]); (with_reducible repeat (first | apply Kd.R_alloc | apply Kd.R_drewN | apply Kd.R_drew)); exact Kd.R_mono HO_342000.out (fun _ hk => hk.1.1.2)⟩, ⟨by (try simp only [hl342000_69]); (with_reducible repeat (first | refine blk_drewN ?_ _ | refine blk_drew ?_ | refine blk_alloc ?_ _)); exact BK319.out⟩, ⟨by (try simp only [hl342000_69]); (with_reducible repeat (first | refine blk_drewN ?_ _ | refine blk_drew ?_ | refine blk_alloc ?_ _)); exact BK341.out⟩, ⟨bl⟩⟩
                ·replace c117 := Bool.eq_false_iff.mpr c117
                 subst c117
                 have H1 : (laws_FnExactExtraHoles.j2 kj69 t374 t373 true) = some r := by rw [if_neg (show ¬ (false = true) by decide)] at H; exact H
                 clear H
                 have H := H1
                 clear H1
                 have H' := Aside0.mk H
                 clear H
                 obtain ⟨Ao120, co120, eo120⟩ := Kd.R_slice HO388.out
                 subst eo120
                 obtain ⟨Ao121, co121, eo121⟩ := Kd.R_slice HO_8.out
                 subst eo121
                 go_wp2_with (first | ((with_reducible refine gate_callee (f := 33) rfl ?_); refine goesL_ (some 127) rfl rfl Try.func33 (by kernel_rfl) rfl #[.slice Ao120 t386.length co120, .slice Ao121 t333.length co121] rfl (by (try simp only [List.map_toArray, List.map_cons, List.map_nil]); first | done | rfl | (simp only [List.length_drop, List.length_take]; rfl)) ?_; (with_reducible refine (laws_eqIntS.calls kj69 _ _ t386 _ _ t333 false _ ?side1 ?side2 ?side3 ?side4 A116.out).mono ?_); (case side1 => repeat (first | exact (Kd.R_reads' HO388.out).2.2 | (with_reducible refine Kd.C_alloc ?_ _) | (with_reducible refine Kd.C_drewN ?_ _) | (with_reducible refine Kd.C_drew ?_))); (case side2 => exact (Kd.R_reads' HO388.out).2.1); (case side3 => repeat (first | exact (Kd.R_reads' HO_8.out).2.2 | (with_reducible refine Kd.C_alloc ?_ _) | (with_reducible refine Kd.C_drewN ?_ _) | (with_reducible refine Kd.C_drew ?_))); (case side4 => exact (Kd.R_reads' HO_8.out).2.1); rintro e w' ⟨rfl, ⟨nd, rfl⟩⟩; refine ⟨_, rfl, ?_⟩))
                 go_meet
                 case rel => exact ⟨_, (true), fin2, H', ⟨by have := HJ26.out; have := HJ69.out; first | omega | exact Nat.le_refl _⟩, ⟨by (try simp only [hl342000_69]); (with_reducible repeat (first | apply Kd.R_alloc | apply Kd.R_drewN | apply Kd.R_drew)); exact Kd.R_mono HO_13.out (fun _ hk => hk.1.1.2)⟩, ⟨by (try simp only [hl342000_69]); (with_reducible repeat (first | apply Kd.R_alloc | apply Kd.R_drewN | apply Kd.R_drew)); exact Kd.R_mono HO_342000.out (fun _ hk => hk.1.1.2)⟩, ⟨by (try simp only [hl342000_69]); (with_reducible repeat (first | refine blk_drewN ?_ _ | refine blk_drew ?_ | refine blk_alloc ?_ _)); exact BK319.out⟩, ⟨by (try simp only [hl342000_69]); (with_reducible repeat (first | refine blk_drewN ?_ _ | refine blk_drew ?_ | refine blk_alloc ?_ _)); exact BK341.out⟩, ⟨bl⟩⟩
               case rest =>
                clear HC104
                try clear c1
                try clear c2
                try clear p2
                try clear c3
                try clear c4
                try clear c5
                try clear c5b0
                try clear c6
                try clear c8
                try clear c9
                try clear c10
                try clear c10b0
                try clear c11
                try clear c13
                try clear c15
                try clear c15b0
                try clear c16
                try clear c17
                try clear c22
                try clear c23
                try clear c25
                try clear c26
                try clear c29
                try clear c30
                try clear c31
                try clear c32
                try clear c33
                try clear c34
                try clear c35
                try clear c36
                try clear c37
                try clear c43
                try clear c52
                try clear c57
                try clear c60
                try clear c63
                try clear c66
                try clear c81
                try clear c86
                try clear c86b0
                try clear c88
                try clear c93
                try clear c96
                try clear c96b0
                try clear c99
                try clear c99b0
                try clear c99b1
                try clear c107
                try clear c117
                try clear hcz108_0
                try clear hcz108_1
                try clear hcz12_0
                try clear hcz12_1
                try clear hcz17_0
                try clear hcz17_1
                try clear hcz29_0
                try clear hcz29_1
                try clear hcz31_0
                try clear hcz31_1
                try clear hcz39_0
                try clear hcz39_1
                try clear hcz44_0
                try clear hcz44_1
                try clear hcz47_0
                try clear hcz47_1
                try clear hcz7_0
                try clear hcz7_1
                try clear hcz82_0
                try clear hcz82_1
                try clear hfz108_0
                try clear hfz108_1
                try clear hfz12_0
                try clear hfz12_1
                try clear hfz17_0
                try clear hfz17_1
                try clear hfz29_0
                try clear hfz29_1
                try clear hfz31_0
                try clear hfz31_1
                try clear hfz39_0
                try clear hfz39_1
                try clear hfz44_0
                try clear hfz44_1
                try clear hfz47_0
                try clear hfz47_1
                try clear hfz7_0
                try clear hfz7_1
                try clear hfz82_0
                try clear hfz82_1
                try clear p2
                obtain ⟨kq, x133_103, rfl, HA, HJ103, HO_13, HO_342000, BK319, BK341, HB⟩ := hcut
                have hl13_103 := (Kd.R_reads' HO_13.out).1
                rw [hl13_103] at HO_13
                (try simp only [hl13_103])
                (try simp only [hl13_103] at BK319)
                (try simp only [hl13_103] at BK341)
                (try simp only [hl13_103] at HO_342000)
                cases kq with
                | zero => exact absurd HA.out (by simp [laws_FnExactExtraHoles.j2])
                | succ kj103 =>
                 have H := HA.out
                 clear HA
                 simp only [laws_FnExactExtraHoles.j2] at H
                 by_cases c122 : x133_103 = true
                 ·subst c122
                  have H1 : (some false) = some r := by rw [if_pos rfl] at H; exact H
                  clear H
                  have H := H1
                  clear H1
                  obtain rfl := Option.some.inj H
                  exact absurd hrt.out (by simp)
                 ·replace c122 := Bool.eq_false_iff.mpr c122
                  subst c122
                  have H1 : ((laws_heldIntS.f kj103 t374 1).bind fun t391 => (if t391 < 0 then (some false) else (if t391 = t373 then (some true) else (some false)))) = some r := by rw [if_neg (show ¬ (false = true) by decide)] at H; exact H
                  clear H
                  have H := H1
                  clear H1
                  replace H := Option.bind_eq_some_iff.mp H
                  obtain ⟨t391, A1230, H⟩ := H
                  replace H : (if t391 < 0 then (some false) else (if t391 = t373 then (some true) else (some false))) = some r := H
                  have A123 := Aside0.mk A1230
                  clear A1230
                  by_cases c124 : t391 < 0
                  ·rw [if_pos c124] at H
                   have c124b0 : decide (t391 < 0) = true := decide_eq_true c124
                   clear c124
                   obtain rfl := Option.some.inj H
                   go_wp2_with (first | ((with_reducible refine gate_callee (f := 37) rfl ?_); refine goesL_ (some 136) rfl rfl Try.func37 (by kernel_rfl) rfl #[.slice Ao105 t374.length co105, .int .i64 1] rfl (by (try simp only [List.map_toArray, List.map_cons, List.map_nil]); first | done | rfl | (simp only [List.length_drop, List.length_take]; rfl)) ?_; (with_reducible refine (laws_heldIntS.calls kj103 _ _ t374 1 t391 _ ?side1 ?side2 A123.out).mono ?_); (case side1 => repeat (first | exact (Kd.R_reads' HO_13.out).2.2 | (with_reducible refine Kd.C_alloc ?_ _) | (with_reducible refine Kd.C_drewN ?_ _) | (with_reducible refine Kd.C_drew ?_))); (case side2 => exact (Kd.R_reads' HO_13.out).2.1); rintro e w' ⟨rfl, ⟨nd, rfl⟩⟩; refine ⟨_, rfl, ?_⟩))
                   go_ret
                   exact ⟨fin1, bl⟩
                  ·rw [if_neg c124] at H
                   have c124b0 : decide (t391 < 0) = false := decide_eq_false c124
                   clear c124
                   by_cases c125 : t391 = t373
                   ·rw [if_pos c125] at H
                    have c125b0 : (t391 == t373) = true := beq_iff_eq.mpr c125
                    have c125b1 : (t391 != t373) = false := bne_eq_false_iff_eq.mpr c125
                    clear c125
                    obtain rfl := Option.some.inj H
                    go_wp2_with (first | ((with_reducible refine gate_callee (f := 37) rfl ?_); refine goesL_ (some 136) rfl rfl Try.func37 (by kernel_rfl) rfl #[.slice Ao105 t374.length co105, .int .i64 1] rfl (by (try simp only [List.map_toArray, List.map_cons, List.map_nil]); first | done | rfl | (simp only [List.length_drop, List.length_take]; rfl)) ?_; (with_reducible refine (laws_heldIntS.calls kj103 _ _ t374 1 t391 _ ?side1 ?side2 A123.out).mono ?_); (case side1 => repeat (first | exact (Kd.R_reads' HO_13.out).2.2 | (with_reducible refine Kd.C_alloc ?_ _) | (with_reducible refine Kd.C_drewN ?_ _) | (with_reducible refine Kd.C_drew ?_))); (case side2 => exact (Kd.R_reads' HO_13.out).2.1); rintro e w' ⟨rfl, ⟨nd, rfl⟩⟩; refine ⟨_, rfl, ?_⟩))
                    go_ret
                    exact ⟨fin1, bl⟩
                   ·rw [if_neg c125] at H
                    have c125b0 : (t391 == t373) = false := beq_eq_false_iff_ne.mpr c125
                    have c125b1 : (t391 != t373) = true := bne_iff_ne.mpr c125
                    obtain rfl := Option.some.inj H
                    go_wp2_with (first | ((with_reducible refine gate_callee (f := 37) rfl ?_); refine goesL_ (some 136) rfl rfl Try.func37 (by kernel_rfl) rfl #[.slice Ao105 t374.length co105, .int .i64 1] rfl (by (try simp only [List.map_toArray, List.map_cons, List.map_nil]); first | done | rfl | (simp only [List.length_drop, List.length_take]; rfl)) ?_; (with_reducible refine (laws_heldIntS.calls kj103 _ _ t374 1 t391 _ ?side1 ?side2 A123.out).mono ?_); (case side1 => repeat (first | exact (Kd.R_reads' HO_13.out).2.2 | (with_reducible refine Kd.C_alloc ?_ _) | (with_reducible refine Kd.C_drewN ?_ _) | (with_reducible refine Kd.C_drew ?_))); (case side2 => exact (Kd.R_reads' HO_13.out).2.1); rintro e w' ⟨rfl, ⟨nd, rfl⟩⟩; refine ⟨_, rfl, ?_⟩))
                    go_ret
                    exact ⟨fin1, bl⟩
              ·rw [if_neg c99] at H
               have c99b0 : (t375 == t373) = false := beq_eq_false_iff_ne.mpr c99
               have c99b1 : (t375 != t373) = true := bne_iff_ne.mpr c99
               obtain rfl := Option.some.inj H
               obtain ⟨Ao126, co126, eo126⟩ := Kd.R_slice HO_13.out
               subst eo126
               go_wp2_with (first | ((with_reducible refine gate_callee (f := 36) rfl ?_); refine goesL_ (some 106) rfl rfl Try.func36 (by kernel_rfl) rfl #[.slice Ao126 t348.length co126, .int .i64 1] rfl (by (try simp only [List.map_toArray, List.map_cons, List.map_nil]); first | done | rfl | (simp only [List.length_drop, List.length_take]; rfl)) ?_; (with_reducible refine (laws_markIntS.calls kj69 (fun k_ => some k_ = (.slice Ao126 t348.length co126 : Value).ownBlock) (.slice Ao126 t348.length co126) t348 1 t373 t374 w _ ?side1 ?side2 A94.out).mono ?_); (case side1 => repeat (first | (with_reducible first | exact HB.out | apply below_alloc | apply pw_below_drewN | apply below_drew1 | refine below_set ?_ GE319.out | refine below_set ?_ GE341.out) | exact HB.out)); (case side2 => exact Kd.R_tight rfl HO_13.out); rintro e w127 ⟨rfl, hy0, hb, hkp⟩; refine ⟨_, rfl, ?_⟩; have n0_ := Aside0.mk (Kd.R_mono (ok' := fun k_ => some k_ ≠ (.slice Ao126 t348.length co126 : Value).ownBlock ∧ some k_ ≠ (.slice Ao42 t367.length co42 : Value).ownBlock) (Kd.R_keptB (HO_8.out) hkp (fun k_ hk_ hs_ => (hk_.1) hs_)) (fun k_ hk_ => ⟨hk_.1.1, hk_.1.2⟩)); have n1_ := Aside0.mk (Kd.R_reok rfl hy0 (fun k_ e_ => HO_13.out.1 k_ e_)); have n2_ := Aside0.mk (Kd.R_mono (ok' := fun k_ => some k_ ≠ (v334 : Value).ownBlock ∧ some k_ ≠ (.slice Ao126 t348.length co126 : Value).ownBlock) (Kd.R_keptB (HO_342000.out) hkp (fun k_ hk_ hs_ => (hk_.2) hs_)) (fun k_ hk_ => ⟨hk_.1.1, hk_.1.2⟩)); have n3_ := Aside0.mk (blk_kept (bup BK319.out) hkp (fun hs_ => (fun e_ => (Kd.R_ne HO_13.out BK319.out (by decide)) e_) hs_)); have n4_ := Aside0.mk (blk_kept (bup BK341.out) hkp (fun hs_ => (fun e_ => (Kd.R_ne HO_13.out BK341.out (by decide)) e_) hs_)); have n5_ := Aside0.mk (hb); clear HO_8; clear HO_13; clear HO_342000; clear BK319; clear BK341; clear HB; have HO_8 := n0_; have HO_13 := n1_; have HO_342000 := n2_; have BK319 := n3_; have BK341 := n4_; have HB := n5_; clear n0_ n1_ n2_ n3_ n4_ n5_; (try clear hb); (try clear hkp); (try clear hy0)) | ((with_reducible refine gate_callee (f := 37) rfl ?_); refine goesL_ (some 109) rfl rfl Try.func37 (by kernel_rfl) rfl #[.slice Ao126 t374.length co126, .int .i64 1] rfl (by (try simp only [List.map_toArray, List.map_cons, List.map_nil]); first | done | (rw [show t374.length = t348.length from (Kd.R_reads' HO_13.out).1.symm] <;> rfl) | rfl | (simp only [List.length_drop, List.length_take]; rfl)) ?_; (with_reducible refine (laws_heldIntS.calls kj69 _ _ t374 1 t375 _ ?side1 ?side2 A95.out).mono ?_); (case side1 => repeat (first | exact (Kd.R_reads' HO_13.out).2.2 | (with_reducible refine Kd.C_alloc ?_ _) | (with_reducible refine Kd.C_drewN ?_ _) | (with_reducible refine Kd.C_drew ?_))); (case side2 => rw [show t374.length = t348.length from (Kd.R_reads' HO_13.out).1.symm]; exact (Kd.R_reads' HO_13.out).2.1); rintro e w' ⟨rfl, ⟨nd, rfl⟩⟩; refine ⟨_, rfl, ?_⟩))
               go_ret
               exact ⟨fin1, bl⟩
         ·replace c66 := Bool.eq_false_iff.mpr c66
          subst c66
          have H1 : (some false) = some r := by rw [if_neg (show ¬ (false = true) by decide)] at H; exact H
          clear H
          have H := H1
          clear H1
          obtain rfl := Option.some.inj H
          exact absurd hrt.out (by simp)
        ·replace c63 := Bool.eq_false_iff.mpr c63
         subst c63
         have H1 : (some false) = some r := by rw [if_neg (show ¬ (false = true) by decide)] at H; exact H
         clear H
         have H := H1
         clear H1
         obtain rfl := Option.some.inj H
         exact absurd hrt.out (by simp)
       ·replace c60 := Bool.eq_false_iff.mpr c60
        subst c60
        have H1 : (some false) = some r := by rw [if_neg (show ¬ (false = true) by decide)] at H; exact H
        clear H
        have H := H1
        clear H1
        obtain rfl := Option.some.inj H
        exact absurd hrt.out (by simp)
end Go.Proofs.Ytjniaiobnbdhhab.PFnExactExtraHoles
