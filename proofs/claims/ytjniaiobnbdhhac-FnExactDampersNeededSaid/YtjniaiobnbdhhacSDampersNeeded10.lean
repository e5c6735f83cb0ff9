/- The walks of functions that FnExactDampersNeeded reaches: what they return is what the plain functions of the same names say. Made by a program of this session after the kit's print. No conditions beyond the arguments' being read. -/
import Derived.Test.YtjniaiobnbdhhacSDampersNeeded0
import Derived.Test.YtjniaiobnbdhhacSDampersNeeded1
import Derived.Test.YtjniaiobnbdhhacSDampersNeeded3
import Derived.Test.YtjniaiobnbdhhacSDampersNeeded4
import Derived.Test.YtjniaiobnbdhhacSDampersNeeded7
import Derived.Test.YtjniaiobnbdhhacSDampersNeeded8
import Derived.Test.YtjniaiobnbdhhacSDampersNeeded9
namespace Go.Proofs.Ytjniaiobnbdhhac.PFnExactDampersNeeded
open Go.RowKit Go.Proofs.YtjniaiobnbdhhacW.PrintWords Go.Proofs.YtjniaiobnbdhhacW.PrintLast Go.Proofs.YtjniaiobnbdhhacW.PrintMore
attribute [local go_sem] max2_int min2_int max_two min_two max_three min_three max_four min_four   -- for this text's walks alone
set_option linter.unusedVariables false
set_option linter.unusedSimpArgs false

/-! ### laws_FnExactDampersNeeded: function 5 -/
mutual
def laws_FnExactDampersNeeded.j0 : Nat → List (S102) → List (S104) → Int → Int → List Int → Bool → List (S99) → List (S97) → List Int → Bool → Bool → Option (Bool)
 | 0, _, _, _, _, _, _, _, _, _, _, _ => none
 | k + 1, x0, x1, x2, x3, x10, x11, x12, x13, x14, x15, x61 => if x61 = true then (some false) else ((laws_toToothS.f k x0).bind fun t313 => ((laws_eqToothS.f k x12 t313).bind fun t316 => (if t316 = true then ((laws_toStrikeS.f k x1).bind fun t317 => ((laws_eqStrikeS.f k x13 t317).bind fun t320 => (if t320 = true then ((laws_markToothS.f k x12 1).bind fun bt321 => ((laws_markStrikeS.f k x13 bt321.1).bind fun bt323 => (if bt323.1 < 0 then (laws_FnExactDampersNeeded.j1 k x0 x1 x2 x3 x10 x11 x14 true) else ((laws_eqIntS.f k x14 x10).bind fun t325 => (if t325 = true then (laws_FnExactDampersNeeded.j1 k x0 x1 x2 x3 x10 x11 x14 (x15 != x11)) else (laws_FnExactDampersNeeded.j1 k x0 x1 x2 x3 x10 x11 x14 true)))))) else (some false)))) else (some false))))
def laws_FnExactDampersNeeded.j1 : Nat → List (S102) → List (S104) → Int → Int → List Int → Bool → List Int → Bool → Option (Bool)
 | 0, _, _, _, _, _, _, _, _ => none
 | k + 1, x0, x1, x2, x3, x10, x11, x14, x90 => if x90 = true then (some false) else ((laws_markIntS.f k x14 1).bind fun bt326 => ((laws_heldIntS.f k bt326.2 1).bind fun t328 => (if t328 < 0 then (some false) else (if t328 = bt326.1 then ((laws_toToothS.f k x0).bind fun t329 => ((laws_toStrikeS.f k x1).bind fun t332 => ((impl_DampersNeeded.f k t329 t332 x2 x3).bind fun bt335 => ((laws_eqIntS.f k bt335.1 x10).bind fun t339 => (if t339 = true then (laws_FnExactDampersNeeded.j2 k bt326.2 bt326.1 (bt335.2 != x11)) else (laws_FnExactDampersNeeded.j2 k bt326.2 bt326.1 true)))))) else (some false)))))
def laws_FnExactDampersNeeded.j2 : Nat → List Int → Int → Bool → Option (Bool)
 | 0, _, _, _ => none
 | k + 1, x14, x17, x120 => if x120 = true then (some false) else ((laws_heldIntS.f k x14 1).bind fun t340 => (if t340 < 0 then (some false) else (if t340 = x17 then (some true) else (some false))))
end
def laws_FnExactDampersNeeded.f (k : Nat) (l0 : List (S102)) (l1 : List (S104)) (a2 : Int) (a3 : Int) : Option (Bool) := (laws_szToothS.f l0 1048576).bind fun t290 => (if t290 < 0 then (some true) else ((laws_szStrikeS.f l1 t290).bind fun t291 => (if t291 < 0 then (some true) else ((laws_toToothS.f k l0).bind fun t292 => ((laws_toStrikeS.f k l1).bind fun t295 => ((spec_DampersNeeded.f k t292 t295 a2 a3).bind fun bt298 => ((laws_toToothS.f k l0).bind fun t302 => ((laws_toStrikeS.f k l1).bind fun t305 => ((impl_DampersNeeded.f k t302 t305 a2 a3).bind fun bt308 => ((laws_eqIntS.f k bt308.1 bt298.1).bind fun t312 => (if t312 = true then (laws_FnExactDampersNeeded.j0 k l0 l1 a2 a3 bt298.1 bt298.2 t302 t305 bt308.1 bt308.2 (bt308.2 != bt298.2)) else (laws_FnExactDampersNeeded.j0 k l0 l1 a2 a3 bt298.1 bt298.2 t302 t305 bt308.1 bt308.2 true))))))))))))
set_option maxHeartbeats 8000000 in
set_option maxRecDepth 100000 in
theorem laws_FnExactDampersNeeded.calls (k : Nat) (A0 : Option Addr) (c0 : Nat) (l0 : List (S102)) (A1 : Option Addr) (c1 : Nat) (l1 : List (S104)) (a2 : Int) (a3 : Int) (r : Bool) (w : World) (hr0 : Kd.C k102 w A0 l0.length l0) (hc0 : l0.length ≤ c0) (hr1 : Kd.C k104 w A1 l1.length l1) (hc1 : l1.length ≤ c1) (h : laws_FnExactDampersNeeded.f k l0 l1 a2 a3 = some r) (hrt : Aside0 (r = true)) :
  Calls Try.prog 5 #[.slice A0 l0.length c0, .slice A1 l1.length c1, .int .i64 a2, .int .i64 a3] w fun e w' => e = .returned (.bool r) ∧ Below w.heap.size w w' := by
 have HR0 := Aside0.mk hr0
 have HC0 := Aside0.mk hc0
 clear hr0 hc0
 have HR1 := Aside0.mk hr1
 have HC1 := Aside0.mk hc1
 clear hr1 hc1
 have HB := Aside0.mk (Below.refl w.heap.size w)
 have H : ((laws_szToothS.f l0 1048576).bind fun t290 => (if t290 < 0 then (some true) else ((laws_szStrikeS.f l1 t290).bind fun t291 => (if t291 < 0 then (some true) else ((laws_toToothS.f k l0).bind fun t292 => ((laws_toStrikeS.f k l1).bind fun t295 => ((spec_DampersNeeded.f k t292 t295 a2 a3).bind fun bt298 => ((laws_toToothS.f k l0).bind fun t302 => ((laws_toStrikeS.f k l1).bind fun t305 => ((impl_DampersNeeded.f k t302 t305 a2 a3).bind fun bt308 => ((laws_eqIntS.f k bt308.1 bt298.1).bind fun t312 => (if t312 = true then (laws_FnExactDampersNeeded.j0 k l0 l1 a2 a3 bt298.1 bt298.2 t302 t305 bt308.1 bt308.2 (bt308.2 != bt298.2)) else (laws_FnExactDampersNeeded.j0 k l0 l1 a2 a3 bt298.1 bt298.2 t302 t305 bt308.1 bt308.2 true))))))))))))) = some r := h
 clear h
 replace H := Option.bind_eq_some_iff.mp H
 obtain ⟨t290, A50, H⟩ := H
 replace H : (if t290 < 0 then (some true) else ((laws_szStrikeS.f l1 t290).bind fun t291 => (if t291 < 0 then (some true) else ((laws_toToothS.f k l0).bind fun t292 => ((laws_toStrikeS.f k l1).bind fun t295 => ((spec_DampersNeeded.f k t292 t295 a2 a3).bind fun bt298 => ((laws_toToothS.f k l0).bind fun t302 => ((laws_toStrikeS.f k l1).bind fun t305 => ((impl_DampersNeeded.f k t302 t305 a2 a3).bind fun bt308 => ((laws_eqIntS.f k bt308.1 bt298.1).bind fun t312 => (if t312 = true then (laws_FnExactDampersNeeded.j0 k l0 l1 a2 a3 bt298.1 bt298.2 t302 t305 bt308.1 bt308.2 (bt308.2 != bt298.2)) else (laws_FnExactDampersNeeded.j0 k l0 l1 a2 a3 bt298.1 bt298.2 t302 t305 bt308.1 bt308.2 true)))))))))))) = some r := H
 have A5 := Aside0.mk A50
 clear A50
 by_cases c6 : t290 < 0
 ·rw [if_pos c6] at H
  have c6b0 : decide (t290 < 0) = true := decide_eq_true c6
  clear c6
  obtain rfl := Option.some.inj H
  go_enter Try.func5, Try.ntmps5
  go_wp2_with (first | ((with_reducible refine gate_callee (f := 23) rfl ?_); refine goesL_ (some 23) rfl rfl Try.func23 (by kernel_rfl) rfl #[.slice A0 l0.length c0, .int .i64 1048576] rfl (by (try simp only [List.map_toArray, List.map_cons, List.map_nil]); first | done | rfl | (simp only [List.length_drop, List.length_take]; rfl)) ?_; (with_reducible refine (laws_szToothS.calls _ _ l0 1048576 t290 _ ?side1 ?side2 A5.out).mono ?_); (case side1 => repeat (first | exact HR0.out | (with_reducible refine Kd.C_alloc ?_ _) | (with_reducible refine Kd.C_drewN ?_ _) | (with_reducible refine Kd.C_drew ?_))); (case side2 => exact HC0.out); rintro e w' ⟨rfl, ⟨nd, rfl⟩⟩; refine ⟨_, rfl, ?_⟩))
  go_ret
  exact ⟨fin1, bl⟩
 ·rw [if_neg c6] at H
  have c6b0 : decide (t290 < 0) = false := decide_eq_false c6
  clear c6
  replace H := Option.bind_eq_some_iff.mp H
  obtain ⟨t291, A70, H⟩ := H
  replace H : (if t291 < 0 then (some true) else ((laws_toToothS.f k l0).bind fun t292 => ((laws_toStrikeS.f k l1).bind fun t295 => ((spec_DampersNeeded.f k t292 t295 a2 a3).bind fun bt298 => ((laws_toToothS.f k l0).bind fun t302 => ((laws_toStrikeS.f k l1).bind fun t305 => ((impl_DampersNeeded.f k t302 t305 a2 a3).bind fun bt308 => ((laws_eqIntS.f k bt308.1 bt298.1).bind fun t312 => (if t312 = true then (laws_FnExactDampersNeeded.j0 k l0 l1 a2 a3 bt298.1 bt298.2 t302 t305 bt308.1 bt308.2 (bt308.2 != bt298.2)) else (laws_FnExactDampersNeeded.j0 k l0 l1 a2 a3 bt298.1 bt298.2 t302 t305 bt308.1 bt308.2 true)))))))))) = some r := H
  have A7 := Aside0.mk A70
  clear A70
  by_cases c8 : t291 < 0
  ·rw [if_pos c8] at H
   have c8b0 : decide (t291 < 0) = true := decide_eq_true c8
   clear c8
   obtain rfl := Option.some.inj H
   go_enter Try.func5, Try.ntmps5
   go_wp2_with (first | ((with_reducible refine gate_callee (f := 23) rfl ?_); refine goesL_ (some 23) rfl rfl Try.func23 (by kernel_rfl) rfl #[.slice A0 l0.length c0, .int .i64 1048576] rfl (by (try simp only [List.map_toArray, List.map_cons, List.map_nil]); first | done | rfl | (simp only [List.length_drop, List.length_take]; rfl)) ?_; (with_reducible refine (laws_szToothS.calls _ _ l0 1048576 t290 _ ?side1 ?side2 A5.out).mono ?_); (case side1 => repeat (first | exact HR0.out | (with_reducible refine Kd.C_alloc ?_ _) | (with_reducible refine Kd.C_drewN ?_ _) | (with_reducible refine Kd.C_drew ?_))); (case side2 => exact HC0.out); rintro e w' ⟨rfl, ⟨nd, rfl⟩⟩; refine ⟨_, rfl, ?_⟩) | ((with_reducible refine gate_callee (f := 24) rfl ?_); refine goesL_ (some 28) rfl rfl Try.func24 (by kernel_rfl) rfl #[.slice A1 l1.length c1, .int .i64 t290] rfl (by (try simp only [List.map_toArray, List.map_cons, List.map_nil]); first | done | rfl | (simp only [List.length_drop, List.length_take]; rfl)) ?_; (with_reducible refine (laws_szStrikeS.calls _ _ l1 t290 t291 _ ?side1 ?side2 A7.out).mono ?_); (case side1 => repeat (first | exact HR1.out | (with_reducible refine Kd.C_alloc ?_ _) | (with_reducible refine Kd.C_drewN ?_ _) | (with_reducible refine Kd.C_drew ?_))); (case side2 => exact HC1.out); rintro e w' ⟨rfl, ⟨nd, rfl⟩⟩; refine ⟨_, rfl, ?_⟩))
   go_ret
   exact ⟨fin1, bl⟩
  ·rw [if_neg c8] at H
   have c8b0 : decide (t291 < 0) = false := decide_eq_false c8
   clear c8
   replace H := Option.bind_eq_some_iff.mp H
   obtain ⟨t292, A90, H⟩ := H
   replace H : ((laws_toStrikeS.f k l1).bind fun t295 => ((spec_DampersNeeded.f k t292 t295 a2 a3).bind fun bt298 => ((laws_toToothS.f k l0).bind fun t302 => ((laws_toStrikeS.f k l1).bind fun t305 => ((impl_DampersNeeded.f k t302 t305 a2 a3).bind fun bt308 => ((laws_eqIntS.f k bt308.1 bt298.1).bind fun t312 => (if t312 = true then (laws_FnExactDampersNeeded.j0 k l0 l1 a2 a3 bt298.1 bt298.2 t302 t305 bt308.1 bt308.2 (bt308.2 != bt298.2)) else (laws_FnExactDampersNeeded.j0 k l0 l1 a2 a3 bt298.1 bt298.2 t302 t305 bt308.1 bt308.2 true)))))))) = some r := H
   have A9 := Aside0.mk A90
   clear A90
   replace H := Option.bind_eq_some_iff.mp H
   obtain ⟨t295, A100, H⟩ := H
   replace H : ((spec_DampersNeeded.f k t292 t295 a2 a3).bind fun bt298 => ((laws_toToothS.f k l0).bind fun t302 => ((laws_toStrikeS.f k l1).bind fun t305 => ((impl_DampersNeeded.f k t302 t305 a2 a3).bind fun bt308 => ((laws_eqIntS.f k bt308.1 bt298.1).bind fun t312 => (if t312 = true then (laws_FnExactDampersNeeded.j0 k l0 l1 a2 a3 bt298.1 bt298.2 t302 t305 bt308.1 bt308.2 (bt308.2 != bt298.2)) else (laws_FnExactDampersNeeded.j0 k l0 l1 a2 a3 bt298.1 bt298.2 t302 t305 bt308.1 bt308.2 true))))))) = some r := H
   have A10 := Aside0.mk A100
   clear A100
   replace H := Option.bind_eq_some_iff.mp H
   obtain ⟨⟨t298, t299⟩, A110, H⟩ := H
   replace H : ((laws_toToothS.f k l0).bind fun t302 => ((laws_toStrikeS.f k l1).bind fun t305 => ((impl_DampersNeeded.f k t302 t305 a2 a3).bind fun bt308 => ((laws_eqIntS.f k bt308.1 t298).bind fun t312 => (if t312 = true then (laws_FnExactDampersNeeded.j0 k l0 l1 a2 a3 t298 t299 t302 t305 bt308.1 bt308.2 (bt308.2 != t299)) else (laws_FnExactDampersNeeded.j0 k l0 l1 a2 a3 t298 t299 t302 t305 bt308.1 bt308.2 true)))))) = some r := H
   have A11 := Aside0.mk A110
   clear A110
   replace H := Option.bind_eq_some_iff.mp H
   obtain ⟨t302, A120, H⟩ := H
   replace H : ((laws_toStrikeS.f k l1).bind fun t305 => ((impl_DampersNeeded.f k t302 t305 a2 a3).bind fun bt308 => ((laws_eqIntS.f k bt308.1 t298).bind fun t312 => (if t312 = true then (laws_FnExactDampersNeeded.j0 k l0 l1 a2 a3 t298 t299 t302 t305 bt308.1 bt308.2 (bt308.2 != t299)) else (laws_FnExactDampersNeeded.j0 k l0 l1 a2 a3 t298 t299 t302 t305 bt308.1 bt308.2 true))))) = some r := H
   have A12 := Aside0.mk A120
   clear A120
   replace H := Option.bind_eq_some_iff.mp H
   obtain ⟨t305, A130, H⟩ := H
   replace H : ((impl_DampersNeeded.f k t302 t305 a2 a3).bind fun bt308 => ((laws_eqIntS.f k bt308.1 t298).bind fun t312 => (if t312 = true then (laws_FnExactDampersNeeded.j0 k l0 l1 a2 a3 t298 t299 t302 t305 bt308.1 bt308.2 (bt308.2 != t299)) else (laws_FnExactDampersNeeded.j0 k l0 l1 a2 a3 t298 t299 t302 t305 bt308.1 bt308.2 true)))) = some r := H
   have A13 := Aside0.mk A130
   clear A130
   replace H := Option.bind_eq_some_iff.mp H
   obtain ⟨⟨t308, t309⟩, A140, H⟩ := H
   replace H : ((laws_eqIntS.f k t308 t298).bind fun t312 => (if t312 = true then (laws_FnExactDampersNeeded.j0 k l0 l1 a2 a3 t298 t299 t302 t305 t308 t309 (t309 != t299)) else (laws_FnExactDampersNeeded.j0 k l0 l1 a2 a3 t298 t299 t302 t305 t308 t309 true))) = some r := H
   have A14 := Aside0.mk A140
   clear A140
   have HC15 := Aside0.mk H
   clear H
   go_enter Try.func5, Try.ntmps5
   go_upto_region 12 with (first | ((with_reducible refine gate_callee (f := 23) rfl ?_); refine goesL_ (some 23) rfl rfl Try.func23 (by kernel_rfl) rfl #[.slice A0 l0.length c0, .int .i64 1048576] rfl (by (try simp only [List.map_toArray, List.map_cons, List.map_nil]); first | done | rfl | (simp only [List.length_drop, List.length_take]; rfl)) ?_; (with_reducible refine (laws_szToothS.calls _ _ l0 1048576 t290 _ ?side1 ?side2 A5.out).mono ?_); (case side1 => repeat (first | exact HR0.out | (with_reducible refine Kd.C_alloc ?_ _) | (with_reducible refine Kd.C_drewN ?_ _) | (with_reducible refine Kd.C_drew ?_))); (case side2 => exact HC0.out); rintro e w' ⟨rfl, ⟨nd, rfl⟩⟩; refine ⟨_, rfl, ?_⟩) | ((with_reducible refine gate_callee (f := 24) rfl ?_); refine goesL_ (some 28) rfl rfl Try.func24 (by kernel_rfl) rfl #[.slice A1 l1.length c1, .int .i64 t290] rfl (by (try simp only [List.map_toArray, List.map_cons, List.map_nil]); first | done | rfl | (simp only [List.length_drop, List.length_take]; rfl)) ?_; (with_reducible refine (laws_szStrikeS.calls _ _ l1 t290 t291 _ ?side1 ?side2 A7.out).mono ?_); (case side1 => repeat (first | exact HR1.out | (with_reducible refine Kd.C_alloc ?_ _) | (with_reducible refine Kd.C_drewN ?_ _) | (with_reducible refine Kd.C_drew ?_))); (case side2 => exact HC1.out); rintro e w' ⟨rfl, ⟨nd, rfl⟩⟩; refine ⟨_, rfl, ?_⟩) | ((with_reducible refine gate_callee (f := 26) rfl ?_); refine goesL_ (some 33) rfl rfl Try.func26 (by kernel_rfl) rfl #[.slice A0 l0.length c0] rfl (by (try simp only [List.map_toArray, List.map_cons, List.map_nil]); first | done | rfl | (simp only [List.length_drop, List.length_take]; rfl)) ?_; (with_reducible refine (laws_toToothS.calls k _ _ l0 t292 _ ?side1 ?side2 A9.out).mono ?_); (case side1 => repeat (first | exact HR0.out | (with_reducible refine Kd.C_alloc ?_ _) | (with_reducible refine Kd.C_drewN ?_ _) | (with_reducible refine Kd.C_drew ?_))); (case side2 => exact HC0.out); rintro e w16 ⟨v293, rfl, ho0, hb⟩; refine ⟨_, rfl, ?_⟩; have n0_ := Aside0.mk (Kd.R_lower ho0 (below_size bl)); have n1_ := Aside0.mk (below_step bl hb); clear HB; have HO294 := n0_; have HB := n1_; clear n0_ n1_; (try clear hb); (try clear hb2); (try clear hk); (try clear hi); (try clear ho0)) | ((with_reducible refine gate_callee (f := 27) rfl ?_); refine goesL_ (some 35) rfl rfl Try.func27 (by kernel_rfl) rfl #[.slice A1 l1.length c1] rfl (by (try simp only [List.map_toArray, List.map_cons, List.map_nil]); first | done | rfl | (simp only [List.length_drop, List.length_take]; rfl)) ?_; (with_reducible refine (laws_toStrikeS.calls k _ _ l1 t295 _ ?side1 ?side2 A10.out).mono ?_); (case side1 => repeat (first | exact (Kd.C_below HR1.out HB.out) | (with_reducible refine Kd.C_alloc ?_ _) | (with_reducible refine Kd.C_drewN ?_ _) | (with_reducible refine Kd.C_drew ?_))); (case side2 => exact HC1.out); rintro e w17 ⟨v296, rfl, ho0, hb⟩; refine ⟨_, rfl, ?_⟩; have n0_ := Aside0.mk (Kd.R_below (rup HO294.out) hb); have n1_ := Aside0.mk (Kd.R_lower ho0 (below_size bl)); have n2_ := Aside0.mk (below_step bl hb); clear HO294; clear HB; have HO294 := n0_; have HO297 := n1_; have HB := n2_; clear n0_ n1_ n2_; (try clear hb); (try clear hb2); (try clear hk); (try clear hi); (try clear ho0); obtain ⟨Ao18, co18, eo18⟩ := Kd.R_slice HO294.out; subst eo18; obtain ⟨Ao19, co19, eo19⟩ := Kd.R_slice HO297.out; subst eo19) | ((with_reducible refine gate_callee (f := 25) rfl ?_); refine goesL_ (some 38) rfl rfl Try.func25 (by kernel_rfl) rfl #[.slice Ao18 t292.length co18, .slice Ao19 t295.length co19, .int .i64 a2, .int .i64 a3] rfl (by (try simp only [List.map_toArray, List.map_cons, List.map_nil]); first | done | rfl | (simp only [List.length_drop, List.length_take]; rfl)) ?_; (with_reducible refine (spec_DampersNeeded.calls k _ _ t292 _ _ t295 a2 a3 t298 t299 _ ?side1 ?side2 ?side3 ?side4 A11.out).mono ?_); (case side1 => repeat (first | exact (Kd.R_reads' HO294.out).2.2 | (with_reducible refine Kd.C_alloc ?_ _) | (with_reducible refine Kd.C_drewN ?_ _) | (with_reducible refine Kd.C_drew ?_))); (case side2 => exact (Kd.R_reads' HO294.out).2.1); (case side3 => repeat (first | exact (Kd.R_reads' HO297.out).2.2 | (with_reducible refine Kd.C_alloc ?_ _) | (with_reducible refine Kd.C_drewN ?_ _) | (with_reducible refine Kd.C_drew ?_))); (case side4 => exact (Kd.R_reads' HO297.out).2.1); rintro e w20 ⟨v300, rfl, ho0, hb⟩; refine ⟨_, rfl, ?_⟩; have n0_ := Aside0.mk (Kd.R_below (rup HO294.out) hb); have n1_ := Aside0.mk (Kd.R_below (rup HO297.out) hb); have n2_ := Aside0.mk (Kd.R_lower ho0 (below_size bl)); have n3_ := Aside0.mk (below_step bl hb); clear HO294; clear HO297; clear HB; have HO294 := n0_; have HO297 := n1_; have HO301 := n2_; have HB := n3_; clear n0_ n1_ n2_ n3_; (try clear hb); (try clear hb2); (try clear hk); (try clear hi); (try clear ho0)) | ((with_reducible refine gate_callee (f := 26) rfl ?_); refine goesL_ (some 42) rfl rfl Try.func26 (by kernel_rfl) rfl #[.slice A0 l0.length c0] rfl (by (try simp only [List.map_toArray, List.map_cons, List.map_nil]); first | done | rfl | (simp only [List.length_drop, List.length_take]; rfl)) ?_; (with_reducible refine (laws_toToothS.calls k _ _ l0 t302 _ ?side1 ?side2 A12.out).mono ?_); (case side1 => repeat (first | exact (Kd.C_below HR0.out HB.out) | (with_reducible refine Kd.C_alloc ?_ _) | (with_reducible refine Kd.C_drewN ?_ _) | (with_reducible refine Kd.C_drew ?_))); (case side2 => exact HC0.out); rintro e w21 ⟨v303, rfl, ho0, hb⟩; refine ⟨_, rfl, ?_⟩; have n0_ := Aside0.mk (Kd.R_elder' (rup HO294.out) (Kd.R_base ho0) hb); have n1_ := Aside0.mk (Kd.R_below (rup HO297.out) hb); have n2_ := Aside0.mk (Kd.R_below (rup HO301.out) hb); have n3_ := Aside0.mk (Kd.R_lower (Kd.R_new' ho0 (Kd.R_lt (rup HO294.out))) (below_size bl)); have n4_ := Aside0.mk (below_step bl hb); clear HO294; clear HO297; clear HO301; clear HB; have HO294 := n0_; have HO297 := n1_; have HO301 := n2_; have HO304 := n3_; have HB := n4_; clear n0_ n1_ n2_ n3_ n4_; (try clear hb); (try clear hb2); (try clear hk); (try clear hi); (try clear ho0)) | ((with_reducible refine gate_callee (f := 27) rfl ?_); refine goesL_ (some 44) rfl rfl Try.func27 (by kernel_rfl) rfl #[.slice A1 l1.length c1] rfl (by (try simp only [List.map_toArray, List.map_cons, List.map_nil]); first | done | rfl | (simp only [List.length_drop, List.length_take]; rfl)) ?_; (with_reducible refine (laws_toStrikeS.calls k _ _ l1 t305 _ ?side1 ?side2 A13.out).mono ?_); (case side1 => repeat (first | exact (Kd.C_below HR1.out HB.out) | (with_reducible refine Kd.C_alloc ?_ _) | (with_reducible refine Kd.C_drewN ?_ _) | (with_reducible refine Kd.C_drew ?_))); (case side2 => exact HC1.out); rintro e w22 ⟨v306, rfl, ho0, hb⟩; refine ⟨_, rfl, ?_⟩; have n0_ := Aside0.mk (Kd.R_below (rup HO294.out) hb); have n1_ := Aside0.mk (Kd.R_elder' (rup HO297.out) (Kd.R_base ho0) hb); have n2_ := Aside0.mk (Kd.R_below (rup HO301.out) hb); have n3_ := Aside0.mk (Kd.R_below (rup HO304.out) hb); have n4_ := Aside0.mk (Kd.R_lower (Kd.R_new' ho0 (Kd.R_lt (rup HO297.out))) (below_size bl)); have n5_ := Aside0.mk (below_step bl hb); clear HO294; clear HO297; clear HO301; clear HO304; clear HB; have HO294 := n0_; have HO297 := n1_; have HO301 := n2_; have HO304 := n3_; have HO307 := n4_; have HB := n5_; clear n0_ n1_ n2_ n3_ n4_ n5_; (try clear hb); (try clear hb2); (try clear hk); (try clear hi); (try clear ho0); obtain ⟨Ao23, co23, eo23⟩ := Kd.R_slice HO304.out; subst eo23; obtain ⟨Ao24, co24, eo24⟩ := Kd.R_slice HO307.out; subst eo24) | ((with_reducible refine gate_callee (f := 28) rfl ?_); refine goesL_ (some 50) rfl rfl Try.func28 (by kernel_rfl) rfl #[.slice Ao23 t302.length co23, .slice Ao24 t305.length co24, .int .i64 a2, .int .i64 a3] rfl (by (try simp only [List.map_toArray, List.map_cons, List.map_nil]); first | done | rfl | (simp only [List.length_drop, List.length_take]; rfl)) ?_; (with_reducible refine (impl_DampersNeeded.calls k _ _ t302 _ _ t305 a2 a3 t308 t309 _ ?side1 ?side2 ?side3 ?side4 A14.out).mono ?_); (case side1 => repeat (first | exact (Kd.R_reads' HO304.out).2.2 | (with_reducible refine Kd.C_alloc ?_ _) | (with_reducible refine Kd.C_drewN ?_ _) | (with_reducible refine Kd.C_drew ?_))); (case side2 => exact (Kd.R_reads' HO304.out).2.1); (case side3 => repeat (first | exact (Kd.R_reads' HO307.out).2.2 | (with_reducible refine Kd.C_alloc ?_ _) | (with_reducible refine Kd.C_drewN ?_ _) | (with_reducible refine Kd.C_drew ?_))); (case side4 => exact (Kd.R_reads' HO307.out).2.1); rintro e w25 ⟨v310, rfl, ho0, hb⟩; refine ⟨_, rfl, ?_⟩; have n0_ := Aside0.mk (Kd.R_below (rup HO294.out) hb); have n1_ := Aside0.mk (Kd.R_below (rup HO297.out) hb); have n2_ := Aside0.mk (Kd.R_elder' (rup HO301.out) (Kd.R_base ho0) hb); have n3_ := Aside0.mk (Kd.R_below (rup HO304.out) hb); have n4_ := Aside0.mk (Kd.R_below (rup HO307.out) hb); have n5_ := Aside0.mk (Kd.R_lower (Kd.R_new' ho0 (Kd.R_lt (rup HO301.out))) (below_size bl)); have n6_ := Aside0.mk (below_step bl hb); clear HO294; clear HO297; clear HO301; clear HO304; clear HO307; clear HB; have HO294 := n0_; have HO297 := n1_; have HO301 := n2_; have HO304 := n3_; have HO307 := n4_; have HO311 := n5_; have HB := n6_; clear n0_ n1_ n2_ n3_ n4_ n5_ n6_; (try clear hb); (try clear hb2); (try clear hk); (try clear hi); (try clear ho0)))
   (try simp only [Act.put, List.setIfInBounds_toArray, List.set_cons_zero, List.set_cons_succ])
   go_cut [61] (fun v61 wc => ∃ (kq : Nat) (x61_14 : Bool), v61 = .bool x61_14 ∧ Aside0 (laws_FnExactDampersNeeded.j0 kq l0 l1 a2 a3 t298 t299 t302 t305 t308 t309 x61_14 = some r) ∧ Aside0 (kq ≤ k) ∧ Aside0 (Kd.R (Kd.int .i64) 3 wc w.heap.size (fun k_ => some k_ ≠ (v310 : Value).ownBlock) v300 t298) ∧ Aside0 (Kd.R k99 99 wc w.heap.size (fun _ => True) (.slice Ao23 t302.length co23) t302) ∧ Aside0 (Kd.R k97 97 wc w.heap.size (fun _ => True) (.slice Ao24 t305.length co24) t305) ∧ Aside0 (Kd.R (Kd.int .i64) 3 wc w.heap.size (fun k_ => some k_ ≠ (v300 : Value).ownBlock) v310 t308) ∧ Aside0 (Below w.heap.size w wc))
   case first =>
    have H := HC15.out
    clear HC15
    replace H := Option.bind_eq_some_iff.mp H
    obtain ⟨t312, A260, H⟩ := H
    replace H : (if t312 = true then (laws_FnExactDampersNeeded.j0 k l0 l1 a2 a3 t298 t299 t302 t305 t308 t309 (t309 != t299)) else (laws_FnExactDampersNeeded.j0 k l0 l1 a2 a3 t298 t299 t302 t305 t308 t309 true)) = some r := H
    have A26 := Aside0.mk A260
    clear A260
    by_cases c27 : t312 = true
    ·subst c27
     have H1 : (laws_FnExactDampersNeeded.j0 k l0 l1 a2 a3 t298 t299 t302 t305 t308 t309 (t309 != t299)) = some r := by rw [if_pos rfl] at H; exact H
     clear H
     have H := H1
     clear H1
     have H' := Aside0.mk H
     clear H
     obtain ⟨Ao28, co28, eo28⟩ := Kd.R_slice HO311.out
     subst eo28
     obtain ⟨Ao29, co29, eo29⟩ := Kd.R_slice HO301.out
     subst eo29
     go_wp2_with (first | ((with_reducible refine gate_callee (f := 29) rfl ?_); refine goesL_ (some 55) rfl rfl Try.func29 (by kernel_rfl) rfl #[.slice Ao28 t308.length co28, .slice Ao29 t298.length co29] rfl (by (try simp only [List.map_toArray, List.map_cons, List.map_nil]); first | done | rfl | (simp only [List.length_drop, List.length_take]; rfl)) ?_; (with_reducible refine (laws_eqIntS.calls k _ _ t308 _ _ t298 true _ ?side1 ?side2 ?side3 ?side4 A26.out).mono ?_); (case side1 => repeat (first | exact (Kd.R_reads' HO311.out).2.2 | (with_reducible refine Kd.C_alloc ?_ _) | (with_reducible refine Kd.C_drewN ?_ _) | (with_reducible refine Kd.C_drew ?_))); (case side2 => exact (Kd.R_reads' HO311.out).2.1); (case side3 => repeat (first | exact (Kd.R_reads' HO301.out).2.2 | (with_reducible refine Kd.C_alloc ?_ _) | (with_reducible refine Kd.C_drewN ?_ _) | (with_reducible refine Kd.C_drew ?_))); (case side4 => exact (Kd.R_reads' HO301.out).2.1); rintro e w' ⟨rfl, ⟨nd, rfl⟩⟩; refine ⟨_, rfl, ?_⟩))
     go_meet
     case rel => exact ⟨_, ((t309 != t299)), fin2, H', ⟨by first | omega | exact Nat.le_refl _⟩, ⟨by (with_reducible repeat (first | apply Kd.R_alloc | apply Kd.R_drewN | apply Kd.R_drew)); exact Kd.R_mono HO301.out (fun _ hk => hk.2)⟩, ⟨by (with_reducible repeat (first | apply Kd.R_alloc | apply Kd.R_drewN | apply Kd.R_drew)); exact Kd.R_mono HO304.out (fun _ hk => trivial)⟩, ⟨by (with_reducible repeat (first | apply Kd.R_alloc | apply Kd.R_drewN | apply Kd.R_drew)); exact Kd.R_mono HO307.out (fun _ hk => trivial)⟩, ⟨by (with_reducible repeat (first | apply Kd.R_alloc | apply Kd.R_drewN | apply Kd.R_drew)); exact Kd.R_mono HO311.out (fun _ hk => hk.2)⟩, ⟨bl⟩⟩
    ·replace c27 := Bool.eq_false_iff.mpr c27
     subst c27
     have H1 : (laws_FnExactDampersNeeded.j0 k l0 l1 a2 a3 t298 t299 t302 t305 t308 t309 true) = some r := by rw [if_neg (show ¬ (false = true) by decide)] at H; exact H
     clear H
     have H := H1
     clear H1
     have H' := Aside0.mk H
     clear H
     obtain ⟨Ao30, co30, eo30⟩ := Kd.R_slice HO311.out
     subst eo30
     obtain ⟨Ao31, co31, eo31⟩ := Kd.R_slice HO301.out
     subst eo31
     go_wp2_with (first | ((with_reducible refine gate_callee (f := 29) rfl ?_); refine goesL_ (some 55) rfl rfl Try.func29 (by kernel_rfl) rfl #[.slice Ao30 t308.length co30, .slice Ao31 t298.length co31] rfl (by (try simp only [List.map_toArray, List.map_cons, List.map_nil]); first | done | rfl | (simp only [List.length_drop, List.length_take]; rfl)) ?_; (with_reducible refine (laws_eqIntS.calls k _ _ t308 _ _ t298 false _ ?side1 ?side2 ?side3 ?side4 A26.out).mono ?_); (case side1 => repeat (first | exact (Kd.R_reads' HO311.out).2.2 | (with_reducible refine Kd.C_alloc ?_ _) | (with_reducible refine Kd.C_drewN ?_ _) | (with_reducible refine Kd.C_drew ?_))); (case side2 => exact (Kd.R_reads' HO311.out).2.1); (case side3 => repeat (first | exact (Kd.R_reads' HO301.out).2.2 | (with_reducible refine Kd.C_alloc ?_ _) | (with_reducible refine Kd.C_drewN ?_ _) | (with_reducible refine Kd.C_drew ?_))); (case side4 => exact (Kd.R_reads' HO301.out).2.1); rintro e w' ⟨rfl, ⟨nd, rfl⟩⟩; refine ⟨_, rfl, ?_⟩))
     go_meet
     case rel => exact ⟨_, (true), fin2, H', ⟨by first | omega | exact Nat.le_refl _⟩, ⟨by (with_reducible repeat (first | apply Kd.R_alloc | apply Kd.R_drewN | apply Kd.R_drew)); exact Kd.R_mono HO301.out (fun _ hk => hk.2)⟩, ⟨by (with_reducible repeat (first | apply Kd.R_alloc | apply Kd.R_drewN | apply Kd.R_drew)); exact Kd.R_mono HO304.out (fun _ hk => trivial)⟩, ⟨by (with_reducible repeat (first | apply Kd.R_alloc | apply Kd.R_drewN | apply Kd.R_drew)); exact Kd.R_mono HO307.out (fun _ hk => trivial)⟩, ⟨by (with_reducible repeat (first | apply Kd.R_alloc | apply Kd.R_drewN | apply Kd.R_drew)); exact Kd.R_mono HO311.out (fun _ hk => hk.2)⟩, ⟨bl⟩⟩
   case rest =>
    clear HC15
    try clear c1
    try clear c2
    try clear p2
    try clear c5
    try clear c6
    try clear c6b0
    try clear c8
    try clear c8b0
    try clear c23
    try clear c24
    try clear c25
    try clear c26
    try clear c27
    try clear c28
    try clear c29
    obtain ⟨kq, x61_14, rfl, HA, HJ14, HO_10, HO_12, HO_13, HO_14, HB⟩ := hcut
    cases kq with
    | zero => exact absurd HA.out (by simp [laws_FnExactDampersNeeded.j0])
    | succ kj14 =>
     have H := HA.out
     clear HA
     simp only [laws_FnExactDampersNeeded.j0] at H
     by_cases c32 : x61_14 = true
     ·subst c32
      have H1 : (some false) = some r := by rw [if_pos rfl] at H; exact H
      clear H
      have H := H1
      clear H1
      obtain rfl := Option.some.inj H
      exact absurd hrt.out (by simp)
     ·replace c32 := Bool.eq_false_iff.mpr c32
      subst c32
      have H1 : ((laws_toToothS.f kj14 l0).bind fun t313 => ((laws_eqToothS.f kj14 t302 t313).bind fun t316 => (if t316 = true then ((laws_toStrikeS.f kj14 l1).bind fun t317 => ((laws_eqStrikeS.f kj14 t305 t317).bind fun t320 => (if t320 = true then ((laws_markToothS.f kj14 t302 1).bind fun bt321 => ((laws_markStrikeS.f kj14 t305 bt321.1).bind fun bt323 => (if bt323.1 < 0 then (laws_FnExactDampersNeeded.j1 kj14 l0 l1 a2 a3 t298 t299 t308 true) else ((laws_eqIntS.f kj14 t308 t298).bind fun t325 => (if t325 = true then (laws_FnExactDampersNeeded.j1 kj14 l0 l1 a2 a3 t298 t299 t308 (t309 != t299)) else (laws_FnExactDampersNeeded.j1 kj14 l0 l1 a2 a3 t298 t299 t308 true)))))) else (some false)))) else (some false)))) = some r := by rw [if_neg (show ¬ (false = true) by decide)] at H; exact H
      clear H
      have H := H1
      clear H1
      replace H := Option.bind_eq_some_iff.mp H
      obtain ⟨t313, A330, H⟩ := H
      replace H : ((laws_eqToothS.f kj14 t302 t313).bind fun t316 => (if t316 = true then ((laws_toStrikeS.f kj14 l1).bind fun t317 => ((laws_eqStrikeS.f kj14 t305 t317).bind fun t320 => (if t320 = true then ((laws_markToothS.f kj14 t302 1).bind fun bt321 => ((laws_markStrikeS.f kj14 t305 bt321.1).bind fun bt323 => (if bt323.1 < 0 then (laws_FnExactDampersNeeded.j1 kj14 l0 l1 a2 a3 t298 t299 t308 true) else ((laws_eqIntS.f kj14 t308 t298).bind fun t325 => (if t325 = true then (laws_FnExactDampersNeeded.j1 kj14 l0 l1 a2 a3 t298 t299 t308 (t309 != t299)) else (laws_FnExactDampersNeeded.j1 kj14 l0 l1 a2 a3 t298 t299 t308 true)))))) else (some false)))) else (some false))) = some r := H
      have A33 := Aside0.mk A330
      clear A330
      replace H := Option.bind_eq_some_iff.mp H
      obtain ⟨t316, A340, H⟩ := H
      replace H : (if t316 = true then ((laws_toStrikeS.f kj14 l1).bind fun t317 => ((laws_eqStrikeS.f kj14 t305 t317).bind fun t320 => (if t320 = true then ((laws_markToothS.f kj14 t302 1).bind fun bt321 => ((laws_markStrikeS.f kj14 t305 bt321.1).bind fun bt323 => (if bt323.1 < 0 then (laws_FnExactDampersNeeded.j1 kj14 l0 l1 a2 a3 t298 t299 t308 true) else ((laws_eqIntS.f kj14 t308 t298).bind fun t325 => (if t325 = true then (laws_FnExactDampersNeeded.j1 kj14 l0 l1 a2 a3 t298 t299 t308 (t309 != t299)) else (laws_FnExactDampersNeeded.j1 kj14 l0 l1 a2 a3 t298 t299 t308 true)))))) else (some false)))) else (some false)) = some r := H
      have A34 := Aside0.mk A340
      clear A340
      by_cases c35 : t316 = true
      ·subst c35
       have H1 : ((laws_toStrikeS.f kj14 l1).bind fun t317 => ((laws_eqStrikeS.f kj14 t305 t317).bind fun t320 => (if t320 = true then ((laws_markToothS.f kj14 t302 1).bind fun bt321 => ((laws_markStrikeS.f kj14 t305 bt321.1).bind fun bt323 => (if bt323.1 < 0 then (laws_FnExactDampersNeeded.j1 kj14 l0 l1 a2 a3 t298 t299 t308 true) else ((laws_eqIntS.f kj14 t308 t298).bind fun t325 => (if t325 = true then (laws_FnExactDampersNeeded.j1 kj14 l0 l1 a2 a3 t298 t299 t308 (t309 != t299)) else (laws_FnExactDampersNeeded.j1 kj14 l0 l1 a2 a3 t298 t299 t308 true)))))) else (some false)))) = some r := by rw [if_pos rfl] at H; exact H
       clear H
       have H := H1
       clear H1
       replace H := Option.bind_eq_some_iff.mp H
       obtain ⟨t317, A360, H⟩ := H
       replace H : ((laws_eqStrikeS.f kj14 t305 t317).bind fun t320 => (if t320 = true then ((laws_markToothS.f kj14 t302 1).bind fun bt321 => ((laws_markStrikeS.f kj14 t305 bt321.1).bind fun bt323 => (if bt323.1 < 0 then (laws_FnExactDampersNeeded.j1 kj14 l0 l1 a2 a3 t298 t299 t308 true) else ((laws_eqIntS.f kj14 t308 t298).bind fun t325 => (if t325 = true then (laws_FnExactDampersNeeded.j1 kj14 l0 l1 a2 a3 t298 t299 t308 (t309 != t299)) else (laws_FnExactDampersNeeded.j1 kj14 l0 l1 a2 a3 t298 t299 t308 true)))))) else (some false))) = some r := H
       have A36 := Aside0.mk A360
       clear A360
       replace H := Option.bind_eq_some_iff.mp H
       obtain ⟨t320, A370, H⟩ := H
       replace H : (if t320 = true then ((laws_markToothS.f kj14 t302 1).bind fun bt321 => ((laws_markStrikeS.f kj14 t305 bt321.1).bind fun bt323 => (if bt323.1 < 0 then (laws_FnExactDampersNeeded.j1 kj14 l0 l1 a2 a3 t298 t299 t308 true) else ((laws_eqIntS.f kj14 t308 t298).bind fun t325 => (if t325 = true then (laws_FnExactDampersNeeded.j1 kj14 l0 l1 a2 a3 t298 t299 t308 (t309 != t299)) else (laws_FnExactDampersNeeded.j1 kj14 l0 l1 a2 a3 t298 t299 t308 true)))))) else (some false)) = some r := H
       have A37 := Aside0.mk A370
       clear A370
       by_cases c38 : t320 = true
       ·subst c38
        have H1 : ((laws_markToothS.f kj14 t302 1).bind fun bt321 => ((laws_markStrikeS.f kj14 t305 bt321.1).bind fun bt323 => (if bt323.1 < 0 then (laws_FnExactDampersNeeded.j1 kj14 l0 l1 a2 a3 t298 t299 t308 true) else ((laws_eqIntS.f kj14 t308 t298).bind fun t325 => (if t325 = true then (laws_FnExactDampersNeeded.j1 kj14 l0 l1 a2 a3 t298 t299 t308 (t309 != t299)) else (laws_FnExactDampersNeeded.j1 kj14 l0 l1 a2 a3 t298 t299 t308 true)))))) = some r := by rw [if_pos rfl] at H; exact H
        clear H
        have H := H1
        clear H1
        replace H := Option.bind_eq_some_iff.mp H
        obtain ⟨⟨t321, t322⟩, A390, H⟩ := H
        replace H : ((laws_markStrikeS.f kj14 t305 t321).bind fun bt323 => (if bt323.1 < 0 then (laws_FnExactDampersNeeded.j1 kj14 l0 l1 a2 a3 t298 t299 t308 true) else ((laws_eqIntS.f kj14 t308 t298).bind fun t325 => (if t325 = true then (laws_FnExactDampersNeeded.j1 kj14 l0 l1 a2 a3 t298 t299 t308 (t309 != t299)) else (laws_FnExactDampersNeeded.j1 kj14 l0 l1 a2 a3 t298 t299 t308 true))))) = some r := H
        have A39 := Aside0.mk A390
        clear A390
        replace H := Option.bind_eq_some_iff.mp H
        obtain ⟨⟨t323, t324⟩, A400, H⟩ := H
        replace H : (if t323 < 0 then (laws_FnExactDampersNeeded.j1 kj14 l0 l1 a2 a3 t298 t299 t308 true) else ((laws_eqIntS.f kj14 t308 t298).bind fun t325 => (if t325 = true then (laws_FnExactDampersNeeded.j1 kj14 l0 l1 a2 a3 t298 t299 t308 (t309 != t299)) else (laws_FnExactDampersNeeded.j1 kj14 l0 l1 a2 a3 t298 t299 t308 true)))) = some r := H
        have A40 := Aside0.mk A400
        clear A400
        have HC41 := Aside0.mk H
        clear H
        go_upto_region 21 with (first | ((with_reducible refine gate_callee (f := 26) rfl ?_); refine goesL_ (some 64) rfl rfl Try.func26 (by kernel_rfl) rfl #[.slice A0 l0.length c0] rfl (by (try simp only [List.map_toArray, List.map_cons, List.map_nil]); first | done | rfl | (simp only [List.length_drop, List.length_take]; rfl)) ?_; (with_reducible refine (laws_toToothS.calls kj14 _ _ l0 t313 _ ?side1 ?side2 A33.out).mono ?_); (case side1 => repeat (first | exact (Kd.C_below HR0.out HB.out) | (with_reducible refine Kd.C_alloc ?_ _) | (with_reducible refine Kd.C_drewN ?_ _) | (with_reducible refine Kd.C_drew ?_))); (case side2 => exact HC0.out); rintro e w42 ⟨v314, rfl, ho0, hb⟩; refine ⟨_, rfl, ?_⟩; have n0_ := Aside0.mk (Kd.R_below (rup HO_10.out) hb); have n1_ := Aside0.mk (Kd.R_elder' (rup HO_12.out) (Kd.R_base ho0) hb); have n2_ := Aside0.mk (Kd.R_below (rup HO_13.out) hb); have n3_ := Aside0.mk (Kd.R_below (rup HO_14.out) hb); have n4_ := Aside0.mk (Kd.R_lower (Kd.R_new' ho0 (Kd.R_lt (rup HO_12.out))) (below_size bl)); have n5_ := Aside0.mk (below_step bl hb); clear HO_10; clear HO_12; clear HO_13; clear HO_14; clear HB; have HO_10 := n0_; have HO_12 := n1_; have HO_13 := n2_; have HO_14 := n3_; have HO315 := n4_; have HB := n5_; clear n0_ n1_ n2_ n3_ n4_ n5_; (try clear hb); (try clear hb2); (try clear hk); (try clear hi); (try clear ho0); obtain ⟨Ao43, co43, eo43⟩ := Kd.R_slice HO315.out; subst eo43) | ((with_reducible refine gate_callee (f := 30) rfl ?_); refine goesL_ (some 65) rfl rfl Try.func30 (by kernel_rfl) rfl #[.slice Ao23 t302.length co23, .slice Ao43 t313.length co43] rfl (by (try simp only [List.map_toArray, List.map_cons, List.map_nil]); first | done | rfl | (simp only [List.length_drop, List.length_take]; rfl)) ?_; (with_reducible refine (laws_eqToothS.calls kj14 _ _ t302 _ _ t313 true _ ?side1 ?side2 ?side3 ?side4 A34.out).mono ?_); (case side1 => repeat (first | exact (Kd.R_reads' HO_12.out).2.2 | (with_reducible refine Kd.C_alloc ?_ _) | (with_reducible refine Kd.C_drewN ?_ _) | (with_reducible refine Kd.C_drew ?_))); (case side2 => exact (Kd.R_reads' HO_12.out).2.1); (case side3 => repeat (first | exact (Kd.R_reads' HO315.out).2.2 | (with_reducible refine Kd.C_alloc ?_ _) | (with_reducible refine Kd.C_drewN ?_ _) | (with_reducible refine Kd.C_drew ?_))); (case side4 => exact (Kd.R_reads' HO315.out).2.1); rintro e w44 ⟨rfl, hb⟩; refine ⟨_, rfl, ?_⟩; have n0_ := Aside0.mk (Kd.R_below (rup HO_10.out) hb); have n1_ := Aside0.mk (Kd.R_below (rup HO_12.out) hb); have n2_ := Aside0.mk (Kd.R_below (rup HO_13.out) hb); have n3_ := Aside0.mk (Kd.R_below (rup HO_14.out) hb); have n4_ := Aside0.mk (Kd.R_below (rup HO315.out) hb); have n5_ := Aside0.mk (below_step bl hb); clear HO_10; clear HO_12; clear HO_13; clear HO_14; clear HO315; clear HB; have HO_10 := n0_; have HO_12 := n1_; have HO_13 := n2_; have HO_14 := n3_; have HO315 := n4_; have HB := n5_; clear n0_ n1_ n2_ n3_ n4_ n5_; (try clear hb); (try clear hb2); (try clear hk); (try clear hi)) | ((with_reducible refine gate_callee (f := 27) rfl ?_); refine goesL_ (some 69) rfl rfl Try.func27 (by kernel_rfl) rfl #[.slice A1 l1.length c1] rfl (by (try simp only [List.map_toArray, List.map_cons, List.map_nil]); first | done | rfl | (simp only [List.length_drop, List.length_take]; rfl)) ?_; (with_reducible refine (laws_toStrikeS.calls kj14 _ _ l1 t317 _ ?side1 ?side2 A36.out).mono ?_); (case side1 => repeat (first | exact (Kd.C_below HR1.out HB.out) | (with_reducible refine Kd.C_alloc ?_ _) | (with_reducible refine Kd.C_drewN ?_ _) | (with_reducible refine Kd.C_drew ?_))); (case side2 => exact HC1.out); rintro e w45 ⟨v318, rfl, ho0, hb⟩; refine ⟨_, rfl, ?_⟩; have n0_ := Aside0.mk (Kd.R_below (rup HO_10.out) hb); have n1_ := Aside0.mk (Kd.R_below (rup HO_12.out) hb); have n2_ := Aside0.mk (Kd.R_elder' (rup HO_13.out) (Kd.R_base ho0) hb); have n3_ := Aside0.mk (Kd.R_below (rup HO_14.out) hb); have n4_ := Aside0.mk (Kd.R_below (rup HO315.out) hb); have n5_ := Aside0.mk (Kd.R_lower (Kd.R_new' ho0 (Kd.R_lt (rup HO_13.out))) (below_size bl)); have n6_ := Aside0.mk (below_step bl hb); clear HO_10; clear HO_12; clear HO_13; clear HO_14; clear HO315; clear HB; have HO_10 := n0_; have HO_12 := n1_; have HO_13 := n2_; have HO_14 := n3_; have HO315 := n4_; have HO319 := n5_; have HB := n6_; clear n0_ n1_ n2_ n3_ n4_ n5_ n6_; (try clear hb); (try clear hb2); (try clear hk); (try clear hi); (try clear ho0); obtain ⟨Ao46, co46, eo46⟩ := Kd.R_slice HO319.out; subst eo46) | ((with_reducible refine gate_callee (f := 31) rfl ?_); refine goesL_ (some 70) rfl rfl Try.func31 (by kernel_rfl) rfl #[.slice Ao24 t305.length co24, .slice Ao46 t317.length co46] rfl (by (try simp only [List.map_toArray, List.map_cons, List.map_nil]); first | done | rfl | (simp only [List.length_drop, List.length_take]; rfl)) ?_; (with_reducible refine (laws_eqStrikeS.calls kj14 _ _ t305 _ _ t317 true _ ?side1 ?side2 ?side3 ?side4 A37.out).mono ?_); (case side1 => repeat (first | exact (Kd.R_reads' HO_13.out).2.2 | (with_reducible refine Kd.C_alloc ?_ _) | (with_reducible refine Kd.C_drewN ?_ _) | (with_reducible refine Kd.C_drew ?_))); (case side2 => exact (Kd.R_reads' HO_13.out).2.1); (case side3 => repeat (first | exact (Kd.R_reads' HO319.out).2.2 | (with_reducible refine Kd.C_alloc ?_ _) | (with_reducible refine Kd.C_drewN ?_ _) | (with_reducible refine Kd.C_drew ?_))); (case side4 => exact (Kd.R_reads' HO319.out).2.1); rintro e w47 ⟨rfl, hb⟩; refine ⟨_, rfl, ?_⟩; have n0_ := Aside0.mk (Kd.R_below (rup HO_10.out) hb); have n1_ := Aside0.mk (Kd.R_below (rup HO_12.out) hb); have n2_ := Aside0.mk (Kd.R_below (rup HO_13.out) hb); have n3_ := Aside0.mk (Kd.R_below (rup HO_14.out) hb); have n4_ := Aside0.mk (Kd.R_below (rup HO315.out) hb); have n5_ := Aside0.mk (Kd.R_below (rup HO319.out) hb); have n6_ := Aside0.mk (below_step bl hb); clear HO_10; clear HO_12; clear HO_13; clear HO_14; clear HO315; clear HO319; clear HB; have HO_10 := n0_; have HO_12 := n1_; have HO_13 := n2_; have HO_14 := n3_; have HO315 := n4_; have HO319 := n5_; have HB := n6_; clear n0_ n1_ n2_ n3_ n4_ n5_ n6_; (try clear hb); (try clear hb2); (try clear hk); (try clear hi)) | ((with_reducible refine gate_callee (f := 32) rfl ?_); refine goesL_ (some 74) rfl rfl Try.func32 (by kernel_rfl) rfl #[.slice Ao23 t302.length co23, .int .i64 1] rfl (by (try simp only [List.map_toArray, List.map_cons, List.map_nil]); first | done | rfl | (simp only [List.length_drop, List.length_take]; rfl)) ?_; (with_reducible refine (laws_markToothS.calls kj14 (fun k_ => some k_ = (.slice Ao23 t302.length co23 : Value).ownBlock) (.slice Ao23 t302.length co23) t302 1 t321 t322 w _ ?side1 ?side2 A39.out).mono ?_); (case side1 => repeat (first | (with_reducible first | exact HB.out | apply below_alloc | apply pw_below_drewN | apply below_drew1) | exact HB.out)); (case side2 => exact Kd.R_tight rfl HO_12.out); rintro e w48 ⟨rfl, hy0, hb, hkp⟩; refine ⟨_, rfl, ?_⟩; have n0_ := Aside0.mk (Kd.R_mono (ok' := fun k_ => some k_ ≠ (v310 : Value).ownBlock) (Kd.R_keptB ((Kd.R_apart' HO_10.out (Kd.R_typed HO_12.out) (by decide))) hkp (fun k_ hk_ hs_ => (hk_.2) hs_)) (fun k_ hk_ => hk_.1.1)); have n1_ := Aside0.mk (Kd.R_reok rfl hy0 (fun k_ e_ => HO_12.out.1 k_ e_)); have n2_ := Aside0.mk (Kd.R_mono (ok' := fun k_ => some k_ ≠ (.slice Ao46 t317.length co46 : Value).ownBlock) (Kd.R_keptB ((Kd.R_apart' HO_13.out (Kd.R_typed HO_12.out) (by decide))) hkp (fun k_ hk_ hs_ => (hk_.2) hs_)) (fun k_ hk_ => hk_.1.1.2)); have n3_ := Aside0.mk (Kd.R_mono (ok' := fun k_ => some k_ ≠ (v300 : Value).ownBlock) (Kd.R_keptB ((Kd.R_apart' HO_14.out (Kd.R_typed HO_12.out) (by decide))) hkp (fun k_ hk_ hs_ => (hk_.2) hs_)) (fun k_ hk_ => hk_.1.1)); have n4_ := Aside0.mk (Kd.R_mono (ok' := fun k_ => some k_ ≠ (.slice Ao23 t302.length co23 : Value).ownBlock) (Kd.R_keptB (HO315.out) hkp (fun k_ hk_ hs_ => (hk_.2) hs_)) (fun k_ hk_ => hk_.1.2)); have n5_ := Aside0.mk (Kd.R_mono (ok' := fun k_ => some k_ ≠ (.slice Ao24 t305.length co24 : Value).ownBlock) (Kd.R_keptB ((Kd.R_apart' HO319.out (Kd.R_typed HO_12.out) (by decide))) hkp (fun k_ hk_ hs_ => (hk_.2) hs_)) (fun k_ hk_ => hk_.1.1.2)); have n6_ := Aside0.mk (hb); clear HO_10; clear HO_12; clear HO_13; clear HO_14; clear HO315; clear HO319; clear HB; have HO_10 := n0_; have HO_12 := n1_; have HO_13 := n2_; have HO_14 := n3_; have HO315 := n4_; have HO319 := n5_; have HB := n6_; clear n0_ n1_ n2_ n3_ n4_ n5_ n6_; (try clear hb); (try clear hkp); (try clear hy0)) | ((with_reducible refine gate_callee (f := 33) rfl ?_); refine goesL_ (some 77) rfl rfl Try.func33 (by kernel_rfl) rfl #[.slice Ao24 t305.length co24, .int .i64 t321] rfl (by (try simp only [List.map_toArray, List.map_cons, List.map_nil]); first | done | rfl | (simp only [List.length_drop, List.length_take]; rfl)) ?_; (with_reducible refine (laws_markStrikeS.calls kj14 (fun k_ => some k_ = (.slice Ao24 t305.length co24 : Value).ownBlock) (.slice Ao24 t305.length co24) t305 t321 t323 t324 w _ ?side1 ?side2 A40.out).mono ?_); (case side1 => repeat (first | (with_reducible first | exact HB.out | apply below_alloc | apply pw_below_drewN | apply below_drew1) | exact HB.out)); (case side2 => exact Kd.R_tight rfl HO_13.out); rintro e w49 ⟨rfl, hy0, hb, hkp⟩; refine ⟨_, rfl, ?_⟩; have n0_ := Aside0.mk (Kd.R_mono (ok' := fun k_ => some k_ ≠ (v310 : Value).ownBlock) (Kd.R_keptB ((Kd.R_apart' HO_10.out (Kd.R_typed HO_13.out) (by decide))) hkp (fun k_ hk_ hs_ => (hk_.2) hs_)) (fun k_ hk_ => hk_.1.1)); have n1_ := Aside0.mk (Kd.R_mono (ok' := fun k_ => some k_ ≠ (.slice Ao43 t313.length co43 : Value).ownBlock) (Kd.R_keptB ((Kd.R_apart' HO_12.out (Kd.R_typed HO_13.out) (by decide))) hkp (fun k_ hk_ hs_ => (hk_.2) hs_)) (fun k_ hk_ => hk_.1.1.2)); have n2_ := Aside0.mk (Kd.R_reok rfl hy0 (fun k_ e_ => HO_13.out.1 k_ e_)); have n3_ := Aside0.mk (Kd.R_mono (ok' := fun k_ => some k_ ≠ (v300 : Value).ownBlock) (Kd.R_keptB ((Kd.R_apart' HO_14.out (Kd.R_typed HO_13.out) (by decide))) hkp (fun k_ hk_ hs_ => (hk_.2) hs_)) (fun k_ hk_ => hk_.1.1)); have n4_ := Aside0.mk (Kd.R_mono (ok' := fun k_ => some k_ ≠ (.slice Ao23 t302.length co23 : Value).ownBlock) (Kd.R_keptB ((Kd.R_apart' HO315.out (Kd.R_typed HO_13.out) (by decide))) hkp (fun k_ hk_ hs_ => (hk_.2) hs_)) (fun k_ hk_ => hk_.1.1)); have n5_ := Aside0.mk (Kd.R_mono (ok' := fun k_ => some k_ ≠ (.slice Ao24 t305.length co24 : Value).ownBlock) (Kd.R_keptB (HO319.out) hkp (fun k_ hk_ hs_ => (hk_) hs_)) (fun k_ hk_ => hk_.1)); have n6_ := Aside0.mk (hb); clear HO_10; clear HO_12; clear HO_13; clear HO_14; clear HO315; clear HO319; clear HB; have HO_10 := n0_; have HO_12 := n1_; have HO_13 := n2_; have HO_14 := n3_; have HO315 := n4_; have HO319 := n5_; have HB := n6_; clear n0_ n1_ n2_ n3_ n4_ n5_ n6_; (try clear hb); (try clear hkp); (try clear hy0)))
        (try simp only [Act.put, List.setIfInBounds_toArray, List.set_cons_zero, List.set_cons_succ])
        go_cut [90] (fun v90 wc => ∃ (kq : Nat) (x90_40 : Bool), v90 = .bool x90_40 ∧ Aside0 (laws_FnExactDampersNeeded.j1 kq l0 l1 a2 a3 t298 t299 t308 x90_40 = some r) ∧ Aside0 (kq ≤ kj14) ∧ Aside0 (Kd.R (Kd.int .i64) 3 wc w.heap.size (fun k_ => some k_ ≠ (v310 : Value).ownBlock) v300 t298) ∧ Aside0 (Kd.R (Kd.int .i64) 3 wc w.heap.size (fun k_ => some k_ ≠ (v300 : Value).ownBlock) v310 t308) ∧ Aside0 (Below w.heap.size w wc))
        case first =>
         have H := HC41.out
         clear HC41
         by_cases c50 : t323 < 0
         ·rw [if_pos c50] at H
          have c50b0 : decide (t323 < 0) = true := decide_eq_true c50
          clear c50
          (first | rw [c50b0] | (simp only [i64_w, i32_w]; rw [c50b0]) | skip)
          have H' := Aside0.mk H
          clear H
          go_wp2
          go_meet
          case rel => exact ⟨_, (true), fin2, H', ⟨by have := HJ14.out; first | omega | exact Nat.le_refl _⟩, ⟨rup HO_10.out⟩, ⟨rup HO_14.out⟩, ⟨bl⟩⟩
         ·rw [if_neg c50] at H
          have c50b0 : decide (t323 < 0) = false := decide_eq_false c50
          clear c50
          (first | rw [c50b0] | (simp only [i64_w, i32_w]; rw [c50b0]) | skip)
          replace H := Option.bind_eq_some_iff.mp H
          obtain ⟨t325, A510, H⟩ := H
          replace H : (if t325 = true then (laws_FnExactDampersNeeded.j1 kj14 l0 l1 a2 a3 t298 t299 t308 (t309 != t299)) else (laws_FnExactDampersNeeded.j1 kj14 l0 l1 a2 a3 t298 t299 t308 true)) = some r := H
          have A51 := Aside0.mk A510
          clear A510
          by_cases c52 : t325 = true
          ·subst c52
           have H1 : (laws_FnExactDampersNeeded.j1 kj14 l0 l1 a2 a3 t298 t299 t308 (t309 != t299)) = some r := by rw [if_pos rfl] at H; exact H
           clear H
           have H := H1
           clear H1
           have H' := Aside0.mk H
           clear H
           obtain ⟨Ao53, co53, eo53⟩ := Kd.R_slice HO_14.out
           subst eo53
           obtain ⟨Ao54, co54, eo54⟩ := Kd.R_slice HO_10.out
           subst eo54
           go_wp2_with (first | (go_at_call 29; (with_reducible refine (laws_eqIntS.calls kj14 _ _ t308 _ _ t298 true _ ?side1 ?side2 ?side3 ?side4 A51.out).mono ?_); (case side1 => repeat (first | exact (Kd.R_reads' HO_14.out).2.2 | (with_reducible refine Kd.C_alloc ?_ _) | (with_reducible refine Kd.C_drewN ?_ _) | (with_reducible refine Kd.C_drew ?_))); (case side2 => exact (Kd.R_reads' HO_14.out).2.1); (case side3 => repeat (first | exact (Kd.R_reads' HO_10.out).2.2 | (with_reducible refine Kd.C_alloc ?_ _) | (with_reducible refine Kd.C_drewN ?_ _) | (with_reducible refine Kd.C_drew ?_))); (case side4 => exact (Kd.R_reads' HO_10.out).2.1); rintro e w' ⟨rfl, ⟨nd, rfl⟩⟩))
           go_meet
           case rel => exact ⟨_, ((t309 != t299)), fin2, H', ⟨by have := HJ14.out; first | omega | exact Nat.le_refl _⟩, ⟨rup HO_10.out⟩, ⟨rup HO_14.out⟩, ⟨bl⟩⟩
          ·replace c52 := Bool.eq_false_iff.mpr c52
           subst c52
           have H1 : (laws_FnExactDampersNeeded.j1 kj14 l0 l1 a2 a3 t298 t299 t308 true) = some r := by rw [if_neg (show ¬ (false = true) by decide)] at H; exact H
           clear H
           have H := H1
           clear H1
           have H' := Aside0.mk H
           clear H
           obtain ⟨Ao55, co55, eo55⟩ := Kd.R_slice HO_14.out
           subst eo55
           obtain ⟨Ao56, co56, eo56⟩ := Kd.R_slice HO_10.out
           subst eo56
           go_wp2_with (first | (go_at_call 29; (with_reducible refine (laws_eqIntS.calls kj14 _ _ t308 _ _ t298 false _ ?side1 ?side2 ?side3 ?side4 A51.out).mono ?_); (case side1 => repeat (first | exact (Kd.R_reads' HO_14.out).2.2 | (with_reducible refine Kd.C_alloc ?_ _) | (with_reducible refine Kd.C_drewN ?_ _) | (with_reducible refine Kd.C_drew ?_))); (case side2 => exact (Kd.R_reads' HO_14.out).2.1); (case side3 => repeat (first | exact (Kd.R_reads' HO_10.out).2.2 | (with_reducible refine Kd.C_alloc ?_ _) | (with_reducible refine Kd.C_drewN ?_ _) | (with_reducible refine Kd.C_drew ?_))); (case side4 => exact (Kd.R_reads' HO_10.out).2.1); rintro e w' ⟨rfl, ⟨nd, rfl⟩⟩))
           go_meet
           case rel => exact ⟨_, (true), fin2, H', ⟨by have := HJ14.out; first | omega | exact Nat.le_refl _⟩, ⟨rup HO_10.out⟩, ⟨rup HO_14.out⟩, ⟨bl⟩⟩
        case rest =>
         clear HC41
         try clear c1
         try clear c2
         try clear p2
         try clear c3
         try clear c5
         try clear c6
         try clear c6b0
         try clear c8
         try clear c8b0
         try clear c23
         try clear c24
         try clear c25
         try clear c26
         try clear c27
         try clear c28
         try clear c29
         try clear c30
         try clear c31
         try clear c32
         try clear c33
         try clear c35
         try clear c38
         try clear c50
         try clear c50b0
         try clear c52
         try clear p2
         obtain ⟨kq, x90_40, rfl, HA, HJ40, HO_10, HO_14, HB⟩ := hcut
         cases kq with
         | zero => exact absurd HA.out (by simp [laws_FnExactDampersNeeded.j1])
         | succ kj40 =>
          have H := HA.out
          clear HA
          simp only [laws_FnExactDampersNeeded.j1] at H
          by_cases c57 : x90_40 = true
          ·subst c57
           have H1 : (some false) = some r := by rw [if_pos rfl] at H; exact H
           clear H
           have H := H1
           clear H1
           obtain rfl := Option.some.inj H
           exact absurd hrt.out (by simp)
          ·replace c57 := Bool.eq_false_iff.mpr c57
           subst c57
           have H1 : ((laws_markIntS.f kj40 t308 1).bind fun bt326 => ((laws_heldIntS.f kj40 bt326.2 1).bind fun t328 => (if t328 < 0 then (some false) else (if t328 = bt326.1 then ((laws_toToothS.f kj40 l0).bind fun t329 => ((laws_toStrikeS.f kj40 l1).bind fun t332 => ((impl_DampersNeeded.f kj40 t329 t332 a2 a3).bind fun bt335 => ((laws_eqIntS.f kj40 bt335.1 t298).bind fun t339 => (if t339 = true then (laws_FnExactDampersNeeded.j2 kj40 bt326.2 bt326.1 (bt335.2 != t299)) else (laws_FnExactDampersNeeded.j2 kj40 bt326.2 bt326.1 true)))))) else (some false))))) = some r := by rw [if_neg (show ¬ (false = true) by decide)] at H; exact H
           clear H
           have H := H1
           clear H1
           replace H := Option.bind_eq_some_iff.mp H
           obtain ⟨⟨t326, t327⟩, A580, H⟩ := H
           replace H : ((laws_heldIntS.f kj40 t327 1).bind fun t328 => (if t328 < 0 then (some false) else (if t328 = t326 then ((laws_toToothS.f kj40 l0).bind fun t329 => ((laws_toStrikeS.f kj40 l1).bind fun t332 => ((impl_DampersNeeded.f kj40 t329 t332 a2 a3).bind fun bt335 => ((laws_eqIntS.f kj40 bt335.1 t298).bind fun t339 => (if t339 = true then (laws_FnExactDampersNeeded.j2 kj40 t327 t326 (bt335.2 != t299)) else (laws_FnExactDampersNeeded.j2 kj40 t327 t326 true)))))) else (some false)))) = some r := H
           have A58 := Aside0.mk A580
           clear A580
           replace H := Option.bind_eq_some_iff.mp H
           obtain ⟨t328, A590, H⟩ := H
           replace H : (if t328 < 0 then (some false) else (if t328 = t326 then ((laws_toToothS.f kj40 l0).bind fun t329 => ((laws_toStrikeS.f kj40 l1).bind fun t332 => ((impl_DampersNeeded.f kj40 t329 t332 a2 a3).bind fun bt335 => ((laws_eqIntS.f kj40 bt335.1 t298).bind fun t339 => (if t339 = true then (laws_FnExactDampersNeeded.j2 kj40 t327 t326 (bt335.2 != t299)) else (laws_FnExactDampersNeeded.j2 kj40 t327 t326 true)))))) else (some false))) = some r := H
           have A59 := Aside0.mk A590
           clear A590
           by_cases c60 : t328 < 0
           ·rw [if_pos c60] at H
            have c60b0 : decide (t328 < 0) = true := decide_eq_true c60
            clear c60
            obtain rfl := Option.some.inj H
            obtain ⟨Ao61, co61, eo61⟩ := Kd.R_slice HO_14.out
            subst eo61
            go_wp2_with (first | ((with_reducible refine gate_callee (f := 34) rfl ?_); refine goesL_ (some 93) rfl rfl Try.func34 (by kernel_rfl) rfl #[.slice Ao61 t308.length co61, .int .i64 1] rfl (by (try simp only [List.map_toArray, List.map_cons, List.map_nil]); first | done | rfl | (simp only [List.length_drop, List.length_take]; rfl)) ?_; (with_reducible refine (laws_markIntS.calls kj40 (fun k_ => some k_ = (.slice Ao61 t308.length co61 : Value).ownBlock) (.slice Ao61 t308.length co61) t308 1 t326 t327 w _ ?side1 ?side2 A58.out).mono ?_); (case side1 => repeat (first | (with_reducible first | exact HB.out | apply below_alloc | apply pw_below_drewN | apply below_drew1) | exact HB.out)); (case side2 => exact Kd.R_tight rfl HO_14.out); rintro e w62 ⟨rfl, hy0, hb, hkp⟩; refine ⟨_, rfl, ?_⟩; have n0_ := Aside0.mk (Kd.R_mono (ok' := fun k_ => some k_ ≠ (.slice Ao61 t308.length co61 : Value).ownBlock) (Kd.R_keptB (HO_10.out) hkp (fun k_ hk_ hs_ => (hk_) hs_)) (fun k_ hk_ => hk_.1)); have n1_ := Aside0.mk (Kd.R_reok rfl hy0 (fun k_ e_ => HO_14.out.1 k_ e_)); have n2_ := Aside0.mk (hb); clear HO_10; clear HO_14; clear HB; have HO_10 := n0_; have HO_14 := n1_; have HB := n2_; clear n0_ n1_ n2_; (try clear hb); (try clear hkp); (try clear hy0)) | ((with_reducible refine gate_callee (f := 35) rfl ?_); refine goesL_ (some 96) rfl rfl Try.func35 (by kernel_rfl) rfl #[.slice Ao61 t327.length co61, .int .i64 1] rfl (by (try simp only [List.map_toArray, List.map_cons, List.map_nil]); first | done | (rw [show t327.length = t308.length from (Kd.R_reads' HO_14.out).1.symm] <;> rfl) | rfl | (simp only [List.length_drop, List.length_take]; rfl)) ?_; (with_reducible refine (laws_heldIntS.calls kj40 _ _ t327 1 t328 _ ?side1 ?side2 A59.out).mono ?_); (case side1 => repeat (first | exact (Kd.R_reads' HO_14.out).2.2 | (with_reducible refine Kd.C_alloc ?_ _) | (with_reducible refine Kd.C_drewN ?_ _) | (with_reducible refine Kd.C_drew ?_))); (case side2 => rw [show t327.length = t308.length from (Kd.R_reads' HO_14.out).1.symm]; exact (Kd.R_reads' HO_14.out).2.1); rintro e w' ⟨rfl, ⟨nd, rfl⟩⟩; refine ⟨_, rfl, ?_⟩))
            go_ret
            exact ⟨fin1, bl⟩
           ·rw [if_neg c60] at H
            have c60b0 : decide (t328 < 0) = false := decide_eq_false c60
            clear c60
            by_cases c63 : t328 = t326
            ·rw [if_pos c63] at H
             have c63b0 : (t328 == t326) = true := beq_iff_eq.mpr c63
             have c63b1 : (t328 != t326) = false := bne_eq_false_iff_eq.mpr c63
             clear c63
             replace H := Option.bind_eq_some_iff.mp H
             obtain ⟨t329, A640, H⟩ := H
             replace H : ((laws_toStrikeS.f kj40 l1).bind fun t332 => ((impl_DampersNeeded.f kj40 t329 t332 a2 a3).bind fun bt335 => ((laws_eqIntS.f kj40 bt335.1 t298).bind fun t339 => (if t339 = true then (laws_FnExactDampersNeeded.j2 kj40 t327 t326 (bt335.2 != t299)) else (laws_FnExactDampersNeeded.j2 kj40 t327 t326 true))))) = some r := H
             have A64 := Aside0.mk A640
             clear A640
             replace H := Option.bind_eq_some_iff.mp H
             obtain ⟨t332, A650, H⟩ := H
             replace H : ((impl_DampersNeeded.f kj40 t329 t332 a2 a3).bind fun bt335 => ((laws_eqIntS.f kj40 bt335.1 t298).bind fun t339 => (if t339 = true then (laws_FnExactDampersNeeded.j2 kj40 t327 t326 (bt335.2 != t299)) else (laws_FnExactDampersNeeded.j2 kj40 t327 t326 true)))) = some r := H
             have A65 := Aside0.mk A650
             clear A650
             replace H := Option.bind_eq_some_iff.mp H
             obtain ⟨⟨t335, t336⟩, A660, H⟩ := H
             replace H : ((laws_eqIntS.f kj40 t335 t298).bind fun t339 => (if t339 = true then (laws_FnExactDampersNeeded.j2 kj40 t327 t326 (t336 != t299)) else (laws_FnExactDampersNeeded.j2 kj40 t327 t326 true))) = some r := H
             have A66 := Aside0.mk A660
             clear A660
             have HC67 := Aside0.mk H
             clear H
             obtain ⟨Ao68, co68, eo68⟩ := Kd.R_slice HO_14.out
             subst eo68
             go_upto_region 32 with (first | ((with_reducible refine gate_callee (f := 34) rfl ?_); refine goesL_ (some 93) rfl rfl Try.func34 (by kernel_rfl) rfl #[.slice Ao68 t308.length co68, .int .i64 1] rfl (by (try simp only [List.map_toArray, List.map_cons, List.map_nil]); first | done | rfl | (simp only [List.length_drop, List.length_take]; rfl)) ?_; (with_reducible refine (laws_markIntS.calls kj40 (fun k_ => some k_ = (.slice Ao68 t308.length co68 : Value).ownBlock) (.slice Ao68 t308.length co68) t308 1 t326 t327 w _ ?side1 ?side2 A58.out).mono ?_); (case side1 => repeat (first | (with_reducible first | exact HB.out | apply below_alloc | apply pw_below_drewN | apply below_drew1) | exact HB.out)); (case side2 => exact Kd.R_tight rfl HO_14.out); rintro e w69 ⟨rfl, hy0, hb, hkp⟩; refine ⟨_, rfl, ?_⟩; have n0_ := Aside0.mk (Kd.R_mono (ok' := fun k_ => some k_ ≠ (.slice Ao68 t308.length co68 : Value).ownBlock) (Kd.R_keptB (HO_10.out) hkp (fun k_ hk_ hs_ => (hk_) hs_)) (fun k_ hk_ => hk_.1)); have n1_ := Aside0.mk (Kd.R_reok rfl hy0 (fun k_ e_ => HO_14.out.1 k_ e_)); have n2_ := Aside0.mk (hb); clear HO_10; clear HO_14; clear HB; have HO_10 := n0_; have HO_14 := n1_; have HB := n2_; clear n0_ n1_ n2_; (try clear hb); (try clear hkp); (try clear hy0)) | ((with_reducible refine gate_callee (f := 35) rfl ?_); refine goesL_ (some 96) rfl rfl Try.func35 (by kernel_rfl) rfl #[.slice Ao68 t327.length co68, .int .i64 1] rfl (by (try simp only [List.map_toArray, List.map_cons, List.map_nil]); first | done | (rw [show t327.length = t308.length from (Kd.R_reads' HO_14.out).1.symm] <;> rfl) | rfl | (simp only [List.length_drop, List.length_take]; rfl)) ?_; (with_reducible refine (laws_heldIntS.calls kj40 _ _ t327 1 t328 _ ?side1 ?side2 A59.out).mono ?_); (case side1 => repeat (first | exact (Kd.R_reads' HO_14.out).2.2 | (with_reducible refine Kd.C_alloc ?_ _) | (with_reducible refine Kd.C_drewN ?_ _) | (with_reducible refine Kd.C_drew ?_))); (case side2 => rw [show t327.length = t308.length from (Kd.R_reads' HO_14.out).1.symm]; exact (Kd.R_reads' HO_14.out).2.1); rintro e w' ⟨rfl, ⟨nd, rfl⟩⟩; refine ⟨_, rfl, ?_⟩) | ((with_reducible refine gate_callee (f := 26) rfl ?_); refine goesL_ (some 104) rfl rfl Try.func26 (by kernel_rfl) rfl #[.slice A0 l0.length c0] rfl (by (try simp only [List.map_toArray, List.map_cons, List.map_nil]); first | done | rfl | (simp only [List.length_drop, List.length_take]; rfl)) ?_; (with_reducible refine (laws_toToothS.calls kj40 _ _ l0 t329 _ ?side1 ?side2 A64.out).mono ?_); (case side1 => repeat (first | exact (Kd.C_below HR0.out bl) | (with_reducible refine Kd.C_alloc ?_ _) | (with_reducible refine Kd.C_drewN ?_ _) | (with_reducible refine Kd.C_drew ?_))); (case side2 => exact HC0.out); rintro e w70 ⟨v330, rfl, ho0, hb⟩; refine ⟨_, rfl, ?_⟩; have n0_ := Aside0.mk (Kd.R_below (rup HO_10.out) hb); have n1_ := Aside0.mk (Kd.R_below (rup HO_14.out) hb); have n2_ := Aside0.mk (Kd.R_lower ho0 (below_size bl)); have n3_ := Aside0.mk (below_step bl hb); clear HO_10; clear HO_14; clear HB; have HO_10 := n0_; have HO_14 := n1_; have HO331 := n2_; have HB := n3_; clear n0_ n1_ n2_ n3_; (try clear hb); (try clear hb2); (try clear hk); (try clear hi); (try clear ho0)) | ((with_reducible refine gate_callee (f := 27) rfl ?_); refine goesL_ (some 106) rfl rfl Try.func27 (by kernel_rfl) rfl #[.slice A1 l1.length c1] rfl (by (try simp only [List.map_toArray, List.map_cons, List.map_nil]); first | done | rfl | (simp only [List.length_drop, List.length_take]; rfl)) ?_; (with_reducible refine (laws_toStrikeS.calls kj40 _ _ l1 t332 _ ?side1 ?side2 A65.out).mono ?_); (case side1 => repeat (first | exact (Kd.C_below HR1.out HB.out) | (with_reducible refine Kd.C_alloc ?_ _) | (with_reducible refine Kd.C_drewN ?_ _) | (with_reducible refine Kd.C_drew ?_))); (case side2 => exact HC1.out); rintro e w71 ⟨v333, rfl, ho0, hb⟩; refine ⟨_, rfl, ?_⟩; have n0_ := Aside0.mk (Kd.R_below (rup HO_10.out) hb); have n1_ := Aside0.mk (Kd.R_below (rup HO_14.out) hb); have n2_ := Aside0.mk (Kd.R_below (rup HO331.out) hb); have n3_ := Aside0.mk (Kd.R_lower ho0 (below_size bl)); have n4_ := Aside0.mk (below_step bl hb); clear HO_10; clear HO_14; clear HO331; clear HB; have HO_10 := n0_; have HO_14 := n1_; have HO331 := n2_; have HO334 := n3_; have HB := n4_; clear n0_ n1_ n2_ n3_ n4_; (try clear hb); (try clear hb2); (try clear hk); (try clear hi); (try clear ho0); obtain ⟨Ao72, co72, eo72⟩ := Kd.R_slice HO331.out; subst eo72; obtain ⟨Ao73, co73, eo73⟩ := Kd.R_slice HO334.out; subst eo73) | ((with_reducible refine gate_callee (f := 28) rfl ?_); refine goesL_ (some 109) rfl rfl Try.func28 (by kernel_rfl) rfl #[.slice Ao72 t329.length co72, .slice Ao73 t332.length co73, .int .i64 a2, .int .i64 a3] rfl (by (try simp only [List.map_toArray, List.map_cons, List.map_nil]); first | done | rfl | (simp only [List.length_drop, List.length_take]; rfl)) ?_; (with_reducible refine (impl_DampersNeeded.calls kj40 _ _ t329 _ _ t332 a2 a3 t335 t336 _ ?side1 ?side2 ?side3 ?side4 A66.out).mono ?_); (case side1 => repeat (first | exact (Kd.R_reads' HO331.out).2.2 | (with_reducible refine Kd.C_alloc ?_ _) | (with_reducible refine Kd.C_drewN ?_ _) | (with_reducible refine Kd.C_drew ?_))); (case side2 => exact (Kd.R_reads' HO331.out).2.1); (case side3 => repeat (first | exact (Kd.R_reads' HO334.out).2.2 | (with_reducible refine Kd.C_alloc ?_ _) | (with_reducible refine Kd.C_drewN ?_ _) | (with_reducible refine Kd.C_drew ?_))); (case side4 => exact (Kd.R_reads' HO334.out).2.1); rintro e w74 ⟨v337, rfl, ho0, hb⟩; refine ⟨_, rfl, ?_⟩; have n0_ := Aside0.mk (Kd.R_elder' (rup HO_10.out) (Kd.R_base ho0) hb); have n1_ := Aside0.mk (Kd.R_elder' (rup HO_14.out) (Kd.R_base ho0) hb); have n2_ := Aside0.mk (Kd.R_below (rup HO331.out) hb); have n3_ := Aside0.mk (Kd.R_below (rup HO334.out) hb); have n4_ := Aside0.mk (Kd.R_lower (Kd.R_new' (Kd.R_new' ho0 (Kd.R_lt (rup HO_10.out))) (Kd.R_lt (rup HO_14.out))) (below_size bl)); have n5_ := Aside0.mk (below_step bl hb); clear HO_10; clear HO_14; clear HO331; clear HO334; clear HB; have HO_10 := n0_; have HO_14 := n1_; have HO331 := n2_; have HO334 := n3_; have HO338 := n4_; have HB := n5_; clear n0_ n1_ n2_ n3_ n4_ n5_; (try clear hb); (try clear hb2); (try clear hk); (try clear hi); (try clear ho0)))
             (try simp only [Act.put, List.setIfInBounds_toArray, List.set_cons_zero, List.set_cons_succ])
             go_cut [120] (fun v120 wc => ∃ (kq : Nat) (x120_66 : Bool), v120 = .bool x120_66 ∧ Aside0 (laws_FnExactDampersNeeded.j2 kq t327 t326 x120_66 = some r) ∧ Aside0 (kq ≤ kj40) ∧ Aside0 (Kd.R (Kd.int .i64) 3 wc w.heap.size (fun _ => True) (.slice Ao68 t308.length co68) t327) ∧ Aside0 (Below w.heap.size w wc))
             case first =>
              have H := HC67.out
              clear HC67
              replace H := Option.bind_eq_some_iff.mp H
              obtain ⟨t339, A750, H⟩ := H
              replace H : (if t339 = true then (laws_FnExactDampersNeeded.j2 kj40 t327 t326 (t336 != t299)) else (laws_FnExactDampersNeeded.j2 kj40 t327 t326 true)) = some r := H
              have A75 := Aside0.mk A750
              clear A750
              by_cases c76 : t339 = true
              ·subst c76
               have H1 : (laws_FnExactDampersNeeded.j2 kj40 t327 t326 (t336 != t299)) = some r := by rw [if_pos rfl] at H; exact H
               clear H
               have H := H1
               clear H1
               have H' := Aside0.mk H
               clear H
               obtain ⟨Ao77, co77, eo77⟩ := Kd.R_slice HO338.out
               subst eo77
               obtain ⟨Ao78, co78, eo78⟩ := Kd.R_slice HO_10.out
               subst eo78
               go_wp2_with (first | ((with_reducible refine gate_callee (f := 29) rfl ?_); refine goesL_ (some 114) rfl rfl Try.func29 (by kernel_rfl) rfl #[.slice Ao77 t335.length co77, .slice Ao78 t298.length co78] rfl (by (try simp only [List.map_toArray, List.map_cons, List.map_nil]); first | done | rfl | (simp only [List.length_drop, List.length_take]; rfl)) ?_; (with_reducible refine (laws_eqIntS.calls kj40 _ _ t335 _ _ t298 true _ ?side1 ?side2 ?side3 ?side4 A75.out).mono ?_); (case side1 => repeat (first | exact (Kd.R_reads' HO338.out).2.2 | (with_reducible refine Kd.C_alloc ?_ _) | (with_reducible refine Kd.C_drewN ?_ _) | (with_reducible refine Kd.C_drew ?_))); (case side2 => exact (Kd.R_reads' HO338.out).2.1); (case side3 => repeat (first | exact (Kd.R_reads' HO_10.out).2.2 | (with_reducible refine Kd.C_alloc ?_ _) | (with_reducible refine Kd.C_drewN ?_ _) | (with_reducible refine Kd.C_drew ?_))); (case side4 => exact (Kd.R_reads' HO_10.out).2.1); rintro e w' ⟨rfl, ⟨nd, rfl⟩⟩; refine ⟨_, rfl, ?_⟩))
               go_meet
               case rel => exact ⟨_, ((t336 != t299)), fin2, H', ⟨by have := HJ14.out; have := HJ40.out; first | omega | exact Nat.le_refl _⟩, ⟨by (with_reducible repeat (first | apply Kd.R_alloc | apply Kd.R_drewN | apply Kd.R_drew)); exact Kd.R_mono HO_14.out (fun _ hk => trivial)⟩, ⟨bl⟩⟩
              ·replace c76 := Bool.eq_false_iff.mpr c76
               subst c76
               have H1 : (laws_FnExactDampersNeeded.j2 kj40 t327 t326 true) = some r := by rw [if_neg (show ¬ (false = true) by decide)] at H; exact H
               clear H
               have H := H1
               clear H1
               have H' := Aside0.mk H
               clear H
               obtain ⟨Ao79, co79, eo79⟩ := Kd.R_slice HO338.out
               subst eo79
               obtain ⟨Ao80, co80, eo80⟩ := Kd.R_slice HO_10.out
               subst eo80
               go_wp2_with (first | ((with_reducible refine gate_callee (f := 29) rfl ?_); refine goesL_ (some 114) rfl rfl Try.func29 (by kernel_rfl) rfl #[.slice Ao79 t335.length co79, .slice Ao80 t298.length co80] rfl (by (try simp only [List.map_toArray, List.map_cons, List.map_nil]); first | done | rfl | (simp only [List.length_drop, List.length_take]; rfl)) ?_; (with_reducible refine (laws_eqIntS.calls kj40 _ _ t335 _ _ t298 false _ ?side1 ?side2 ?side3 ?side4 A75.out).mono ?_); (case side1 => repeat (first | exact (Kd.R_reads' HO338.out).2.2 | (with_reducible refine Kd.C_alloc ?_ _) | (with_reducible refine Kd.C_drewN ?_ _) | (with_reducible refine Kd.C_drew ?_))); (case side2 => exact (Kd.R_reads' HO338.out).2.1); (case side3 => repeat (first | exact (Kd.R_reads' HO_10.out).2.2 | (with_reducible refine Kd.C_alloc ?_ _) | (with_reducible refine Kd.C_drewN ?_ _) | (with_reducible refine Kd.C_drew ?_))); (case side4 => exact (Kd.R_reads' HO_10.out).2.1); rintro e w' ⟨rfl, ⟨nd, rfl⟩⟩; refine ⟨_, rfl, ?_⟩))
               go_meet
               case rel => exact ⟨_, (true), fin2, H', ⟨by have := HJ14.out; have := HJ40.out; first | omega | exact Nat.le_refl _⟩, ⟨by (with_reducible repeat (first | apply Kd.R_alloc | apply Kd.R_drewN | apply Kd.R_drew)); exact Kd.R_mono HO_14.out (fun _ hk => trivial)⟩, ⟨bl⟩⟩
             case rest =>
              clear HC67
              try clear c1
              try clear c2
              try clear p2
              try clear c3
              try clear c5
              try clear c6
              try clear c6b0
              try clear c7
              try clear c8
              try clear c8b0
              try clear c23
              try clear c24
              try clear c25
              try clear c26
              try clear c27
              try clear c28
              try clear c29
              try clear c30
              try clear c31
              try clear c32
              try clear c33
              try clear c34
              try clear c35
              try clear c38
              try clear c50
              try clear c50b0
              try clear c52
              try clear c57
              try clear c60
              try clear c60b0
              try clear c63
              try clear c63b0
              try clear c63b1
              try clear c76
              try clear p2
              obtain ⟨kq, x120_66, rfl, HA, HJ66, HO_14, HB⟩ := hcut
              have hl14_66 := (Kd.R_reads' HO_14.out).1
              rw [hl14_66] at HO_14
              (try simp only [hl14_66])
              cases kq with
              | zero => exact absurd HA.out (by simp [laws_FnExactDampersNeeded.j2])
              | succ kj66 =>
               have H := HA.out
               clear HA
               simp only [laws_FnExactDampersNeeded.j2] at H
               by_cases c81 : x120_66 = true
               ·subst c81
                have H1 : (some false) = some r := by rw [if_pos rfl] at H; exact H
                clear H
                have H := H1
                clear H1
                obtain rfl := Option.some.inj H
                exact absurd hrt.out (by simp)
               ·replace c81 := Bool.eq_false_iff.mpr c81
                subst c81
                have H1 : ((laws_heldIntS.f kj66 t327 1).bind fun t340 => (if t340 < 0 then (some false) else (if t340 = t326 then (some true) else (some false)))) = some r := by rw [if_neg (show ¬ (false = true) by decide)] at H; exact H
                clear H
                have H := H1
                clear H1
                replace H := Option.bind_eq_some_iff.mp H
                obtain ⟨t340, A820, H⟩ := H
                replace H : (if t340 < 0 then (some false) else (if t340 = t326 then (some true) else (some false))) = some r := H
                have A82 := Aside0.mk A820
                clear A820
                by_cases c83 : t340 < 0
                ·rw [if_pos c83] at H
                 have c83b0 : decide (t340 < 0) = true := decide_eq_true c83
                 clear c83
                 obtain rfl := Option.some.inj H
                 go_wp2_with (first | ((with_reducible refine gate_callee (f := 35) rfl ?_); refine goesL_ (some 123) rfl rfl Try.func35 (by kernel_rfl) rfl #[.slice Ao68 t327.length co68, .int .i64 1] rfl (by (try simp only [List.map_toArray, List.map_cons, List.map_nil]); first | done | rfl | (simp only [List.length_drop, List.length_take]; rfl)) ?_; (with_reducible refine (laws_heldIntS.calls kj66 _ _ t327 1 t340 _ ?side1 ?side2 A82.out).mono ?_); (case side1 => repeat (first | exact (Kd.R_reads' HO_14.out).2.2 | (with_reducible refine Kd.C_alloc ?_ _) | (with_reducible refine Kd.C_drewN ?_ _) | (with_reducible refine Kd.C_drew ?_))); (case side2 => exact (Kd.R_reads' HO_14.out).2.1); rintro e w' ⟨rfl, ⟨nd, rfl⟩⟩; refine ⟨_, rfl, ?_⟩))
                 go_ret
                 exact ⟨fin1, bl⟩
                ·rw [if_neg c83] at H
                 have c83b0 : decide (t340 < 0) = false := decide_eq_false c83
                 clear c83
                 by_cases c84 : t340 = t326
                 ·rw [if_pos c84] at H
                  have c84b0 : (t340 == t326) = true := beq_iff_eq.mpr c84
                  have c84b1 : (t340 != t326) = false := bne_eq_false_iff_eq.mpr c84
                  clear c84
                  obtain rfl := Option.some.inj H
                  go_wp2_with (first | ((with_reducible refine gate_callee (f := 35) rfl ?_); refine goesL_ (some 123) rfl rfl Try.func35 (by kernel_rfl) rfl #[.slice Ao68 t327.length co68, .int .i64 1] rfl (by (try simp only [List.map_toArray, List.map_cons, List.map_nil]); first | done | rfl | (simp only [List.length_drop, List.length_take]; rfl)) ?_; (with_reducible refine (laws_heldIntS.calls kj66 _ _ t327 1 t340 _ ?side1 ?side2 A82.out).mono ?_); (case side1 => repeat (first | exact (Kd.R_reads' HO_14.out).2.2 | (with_reducible refine Kd.C_alloc ?_ _) | (with_reducible refine Kd.C_drewN ?_ _) | (with_reducible refine Kd.C_drew ?_))); (case side2 => exact (Kd.R_reads' HO_14.out).2.1); rintro e w' ⟨rfl, ⟨nd, rfl⟩⟩; refine ⟨_, rfl, ?_⟩))
                  go_ret
                  exact ⟨fin1, bl⟩
                 ·rw [if_neg c84] at H
                  have c84b0 : (t340 == t326) = false := beq_eq_false_iff_ne.mpr c84
                  have c84b1 : (t340 != t326) = true := bne_iff_ne.mpr c84
                  obtain rfl := Option.some.inj H
                  go_wp2_with (first | ((with_reducible refine gate_callee (f := 35) rfl ?_); refine goesL_ (some 123) rfl rfl Try.func35 (by kernel_rfl) rfl #[.slice Ao68 t327.length co68, .int .i64 1] rfl (by (try simp only [List.map_toArray, List.map_cons, List.map_nil]); first | done | rfl | (simp only [List.length_drop, List.length_take]; rfl)) ?_; (with_reducible refine (laws_heldIntS.calls kj66 _ _ t327 1 t340 _ ?side1 ?side2 A82.out).mono ?_); (case side1 => repeat (first | exact (Kd.R_reads' HO_14.out).2.2 | (with_reducible refine Kd.C_alloc ?_ _) | (with_reducible refine Kd.C_drewN ?_ _) | (with_reducible refine Kd.C_drew ?_))); (case side2 => exact (Kd.R_reads' HO_14.out).2.1); rintro e w' ⟨rfl, ⟨nd, rfl⟩⟩; refine ⟨_, rfl, ?_⟩))
                  go_ret
                  exact ⟨fin1, bl⟩
            ·rw [if_neg c63] at H
             have c63b0 : (t328 == t326) = false := beq_eq_false_iff_ne.mpr c63
             have c63b1 : (t328 != t326) = true := bne_iff_ne.mpr c63
             obtain rfl := Option.some.inj H
             obtain ⟨Ao85, co85, eo85⟩ := Kd.R_slice HO_14.out
             subst eo85
             go_wp2_with (first | ((with_reducible refine gate_callee (f := 34) rfl ?_); refine goesL_ (some 93) rfl rfl Try.func34 (by kernel_rfl) rfl #[.slice Ao85 t308.length co85, .int .i64 1] rfl (by (try simp only [List.map_toArray, List.map_cons, List.map_nil]); first | done | rfl | (simp only [List.length_drop, List.length_take]; rfl)) ?_; (with_reducible refine (laws_markIntS.calls kj40 (fun k_ => some k_ = (.slice Ao85 t308.length co85 : Value).ownBlock) (.slice Ao85 t308.length co85) t308 1 t326 t327 w _ ?side1 ?side2 A58.out).mono ?_); (case side1 => repeat (first | (with_reducible first | exact HB.out | apply below_alloc | apply pw_below_drewN | apply below_drew1) | exact HB.out)); (case side2 => exact Kd.R_tight rfl HO_14.out); rintro e w86 ⟨rfl, hy0, hb, hkp⟩; refine ⟨_, rfl, ?_⟩; have n0_ := Aside0.mk (Kd.R_mono (ok' := fun k_ => some k_ ≠ (.slice Ao85 t308.length co85 : Value).ownBlock) (Kd.R_keptB (HO_10.out) hkp (fun k_ hk_ hs_ => (hk_) hs_)) (fun k_ hk_ => hk_.1)); have n1_ := Aside0.mk (Kd.R_reok rfl hy0 (fun k_ e_ => HO_14.out.1 k_ e_)); have n2_ := Aside0.mk (hb); clear HO_10; clear HO_14; clear HB; have HO_10 := n0_; have HO_14 := n1_; have HB := n2_; clear n0_ n1_ n2_; (try clear hb); (try clear hkp); (try clear hy0)) | ((with_reducible refine gate_callee (f := 35) rfl ?_); refine goesL_ (some 96) rfl rfl Try.func35 (by kernel_rfl) rfl #[.slice Ao85 t327.length co85, .int .i64 1] rfl (by (try simp only [List.map_toArray, List.map_cons, List.map_nil]); first | done | (rw [show t327.length = t308.length from (Kd.R_reads' HO_14.out).1.symm] <;> rfl) | rfl | (simp only [List.length_drop, List.length_take]; rfl)) ?_; (with_reducible refine (laws_heldIntS.calls kj40 _ _ t327 1 t328 _ ?side1 ?side2 A59.out).mono ?_); (case side1 => repeat (first | exact (Kd.R_reads' HO_14.out).2.2 | (with_reducible refine Kd.C_alloc ?_ _) | (with_reducible refine Kd.C_drewN ?_ _) | (with_reducible refine Kd.C_drew ?_))); (case side2 => rw [show t327.length = t308.length from (Kd.R_reads' HO_14.out).1.symm]; exact (Kd.R_reads' HO_14.out).2.1); rintro e w' ⟨rfl, ⟨nd, rfl⟩⟩; refine ⟨_, rfl, ?_⟩))
             go_ret
             exact ⟨fin1, bl⟩
       ·replace c38 := Bool.eq_false_iff.mpr c38
        subst c38
        have H1 : (some false) = some r := by rw [if_neg (show ¬ (false = true) by decide)] at H; exact H
        clear H
        have H := H1
        clear H1
        obtain rfl := Option.some.inj H
        exact absurd hrt.out (by simp)
      ·replace c35 := Bool.eq_false_iff.mpr c35
       subst c35
       have H1 : (some false) = some r := by rw [if_neg (show ¬ (false = true) by decide)] at H; exact H
       clear H
       have H := H1
       clear H1
       obtain rfl := Option.some.inj H
       exact absurd hrt.out (by simp)
end Go.Proofs.Ytjniaiobnbdhhac.PFnExactDampersNeeded
