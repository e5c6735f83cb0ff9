/- The walks of functions that FnExactRepairCost reaches: what they return is what the plain functions of the same names say. Laid by a program of this session after the kit's print. No conditions beyond the arguments' being read. -/
import Derived.Test.YtjniaiobnbdhhaaRRepairCost0
import Derived.Test.YtjniaiobnbdhhaaRRepairCost3
namespace Go.Proofs.Ytjniaiobnbdhhaa.PFnExactRepairCost
open Go.RowKit Go.Proofs.YtjniaiobnbdhhaaW.PrintWords Go.Proofs.YtjniaiobnbdhhaaW.PrintLast Go.Proofs.YtjniaiobnbdhhaaW.PrintMore
attribute [local go_sem] max2_int min2_int max_two min_two max_three min_three max_four min_four   -- for this text's walks alone
set_option linter.unusedVariables false
set_option linter.unusedSimpArgs false

/-! ### spec_rpRanges: function 89 -/
mutual
def spec_rpRanges.l0 : Nat → List (List Bool) → List (List Bool) → List (List Int) → Int → Int → Option ((List (List Int)))
  | 0, _, _, _, _, _ => none
  | k + 1, x5, x6, x7, x16, x17 => if x17 < x16 then (if 0 ≤ x17 then (if x17 < (x5.length : Int) then (spec_rpRanges.l1 k x5 x6 x7 x17 x16 x17 ((rd_L4 x5 x17).length : Int) 0) else (none)) else (none)) else (some x7)
def spec_rpRanges.l1 : Nat → List (List Bool) → List (List Bool) → List (List Int) → Int → Int → Int → Int → Int → Option ((List (List Int)))
  | 0, _, _, _, _, _, _, _, _ => none
  | k + 1, x5, x6, x7, x8, x16, x17, x24, x25 => if x25 < x24 then (if 0 ≤ x8 then (if x8 < (x5.length : Int) then (if 0 ≤ x25 then (if x25 < ((rd_L4 x5 x8).length : Int) then (if (rdOf false (rd_L4 x5 x8) x25 = true) then (if x8 < (x6.length : Int) then (if x25 < ((rd_L4 x6 x8).length : Int) then (spec_rpRanges.j2 k x5 x6 x7 x8 x25 x16 x17 x24 x25 (rdOf false (rd_L4 x6 x8) x25)) else (none)) else (none)) else (spec_rpRanges.j2 k x5 x6 x7 x8 x25 x16 x17 x24 x25 true)) else (none)) else (none)) else (none)) else (none)) else (spec_rpRanges.l0 k x5 x6 x7 x16 (wrap64 (x17 + 1)))
def spec_rpRanges.j2 : Nat → List (List Bool) → List (List Bool) → List (List Int) → Int → Int → Int → Int → Int → Int → Bool → Option ((List (List Int)))
  | 0, _, _, _, _, _, _, _, _, _, _ => none
  | k + 1, x5, x6, x7, x8, x9, x16, x17, x24, x25, x44 => if x44 = true then (spec_rpRanges.l1 k x5 x6 x7 x8 x16 x17 x24 (wrap64 (x25 + 1))) else (if (x7.length : Int) > 0 then (if 0 ≤ (wrap64 ((x7.length : Int) - 1)) then (if (wrap64 ((x7.length : Int) - 1)) < (x7.length : Int) then (if 0 < ((rd_L5 x7 (wrap64 ((x7.length : Int) - 1))).length : Int) then (if (rd (rd_L5 x7 (wrap64 ((x7.length : Int) - 1))) 0) = x8 then (if 2 < ((rd_L5 x7 (wrap64 ((x7.length : Int) - 1))).length : Int) then (if (rd (rd_L5 x7 (wrap64 ((x7.length : Int) - 1))) 2) = x9 then (spec_rpRanges.l1 k x5 x6 (x7.set ((wrap64 ((x7.length : Int) - 1)) : Int).toNat ((rd_L5 x7 (wrap64 ((x7.length : Int) - 1))).set (2 : Int).toNat (wrap64 ((rd (rd_L5 x7 (wrap64 ((x7.length : Int) - 1))) 2) + 1)))) x8 x16 x17 x24 (wrap64 (x25 + 1))) else (if x7.length < 5864062014805 then (spec_rpRanges.l1 k x5 x6 (x7 ++ [(([x8, x9, wrap64 (x9 + 1)] : List Int))]) x8 x16 x17 x24 (wrap64 (x25 + 1))) else (none))) else (none)) else (if x7.length < 5864062014805 then (spec_rpRanges.l1 k x5 x6 (x7 ++ [(([x8, x9, wrap64 (x9 + 1)] : List Int))]) x8 x16 x17 x24 (wrap64 (x25 + 1))) else (none))) else (none)) else (none)) else (none)) else (if x7.length < 5864062014805 then (spec_rpRanges.l1 k x5 x6 (x7 ++ [(([x8, x9, wrap64 (x9 + 1)] : List Int))]) x8 x16 x17 x24 (wrap64 (x25 + 1))) else (none)))
end
def spec_rpRanges.f (k : Nat) (l0 : List (S117)) (l1 : List (S117)) : Option ((List (List Int))) := (spec_rpOpen.f k l0).bind fun t152 => ((spec_rpOpen.f k l1).bind fun t155 => (spec_rpRanges.l0 k t152 t155 ([] : List (List Int)) (t152.length : Int) 0))
theorem spec_rpRanges.mono_l : ∀ k, (∀ y0 y1 y2 y3 y4, LeO (spec_rpRanges.l0 k y0 y1 y2 y3 y4) (spec_rpRanges.l0 (k + 1) y0 y1 y2 y3 y4)) ∧ (∀ y0 y1 y2 y3 y4 y5 y6 y7, LeO (spec_rpRanges.l1 k y0 y1 y2 y3 y4 y5 y6 y7) (spec_rpRanges.l1 (k + 1) y0 y1 y2 y3 y4 y5 y6 y7)) ∧ (∀ y0 y1 y2 y3 y4 y5 y6 y7 y8 y9, LeO (spec_rpRanges.j2 k y0 y1 y2 y3 y4 y5 y6 y7 y8 y9) (spec_rpRanges.j2 (k + 1) y0 y1 y2 y3 y4 y5 y6 y7 y8 y9))
  | 0 => ⟨fun _ _ _ _ _ r h => by simp [spec_rpRanges.l0] at h, fun _ _ _ _ _ _ _ _ r h => by simp [spec_rpRanges.l1] at h, fun _ _ _ _ _ _ _ _ _ _ r h => by simp [spec_rpRanges.j2] at h⟩
  | k + 1 => by
    obtain ⟨ih0, ih1, ih2⟩ := spec_rpRanges.mono_l k
    refine ⟨?_, ?_, ?_⟩
    · intro y0 y1 y2 y3 y4
      unfold spec_rpRanges.l0
      repeat' first
      | (with_reducible exact ih0 _ _ _ _ _)
      | (with_reducible exact ih1 _ _ _ _ _ _ _ _)
      | (with_reducible exact ih2 _ _ _ _ _ _ _ _ _ _)
      | (with_reducible exact spec_rpOpen.mono _ _)
      | (with_reducible exact LeO.refl _)
      | (with_reducible exact LeO.none _)
      | (with_reducible refine LeO.ite ?_ ?_)
      | (with_reducible refine LeO.bind ?_ (fun _ => ?_))
      | exact ih0 _ _ _ _ _
      | exact ih1 _ _ _ _ _ _ _ _
      | exact ih2 _ _ _ _ _ _ _ _ _ _
      | exact spec_rpOpen.mono _ _
      | exact LeO.none _
      | refine LeO.ite ?_ ?_
      | refine LeO.bind ?_ (fun _ => ?_)
    · intro y0 y1 y2 y3 y4 y5 y6 y7
      unfold spec_rpRanges.l1
      repeat' first
      | (with_reducible exact ih0 _ _ _ _ _)
      | (with_reducible exact ih1 _ _ _ _ _ _ _ _)
      | (with_reducible exact ih2 _ _ _ _ _ _ _ _ _ _)
      | (with_reducible exact spec_rpOpen.mono _ _)
      | (with_reducible exact LeO.refl _)
      | (with_reducible exact LeO.none _)
      | (with_reducible refine LeO.ite ?_ ?_)
      | (with_reducible refine LeO.bind ?_ (fun _ => ?_))
      | exact ih0 _ _ _ _ _
      | exact ih1 _ _ _ _ _ _ _ _
      | exact ih2 _ _ _ _ _ _ _ _ _ _
      | exact spec_rpOpen.mono _ _
      | exact LeO.none _
      | refine LeO.ite ?_ ?_
      | refine LeO.bind ?_ (fun _ => ?_)
    · intro y0 y1 y2 y3 y4 y5 y6 y7 y8 y9
      unfold spec_rpRanges.j2
      repeat' first
      | (with_reducible exact ih0 _ _ _ _ _)
      | (with_reducible exact ih1 _ _ _ _ _ _ _ _)
      | (with_reducible exact ih2 _ _ _ _ _ _ _ _ _ _)
      | (with_reducible exact spec_rpOpen.mono _ _)
      | (with_reducible exact LeO.refl _)
      | (with_reducible exact LeO.none _)
      | (with_reducible refine LeO.ite ?_ ?_)
      | (with_reducible refine LeO.bind ?_ (fun _ => ?_))
      | exact ih0 _ _ _ _ _
      | exact ih1 _ _ _ _ _ _ _ _
      | exact ih2 _ _ _ _ _ _ _ _ _ _
      | exact spec_rpOpen.mono _ _
      | exact LeO.none _
      | refine LeO.ite ?_ ?_
      | refine LeO.bind ?_ (fun _ => ?_)
theorem spec_rpRanges.mono : ∀ a0 a1 k, LeO (spec_rpRanges.f k a0 a1) (spec_rpRanges.f (k + 1) a0 a1) := by
  intro a0 a1 k
  obtain ⟨ih0, ih1, ih2⟩ := spec_rpRanges.mono_l k
  unfold spec_rpRanges.f
  repeat' first
      | (with_reducible exact ih0 _ _ _ _ _)
      | (with_reducible exact ih1 _ _ _ _ _ _ _ _)
      | (with_reducible exact ih2 _ _ _ _ _ _ _ _ _ _)
      | (with_reducible exact spec_rpOpen.mono _ _)
      | (with_reducible exact LeO.refl _)
      | (with_reducible exact LeO.none _)
      | (with_reducible refine LeO.ite ?_ ?_)
      | (with_reducible refine LeO.bind ?_ (fun _ => ?_))
      | exact ih0 _ _ _ _ _
      | exact ih1 _ _ _ _ _ _ _ _
      | exact ih2 _ _ _ _ _ _ _ _ _ _
      | exact spec_rpOpen.mono _ _
      | exact LeO.none _
      | refine LeO.ite ?_ ?_
      | refine LeO.bind ?_ (fun _ => ?_)
set_option maxHeartbeats 8000000 in
set_option maxRecDepth 100000 in
theorem spec_rpRanges.calls (k : Nat) (A0 : Option Addr) (c0 : Nat) (l0 : List (S117)) (A1 : Option Addr) (c1 : Nat) (l1 : List (S117)) (r : List (List Int)) (w : World) (hr0 : Kd.C k117 w A0 l0.length l0) (hc0 : l0.length ≤ c0) (hr1 : Kd.C k117 w A1 l1.length l1) (hc1 : l1.length ≤ c1) (h : spec_rpRanges.f k l0 l1 = some r) :
    Calls Try.prog 89 #[.slice A0 l0.length c0, .slice A1 l1.length c1] w fun e w' => ∃ v0_ : Value, e = .returned (v0_) ∧ Kd.S (Kd.slice 3 (Kd.int .i64)) 73 w' w.heap.size (fun _ => True) v0_ r ∧ Below w.heap.size w w' := by
  have HR0 := Aside0.mk hr0
  have HC0 := Aside0.mk hc0
  clear hr0 hc0
  have HR1 := Aside0.mk hr1
  have HC1 := Aside0.mk hc1
  clear hr1 hc1
  have HB := Aside0.mk (Below.refl w.heap.size w)
  have H : ((spec_rpOpen.f k l0).bind fun t152 => ((spec_rpOpen.f k l1).bind fun t155 => (spec_rpRanges.l0 k t152 t155 ([] : List (List Int)) (t152.length : Int) 0))) = some r := h
  clear h
  replace H := Option.bind_eq_some_iff.mp H
  obtain ⟨t152, A30, H⟩ := H
  replace H : ((spec_rpOpen.f k l1).bind fun t155 => (spec_rpRanges.l0 k t152 t155 ([] : List (List Int)) (t152.length : Int) 0)) = some r := H
  have A3 := Aside0.mk A30
  clear A30
  replace H := Option.bind_eq_some_iff.mp H
  obtain ⟨t155, A40, H⟩ := H
  replace H : (spec_rpRanges.l0 k t152 t155 ([] : List (List Int)) (t152.length : Int) 0) = some r := H
  have A4 := Aside0.mk A40
  clear A40
  have H' := Aside0.mk H
  clear H
  go_enter Try.func89, Try.ntmps89
  go_wp2_with (first | ((with_reducible refine gate_callee (f := 101) rfl ?_); refine goesL_ (some 12) rfl rfl Try.func101 (by kernel_rfl) rfl #[.slice A0 l0.length c0] rfl (by (try simp only [List.map_toArray, List.map_cons, List.map_nil]); first | done | rfl | (simp only [List.length_drop, List.length_take]; rfl)) ?_; (with_reducible refine (spec_rpOpen.calls k _ _ l0 t152 _ ?side1 ?side2 A3.out).mono ?_); (case side1 => repeat (first | exact HR0.out | (with_reducible refine Kd.C_alloc ?_ _) | (with_reducible refine Kd.C_drewN ?_ _) | (with_reducible refine Kd.C_drew ?_))); (case side2 => exact HC0.out); rintro e w5 ⟨v153, rfl, ho0, hb⟩; refine ⟨_, rfl, ?_⟩; have n0_ := Aside0.mk (Kd.S_lower ho0 (below_size (by repeat (first | (with_reducible first | exact HB.out | apply below_alloc | apply pw_below_drewN | apply below_drew1) | exact HB.out)))); have n1_ := Aside0.mk (below_step (by repeat (first | (with_reducible first | exact HB.out | apply below_alloc | apply pw_below_drewN | apply below_drew1) | exact HB.out)) hb); clear HB; have HO154 := n0_; have HB := n1_; clear n0_ n1_; (try clear hb); (try clear hb2); (try clear hk); (try clear hi); (try clear ho0)) | ((with_reducible refine gate_callee (f := 101) rfl ?_); refine goesL_ (some 14) rfl rfl Try.func101 (by kernel_rfl) rfl #[.slice A1 l1.length c1] rfl (by (try simp only [List.map_toArray, List.map_cons, List.map_nil]); first | done | rfl | (simp only [List.length_drop, List.length_take]; rfl)) ?_; (with_reducible refine (spec_rpOpen.calls k _ _ l1 t155 _ ?side1 ?side2 A4.out).mono ?_); (case side1 => repeat (first | exact (Kd.C_below HR1.out HB.out) | (with_reducible refine Kd.C_alloc ?_ _) | (with_reducible refine Kd.C_drewN ?_ _) | (with_reducible refine Kd.C_drew ?_))); (case side2 => exact HC1.out); rintro e w6 ⟨v156, rfl, ho0, hb⟩; refine ⟨_, rfl, ?_⟩; have n0_ := Aside0.mk (Kd.S_elder' (by (with_reducible repeat (first | apply Kd.S_alloc | apply Kd.S_drewN | apply Kd.S_drew)); exact HO154.out) (Kd.S_base ho0) hb); have n1_ := Aside0.mk (Kd.S_lower (Kd.S_new' ho0 (Kd.S_lt (by (with_reducible repeat (first | apply Kd.S_alloc | apply Kd.S_drewN | apply Kd.S_drew)); exact HO154.out))) (below_size (by repeat (first | (with_reducible first | exact HB.out | apply below_alloc | apply pw_below_drewN | apply below_drew1) | exact HB.out)))); have n2_ := Aside0.mk (below_step (by repeat (first | (with_reducible first | exact HB.out | apply below_alloc | apply pw_below_drewN | apply below_drew1) | exact HB.out)) hb); clear HO154; clear HB; have HO154 := n0_; have HO157 := n1_; have HB := n2_; clear n0_ n1_ n2_; (try clear hb); (try clear hb2); (try clear hk); (try clear hi); (try clear ho0); obtain ⟨Ao7, co7, eo7⟩ := Kd.S_slice HO154.out; subst eo7))
  go_loopg [7, 17] k (fun kq v7 v17 w' => ∃ (x7_1 : List (List Int)) (x17_1 : Int), v17 = .int .i64 x17_1 ∧ Aside0 (spec_rpRanges.l0 kq t152 t155 x7_1 (t152.length : Int) x17_1 = some r) ∧ Aside0 (kq ≤ k) ∧ Aside0 (Kd.S (Kd.slice 4 Kd.bool) 131 w' w.heap.size (fun k_ => some k_ ≠ (v156 : Value).ownBlock) (.slice Ao7 t152.length co7) t152) ∧ Aside0 (Kd.S (Kd.slice 4 Kd.bool) 131 w' w.heap.size (fun k_ => some k_ ≠ ((.slice Ao7 t152.length co7) : Value).ownBlock) v156 t155) ∧ Aside0 (Kd.S (Kd.slice 3 (Kd.int .i64)) 73 w' w.heap.size (fun _ => True) v7 x7_1) ∧ Aside0 (Below w.heap.size w w'))
  case atStart => exact ⟨(([] : List (List Int))), (0), (by first | rfl | (simp; done) | (simp [*]; done)), H', ⟨Nat.le_refl _⟩, ⟨by (with_reducible repeat (first | apply Kd.S_alloc | apply Kd.S_drewN | apply Kd.S_drew)); exact Kd.S_mono HO154.out (fun _ hk => hk.2)⟩, ⟨by (with_reducible repeat (first | apply Kd.S_alloc | apply Kd.S_drewN | apply Kd.S_drew)); exact Kd.S_mono HO157.out (fun _ hk => hk.2)⟩, ⟨by first | exact Kd.S_nil _ _ _ _ _ | exact Kd.N_nil _ _ _ _ _ | exact Kd.V_nil _ _ _ _ _ | exact Kd.Q_nil _ _ _ _ _ | exact Kd.R_nil _ _ _ _ _⟩, ⟨by repeat (first | (with_reducible first | exact HB.out | apply below_alloc | apply pw_below_drewN | apply below_drew1) | exact HB.out)⟩⟩
  case round =>
    clear H'
    try clear c1
    try clear p2
    obtain ⟨x7_1, x17_1, rfl, HA, HK1, HO_5, HO_6, HO_7, HB⟩ := hrel
    cases gk with
    | zero => exact absurd HA.out (by simp [spec_rpRanges.l0])
    | succ k1 =>
      have H := HA.out
      clear HA
      simp only [spec_rpRanges.l0] at H
      by_cases c8 : x17_1 < (t152.length : Int)
      · rw [if_pos c8] at H
        have c8b0 : decide (x17_1 < (t152.length : Int)) = true := decide_eq_true c8
        clear c8
        by_cases c9 : 0 ≤ x17_1
        · rw [if_pos c9] at H
          have c9b0 : decide (0 ≤ x17_1) = true := decide_eq_true c9
          clear c9
          by_cases c10 : x17_1 < (t152.length : Int)
          · rw [if_pos c10] at H
            have c10b0 : decide (x17_1 < (t152.length : Int)) = true := decide_eq_true c10
            clear c10
            have H' := Aside0.mk H
            clear H
            have p158 : 0 ≤ (x17_1 : Int) := of_decide_eq_true (by first | (with_reducible assumption) | assumption)
            have q158 : x17_1 < (t152.length : Int) := of_decide_eq_true (by first | (with_reducible assumption) | assumption)
            obtain ⟨ad158, A158_0, c158_0, e158, hx158_0, hl158_0, hi158_0⟩ := at_L4 (Kd.S_reads' HO_5.out).2.2 x17_1 p158 q158
            cases e158
            obtain ⟨ce158, hce158, hMe158, hcc158⟩ := Kd.S_get HO_5.out [] x17_1 p158 (by first | exact q158 | exact of_decide_eq_true (by first | (with_reducible assumption) | assumption) | (have e_ := (Kd.S_reads' HO_5.out).1; omega))
            obtain ⟨ve158_0, rfl, ge158_0⟩ := hMe158
            have hv158_0 := hcc158 0 _ rfl
            rw [Nat.add_zero, show ((Kd.slice 4 Kd.bool)).sz = 1 from rfl, Nat.mul_one] at hv158_0
            replace hv158_0 := Option.some.inj (hv158_0.symm.trans hx158_0)
            rw [hv158_0] at ge158_0
            have HL158_0 := Aside0.mk (show Kd.R Kd.bool 4 _ _ _ _ (rd_L4 t152 x17_1) from ge158_0)
            clear hv158_0 ge158_0
            have HX158_0 := Aside0.mk hx158_0
            clear hcc158 hce158
            have HR158_0 := Aside0.mk hi158_0
            have HC158_0 := Aside0.mk hl158_0
            clear hi158_0 hl158_0
            replace p158 := eq_true p158
            replace q158 := eq_true q158
            go_wp2
            go_loopg [7, 25] k1 (fun kq v7 v25 w' => ∃ (x7_2 : List (List Int)) (x25_2 : Int), v25 = .int .i64 x25_2 ∧ Aside0 (spec_rpRanges.l1 kq t152 t155 x7_2 x17_1 (t152.length : Int) x17_1 ((rd_L4 t152 x17_1).length : Int) x25_2 = some r) ∧ Aside0 (kq ≤ k1) ∧ Aside0 (Kd.S (Kd.slice 4 Kd.bool) 131 w' w.heap.size (fun k_ => some k_ ≠ (v156 : Value).ownBlock) (.slice (some ad158) t152.length co7) t152) ∧ Aside0 (Kd.S (Kd.slice 4 Kd.bool) 131 w' w.heap.size (fun k_ => some k_ ≠ ((.slice (some ad158) t152.length co7) : Value).ownBlock) v156 t155) ∧ Aside0 (Kd.S (Kd.slice 3 (Kd.int .i64)) 73 w' w.heap.size (fun _ => True) v7 x7_2) ∧ Aside0 (Below w.heap.size w w'))
            case atStart => exact ⟨(x7_1), (0), (by first | rfl | (simp; done) | (simp [*]; done)), H', ⟨Nat.le_refl _⟩, ⟨by (with_reducible repeat (first | apply Kd.S_alloc | apply Kd.S_drewN | apply Kd.S_drew)); exact HO_5.out⟩, ⟨by (with_reducible repeat (first | apply Kd.S_alloc | apply Kd.S_drewN | apply Kd.S_drew)); exact HO_6.out⟩, ⟨by (with_reducible repeat (first | apply Kd.S_alloc | apply Kd.S_drewN | apply Kd.S_drew)); exact HO_7.out⟩, ⟨by repeat (first | (with_reducible first | exact HB.out | apply below_alloc | apply pw_below_drewN | apply below_drew1) | exact HB.out)⟩⟩
            case round =>
              clear H'
              try clear c1
              try clear p1
              try clear q1
              try clear hx1
              try clear p2
              try clear c8
              try clear c8b0
              try clear c9
              try clear c9b0
              try clear c10
              try clear c10b0
              try clear hx158_0
              try clear p158
              try clear p2
              try clear q158
              obtain ⟨x7_2, x25_2, rfl, HA, HK2, HO_5, HO_6, HO_7, HB⟩ := hrel
              cases gk with
              | zero => exact absurd HA.out (by simp [spec_rpRanges.l1])
              | succ k2 =>
                have H := HA.out
                clear HA
                simp only [spec_rpRanges.l1] at H
                by_cases c11 : x25_2 < ((rd_L4 t152 x17_1).length : Int)
                · rw [if_pos c11] at H
                  have c11b0 : decide (x25_2 < ((rd_L4 t152 x17_1).length : Int)) = true := decide_eq_true c11
                  clear c11
                  have HC12 := Aside0.mk H
                  clear H
                  go_upto_region 9 with (fail)
                  go_cut [44] (fun v44 wc => ∃ (kq : Nat) (x44_11 : Bool), v44 = .bool x44_11 ∧ Aside0 (spec_rpRanges.j2 kq t152 t155 x7_2 x17_1 x25_2 (t152.length : Int) x17_1 ((rd_L4 t152 x17_1).length : Int) x25_2 x44_11 = some r) ∧ Aside0 (kq ≤ k2) ∧ Aside0 (Kd.S (Kd.slice 4 Kd.bool) 131 wc w.heap.size (fun k_ => some k_ ≠ (v156 : Value).ownBlock) (.slice (some ad158) t152.length co7) t152) ∧ Aside0 (Kd.S (Kd.slice 4 Kd.bool) 131 wc w.heap.size (fun k_ => some k_ ≠ ((.slice (some ad158) t152.length co7) : Value).ownBlock) v156 t155) ∧ Aside0 (Kd.S (Kd.slice 3 (Kd.int .i64)) 73 wc w.heap.size (fun _ => True) u7 x7_2) ∧ Aside0 (Below w.heap.size w wc))
                  case first =>
                    have H := HC12.out
                    clear HC12
                    by_cases c13 : 0 ≤ x17_1
                    · rw [if_pos c13] at H
                      have c13b0 : decide (0 ≤ x17_1) = true := decide_eq_true c13
                      clear c13
                      (first | rw [c13b0] | (simp only [i64_w, i32_w]; rw [c13b0]) | skip)
                      by_cases c14 : x17_1 < (t152.length : Int)
                      · rw [if_pos c14] at H
                        have c14b0 : decide (x17_1 < (t152.length : Int)) = true := decide_eq_true c14
                        clear c14
                        by_cases c15 : 0 ≤ x25_2
                        · rw [if_pos c15] at H
                          have c15b0 : decide (0 ≤ x25_2) = true := decide_eq_true c15
                          clear c15
                          by_cases c16 : x25_2 < ((rd_L4 t152 x17_1).length : Int)
                          · rw [if_pos c16] at H
                            have c16b0 : decide (x25_2 < ((rd_L4 t152 x17_1).length : Int)) = true := decide_eq_true c16
                            clear c16
                            obtain ⟨bq17, hbq17⟩ : ∃ b_ : Bool, b_ = (rdOf false (rd_L4 t152 x17_1) x25_2) := ⟨_, rfl⟩
                            replace H : (if (bq17 = true) then (if x17_1 < (t155.length : Int) then (if x25_2 < ((rd_L4 t155 x17_1).length : Int) then (spec_rpRanges.j2 k2 t152 t155 x7_2 x17_1 x25_2 (t152.length : Int) x17_1 ((rd_L4 t152 x17_1).length : Int) x25_2 (rdOf false (rd_L4 t155 x17_1) x25_2)) else (none)) else (none)) else (spec_rpRanges.j2 k2 t152 t155 x7_2 x17_1 x25_2 (t152.length : Int) x17_1 ((rd_L4 t152 x17_1).length : Int) x25_2 true)) = some r := by rw [← hbq17] at H; exact H
                            have Nbq17 := Aside0.mk hbq17
                            clear hbq17
                            by_cases c18 : (bq17 = true)
                            · subst c18
                              have H1 : (if x17_1 < (t155.length : Int) then (if x25_2 < ((rd_L4 t155 x17_1).length : Int) then (spec_rpRanges.j2 k2 t152 t155 x7_2 x17_1 x25_2 (t152.length : Int) x17_1 ((rd_L4 t152 x17_1).length : Int) x25_2 (rdOf false (rd_L4 t155 x17_1) x25_2)) else (none)) else (none)) = some r := by rw [if_pos rfl] at H; exact H
                              clear H
                              have H := H1
                              clear H1
                              by_cases c19 : x17_1 < (t155.length : Int)
                              · rw [if_pos c19] at H
                                have c19b0 : decide (x17_1 < (t155.length : Int)) = true := decide_eq_true c19
                                clear c19
                                by_cases c20 : x25_2 < ((rd_L4 t155 x17_1).length : Int)
                                · rw [if_pos c20] at H
                                  have c20b0 : decide (x25_2 < ((rd_L4 t155 x17_1).length : Int)) = true := decide_eq_true c20
                                  clear c20
                                  have H' := Aside0.mk H
                                  clear H
                                  have p159 : 0 ≤ (x17_1 : Int) := of_decide_eq_true (by first | (with_reducible assumption) | assumption)
                                  have q159 : x17_1 < (t152.length : Int) := of_decide_eq_true (by first | (with_reducible assumption) | assumption)
                                  obtain ⟨ad159, A159_0, c159_0, e159, hx159_0, hl159_0, hi159_0⟩ := at_L4 (Kd.S_reads' HO_5.out).2.2 x17_1 p159 q159
                                  obtain rfl : ad158 = ad159 := (by injection e159)
                                  obtain ⟨ce159, hce159, hMe159, hcc159⟩ := Kd.S_get HO_5.out [] x17_1 p159 (by first | exact q159 | exact of_decide_eq_true (by first | (with_reducible assumption) | assumption) | (have e_ := (Kd.S_reads' HO_5.out).1; omega))
                                  obtain ⟨ve159_0, rfl, ge159_0⟩ := hMe159
                                  have hv159_0 := hcc159 0 _ rfl
                                  rw [Nat.add_zero, show ((Kd.slice 4 Kd.bool)).sz = 1 from rfl, Nat.mul_one] at hv159_0
                                  replace hv159_0 := Option.some.inj (hv159_0.symm.trans hx159_0)
                                  rw [hv159_0] at ge159_0
                                  have HL159_0 := Aside0.mk (show Kd.R Kd.bool 4 _ _ _ _ (rd_L4 t152 x17_1) from ge159_0)
                                  clear hv159_0 ge159_0
                                  have HX159_0 := Aside0.mk hx159_0
                                  clear hcc159 hce159
                                  have HR159_0 := Aside0.mk hi159_0
                                  have HC159_0 := Aside0.mk hl159_0
                                  clear hi159_0 hl159_0
                                  replace p159 := eq_true p159
                                  replace q159 := eq_true q159
                                  have p160 : 0 ≤ (x25_2 : Int) := of_decide_eq_true (by first | (with_reducible assumption) | assumption)
                                  have q160 : x25_2 < ((rd_L4 t152 x17_1).length : Int) := of_decide_eq_true (by first | (with_reducible assumption) | assumption)
                                  obtain ⟨ad160, e160, hx160_0⟩ := Kd.at_bool (by repeat (first | (with_reducible exact HR159_0.out) | (with_reducible refine Kd.C_alloc ?_ _) | (with_reducible refine Kd.C_drewN ?_ _) | (with_reducible refine Kd.C_drew ?_) | exact HR159_0.out)) x25_2 p160 q160
                                  (try rw [← Nbq17.out] at hx160_0)
                                  cases e160
                                  replace p160 := eq_true p160
                                  replace q160 := eq_true q160
                                  obtain ⟨Ao21, co21, eo21⟩ := Kd.S_slice HO_6.out
                                  subst eo21
                                  have p161 : 0 ≤ (x17_1 : Int) := of_decide_eq_true (by first | (with_reducible assumption) | assumption)
                                  have q161 : x17_1 < (t155.length : Int) := of_decide_eq_true (by first | (with_reducible assumption) | assumption)
                                  obtain ⟨ad161, A161_0, c161_0, e161, hx161_0, hl161_0, hi161_0⟩ := at_L4 (Kd.S_reads' HO_6.out).2.2 x17_1 p161 q161
                                  cases e161
                                  obtain ⟨ce161, hce161, hMe161, hcc161⟩ := Kd.S_get HO_6.out [] x17_1 p161 (by first | exact q161 | exact of_decide_eq_true (by first | (with_reducible assumption) | assumption) | (have e_ := (Kd.S_reads' HO_6.out).1; omega))
                                  obtain ⟨ve161_0, rfl, ge161_0⟩ := hMe161
                                  have hv161_0 := hcc161 0 _ rfl
                                  rw [Nat.add_zero, show ((Kd.slice 4 Kd.bool)).sz = 1 from rfl, Nat.mul_one] at hv161_0
                                  replace hv161_0 := Option.some.inj (hv161_0.symm.trans hx161_0)
                                  rw [hv161_0] at ge161_0
                                  have HL161_0 := Aside0.mk (show Kd.R Kd.bool 4 _ _ _ _ (rd_L4 t155 x17_1) from ge161_0)
                                  clear hv161_0 ge161_0
                                  have HX161_0 := Aside0.mk hx161_0
                                  clear hcc161 hce161
                                  have HR161_0 := Aside0.mk hi161_0
                                  have HC161_0 := Aside0.mk hl161_0
                                  clear hi161_0 hl161_0
                                  replace p161 := eq_true p161
                                  replace q161 := eq_true q161
                                  have p162 : 0 ≤ (x25_2 : Int) := of_decide_eq_true (by first | (with_reducible assumption) | assumption)
                                  have q162 : x25_2 < ((rd_L4 t155 x17_1).length : Int) := of_decide_eq_true (by first | (with_reducible assumption) | assumption)
                                  obtain ⟨ad162, e162, hx162_0⟩ := Kd.at_bool (by repeat (first | (with_reducible exact HR161_0.out) | (with_reducible refine Kd.C_alloc ?_ _) | (with_reducible refine Kd.C_drewN ?_ _) | (with_reducible refine Kd.C_drew ?_) | exact HR161_0.out)) x25_2 p162 q162
                                  (try rw [← Nbq17.out] at hx162_0)
                                  cases e162
                                  replace p162 := eq_true p162
                                  replace q162 := eq_true q162
                                  go_wp2
                                  go_meet
                                  case rel => exact ⟨_, (rdOf false (rd_L4 t155 x17_1) x25_2), (by first | rfl | (simp; done) | (simp [*]; done)), H', ⟨by have := HK1.out; have := HK2.out; first | omega | exact Nat.le_refl _⟩, ⟨by (with_reducible repeat (first | apply Kd.S_alloc | apply Kd.S_drewN | apply Kd.S_drew)); exact HO_5.out⟩, ⟨by (with_reducible repeat (first | apply Kd.S_alloc | apply Kd.S_drewN | apply Kd.S_drew)); exact HO_6.out⟩, ⟨by (with_reducible repeat (first | apply Kd.S_alloc | apply Kd.S_drewN | apply Kd.S_drew)); exact HO_7.out⟩, ⟨by repeat (first | (with_reducible first | exact HB.out | apply below_alloc | apply pw_below_drewN | apply below_drew1) | exact HB.out)⟩⟩
                                · rw [if_neg c20] at H
                                  exact absurd H (by simp)
                              · rw [if_neg c19] at H
                                exact absurd H (by simp)
                            · replace c18 := Bool.eq_false_iff.mpr c18
                              subst c18
                              have H1 : (spec_rpRanges.j2 k2 t152 t155 x7_2 x17_1 x25_2 (t152.length : Int) x17_1 ((rd_L4 t152 x17_1).length : Int) x25_2 true) = some r := by rw [if_neg (show ¬ (false = true) by decide)] at H; exact H
                              clear H
                              have H := H1
                              clear H1
                              have H' := Aside0.mk H
                              clear H
                              have p159 : 0 ≤ (x17_1 : Int) := of_decide_eq_true (by first | (with_reducible assumption) | assumption)
                              have q159 : x17_1 < (t152.length : Int) := of_decide_eq_true (by first | (with_reducible assumption) | assumption)
                              obtain ⟨ad159, A159_0, c159_0, e159, hx159_0, hl159_0, hi159_0⟩ := at_L4 (Kd.S_reads' HO_5.out).2.2 x17_1 p159 q159
                              obtain rfl : ad158 = ad159 := (by injection e159)
                              obtain ⟨ce159, hce159, hMe159, hcc159⟩ := Kd.S_get HO_5.out [] x17_1 p159 (by first | exact q159 | exact of_decide_eq_true (by first | (with_reducible assumption) | assumption) | (have e_ := (Kd.S_reads' HO_5.out).1; omega))
                              obtain ⟨ve159_0, rfl, ge159_0⟩ := hMe159
                              have hv159_0 := hcc159 0 _ rfl
                              rw [Nat.add_zero, show ((Kd.slice 4 Kd.bool)).sz = 1 from rfl, Nat.mul_one] at hv159_0
                              replace hv159_0 := Option.some.inj (hv159_0.symm.trans hx159_0)
                              rw [hv159_0] at ge159_0
                              have HL159_0 := Aside0.mk (show Kd.R Kd.bool 4 _ _ _ _ (rd_L4 t152 x17_1) from ge159_0)
                              clear hv159_0 ge159_0
                              have HX159_0 := Aside0.mk hx159_0
                              clear hcc159 hce159
                              have HR159_0 := Aside0.mk hi159_0
                              have HC159_0 := Aside0.mk hl159_0
                              clear hi159_0 hl159_0
                              replace p159 := eq_true p159
                              replace q159 := eq_true q159
                              have p160 : 0 ≤ (x25_2 : Int) := of_decide_eq_true (by first | (with_reducible assumption) | assumption)
                              have q160 : x25_2 < ((rd_L4 t152 x17_1).length : Int) := of_decide_eq_true (by first | (with_reducible assumption) | assumption)
                              obtain ⟨ad160, e160, hx160_0⟩ := Kd.at_bool (by repeat (first | (with_reducible exact HR159_0.out) | (with_reducible refine Kd.C_alloc ?_ _) | (with_reducible refine Kd.C_drewN ?_ _) | (with_reducible refine Kd.C_drew ?_) | exact HR159_0.out)) x25_2 p160 q160
                              (try rw [← Nbq17.out] at hx160_0)
                              cases e160
                              replace p160 := eq_true p160
                              replace q160 := eq_true q160
                              go_wp2
                              go_meet
                              case rel => exact ⟨_, (true), (by first | rfl | (simp; done) | (simp [*]; done)), H', ⟨by have := HK1.out; have := HK2.out; first | omega | exact Nat.le_refl _⟩, ⟨by (with_reducible repeat (first | apply Kd.S_alloc | apply Kd.S_drewN | apply Kd.S_drew)); exact HO_5.out⟩, ⟨by (with_reducible repeat (first | apply Kd.S_alloc | apply Kd.S_drewN | apply Kd.S_drew)); exact HO_6.out⟩, ⟨by (with_reducible repeat (first | apply Kd.S_alloc | apply Kd.S_drewN | apply Kd.S_drew)); exact HO_7.out⟩, ⟨by repeat (first | (with_reducible first | exact HB.out | apply below_alloc | apply pw_below_drewN | apply below_drew1) | exact HB.out)⟩⟩
                          · rw [if_neg c16] at H
                            exact absurd H (by simp)
                        · rw [if_neg c15] at H
                          exact absurd H (by simp)
                      · rw [if_neg c14] at H
                        exact absurd H (by simp)
                    · rw [if_neg c13] at H
                      exact absurd H (by simp)
                  case rest =>
                    clear HC12
                    try clear c1
                    try clear p1
                    try clear q1
                    try clear hx1
                    try clear c2
                    try clear p2
                    try clear c8
                    try clear c8b0
                    try clear c9
                    try clear c9b0
                    try clear c10
                    try clear c10b0
                    try clear c11
                    try clear c11b0
                    try clear c13
                    try clear c13b0
                    try clear c14
                    try clear c14b0
                    try clear c15
                    try clear c15b0
                    try clear p15
                    try clear q15
                    try clear hx15
                    try clear c16
                    try clear c16b0
                    try clear p16
                    try clear q16
                    try clear hx16
                    try clear q17
                    try clear c18
                    try clear c19
                    try clear c19b0
                    try clear c20
                    try clear c20b0
                    try clear hx158_0
                    try clear hx159_0
                    try clear hx160_0
                    try clear hx161_0
                    try clear hx162_0
                    try clear p1
                    try clear p158
                    try clear p159
                    try clear p160
                    try clear p161
                    try clear p162
                    try clear p2
                    try clear q1
                    try clear q158
                    try clear q159
                    try clear q160
                    try clear q161
                    try clear q162
                    obtain ⟨kq, x44_11, rfl, HA, HJ11, HO_5, HO_6, HO_7, HB⟩ := hcut
                    cases kq with
                    | zero => exact absurd HA.out (by simp [spec_rpRanges.j2])
                    | succ kj11 =>
                      have H := HA.out
                      clear HA
                      simp only [spec_rpRanges.j2] at H
                      by_cases c22 : x44_11 = true
                      · subst c22
                        have H1 : (spec_rpRanges.l1 kj11 t152 t155 x7_2 x17_1 (t152.length : Int) x17_1 ((rd_L4 t152 x17_1).length : Int) (wrap64 (x25_2 + 1))) = some r := by rw [if_pos rfl] at H; exact H
                        clear H
                        have H := H1
                        clear H1
                        have H' := Aside0.mk H
                        clear H
                        go_wp2
                        go_roundg kj11
                        case measure => have := HK1.out; have := HK2.out; have := HJ11.out; omega
                        case rel => exact ⟨(x7_2), (wrap64 (x25_2 + 1)), (by first | rfl | (simp; done) | (simp [*]; done)), H', ⟨by have := HK1.out; have := HK2.out; have := HJ11.out; omega⟩, ⟨by (with_reducible repeat (first | apply Kd.S_alloc | apply Kd.S_drewN | apply Kd.S_drew)); exact HO_5.out⟩, ⟨by (with_reducible repeat (first | apply Kd.S_alloc | apply Kd.S_drewN | apply Kd.S_drew)); exact HO_6.out⟩, ⟨by (with_reducible repeat (first | apply Kd.S_alloc | apply Kd.S_drewN | apply Kd.S_drew)); exact HO_7.out⟩, ⟨by repeat (first | (with_reducible first | exact HB.out | apply below_alloc | apply pw_below_drewN | apply below_drew1) | exact HB.out)⟩⟩
                      · replace c22 := Bool.eq_false_iff.mpr c22
                        subst c22
                        have H1 : (if (x7_2.length : Int) > 0 then (if 0 ≤ (wrap64 ((x7_2.length : Int) - 1)) then (if (wrap64 ((x7_2.length : Int) - 1)) < (x7_2.length : Int) then (if 0 < ((rd_L5 x7_2 (wrap64 ((x7_2.length : Int) - 1))).length : Int) then (if (rd (rd_L5 x7_2 (wrap64 ((x7_2.length : Int) - 1))) 0) = x17_1 then (if 2 < ((rd_L5 x7_2 (wrap64 ((x7_2.length : Int) - 1))).length : Int) then (if (rd (rd_L5 x7_2 (wrap64 ((x7_2.length : Int) - 1))) 2) = x25_2 then (spec_rpRanges.l1 kj11 t152 t155 (x7_2.set ((wrap64 ((x7_2.length : Int) - 1)) : Int).toNat ((rd_L5 x7_2 (wrap64 ((x7_2.length : Int) - 1))).set (2 : Int).toNat (wrap64 ((rd (rd_L5 x7_2 (wrap64 ((x7_2.length : Int) - 1))) 2) + 1)))) x17_1 (t152.length : Int) x17_1 ((rd_L4 t152 x17_1).length : Int) (wrap64 (x25_2 + 1))) else (if x7_2.length < 5864062014805 then (spec_rpRanges.l1 kj11 t152 t155 (x7_2 ++ [(([x17_1, x25_2, wrap64 (x25_2 + 1)] : List Int))]) x17_1 (t152.length : Int) x17_1 ((rd_L4 t152 x17_1).length : Int) (wrap64 (x25_2 + 1))) else (none))) else (none)) else (if x7_2.length < 5864062014805 then (spec_rpRanges.l1 kj11 t152 t155 (x7_2 ++ [(([x17_1, x25_2, wrap64 (x25_2 + 1)] : List Int))]) x17_1 (t152.length : Int) x17_1 ((rd_L4 t152 x17_1).length : Int) (wrap64 (x25_2 + 1))) else (none))) else (none)) else (none)) else (none)) else (if x7_2.length < 5864062014805 then (spec_rpRanges.l1 kj11 t152 t155 (x7_2 ++ [(([x17_1, x25_2, wrap64 (x25_2 + 1)] : List Int))]) x17_1 (t152.length : Int) x17_1 ((rd_L4 t152 x17_1).length : Int) (wrap64 (x25_2 + 1))) else (none))) = some r := by rw [if_neg (show ¬ (false = true) by decide)] at H; exact H
                        clear H
                        have H := H1
                        clear H1
                        by_cases c23 : (x7_2.length : Int) > 0
                        · rw [if_pos c23] at H
                          have c23b0 : decide (0 < (x7_2.length : Int)) = true := decide_eq_true c23
                          have c23b1 : decide (0 < x7_2.length) = true := decide_eq_true (by omega)
                          clear c23
                          obtain ⟨ji24, hji24⟩ : ∃ j_ : Int, (wrap64 ((x7_2.length : Int) - 1)) = j_ := ⟨_, rfl⟩
                          replace H : (if 0 ≤ (ji24) then (if (ji24) < (x7_2.length : Int) then (if 0 < ((rd_L5 x7_2 (ji24)).length : Int) then (if (rd (rd_L5 x7_2 (ji24)) 0) = x17_1 then (if 2 < ((rd_L5 x7_2 (ji24)).length : Int) then (if (rd (rd_L5 x7_2 (ji24)) 2) = x25_2 then (spec_rpRanges.l1 kj11 t152 t155 (x7_2.set ((ji24) : Int).toNat ((rd_L5 x7_2 (ji24)).set (2 : Int).toNat (wrap64 ((rd (rd_L5 x7_2 (ji24)) 2) + 1)))) x17_1 (t152.length : Int) x17_1 ((rd_L4 t152 x17_1).length : Int) (wrap64 (x25_2 + 1))) else (if x7_2.length < 5864062014805 then (spec_rpRanges.l1 kj11 t152 t155 (x7_2 ++ [(([x17_1, x25_2, wrap64 (x25_2 + 1)] : List Int))]) x17_1 (t152.length : Int) x17_1 ((rd_L4 t152 x17_1).length : Int) (wrap64 (x25_2 + 1))) else (none))) else (none)) else (if x7_2.length < 5864062014805 then (spec_rpRanges.l1 kj11 t152 t155 (x7_2 ++ [(([x17_1, x25_2, wrap64 (x25_2 + 1)] : List Int))]) x17_1 (t152.length : Int) x17_1 ((rd_L4 t152 x17_1).length : Int) (wrap64 (x25_2 + 1))) else (none))) else (none)) else (none)) else (none)) = some r := by first | (rw [hji24] at H; exact H) | (simp only [hji24] at H ⊢; exact H)
                          have hji24w : (IntKind.i64.wrap ((x7_2.length : Int) - 1)) = ji24 := (i64_w _).trans hji24
                          by_cases c25 : 0 ≤ (ji24)
                          · rw [if_pos c25] at H
                            have c25b0 : decide (0 ≤ (ji24)) = true := decide_eq_true c25
                            clear c25
                            by_cases c26 : (ji24) < (x7_2.length : Int)
                            · rw [if_pos c26] at H
                              have c26b0 : decide ((ji24) < (x7_2.length : Int)) = true := decide_eq_true c26
                              clear c26
                              by_cases c27 : 0 < ((rd_L5 x7_2 (ji24)).length : Int)
                              · rw [if_pos c27] at H
                                have c27b0 : decide (0 < ((rd_L5 x7_2 (ji24)).length : Int)) = true := decide_eq_true c27
                                have c27b1 : decide (0 < (rd_L5 x7_2 (ji24)).length) = true := decide_eq_true (by omega)
                                clear c27
                                by_cases c28 : (rd (rd_L5 x7_2 (ji24)) 0) = x17_1
                                · rw [if_pos c28] at H
                                  have c28b0 : ((rd (rd_L5 x7_2 (ji24)) 0) == x17_1) = true := beq_iff_eq.mpr c28
                                  have c28b1 : ((rd (rd_L5 x7_2 (ji24)) 0) != x17_1) = false := bne_eq_false_iff_eq.mpr c28
                                  clear c28
                                  by_cases c29 : 2 < ((rd_L5 x7_2 (ji24)).length : Int)
                                  · rw [if_pos c29] at H
                                    have c29b0 : decide (2 < ((rd_L5 x7_2 (ji24)).length : Int)) = true := decide_eq_true c29
                                    have c29b1 : decide (2 < (rd_L5 x7_2 (ji24)).length) = true := decide_eq_true (by omega)
                                    clear c29
                                    by_cases c30 : (rd (rd_L5 x7_2 (ji24)) 2) = x25_2
                                    · rw [if_pos c30] at H
                                      have c30b0 : ((rd (rd_L5 x7_2 (ji24)) 2) == x25_2) = true := beq_iff_eq.mpr c30
                                      have c30b1 : ((rd (rd_L5 x7_2 (ji24)) 2) != x25_2) = false := bne_eq_false_iff_eq.mpr c30
                                      clear c30
                                      obtain ⟨y169, hy169⟩ : ∃ y_ : List Int, y_ = ((rd_L5 x7_2 (ji24)).set (2 : Int).toNat (wrap64 ((rd (rd_L5 x7_2 (ji24)) 2) + 1))) := ⟨_, rfl⟩
                                      replace H : (spec_rpRanges.l1 kj11 t152 t155 (x7_2.set ((ji24) : Int).toNat y169) x17_1 (t152.length : Int) x17_1 ((rd_L4 t152 x17_1).length : Int) (wrap64 (x25_2 + 1))) = some r := by first | (rw [hy169]; with_reducible exact H) | (have H2_ := (Option.bind_some _ _).symm.trans H; rw [hy169]; with_reducible exact H2_) | (have H2_ := (Option.bind_some _ _).symm.trans H; with_reducible exact H2_) | with_reducible exact H | (rw [hy169]; exact H) | exact H
                                      have Ny169 := Aside0.mk hy169
                                      clear hy169
                                      obtain ⟨y171, hy171⟩ : ∃ y_ : List (List Int), y_ = (x7_2.set ((ji24) : Int).toNat y169) := ⟨_, rfl⟩
                                      replace H : (spec_rpRanges.l1 kj11 t152 t155 y171 x17_1 (t152.length : Int) x17_1 ((rd_L4 t152 x17_1).length : Int) (wrap64 (x25_2 + 1))) = some r := by first | (rw [hy171]; with_reducible exact H) | (have H2_ := (Option.bind_some _ _).symm.trans H; rw [hy171]; with_reducible exact H2_) | (have H2_ := (Option.bind_some _ _).symm.trans H; with_reducible exact H2_) | with_reducible exact H | (rw [hy171]; exact H) | exact H
                                      have Ny171 := Aside0.mk hy171
                                      clear hy171
                                      have H' := Aside0.mk H
                                      clear H
                                      obtain ⟨Ao32, co32, eo32⟩ := Kd.S_slice HO_7.out
                                      subst eo32
                                      have p163 : 0 ≤ ((ji24) : Int) := of_decide_eq_true (by first | (with_reducible assumption) | assumption)
                                      have q163 : (ji24) < (x7_2.length : Int) := of_decide_eq_true (by first | (with_reducible assumption) | assumption)
                                      obtain ⟨ad163, A163_0, c163_0, e163, hx163_0, hl163_0, hi163_0⟩ := at_L5 (Kd.S_reads' HO_7.out).2.2 (ji24) p163 q163
                                      cases e163
                                      obtain ⟨ce163, hce163, hMe163, hcc163⟩ := Kd.S_get HO_7.out [] (ji24) p163 (by first | exact q163 | exact of_decide_eq_true (by first | (with_reducible assumption) | assumption) | (have e_ := (Kd.S_reads' HO_7.out).1; omega))
                                      obtain ⟨ve163_0, rfl, ge163_0⟩ := hMe163
                                      have hv163_0 := hcc163 0 _ rfl
                                      rw [Nat.add_zero, show ((Kd.slice 3 (Kd.int .i64))).sz = 1 from rfl, Nat.mul_one] at hv163_0
                                      replace hv163_0 := Option.some.inj (hv163_0.symm.trans hx163_0)
                                      rw [hv163_0] at ge163_0
                                      have HL163_0 := Aside0.mk (show Kd.R (Kd.int .i64) 3 _ _ _ _ (rd_L5 x7_2 (ji24)) from ge163_0)
                                      clear hv163_0 ge163_0
                                      have HX163_0 := Aside0.mk hx163_0
                                      clear hcc163 hce163
                                      have HR163_0 := Aside0.mk hi163_0
                                      have HC163_0 := Aside0.mk hl163_0
                                      clear hi163_0 hl163_0
                                      replace p163 := eq_true p163
                                      replace q163 := eq_true q163
                                      have p164 : 0 ≤ (0 : Int) := (by omega)
                                      have q164 : 0 < ((rd_L5 x7_2 (ji24)).length : Int) := of_decide_eq_true (by first | (with_reducible assumption) | assumption)
                                      obtain ⟨ad164, e164, hx164_0⟩ := Kd.at_int (by repeat (first | (with_reducible exact HR163_0.out) | (with_reducible refine Kd.C_alloc ?_ _) | (with_reducible refine Kd.C_drewN ?_ _) | (with_reducible refine Kd.C_drew ?_) | exact HR163_0.out)) 0 p164 q164
                                      cases e164
                                      have qi164 : (0 < (rd_L5 x7_2 (ji24)).length) = True := eq_true (by omega)
                                      (try rw [show ((0 : Int)).toNat = 0 from rfl] at hx164_0)
                                      (try rw [Addr.add_zero'] at hx164_0)
                                      replace p164 := eq_true p164
                                      replace q164 := eq_true q164
                                      have p165 : 0 ≤ ((ji24) : Int) := of_decide_eq_true (by first | (with_reducible assumption) | assumption)
                                      have q165 : (ji24) < (x7_2.length : Int) := of_decide_eq_true (by first | (with_reducible assumption) | assumption)
                                      obtain ⟨ad165, A165_0, c165_0, e165, hx165_0, hl165_0, hi165_0⟩ := at_L5 (Kd.S_reads' HO_7.out).2.2 (ji24) p165 q165
                                      obtain rfl : ad163 = ad165 := (by injection e165)
                                      obtain ⟨ce165, hce165, hMe165, hcc165⟩ := Kd.S_get HO_7.out [] (ji24) p165 (by first | exact q165 | exact of_decide_eq_true (by first | (with_reducible assumption) | assumption) | (have e_ := (Kd.S_reads' HO_7.out).1; omega))
                                      obtain ⟨ve165_0, rfl, ge165_0⟩ := hMe165
                                      have hv165_0 := hcc165 0 _ rfl
                                      rw [Nat.add_zero, show ((Kd.slice 3 (Kd.int .i64))).sz = 1 from rfl, Nat.mul_one] at hv165_0
                                      replace hv165_0 := Option.some.inj (hv165_0.symm.trans hx165_0)
                                      rw [hv165_0] at ge165_0
                                      have HL165_0 := Aside0.mk (show Kd.R (Kd.int .i64) 3 _ _ _ _ (rd_L5 x7_2 (ji24)) from ge165_0)
                                      clear hv165_0 ge165_0
                                      have HX165_0 := Aside0.mk hx165_0
                                      clear hcc165 hce165
                                      have HR165_0 := Aside0.mk hi165_0
                                      have HC165_0 := Aside0.mk hl165_0
                                      clear hi165_0 hl165_0
                                      replace p165 := eq_true p165
                                      replace q165 := eq_true q165
                                      have ea_ := Option.some.inj (hx163_0.symm.trans hx165_0)
                                      injection ea_ with ea_ en_ ec_
                                      subst ea_
                                      subst ec_
                                      clear en_
                                      have p166 : 0 ≤ (2 : Int) := (by omega)
                                      have q166 : 2 < ((rd_L5 x7_2 (ji24)).length : Int) := of_decide_eq_true (by first | (with_reducible assumption) | assumption)
                                      obtain ⟨ad166, e166, hx166_0⟩ := Kd.at_int (by repeat (first | (with_reducible exact HR165_0.out) | (with_reducible refine Kd.C_alloc ?_ _) | (with_reducible refine Kd.C_drewN ?_ _) | (with_reducible refine Kd.C_drew ?_) | exact HR165_0.out)) 2 p166 q166
                                      cases e166
                                      (try simp only [show (2 : Int).toNat = 2 from rfl, Nat.reduceMul, Nat.reduceEqDiff, Go.Addr.add, ↓reduceIte] at hx166_0)
                                      have qi166 : (2 < (rd_L5 x7_2 (ji24)).length) = True := eq_true (by omega)
                                      (try rw [show ((2 : Int)).toNat = 2 from rfl] at hx166_0)
                                      replace p166 := eq_true p166
                                      replace q166 := eq_true q166
                                      have p167 : 0 ≤ ((ji24) : Int) := of_decide_eq_true (by first | (with_reducible assumption) | assumption)
                                      have q167 : (ji24) < (x7_2.length : Int) := of_decide_eq_true (by first | (with_reducible assumption) | assumption)
                                      obtain ⟨ad167, A167_0, c167_0, e167, hx167_0, hl167_0, hi167_0⟩ := at_L5 (Kd.S_reads' HO_7.out).2.2 (ji24) p167 q167
                                      obtain rfl : ad163 = ad167 := (by injection e167)
                                      obtain ⟨ce167, hce167, hMe167, hcc167⟩ := Kd.S_get HO_7.out [] (ji24) p167 (by first | exact q167 | exact of_decide_eq_true (by first | (with_reducible assumption) | assumption) | (have e_ := (Kd.S_reads' HO_7.out).1; omega))
                                      obtain ⟨ve167_0, rfl, ge167_0⟩ := hMe167
                                      have hv167_0 := hcc167 0 _ rfl
                                      rw [Nat.add_zero, show ((Kd.slice 3 (Kd.int .i64))).sz = 1 from rfl, Nat.mul_one] at hv167_0
                                      replace hv167_0 := Option.some.inj (hv167_0.symm.trans hx167_0)
                                      rw [hv167_0] at ge167_0
                                      have HL167_0 := Aside0.mk (show Kd.R (Kd.int .i64) 3 _ _ _ _ (rd_L5 x7_2 (ji24)) from ge167_0)
                                      clear hv167_0 ge167_0
                                      have HX167_0 := Aside0.mk hx167_0
                                      clear hcc167 hce167
                                      have HR167_0 := Aside0.mk hi167_0
                                      have HC167_0 := Aside0.mk hl167_0
                                      clear hi167_0 hl167_0
                                      replace p167 := eq_true p167
                                      replace q167 := eq_true q167
                                      have ea_ := Option.some.inj (hx163_0.symm.trans hx167_0)
                                      injection ea_ with ea_ en_ ec_
                                      subst ea_
                                      subst ec_
                                      clear en_
                                      have p168 : 0 ≤ (2 : Int) := (by omega)
                                      have q168 : 2 < ((rd_L5 x7_2 (ji24)).length : Int) := of_decide_eq_true (by first | (with_reducible assumption) | assumption)
                                      obtain ⟨ad168, e168, hx168_0⟩ := Kd.at_int (by repeat (first | (with_reducible exact HR167_0.out) | (with_reducible refine Kd.C_alloc ?_ _) | (with_reducible refine Kd.C_drewN ?_ _) | (with_reducible refine Kd.C_drew ?_) | exact HR167_0.out)) 2 p168 q168
                                      cases e168
                                      (try simp only [show (2 : Int).toNat = 2 from rfl, Nat.reduceMul, Nat.reduceEqDiff, Go.Addr.add, ↓reduceIte] at hx168_0)
                                      have qi168 : (2 < (rd_L5 x7_2 (ji24)).length) = True := eq_true (by omega)
                                      (try rw [show ((2 : Int)).toNat = 2 from rfl] at hx168_0)
                                      replace p168 := eq_true p168
                                      replace q168 := eq_true q168
                                      have p31 : 0 ≤ (2 : Int) := (by omega)
                                      have q31 : (2 : Int) < (((rd_L5 x7_2 (ji24)).length : Int) : Int) := of_decide_eq_true (by first | (with_reducible assumption) | assumption)
                                      have qi31 : (2 < (rd_L5 x7_2 (ji24)).length) = True := eq_true (by omega)
                                      obtain ⟨go31, co31, eo31, gb31, gl31, cl31, HG31⟩ := Kd.R_form HL167_0.out (by omega)
                                      (first | cases eo31 | (injection eo31 with ea_ en_ ec_; (first | subst ea_ | (injection ea_ with ea_; subst ea_)); subst ec_; clear en_))
                                      have GB31 := Aside0.mk gb31
                                      have GG31 := Aside0.mk HG31
                                      clear gb31 gl31 HG31
                                      (first | simp only [add_plain] at hx168_0 | skip)
                                      obtain ⟨hx31_0, hf31_0⟩ := Kd.R_celln 0 HL167_0.out (2 : Int) p31 q31
                                      (try rw [show ((2 : Int)).toNat = 2 from rfl] at hx31_0)
                                      (try simp only [Nat.reduceMul, Nat.zero_mul, Nat.zero_add, Nat.reduceAdd] at hx31_0)
                                      (try rw [show ((2 : Int)).toNat = 2 from rfl] at hf31_0)
                                      (try simp only [Nat.reduceMul, Nat.zero_mul, Nat.zero_add, Nat.reduceAdd] at hf31_0)
                                      replace p31 := eq_true p31
                                      replace q31 := eq_true q31
                                      have hq33 : ((ji24) : Int) < (x7_2.length : Int) := (by have h_ : ((ji24) : Int) < ((x7_2.length : Int) : Int) := of_decide_eq_true (by first | (with_reducible assumption) | assumption); first | exact h_ | (have e_ := (Kd.S_reads' HO_7.out).1; omega) | simpa only [List.length_set, List.length_set] using h_)
                                      obtain ⟨oki33, ce33, hcl33, hM33, hcc33, hok33, hbk33⟩ := Kd.S_borrow HO_7.out [] ((ji24) : Int) (of_decide_eq_true (by first | (with_reducible assumption) | assumption)) hq33
                                      obtain ⟨ve33_0, rfl, ge33_0⟩ := hM33
                                      have hv33 := hcc33 0 _ rfl
                                      rw [Nat.add_zero, show ((Kd.slice 3 (Kd.int .i64))).sz = 1 from rfl, Nat.mul_one] at hv33
                                      replace hv33 := Option.some.inj (hv33.symm.trans HX167_0.out)
                                      subst hv33
                                      clear hcc33 hcl33
                                      replace ge33_0 := (show Kd.R (Kd.int .i64) 3 _ _ _ _ (rd_L5 x7_2 (ji24)) from ge33_0)
                                      have HP33 := Kd.R_putg ge33_0 (2 : Int) (wrap64 ((rd (rd_L5 x7_2 (ji24)) 2) + 1))
                                      go_wp2_with (first | ((with_reducible refine gate_store (t := 3) (p := 79) rfl ?_); refine store_event (t := 3) (p := 79) (v := ?vo_w34) (w1 := (wc.setCell ⟨go31, 2, none⟩ (.int .i64 (wrap64 ((rd (rd_L5 x7_2 (ji24)) 2) + 1))))) ?hg ?ho ?hn ?hr ?_; (case ho => rfl); (case hg => rfl); (case hn => rfl); (case hr => first | (go_simp; done) | (go_simp; rfl)); intro w34 hw; have hg : wc.grownBy w34 (some go31) := (by rw [hw]; exact HP33.2); have hz_ : Kd.R (Kd.int .i64) 3 w34 w.heap.size oki33 (.slice (some ⟨go31, 0, none⟩) (rd_L5 x7_2 (ji24)).length c163_0) y169 := (by rw [hw, Ny169.out]; exact HP33.1); have hp_ : Kd.S (Kd.slice 3 (Kd.int .i64)) 73 w34 w.heap.size (fun _ => True) (.slice (some ad163) x7_2.length co32) y171 := (by rw [Ny171.out]; exact hbk33 hg (fun k_ e_ => by injection e_ with e_; subst e_; exact ge33_0.1 _ rfl) (Kd.M_row hz_)); have hm_ := Kd.R_mono hz_ hok33; clear HP33 hbk33; have n0_ := Aside0.mk (Kd.S_over' (v := (.slice (some ⟨go31, 0, none⟩) (rd_L5 x7_2 (ji24)).length c163_0)) (by (with_reducible repeat (first | apply Kd.S_alloc | apply Kd.S_drewN | apply Kd.S_drew)); exact HO_5.out) (Kd.R_typed HL167_0.out) (by decide) hg); have n1_ := Aside0.mk (Kd.S_over' (v := (.slice (some ⟨go31, 0, none⟩) (rd_L5 x7_2 (ji24)).length c163_0)) (by (with_reducible repeat (first | apply Kd.S_alloc | apply Kd.S_drewN | apply Kd.S_drew)); exact HO_6.out) (Kd.R_typed HL167_0.out) (by decide) hg); have n2_ := Aside0.mk (hp_); have n3_ := Aside0.mk ((by rw [hw]; exact below_set (HB.out) GB31.out : Below w.heap.size w w34)); have n4_ := Aside0.mk (hm_); have n5_ := Aside0.mk ((Kd.R_reads' hm_).2.1); clear HO_5; clear HO_6; clear HO_7; clear HB; clear HL163_0; clear HL165_0; clear HL167_0; have HO_5 := n0_; have HO_6 := n1_; have HO_7 := n2_; have HB := n3_; have HL190 := n4_; have HC170 := n5_; clear n0_ n1_ n2_ n3_ n4_ n5_; clear hg hw hp_ hz_ hm_ hok33))
                                      go_roundg kj11
                                      case measure => have := HK1.out; have := HK2.out; have := HJ11.out; omega
                                      case rel => exact ⟨(y171), (wrap64 (x25_2 + 1)), (by first | rfl | (simp; done) | (simp [*]; done)), H', ⟨by have := HK1.out; have := HK2.out; have := HJ11.out; omega⟩, ⟨by (with_reducible repeat (first | apply Kd.S_alloc | apply Kd.S_drewN | apply Kd.S_drew)); exact HO_5.out⟩, ⟨by (with_reducible repeat (first | apply Kd.S_alloc | apply Kd.S_drewN | apply Kd.S_drew)); exact HO_6.out⟩, ⟨by (with_reducible repeat (first | apply Kd.S_alloc | apply Kd.S_drewN | apply Kd.S_drew)); exact HO_7.out⟩, ⟨by repeat (first | (with_reducible first | exact HB.out | apply below_alloc | apply pw_below_drewN | apply below_drew1) | exact HB.out)⟩⟩
                                    · rw [if_neg c30] at H
                                      have c30b0 : ((rd (rd_L5 x7_2 (ji24)) 2) == x25_2) = false := beq_eq_false_iff_ne.mpr c30
                                      have c30b1 : ((rd (rd_L5 x7_2 (ji24)) 2) != x25_2) = true := bne_iff_ne.mpr c30
                                      obtain ⟨y172, hy172⟩ : ∃ y_ : List Int, y_ = (([x17_1, x25_2, wrap64 (x25_2 + 1)] : List Int)) := ⟨_, rfl⟩
                                      replace H : (if x7_2.length < 5864062014805 then (spec_rpRanges.l1 kj11 t152 t155 (x7_2 ++ [y172]) x17_1 (t152.length : Int) x17_1 ((rd_L4 t152 x17_1).length : Int) (wrap64 (x25_2 + 1))) else (none)) = some r := by first | (rw [hy172]; with_reducible exact H) | (have H2_ := (Option.bind_some _ _).symm.trans H; rw [hy172]; with_reducible exact H2_) | (have H2_ := (Option.bind_some _ _).symm.trans H; with_reducible exact H2_) | with_reducible exact H | (rw [hy172]; exact H) | exact H
                                      have Ny172 := Aside0.mk hy172
                                      clear hy172
                                      by_cases c35 : x7_2.length < 5864062014805
                                      · rw [if_pos c35] at H
                                        have LMc35 := Aside0.mk c35
                                        clear c35
                                        obtain ⟨y175, hy175⟩ : ∃ y_ : List (List Int), y_ = (x7_2 ++ [y172]) := ⟨_, rfl⟩
                                        replace H : (spec_rpRanges.l1 kj11 t152 t155 y175 x17_1 (t152.length : Int) x17_1 ((rd_L4 t152 x17_1).length : Int) (wrap64 (x25_2 + 1))) = some r := by first | (rw [hy175]; with_reducible exact H) | (have H2_ := (Option.bind_some _ _).symm.trans H; rw [hy175]; with_reducible exact H2_) | (have H2_ := (Option.bind_some _ _).symm.trans H; with_reducible exact H2_) | with_reducible exact H | (rw [hy175]; exact H) | exact H
                                        have Ny175 := Aside0.mk hy175
                                        clear hy175
                                        have H' := Aside0.mk H
                                        clear H
                                        obtain ⟨Ao36, co36, eo36⟩ := Kd.S_slice HO_7.out
                                        subst eo36
                                        have p163 : 0 ≤ ((ji24) : Int) := of_decide_eq_true (by first | (with_reducible assumption) | assumption)
                                        have q163 : (ji24) < (x7_2.length : Int) := of_decide_eq_true (by first | (with_reducible assumption) | assumption)
                                        obtain ⟨ad163, A163_0, c163_0, e163, hx163_0, hl163_0, hi163_0⟩ := at_L5 (Kd.S_reads' HO_7.out).2.2 (ji24) p163 q163
                                        cases e163
                                        obtain ⟨ce163, hce163, hMe163, hcc163⟩ := Kd.S_get HO_7.out [] (ji24) p163 (by first | exact q163 | exact of_decide_eq_true (by first | (with_reducible assumption) | assumption) | (have e_ := (Kd.S_reads' HO_7.out).1; omega))
                                        obtain ⟨ve163_0, rfl, ge163_0⟩ := hMe163
                                        have hv163_0 := hcc163 0 _ rfl
                                        rw [Nat.add_zero, show ((Kd.slice 3 (Kd.int .i64))).sz = 1 from rfl, Nat.mul_one] at hv163_0
                                        replace hv163_0 := Option.some.inj (hv163_0.symm.trans hx163_0)
                                        rw [hv163_0] at ge163_0
                                        have HL163_0 := Aside0.mk (show Kd.R (Kd.int .i64) 3 _ _ _ _ (rd_L5 x7_2 (ji24)) from ge163_0)
                                        clear hv163_0 ge163_0
                                        have HX163_0 := Aside0.mk hx163_0
                                        clear hcc163 hce163
                                        have HR163_0 := Aside0.mk hi163_0
                                        have HC163_0 := Aside0.mk hl163_0
                                        clear hi163_0 hl163_0
                                        replace p163 := eq_true p163
                                        replace q163 := eq_true q163
                                        have p164 : 0 ≤ (0 : Int) := (by omega)
                                        have q164 : 0 < ((rd_L5 x7_2 (ji24)).length : Int) := of_decide_eq_true (by first | (with_reducible assumption) | assumption)
                                        obtain ⟨ad164, e164, hx164_0⟩ := Kd.at_int (by repeat (first | (with_reducible exact HR163_0.out) | (with_reducible refine Kd.C_alloc ?_ _) | (with_reducible refine Kd.C_drewN ?_ _) | (with_reducible refine Kd.C_drew ?_) | exact HR163_0.out)) 0 p164 q164
                                        cases e164
                                        have qi164 : (0 < (rd_L5 x7_2 (ji24)).length) = True := eq_true (by omega)
                                        (try rw [show ((0 : Int)).toNat = 0 from rfl] at hx164_0)
                                        (try rw [Addr.add_zero'] at hx164_0)
                                        replace p164 := eq_true p164
                                        replace q164 := eq_true q164
                                        have p165 : 0 ≤ ((ji24) : Int) := of_decide_eq_true (by first | (with_reducible assumption) | assumption)
                                        have q165 : (ji24) < (x7_2.length : Int) := of_decide_eq_true (by first | (with_reducible assumption) | assumption)
                                        obtain ⟨ad165, A165_0, c165_0, e165, hx165_0, hl165_0, hi165_0⟩ := at_L5 (Kd.S_reads' HO_7.out).2.2 (ji24) p165 q165
                                        obtain rfl : ad163 = ad165 := (by injection e165)
                                        obtain ⟨ce165, hce165, hMe165, hcc165⟩ := Kd.S_get HO_7.out [] (ji24) p165 (by first | exact q165 | exact of_decide_eq_true (by first | (with_reducible assumption) | assumption) | (have e_ := (Kd.S_reads' HO_7.out).1; omega))
                                        obtain ⟨ve165_0, rfl, ge165_0⟩ := hMe165
                                        have hv165_0 := hcc165 0 _ rfl
                                        rw [Nat.add_zero, show ((Kd.slice 3 (Kd.int .i64))).sz = 1 from rfl, Nat.mul_one] at hv165_0
                                        replace hv165_0 := Option.some.inj (hv165_0.symm.trans hx165_0)
                                        rw [hv165_0] at ge165_0
                                        have HL165_0 := Aside0.mk (show Kd.R (Kd.int .i64) 3 _ _ _ _ (rd_L5 x7_2 (ji24)) from ge165_0)
                                        clear hv165_0 ge165_0
                                        have HX165_0 := Aside0.mk hx165_0
                                        clear hcc165 hce165
                                        have HR165_0 := Aside0.mk hi165_0
                                        have HC165_0 := Aside0.mk hl165_0
                                        clear hi165_0 hl165_0
                                        replace p165 := eq_true p165
                                        replace q165 := eq_true q165
                                        have ea_ := Option.some.inj (hx163_0.symm.trans hx165_0)
                                        injection ea_ with ea_ en_ ec_
                                        subst ea_
                                        subst ec_
                                        clear en_
                                        have p166 : 0 ≤ (2 : Int) := (by omega)
                                        have q166 : 2 < ((rd_L5 x7_2 (ji24)).length : Int) := of_decide_eq_true (by first | (with_reducible assumption) | assumption)
                                        obtain ⟨ad166, e166, hx166_0⟩ := Kd.at_int (by repeat (first | (with_reducible exact HR165_0.out) | (with_reducible refine Kd.C_alloc ?_ _) | (with_reducible refine Kd.C_drewN ?_ _) | (with_reducible refine Kd.C_drew ?_) | exact HR165_0.out)) 2 p166 q166
                                        cases e166
                                        (try simp only [show (2 : Int).toNat = 2 from rfl, Nat.reduceMul, Nat.reduceEqDiff, Go.Addr.add, ↓reduceIte] at hx166_0)
                                        have qi166 : (2 < (rd_L5 x7_2 (ji24)).length) = True := eq_true (by omega)
                                        (try rw [show ((2 : Int)).toNat = 2 from rfl] at hx166_0)
                                        replace p166 := eq_true p166
                                        replace q166 := eq_true q166
                                        go_wp2_with (first | ((with_reducible refine gate_dst (N := 85) rfl ?_); refine Kd.R_lit (Kd.int .i64) _ 3 ?hg (N := 85) ?hd (xs := ([x17_1, x25_2, wrap64 (x25_2 + 1)] : List Int)) (inner := [.int .i64 x17_1, .int .i64 x25_2, .int .i64 (wrap64 (x25_2 + 1))]) (ok := fun _ => True) (okp := fun _ => True) ?hr ?hp (fun _ hk => hk) trivial (Below.refl _ _) (Nat.le_refl _) (by simp) ?_; (case hd => rfl); (case hg => rfl); (case hr => first | (go_simp; done) | (go_simp; rfl)); (case hp => exact (Reps.one (show Kd.M (Kd.int .i64) _ _ _ x17_1 [.int .i64 x17_1] from rfl) (Reps.one (show Kd.M (Kd.int .i64) _ _ _ x25_2 [.int .i64 x25_2] from rfl) (Reps.one (show Kd.M (Kd.int .i64) _ _ _ (wrap64 (x25_2 + 1)) [.int .i64 (wrap64 (x25_2 + 1))] from rfl) (Reps.none _ _))))); intro v173 w37 ho38 hb hg_ hnew_; clear hg_ hnew_; (first | rw [← Ny172.out] at ho38 | (simp only [Int.reduceToNat] at ho38; rw [← Ny172.out] at ho38)); have n0_ := Aside0.mk (Kd.S_below (by (with_reducible repeat (first | apply Kd.S_alloc | apply Kd.S_drewN | apply Kd.S_drew)); exact HO_5.out) hb); have n1_ := Aside0.mk (Kd.S_below (by (with_reducible repeat (first | apply Kd.S_alloc | apply Kd.S_drewN | apply Kd.S_drew)); exact HO_6.out) hb); have n2_ := Aside0.mk (Kd.S_elder' (by (with_reducible repeat (first | apply Kd.S_alloc | apply Kd.S_drewN | apply Kd.S_drew)); exact HO_7.out) (Kd.R_base ho38) hb); have n3_ := Aside0.mk (Kd.R_elder' (by (with_reducible repeat (first | apply Kd.R_alloc | apply Kd.R_drewN | apply Kd.R_drew)); exact HL163_0.out) (Kd.R_base ho38) hb); have n4_ := Aside0.mk (Kd.R_elder' (by (with_reducible repeat (first | apply Kd.R_alloc | apply Kd.R_drewN | apply Kd.R_drew)); exact HL165_0.out) (Kd.R_base ho38) hb); have n5_ := Aside0.mk (Kd.R_lower (Kd.R_new' (Kd.R_new' ho38 (Kd.R_lt (by (with_reducible repeat (first | apply Kd.R_alloc | apply Kd.R_drewN | apply Kd.R_drew)); exact HL163_0.out))) (Kd.R_lt (by (with_reducible repeat (first | apply Kd.R_alloc | apply Kd.R_drewN | apply Kd.R_drew)); exact HL165_0.out))) (below_size (by repeat (first | (with_reducible first | exact HB.out | apply below_alloc | apply pw_below_drewN | apply below_drew1) | exact HB.out)))); have n6_ := Aside0.mk (Kd.C_below (by repeat (first | (with_reducible exact HR163_0.out) | (with_reducible refine Kd.C_alloc ?_ _) | (with_reducible refine Kd.C_drewN ?_ _) | (with_reducible refine Kd.C_drew ?_) | exact HR163_0.out)) hb); have n7_ := Aside0.mk (pw_cell_below hb HX163_0.out); have n8_ := Aside0.mk (Kd.C_below (by repeat (first | (with_reducible exact HR165_0.out) | (with_reducible refine Kd.C_alloc ?_ _) | (with_reducible refine Kd.C_drewN ?_ _) | (with_reducible refine Kd.C_drew ?_) | exact HR165_0.out)) hb); have n9_ := Aside0.mk (pw_cell_below hb HX165_0.out); have n10_ := Aside0.mk (below_step (by repeat (first | (with_reducible first | exact HB.out | apply below_alloc | apply pw_below_drewN | apply below_drew1) | exact HB.out)) hb); clear HO_5; clear HO_6; clear HO_7; clear HL163_0; clear HL165_0; clear HR163_0; clear HX163_0; clear HR165_0; clear HX165_0; clear HB; have HO_5 := n0_; have HO_6 := n1_; have HO_7 := n2_; have HL163_0 := n3_; have HL165_0 := n4_; have HO174 := n5_; have HR163_0 := n6_; have HX163_0 := n7_; have HR165_0 := n8_; have HX165_0 := n9_; have HB := n10_; clear n0_ n1_ n2_ n3_ n4_ n5_ n6_ n7_ n8_ n9_ n10_; clear hb ho38; obtain ⟨Ao40, co40, eo40⟩ := Kd.R_slice HO174.out; subst eo40) | ((with_reducible refine gate_builtin (b := .append) (xs := #[.tmp 80, .tmp 86]) rfl ?_); at_builtin; refine Kd.S_append (Kd.slice 3 (Kd.int .i64)) (w0 := w) w.heap.size rfl (.tmp 80) (.tmp 86) 61 73 (.slice none 0 0) 24 rfl Try.underlying61 info73 rfl (by decide) (by omega) (.slice (some ad163) x7_2.length co36) x7_2 y172 [.slice Ao40 y172.length co40] (fun _ => True) (fun k_ => some k_ = (.slice Ao40 y172.length co40 : Value).ownBlock) rfl rfl ?aP (fun k_ hk_ => ((Kd.R_mono (ok' := fun k_ => ((fun _ => True)) k_ ∧ some k_ ≠ (.slice (some ad163) x7_2.length co36 : Value).ownBlock) (Kd.R_apart' (HO174.out) (Kd.S_typed HO_7.out) (by decide)) (fun k_ hk => ⟨trivial, hk.2⟩))).1 k_ hk_.symm) ?aF ?aO ?aB ?aS ?aL ?_; (case aP => exact Kd.M_row (Kd.R_mono (Kd.R_tight rfl (Kd.R_mono (ok' := fun k_ => ((fun _ => True)) k_ ∧ some k_ ≠ (.slice (some ad163) x7_2.length co36 : Value).ownBlock) (Kd.R_apart' (HO174.out) (Kd.S_typed HO_7.out) (by decide)) (fun k_ hk => ⟨trivial, hk.2⟩))) (fun _ h_ => h_))); (case aB => exact (by repeat (first | (with_reducible first | exact HB.out | apply below_alloc | apply pw_below_drewN | apply below_drew1) | exact HB.out))); (case aF => exact (fun _ _ => trivial)); (case aO => exact (by (with_reducible repeat (first | apply Kd.S_alloc | apply Kd.S_drewN | apply Kd.S_drew)); exact Kd.S_mono HO_7.out (fun k_ hk => ⟨trivial, fun e_ => hk.2 e_⟩))); (case aS => exact (below_size (by repeat (first | (with_reducible first | exact HB.out | apply below_alloc | apply pw_below_drewN | apply below_drew1) | exact HB.out)))); (case aL => have := LMc35.out; omega); intro v176 w39 ho hb hg hat; rw [← Ny175.out] at ho; have n0_ := Aside0.mk (Kd.S_over' (by (with_reducible repeat (first | apply Kd.S_alloc | apply Kd.S_drewN | apply Kd.S_drew)); exact HO_5.out) (Kd.S_typed (by (with_reducible repeat (first | apply Kd.S_alloc | apply Kd.S_drewN | apply Kd.S_drew)); exact HO_7.out)) (by decide) hg); have n1_ := Aside0.mk (Kd.S_over' (by (with_reducible repeat (first | apply Kd.S_alloc | apply Kd.S_drewN | apply Kd.S_drew)); exact HO_6.out) (Kd.S_typed (by (with_reducible repeat (first | apply Kd.S_alloc | apply Kd.S_drewN | apply Kd.S_drew)); exact HO_7.out)) (by decide) hg); have n2_ := Aside0.mk (Kd.R_after (ok := (fun k_ => some k_ ≠ (.slice Ao40 y172.length co40 : Value).ownBlock)) (by (with_reducible repeat (first | apply Kd.R_alloc | apply Kd.R_drewN | apply Kd.R_drew)); exact Kd.R_mono HL163_0.out (fun _ hk => ⟨hk.2, hk.1.2⟩)) hg hat); have n3_ := Aside0.mk (Kd.R_after (ok := (fun k_ => some k_ ≠ (.slice Ao40 y172.length co40 : Value).ownBlock)) (by (with_reducible repeat (first | apply Kd.R_alloc | apply Kd.R_drewN | apply Kd.R_drew)); exact Kd.R_mono HL165_0.out (fun _ hk => ⟨hk.2, hk.1.2⟩)) hg hat); have n4_ := Aside0.mk (hb); have n5_ := Aside0.mk (ho); clear HO_5; clear HO_6; clear HL163_0; clear HL165_0; clear HB; clear HO_7; clear HO174; have HO_5 := n0_; have HO_6 := n1_; have HL163_0 := n2_; have HL165_0 := n3_; have HB := n4_; have HO177 := n5_; clear n0_ n1_ n2_ n3_ n4_ n5_; clear ho hb hg hat))
                                        go_roundg kj11
                                        case measure => have := HK1.out; have := HK2.out; have := HJ11.out; omega
                                        case rel => exact ⟨(y175), (wrap64 (x25_2 + 1)), (by first | rfl | (simp; done) | (simp [*]; done)), H', ⟨by have := HK1.out; have := HK2.out; have := HJ11.out; omega⟩, ⟨by (with_reducible repeat (first | apply Kd.S_alloc | apply Kd.S_drewN | apply Kd.S_drew)); exact HO_5.out⟩, ⟨by (with_reducible repeat (first | apply Kd.S_alloc | apply Kd.S_drewN | apply Kd.S_drew)); exact HO_6.out⟩, ⟨by (with_reducible repeat (first | apply Kd.S_alloc | apply Kd.S_drewN | apply Kd.S_drew)); exact HO177.out⟩, ⟨by repeat (first | (with_reducible first | exact HB.out | apply below_alloc | apply pw_below_drewN | apply below_drew1) | exact HB.out)⟩⟩
                                      · rw [if_neg c35] at H
                                        exact absurd H (by simp)
                                  · rw [if_neg c29] at H
                                    exact absurd H (by simp)
                                · rw [if_neg c28] at H
                                  have c28b0 : ((rd (rd_L5 x7_2 (ji24)) 0) == x17_1) = false := beq_eq_false_iff_ne.mpr c28
                                  have c28b1 : ((rd (rd_L5 x7_2 (ji24)) 0) != x17_1) = true := bne_iff_ne.mpr c28
                                  obtain ⟨y178, hy178⟩ : ∃ y_ : List Int, y_ = (([x17_1, x25_2, wrap64 (x25_2 + 1)] : List Int)) := ⟨_, rfl⟩
                                  replace H : (if x7_2.length < 5864062014805 then (spec_rpRanges.l1 kj11 t152 t155 (x7_2 ++ [y178]) x17_1 (t152.length : Int) x17_1 ((rd_L4 t152 x17_1).length : Int) (wrap64 (x25_2 + 1))) else (none)) = some r := by first | (rw [hy178]; with_reducible exact H) | (have H2_ := (Option.bind_some _ _).symm.trans H; rw [hy178]; with_reducible exact H2_) | (have H2_ := (Option.bind_some _ _).symm.trans H; with_reducible exact H2_) | with_reducible exact H | (rw [hy178]; exact H) | exact H
                                  have Ny178 := Aside0.mk hy178
                                  clear hy178
                                  by_cases c41 : x7_2.length < 5864062014805
                                  · rw [if_pos c41] at H
                                    have LMc41 := Aside0.mk c41
                                    clear c41
                                    obtain ⟨y181, hy181⟩ : ∃ y_ : List (List Int), y_ = (x7_2 ++ [y178]) := ⟨_, rfl⟩
                                    replace H : (spec_rpRanges.l1 kj11 t152 t155 y181 x17_1 (t152.length : Int) x17_1 ((rd_L4 t152 x17_1).length : Int) (wrap64 (x25_2 + 1))) = some r := by first | (rw [hy181]; with_reducible exact H) | (have H2_ := (Option.bind_some _ _).symm.trans H; rw [hy181]; with_reducible exact H2_) | (have H2_ := (Option.bind_some _ _).symm.trans H; with_reducible exact H2_) | with_reducible exact H | (rw [hy181]; exact H) | exact H
                                    have Ny181 := Aside0.mk hy181
                                    clear hy181
                                    have H' := Aside0.mk H
                                    clear H
                                    obtain ⟨Ao42, co42, eo42⟩ := Kd.S_slice HO_7.out
                                    subst eo42
                                    have p163 : 0 ≤ ((ji24) : Int) := of_decide_eq_true (by first | (with_reducible assumption) | assumption)
                                    have q163 : (ji24) < (x7_2.length : Int) := of_decide_eq_true (by first | (with_reducible assumption) | assumption)
                                    obtain ⟨ad163, A163_0, c163_0, e163, hx163_0, hl163_0, hi163_0⟩ := at_L5 (Kd.S_reads' HO_7.out).2.2 (ji24) p163 q163
                                    cases e163
                                    obtain ⟨ce163, hce163, hMe163, hcc163⟩ := Kd.S_get HO_7.out [] (ji24) p163 (by first | exact q163 | exact of_decide_eq_true (by first | (with_reducible assumption) | assumption) | (have e_ := (Kd.S_reads' HO_7.out).1; omega))
                                    obtain ⟨ve163_0, rfl, ge163_0⟩ := hMe163
                                    have hv163_0 := hcc163 0 _ rfl
                                    rw [Nat.add_zero, show ((Kd.slice 3 (Kd.int .i64))).sz = 1 from rfl, Nat.mul_one] at hv163_0
                                    replace hv163_0 := Option.some.inj (hv163_0.symm.trans hx163_0)
                                    rw [hv163_0] at ge163_0
                                    have HL163_0 := Aside0.mk (show Kd.R (Kd.int .i64) 3 _ _ _ _ (rd_L5 x7_2 (ji24)) from ge163_0)
                                    clear hv163_0 ge163_0
                                    have HX163_0 := Aside0.mk hx163_0
                                    clear hcc163 hce163
                                    have HR163_0 := Aside0.mk hi163_0
                                    have HC163_0 := Aside0.mk hl163_0
                                    clear hi163_0 hl163_0
                                    replace p163 := eq_true p163
                                    replace q163 := eq_true q163
                                    have p164 : 0 ≤ (0 : Int) := (by omega)
                                    have q164 : 0 < ((rd_L5 x7_2 (ji24)).length : Int) := of_decide_eq_true (by first | (with_reducible assumption) | assumption)
                                    obtain ⟨ad164, e164, hx164_0⟩ := Kd.at_int (by repeat (first | (with_reducible exact HR163_0.out) | (with_reducible refine Kd.C_alloc ?_ _) | (with_reducible refine Kd.C_drewN ?_ _) | (with_reducible refine Kd.C_drew ?_) | exact HR163_0.out)) 0 p164 q164
                                    cases e164
                                    have qi164 : (0 < (rd_L5 x7_2 (ji24)).length) = True := eq_true (by omega)
                                    (try rw [show ((0 : Int)).toNat = 0 from rfl] at hx164_0)
                                    (try rw [Addr.add_zero'] at hx164_0)
                                    replace p164 := eq_true p164
                                    replace q164 := eq_true q164
                                    go_wp2_with (first | ((with_reducible refine gate_dst (N := 85) rfl ?_); refine Kd.R_lit (Kd.int .i64) _ 3 ?hg (N := 85) ?hd (xs := ([x17_1, x25_2, wrap64 (x25_2 + 1)] : List Int)) (inner := [.int .i64 x17_1, .int .i64 x25_2, .int .i64 (wrap64 (x25_2 + 1))]) (ok := fun _ => True) (okp := fun _ => True) ?hr ?hp (fun _ hk => hk) trivial (Below.refl _ _) (Nat.le_refl _) (by simp) ?_; (case hd => rfl); (case hg => rfl); (case hr => first | (go_simp; done) | (go_simp; rfl)); (case hp => exact (Reps.one (show Kd.M (Kd.int .i64) _ _ _ x17_1 [.int .i64 x17_1] from rfl) (Reps.one (show Kd.M (Kd.int .i64) _ _ _ x25_2 [.int .i64 x25_2] from rfl) (Reps.one (show Kd.M (Kd.int .i64) _ _ _ (wrap64 (x25_2 + 1)) [.int .i64 (wrap64 (x25_2 + 1))] from rfl) (Reps.none _ _))))); intro v179 w43 ho44 hb hg_ hnew_; clear hg_ hnew_; (first | rw [← Ny178.out] at ho44 | (simp only [Int.reduceToNat] at ho44; rw [← Ny178.out] at ho44)); have n0_ := Aside0.mk (Kd.S_below (by (with_reducible repeat (first | apply Kd.S_alloc | apply Kd.S_drewN | apply Kd.S_drew)); exact HO_5.out) hb); have n1_ := Aside0.mk (Kd.S_below (by (with_reducible repeat (first | apply Kd.S_alloc | apply Kd.S_drewN | apply Kd.S_drew)); exact HO_6.out) hb); have n2_ := Aside0.mk (Kd.S_elder' (by (with_reducible repeat (first | apply Kd.S_alloc | apply Kd.S_drewN | apply Kd.S_drew)); exact HO_7.out) (Kd.R_base ho44) hb); have n3_ := Aside0.mk (Kd.R_elder' (by (with_reducible repeat (first | apply Kd.R_alloc | apply Kd.R_drewN | apply Kd.R_drew)); exact HL163_0.out) (Kd.R_base ho44) hb); have n4_ := Aside0.mk (Kd.R_lower (Kd.R_new' ho44 (Kd.R_lt (by (with_reducible repeat (first | apply Kd.R_alloc | apply Kd.R_drewN | apply Kd.R_drew)); exact HL163_0.out))) (below_size (by repeat (first | (with_reducible first | exact HB.out | apply below_alloc | apply pw_below_drewN | apply below_drew1) | exact HB.out)))); have n5_ := Aside0.mk (Kd.C_below (by repeat (first | (with_reducible exact HR163_0.out) | (with_reducible refine Kd.C_alloc ?_ _) | (with_reducible refine Kd.C_drewN ?_ _) | (with_reducible refine Kd.C_drew ?_) | exact HR163_0.out)) hb); have n6_ := Aside0.mk (pw_cell_below hb HX163_0.out); have n7_ := Aside0.mk (below_step (by repeat (first | (with_reducible first | exact HB.out | apply below_alloc | apply pw_below_drewN | apply below_drew1) | exact HB.out)) hb); clear HO_5; clear HO_6; clear HO_7; clear HL163_0; clear HR163_0; clear HX163_0; clear HB; have HO_5 := n0_; have HO_6 := n1_; have HO_7 := n2_; have HL163_0 := n3_; have HO180 := n4_; have HR163_0 := n5_; have HX163_0 := n6_; have HB := n7_; clear n0_ n1_ n2_ n3_ n4_ n5_ n6_ n7_; clear hb ho44; obtain ⟨Ao46, co46, eo46⟩ := Kd.R_slice HO180.out; subst eo46) | ((with_reducible refine gate_builtin (b := .append) (xs := #[.tmp 80, .tmp 86]) rfl ?_); at_builtin; refine Kd.S_append (Kd.slice 3 (Kd.int .i64)) (w0 := w) w.heap.size rfl (.tmp 80) (.tmp 86) 61 73 (.slice none 0 0) 24 rfl Try.underlying61 info73 rfl (by decide) (by omega) (.slice (some ad163) x7_2.length co42) x7_2 y178 [.slice Ao46 y178.length co46] (fun _ => True) (fun k_ => some k_ = (.slice Ao46 y178.length co46 : Value).ownBlock) rfl rfl ?aP (fun k_ hk_ => ((Kd.R_mono (ok' := fun k_ => ((fun _ => True)) k_ ∧ some k_ ≠ (.slice (some ad163) x7_2.length co42 : Value).ownBlock) (Kd.R_apart' (HO180.out) (Kd.S_typed HO_7.out) (by decide)) (fun k_ hk => ⟨trivial, hk.2⟩))).1 k_ hk_.symm) ?aF ?aO ?aB ?aS ?aL ?_; (case aP => exact Kd.M_row (Kd.R_mono (Kd.R_tight rfl (Kd.R_mono (ok' := fun k_ => ((fun _ => True)) k_ ∧ some k_ ≠ (.slice (some ad163) x7_2.length co42 : Value).ownBlock) (Kd.R_apart' (HO180.out) (Kd.S_typed HO_7.out) (by decide)) (fun k_ hk => ⟨trivial, hk.2⟩))) (fun _ h_ => h_))); (case aB => exact (by repeat (first | (with_reducible first | exact HB.out | apply below_alloc | apply pw_below_drewN | apply below_drew1) | exact HB.out))); (case aF => exact (fun _ _ => trivial)); (case aO => exact (by (with_reducible repeat (first | apply Kd.S_alloc | apply Kd.S_drewN | apply Kd.S_drew)); exact Kd.S_mono HO_7.out (fun k_ hk => ⟨trivial, fun e_ => hk.2 e_⟩))); (case aS => exact (below_size (by repeat (first | (with_reducible first | exact HB.out | apply below_alloc | apply pw_below_drewN | apply below_drew1) | exact HB.out)))); (case aL => have := LMc41.out; omega); intro v182 w45 ho hb hg hat; rw [← Ny181.out] at ho; have n0_ := Aside0.mk (Kd.S_over' (by (with_reducible repeat (first | apply Kd.S_alloc | apply Kd.S_drewN | apply Kd.S_drew)); exact HO_5.out) (Kd.S_typed (by (with_reducible repeat (first | apply Kd.S_alloc | apply Kd.S_drewN | apply Kd.S_drew)); exact HO_7.out)) (by decide) hg); have n1_ := Aside0.mk (Kd.S_over' (by (with_reducible repeat (first | apply Kd.S_alloc | apply Kd.S_drewN | apply Kd.S_drew)); exact HO_6.out) (Kd.S_typed (by (with_reducible repeat (first | apply Kd.S_alloc | apply Kd.S_drewN | apply Kd.S_drew)); exact HO_7.out)) (by decide) hg); have n2_ := Aside0.mk (Kd.R_after (ok := (fun k_ => some k_ ≠ (.slice Ao46 y178.length co46 : Value).ownBlock)) (by (with_reducible repeat (first | apply Kd.R_alloc | apply Kd.R_drewN | apply Kd.R_drew)); exact Kd.R_mono HL163_0.out (fun _ hk => ⟨hk.2, hk.1.2⟩)) hg hat); have n3_ := Aside0.mk (hb); have n4_ := Aside0.mk (ho); clear HO_5; clear HO_6; clear HL163_0; clear HB; clear HO_7; clear HO180; have HO_5 := n0_; have HO_6 := n1_; have HL163_0 := n2_; have HB := n3_; have HO183 := n4_; clear n0_ n1_ n2_ n3_ n4_; clear ho hb hg hat))
                                    go_roundg kj11
                                    case measure => have := HK1.out; have := HK2.out; have := HJ11.out; omega
                                    case rel => exact ⟨(y181), (wrap64 (x25_2 + 1)), (by first | rfl | (simp; done) | (simp [*]; done)), H', ⟨by have := HK1.out; have := HK2.out; have := HJ11.out; omega⟩, ⟨by (with_reducible repeat (first | apply Kd.S_alloc | apply Kd.S_drewN | apply Kd.S_drew)); exact HO_5.out⟩, ⟨by (with_reducible repeat (first | apply Kd.S_alloc | apply Kd.S_drewN | apply Kd.S_drew)); exact HO_6.out⟩, ⟨by (with_reducible repeat (first | apply Kd.S_alloc | apply Kd.S_drewN | apply Kd.S_drew)); exact HO183.out⟩, ⟨by repeat (first | (with_reducible first | exact HB.out | apply below_alloc | apply pw_below_drewN | apply below_drew1) | exact HB.out)⟩⟩
                                  · rw [if_neg c41] at H
                                    exact absurd H (by simp)
                              · rw [if_neg c27] at H
                                exact absurd H (by simp)
                            · rw [if_neg c26] at H
                              exact absurd H (by simp)
                          · rw [if_neg c25] at H
                            exact absurd H (by simp)
                        · rw [if_neg c23] at H
                          have c23b0 : decide (0 < (x7_2.length : Int)) = false := decide_eq_false c23
                          have c23b1 : decide (0 < x7_2.length) = false := decide_eq_false (by omega)
                          clear c23
                          obtain ⟨y184, hy184⟩ : ∃ y_ : List Int, y_ = (([x17_1, x25_2, wrap64 (x25_2 + 1)] : List Int)) := ⟨_, rfl⟩
                          replace H : (if x7_2.length < 5864062014805 then (spec_rpRanges.l1 kj11 t152 t155 (x7_2 ++ [y184]) x17_1 (t152.length : Int) x17_1 ((rd_L4 t152 x17_1).length : Int) (wrap64 (x25_2 + 1))) else (none)) = some r := by first | (rw [hy184]; with_reducible exact H) | (have H2_ := (Option.bind_some _ _).symm.trans H; rw [hy184]; with_reducible exact H2_) | (have H2_ := (Option.bind_some _ _).symm.trans H; with_reducible exact H2_) | with_reducible exact H | (rw [hy184]; exact H) | exact H
                          have Ny184 := Aside0.mk hy184
                          clear hy184
                          by_cases c47 : x7_2.length < 5864062014805
                          · rw [if_pos c47] at H
                            have LMc47 := Aside0.mk c47
                            clear c47
                            obtain ⟨y187, hy187⟩ : ∃ y_ : List (List Int), y_ = (x7_2 ++ [y184]) := ⟨_, rfl⟩
                            replace H : (spec_rpRanges.l1 kj11 t152 t155 y187 x17_1 (t152.length : Int) x17_1 ((rd_L4 t152 x17_1).length : Int) (wrap64 (x25_2 + 1))) = some r := by first | (rw [hy187]; with_reducible exact H) | (have H2_ := (Option.bind_some _ _).symm.trans H; rw [hy187]; with_reducible exact H2_) | (have H2_ := (Option.bind_some _ _).symm.trans H; with_reducible exact H2_) | with_reducible exact H | (rw [hy187]; exact H) | exact H
                            have Ny187 := Aside0.mk hy187
                            clear hy187
                            have H' := Aside0.mk H
                            clear H
                            obtain ⟨Ao48, co48, eo48⟩ := Kd.S_slice HO_7.out
                            subst eo48
                            go_wp2_with (first | ((with_reducible refine gate_dst (N := 85) rfl ?_); refine Kd.R_lit (Kd.int .i64) _ 3 ?hg (N := 85) ?hd (xs := ([x17_1, x25_2, wrap64 (x25_2 + 1)] : List Int)) (inner := [.int .i64 x17_1, .int .i64 x25_2, .int .i64 (wrap64 (x25_2 + 1))]) (ok := fun _ => True) (okp := fun _ => True) ?hr ?hp (fun _ hk => hk) trivial (Below.refl _ _) (Nat.le_refl _) (by simp) ?_; (case hd => rfl); (case hg => rfl); (case hr => first | (go_simp; done) | (go_simp; rfl)); (case hp => exact (Reps.one (show Kd.M (Kd.int .i64) _ _ _ x17_1 [.int .i64 x17_1] from rfl) (Reps.one (show Kd.M (Kd.int .i64) _ _ _ x25_2 [.int .i64 x25_2] from rfl) (Reps.one (show Kd.M (Kd.int .i64) _ _ _ (wrap64 (x25_2 + 1)) [.int .i64 (wrap64 (x25_2 + 1))] from rfl) (Reps.none _ _))))); intro v185 w49 ho50 hb hg_ hnew_; clear hg_ hnew_; (first | rw [← Ny184.out] at ho50 | (simp only [Int.reduceToNat] at ho50; rw [← Ny184.out] at ho50)); have n0_ := Aside0.mk (Kd.S_below (by (with_reducible repeat (first | apply Kd.S_alloc | apply Kd.S_drewN | apply Kd.S_drew)); exact HO_5.out) hb); have n1_ := Aside0.mk (Kd.S_below (by (with_reducible repeat (first | apply Kd.S_alloc | apply Kd.S_drewN | apply Kd.S_drew)); exact HO_6.out) hb); have n2_ := Aside0.mk (Kd.S_elder' (by (with_reducible repeat (first | apply Kd.S_alloc | apply Kd.S_drewN | apply Kd.S_drew)); exact HO_7.out) (Kd.R_base ho50) hb); have n3_ := Aside0.mk (Kd.R_lower ho50 (below_size (by repeat (first | (with_reducible first | exact HB.out | apply below_alloc | apply pw_below_drewN | apply below_drew1) | exact HB.out)))); have n4_ := Aside0.mk (below_step (by repeat (first | (with_reducible first | exact HB.out | apply below_alloc | apply pw_below_drewN | apply below_drew1) | exact HB.out)) hb); clear HO_5; clear HO_6; clear HO_7; clear HB; have HO_5 := n0_; have HO_6 := n1_; have HO_7 := n2_; have HO186 := n3_; have HB := n4_; clear n0_ n1_ n2_ n3_ n4_; clear hb ho50; obtain ⟨Ao52, co52, eo52⟩ := Kd.R_slice HO186.out; subst eo52) | ((with_reducible refine gate_builtin (b := .append) (xs := #[.tmp 80, .tmp 86]) rfl ?_); at_builtin; refine Kd.S_append (Kd.slice 3 (Kd.int .i64)) (w0 := w) w.heap.size rfl (.tmp 80) (.tmp 86) 61 73 (.slice none 0 0) 24 rfl Try.underlying61 info73 rfl (by decide) (by omega) (.slice Ao48 x7_2.length co48) x7_2 y184 [.slice Ao52 y184.length co52] (fun _ => True) (fun k_ => some k_ = (.slice Ao52 y184.length co52 : Value).ownBlock) rfl rfl ?aP (fun k_ hk_ => ((Kd.R_mono (ok' := fun k_ => ((fun _ => True)) k_ ∧ some k_ ≠ (.slice Ao48 x7_2.length co48 : Value).ownBlock) (Kd.R_apart' (HO186.out) (Kd.S_typed HO_7.out) (by decide)) (fun k_ hk => ⟨trivial, hk.2⟩))).1 k_ hk_.symm) ?aF ?aO ?aB ?aS ?aL ?_; (case aP => exact Kd.M_row (Kd.R_mono (Kd.R_tight rfl (Kd.R_mono (ok' := fun k_ => ((fun _ => True)) k_ ∧ some k_ ≠ (.slice Ao48 x7_2.length co48 : Value).ownBlock) (Kd.R_apart' (HO186.out) (Kd.S_typed HO_7.out) (by decide)) (fun k_ hk => ⟨trivial, hk.2⟩))) (fun _ h_ => h_))); (case aB => exact (by repeat (first | (with_reducible first | exact HB.out | apply below_alloc | apply pw_below_drewN | apply below_drew1) | exact HB.out))); (case aF => exact (fun _ _ => trivial)); (case aO => exact (by (with_reducible repeat (first | apply Kd.S_alloc | apply Kd.S_drewN | apply Kd.S_drew)); exact Kd.S_mono HO_7.out (fun k_ hk => ⟨trivial, fun e_ => hk.2 e_⟩))); (case aS => exact (below_size (by repeat (first | (with_reducible first | exact HB.out | apply below_alloc | apply pw_below_drewN | apply below_drew1) | exact HB.out)))); (case aL => have := LMc47.out; omega); intro v188 w51 ho hb hg hat; rw [← Ny187.out] at ho; have n0_ := Aside0.mk (Kd.S_over' (by (with_reducible repeat (first | apply Kd.S_alloc | apply Kd.S_drewN | apply Kd.S_drew)); exact HO_5.out) (Kd.S_typed (by (with_reducible repeat (first | apply Kd.S_alloc | apply Kd.S_drewN | apply Kd.S_drew)); exact HO_7.out)) (by decide) hg); have n1_ := Aside0.mk (Kd.S_over' (by (with_reducible repeat (first | apply Kd.S_alloc | apply Kd.S_drewN | apply Kd.S_drew)); exact HO_6.out) (Kd.S_typed (by (with_reducible repeat (first | apply Kd.S_alloc | apply Kd.S_drewN | apply Kd.S_drew)); exact HO_7.out)) (by decide) hg); have n2_ := Aside0.mk (hb); have n3_ := Aside0.mk (ho); clear HO_5; clear HO_6; clear HB; clear HO_7; clear HO186; have HO_5 := n0_; have HO_6 := n1_; have HB := n2_; have HO189 := n3_; clear n0_ n1_ n2_ n3_; clear ho hb hg hat))
                            go_roundg kj11
                            case measure => have := HK1.out; have := HK2.out; have := HJ11.out; omega
                            case rel => exact ⟨(y187), (wrap64 (x25_2 + 1)), (by first | rfl | (simp; done) | (simp [*]; done)), H', ⟨by have := HK1.out; have := HK2.out; have := HJ11.out; omega⟩, ⟨by (with_reducible repeat (first | apply Kd.S_alloc | apply Kd.S_drewN | apply Kd.S_drew)); exact HO_5.out⟩, ⟨by (with_reducible repeat (first | apply Kd.S_alloc | apply Kd.S_drewN | apply Kd.S_drew)); exact HO_6.out⟩, ⟨by (with_reducible repeat (first | apply Kd.S_alloc | apply Kd.S_drewN | apply Kd.S_drew)); exact HO189.out⟩, ⟨by repeat (first | (with_reducible first | exact HB.out | apply below_alloc | apply pw_below_drewN | apply below_drew1) | exact HB.out)⟩⟩
                          · rw [if_neg c47] at H
                            exact absurd H (by simp)
                · rw [if_neg c11] at H
                  have c11b0 : decide (x25_2 < ((rd_L4 t152 x17_1).length : Int)) = false := decide_eq_false c11
                  clear c11
                  have H' := Aside0.mk H
                  clear H
                  go_wp2
                  go_roundg k2
                  case measure => have := HK1.out; have := HK2.out; omega
                  case rel => exact ⟨(x7_2), (wrap64 (x17_1 + 1)), (by first | rfl | (simp; done) | (simp [*]; done)), H', ⟨by have := HK1.out; have := HK2.out; omega⟩, ⟨by (with_reducible repeat (first | apply Kd.S_alloc | apply Kd.S_drewN | apply Kd.S_drew)); exact HO_5.out⟩, ⟨by (with_reducible repeat (first | apply Kd.S_alloc | apply Kd.S_drewN | apply Kd.S_drew)); exact HO_6.out⟩, ⟨by (with_reducible repeat (first | apply Kd.S_alloc | apply Kd.S_drewN | apply Kd.S_drew)); exact HO_7.out⟩, ⟨by repeat (first | (with_reducible first | exact HB.out | apply below_alloc | apply pw_below_drewN | apply below_drew1) | exact HB.out)⟩⟩
          · rw [if_neg c10] at H
            exact absurd H (by simp)
        · rw [if_neg c9] at H
          exact absurd H (by simp)
      · rw [if_neg c8] at H
        have c8b0 : decide (x17_1 < (t152.length : Int)) = false := decide_eq_false c8
        clear c8
        obtain rfl := Option.some.inj H
        go_wp2
        go_ret
        exact ⟨_, by first | rfl | (simp [errW_none, errW_some] <;> rfl) | (simp [*, errW_none, errW_some] <;> rfl), by (with_reducible repeat (first | apply Kd.S_alloc | apply Kd.S_drewN | apply Kd.S_drew)); exact HO_7.out, by repeat (first | (with_reducible first | exact HB.out | apply below_alloc | apply pw_below_drewN | apply below_drew1) | exact HB.out)⟩

end Go.Proofs.Ytjniaiobnbdhhaa.PFnExactRepairCost
