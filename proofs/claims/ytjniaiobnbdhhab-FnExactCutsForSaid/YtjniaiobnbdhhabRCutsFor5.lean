/- The walks of functions that FnExactCutsFor reaches: what they return is what the plain functions of the same names say. Laid by a program of this session after the kit's print. No conditions beyond the arguments' being read. -/
import Derived.Test.YtjniaiobnbdhhabRCutsFor0
import Derived.Test.YtjniaiobnbdhhabRCutsFor3
namespace Go.Proofs.Ytjniaiobnbdhhab.PFnExactCutsFor
open Go.RowKit Go.Proofs.YtjniaiobnbdhhabW.PrintWords Go.Proofs.YtjniaiobnbdhhabW.PrintLast Go.Proofs.YtjniaiobnbdhhabW.PrintMore
attribute [local go_sem] max2_int min2_int max_two min_two max_three min_three max_four min_four   -- for this text's walks alone
set_option linter.unusedVariables false
set_option linter.unusedSimpArgs false

/-! ### spec_rpRanges: function 54 -/
mutual
def spec_rpRanges.l0 : Nat → List (List Bool) → List (List Bool) → List (List Int) → Int → Int → Option ((List (List Int)))
  | 0, _, _, _, _, _ => none
  | k + 1, x5, x6, x7, x16, x17 => if x17 < x16 then (if 0 ≤ x17 then (if x17 < (x5.length : Int) then (spec_rpRanges.l1 k x5 x6 x7 x17 x16 x17 ((rd_L4 x5 x17).length : Int) 0) else (none)) else (none)) else (some x7)
def spec_rpRanges.l1 : Nat → List (List Bool) → List (List Bool) → List (List Int) → Int → Int → Int → Int → Int → Option ((List (List Int)))
  | 0, _, _, _, _, _, _, _, _ => none
  | k + 1, x5, x6, x7, x8, x16, x17, x24, x25 => if x25 < x24 then (if 0 ≤ x8 then (if x8 < (x5.length : Int) then (if 0 ≤ x25 then (if x25 < ((rd_L4 x5 x8).length : Int) then (if (rdOf false (rd_L4 x5 x8) x25 = true) then (if x8 < (x6.length : Int) then (if x25 < ((rd_L4 x6 x8).length : Int) then (spec_rpRanges.j2 k x5 x6 x7 x8 x25 x16 x17 x24 x25 (rdOf false (rd_L4 x6 x8) x25)) else (none)) else (none)) else (spec_rpRanges.j2 k x5 x6 x7 x8 x25 x16 x17 x24 x25 true)) else (none)) else (none)) else (none)) else (none)) else (spec_rpRanges.l0 k x5 x6 x7 x16 (wrap64 (x17 + 1)))
def spec_rpRanges.j2 : Nat → List (List Bool) → List (List Bool) → List (List Int) → Int → Int → Int → Int → Int → Int → Bool → Option ((List (List Int)))
  | 0, _, _, _, _, _, _, _, _, _, _ => none
  | k + 1, x5, x6, x7, x8, x9, x16, x17, x24, x25, x44 => if x44 = true then (spec_rpRanges.l1 k x5 x6 x7 x8 x16 x17 x24 (wrap64 (x25 + 1))) else (if (x7.length : Int) > 0 then (if 0 ≤ (wrap64 ((x7.length : Int) - 1)) then (if (wrap64 ((x7.length : Int) - 1)) < (x7.length : Int) then (if 0 < ((rd_L5 x7 (wrap64 ((x7.length : Int) - 1))).length : Int) then (if (rd (rd_L5 x7 (wrap64 ((x7.length : Int) - 1))) 0) = x8 then (if 2 < ((rd_L5 x7 (wrap64 ((x7.length : Int) - 1))).length : Int) then (if (rd (rd_L5 x7 (wrap64 ((x7.length : Int) - 1))) 2) = x9 then (spec_rpRanges.l1 k x5 x6 (x7.set ((wrap64 ((x7.length : Int) - 1)) : Int).toNat ((rd_L5 x7 (wrap64 ((x7.length : Int) - 1))).set (2 : Int).toNat (wrap64 ((rd (rd_L5 x7 (wrap64 ((x7.length : Int) - 1))) 2) + 1)))) x8 x16 x17 x24 (wrap64 (x25 + 1))) else (if x7.length < 5864062014805 then (spec_rpRanges.l1 k x5 x6 (x7 ++ [(([x8, x9, wrap64 (x9 + 1)] : List Int))]) x8 x16 x17 x24 (wrap64 (x25 + 1))) else (none))) else (none)) else (if x7.length < 5864062014805 then (spec_rpRanges.l1 k x5 x6 (x7 ++ [(([x8, x9, wrap64 (x9 + 1)] : List Int))]) x8 x16 x17 x24 (wrap64 (x25 + 1))) else (none))) else (none)) else (none)) else (none)) else (if x7.length < 5864062014805 then (spec_rpRanges.l1 k x5 x6 (x7 ++ [(([x8, x9, wrap64 (x9 + 1)] : List Int))]) x8 x16 x17 x24 (wrap64 (x25 + 1))) else (none)))
end
def spec_rpRanges.f (k : Nat) (l0 : List (S80)) (l1 : List (S80)) : Option ((List (List Int))) := (spec_rpOpen.f k l0).bind fun t144 => ((spec_rpOpen.f k l1).bind fun t147 => (spec_rpRanges.l0 k t144 t147 ([] : List (List Int)) (t144.length : Int) 0))
theorem spec_rpRanges.mono_l : ∀ k, (∀ y0 y1 y2 y3 y4, LeO (spec_rpRanges.l0 k y0 y1 y2 y3 y4) (spec_rpRanges.l0 (k + 1) y0 y1 y2 y3 y4)) ∧ (∀ y0 y1 y2 y3 y4 y5 y6 y7, LeO (spec_rpRanges.l1 k y0 y1 y2 y3 y4 y5 y6 y7) (spec_rpRanges.l1 (k + 1) y0 y1 y2 y3 y4 y5 y6 y7)) ∧ (∀ y0 y1 y2 y3 y4 y5 y6 y7 y8 y9, LeO (spec_rpRanges.j2 k y0 y1 y2 y3 y4 y5 y6 y7 y8 y9) (spec_rpRanges.j2 (k + 1) y0 y1 y2 y3 y4 y5 y6 y7 y8 y9))
  | 0 => ⟨fun _ _ _ _ _ r h => by simp [spec_rpRanges.l0] at h, fun _ _ _ _ _ _ _ _ r h => by simp [spec_rpRanges.l1] at h, fun _ _ _ _ _ _ _ _ _ _ r h => by simp [spec_rpRanges.j2] at h⟩
  | k + 1 => by
    obtain ⟨ih0, ih1, ih2⟩ := spec_rpRanges.mono_l k
    refine ⟨?_, ?_, ?_⟩
    · intro y0 y1 y2 y3 y4
      unfold spec_rpRanges.l0
      repeat' first
      | (with_reducible exact ih0 _ _ _ _ _)
      | (with_reducible exact ih1 _ _ _ _ _ _ _ _)
      | (with_reducible exact ih2 _ _ _ _ _ _ _ _ _ _)
      | (with_reducible exact spec_rpOpen.mono _ _)
      | (with_reducible exact LeO.refl _)
      | (with_reducible exact LeO.none _)
      | (with_reducible refine LeO.ite ?_ ?_)
      | (with_reducible refine LeO.bind ?_ (fun _ => ?_))
      | exact ih0 _ _ _ _ _
      | exact ih1 _ _ _ _ _ _ _ _
      | exact ih2 _ _ _ _ _ _ _ _ _ _
      | exact spec_rpOpen.mono _ _
      | exact LeO.none _
      | refine LeO.ite ?_ ?_
      | refine LeO.bind ?_ (fun _ => ?_)
    · intro y0 y1 y2 y3 y4 y5 y6 y7
      unfold spec_rpRanges.l1
      repeat' first
      | (with_reducible exact ih0 _ _ _ _ _)
      | (with_reducible exact ih1 _ _ _ _ _ _ _ _)
      | (with_reducible exact ih2 _ _ _ _ _ _ _ _ _ _)
      | (with_reducible exact spec_rpOpen.mono _ _)
      | (with_reducible exact LeO.refl _)
      | (with_reducible exact LeO.none _)
      | (with_reducible refine LeO.ite ?_ ?_)
      | (with_reducible refine LeO.bind ?_ (fun _ => ?_))
      | exact ih0 _ _ _ _ _
      | exact ih1 _ _ _ _ _ _ _ _
      | exact ih2 _ _ _ _ _ _ _ _ _ _
      | exact spec_rpOpen.mono _ _
      | exact LeO.none _
      | refine LeO.ite ?_ ?_
      | refine LeO.bind ?_ (fun _ => ?_)
    · intro y0 y1 y2 y3 y4 y5 y6 y7 y8 y9
      unfold spec_rpRanges.j2
      repeat' first
      | (with_reducible exact ih0 _ _ _ _ _)
      | (with_reducible exact ih1 _ _ _ _ _ _ _ _)
      | (with_reducible exact ih2 _ _ _ _ _ _ _ _ _ _)
      | (with_reducible exact spec_rpOpen.mono _ _)
      | (with_reducible exact LeO.refl _)
      | (with_reducible exact LeO.none _)
      | (with_reducible refine LeO.ite ?_ ?_)
      | (with_reducible refine LeO.bind ?_ (fun _ => ?_))
      | exact ih0 _ _ _ _ _
      | exact ih1 _ _ _ _ _ _ _ _
      | exact ih2 _ _ _ _ _ _ _ _ _ _
      | exact spec_rpOpen.mono _ _
      | exact LeO.none _
      | refine LeO.ite ?_ ?_
      | refine LeO.bind ?_ (fun _ => ?_)
theorem spec_rpRanges.mono : ∀ a0 a1 k, LeO (spec_rpRanges.f k a0 a1) (spec_rpRanges.f (k + 1) a0 a1) := by
  intro a0 a1 k
  obtain ⟨ih0, ih1, ih2⟩ := spec_rpRanges.mono_l k
  unfold spec_rpRanges.f
  repeat' first
      | (with_reducible exact ih0 _ _ _ _ _)
      | (with_reducible exact ih1 _ _ _ _ _ _ _ _)
      | (with_reducible exact ih2 _ _ _ _ _ _ _ _ _ _)
      | (with_reducible exact spec_rpOpen.mono _ _)
      | (with_reducible exact LeO.refl _)
      | (with_reducible exact LeO.none _)
      | (with_reducible refine LeO.ite ?_ ?_)
      | (with_reducible refine LeO.bind ?_ (fun _ => ?_))
      | exact ih0 _ _ _ _ _
      | exact ih1 _ _ _ _ _ _ _ _
      | exact ih2 _ _ _ _ _ _ _ _ _ _
      | exact spec_rpOpen.mono _ _
      | exact LeO.none _
      | refine LeO.ite ?_ ?_
      | refine LeO.bind ?_ (fun _ => ?_)
set_option maxHeartbeats 8000000 in
set_option maxRecDepth 100000 in
theorem spec_rpRanges.calls (k : Nat) (A0 : Option Addr) (c0 : Nat) (l0 : List (S80)) (A1 : Option Addr) (c1 : Nat) (l1 : List (S80)) (r : List (List Int)) (w : World) (hr0 : Kd.C k80 w A0 l0.length l0) (hc0 : l0.length ≤ c0) (hr1 : Kd.C k80 w A1 l1.length l1) (hc1 : l1.length ≤ c1) (h : spec_rpRanges.f k l0 l1 = some r) :
    Calls Try.prog 54 #[.slice A0 l0.length c0, .slice A1 l1.length c1] w fun e w' => ∃ v0_ : Value, e = .returned (v0_) ∧ Kd.S (Kd.slice 3 (Kd.int .i64)) 34 w' w.heap.size (fun _ => True) v0_ r ∧ Below w.heap.size w w' := by
  have HR0 := Aside0.mk hr0
  have HC0 := Aside0.mk hc0
  clear hr0 hc0
  have HR1 := Aside0.mk hr1
  have HC1 := Aside0.mk hc1
  clear hr1 hc1
  have HB := Aside0.mk (Below.refl w.heap.size w)
  have H : ((spec_rpOpen.f k l0).bind fun t144 => ((spec_rpOpen.f k l1).bind fun t147 => (spec_rpRanges.l0 k t144 t147 ([] : List (List Int)) (t144.length : Int) 0))) = some r := h
  clear h
  replace H := Option.bind_eq_some_iff.mp H
  obtain ⟨t144, A30, H⟩ := H
  replace H : ((spec_rpOpen.f k l1).bind fun t147 => (spec_rpRanges.l0 k t144 t147 ([] : List (List Int)) (t144.length : Int) 0)) = some r := H
  have A3 := Aside0.mk A30
  clear A30
  replace H := Option.bind_eq_some_iff.mp H
  obtain ⟨t147, A40, H⟩ := H
  replace H : (spec_rpRanges.l0 k t144 t147 ([] : List (List Int)) (t144.length : Int) 0) = some r := H
  have A4 := Aside0.mk A40
  clear A40
  have H' := Aside0.mk H
  clear H
  go_enter Try.func54, Try.ntmps54
  go_wp2_with (first | ((with_reducible refine gate_callee (f := 86) rfl ?_); refine goesL_ (some 12) rfl rfl Try.func86 (by kernel_rfl) rfl #[.slice A0 l0.length c0] rfl (by (try simp only [List.map_toArray, List.map_cons, List.map_nil]); first | done | rfl | (simp only [List.length_drop, List.length_take]; rfl)) ?_; (with_reducible refine (spec_rpOpen.calls k _ _ l0 t144 _ ?side1 ?side2 A3.out).mono ?_); (case side1 => repeat (first | exact HR0.out | (with_reducible refine Kd.C_alloc ?_ _) | (with_reducible refine Kd.C_drewN ?_ _) | (with_reducible refine Kd.C_drew ?_))); (case side2 => exact HC0.out); rintro e w5 ⟨v145, rfl, ho0, hb⟩; refine ⟨_, rfl, ?_⟩; have n0_ := Aside0.mk (Kd.S_lower ho0 (below_size (by repeat (first | (with_reducible first | exact HB.out | apply below_alloc | apply pw_below_drewN | apply below_drew1) | exact HB.out)))); have n1_ := Aside0.mk (below_step (by repeat (first | (with_reducible first | exact HB.out | apply below_alloc | apply pw_below_drewN | apply below_drew1) | exact HB.out)) hb); clear HB; have HO146 := n0_; have HB := n1_; clear n0_ n1_; (try clear hb); (try clear hb2); (try clear hk); (try clear hi); (try clear ho0)) | ((with_reducible refine gate_callee (f := 86) rfl ?_); refine goesL_ (some 14) rfl rfl Try.func86 (by kernel_rfl) rfl #[.slice A1 l1.length c1] rfl (by (try simp only [List.map_toArray, List.map_cons, List.map_nil]); first | done | rfl | (simp only [List.length_drop, List.length_take]; rfl)) ?_; (with_reducible refine (spec_rpOpen.calls k _ _ l1 t147 _ ?side1 ?side2 A4.out).mono ?_); (case side1 => repeat (first | exact (Kd.C_below HR1.out HB.out) | (with_reducible refine Kd.C_alloc ?_ _) | (with_reducible refine Kd.C_drewN ?_ _) | (with_reducible refine Kd.C_drew ?_))); (case side2 => exact HC1.out); rintro e w6 ⟨v148, rfl, ho0, hb⟩; refine ⟨_, rfl, ?_⟩; have n0_ := Aside0.mk (Kd.S_elder' (by (with_reducible repeat (first | apply Kd.S_alloc | apply Kd.S_drewN | apply Kd.S_drew)); exact HO146.out) (Kd.S_base ho0) hb); have n1_ := Aside0.mk (Kd.S_lower (Kd.S_new' ho0 (Kd.S_lt (by (with_reducible repeat (first | apply Kd.S_alloc | apply Kd.S_drewN | apply Kd.S_drew)); exact HO146.out))) (below_size (by repeat (first | (with_reducible first | exact HB.out | apply below_alloc | apply pw_below_drewN | apply below_drew1) | exact HB.out)))); have n2_ := Aside0.mk (below_step (by repeat (first | (with_reducible first | exact HB.out | apply below_alloc | apply pw_below_drewN | apply below_drew1) | exact HB.out)) hb); clear HO146; clear HB; have HO146 := n0_; have HO149 := n1_; have HB := n2_; clear n0_ n1_ n2_; (try clear hb); (try clear hb2); (try clear hk); (try clear hi); (try clear ho0); obtain ⟨Ao7, co7, eo7⟩ := Kd.S_slice HO146.out; subst eo7))
  go_loopg [7, 17] k (fun kq v7 v17 w' => ∃ (x7_1 : List (List Int)) (x17_1 : Int), v17 = .int .i64 x17_1 ∧ Aside0 (spec_rpRanges.l0 kq t144 t147 x7_1 (t144.length : Int) x17_1 = some r) ∧ Aside0 (kq ≤ k) ∧ Aside0 (Kd.S (Kd.slice 4 Kd.bool) 93 w' w.heap.size (fun k_ => some k_ ≠ (v148 : Value).ownBlock) (.slice Ao7 t144.length co7) t144) ∧ Aside0 (Kd.S (Kd.slice 4 Kd.bool) 93 w' w.heap.size (fun k_ => some k_ ≠ ((.slice Ao7 t144.length co7) : Value).ownBlock) v148 t147) ∧ Aside0 (Kd.S (Kd.slice 3 (Kd.int .i64)) 34 w' w.heap.size (fun _ => True) v7 x7_1) ∧ Aside0 (Below w.heap.size w w'))
  case atStart => exact ⟨(([] : List (List Int))), (0), (by first | rfl | (simp; done) | (simp [*]; done)), H', ⟨Nat.le_refl _⟩, ⟨by (with_reducible repeat (first | apply Kd.S_alloc | apply Kd.S_drewN | apply Kd.S_drew)); exact Kd.S_mono HO146.out (fun _ hk => hk.2)⟩, ⟨by (with_reducible repeat (first | apply Kd.S_alloc | apply Kd.S_drewN | apply Kd.S_drew)); exact Kd.S_mono HO149.out (fun _ hk => hk.2)⟩, ⟨by first | exact Kd.S_nil _ _ _ _ _ | exact Kd.N_nil _ _ _ _ _ | exact Kd.V_nil _ _ _ _ _ | exact Kd.Q_nil _ _ _ _ _ | exact Kd.R_nil _ _ _ _ _⟩, ⟨by repeat (first | (with_reducible first | exact HB.out | apply below_alloc | apply pw_below_drewN | apply below_drew1) | exact HB.out)⟩⟩
  case round =>
    clear H'
    try clear c1
    try clear p2
    try clear c5
    obtain ⟨x7_1, x17_1, rfl, HA, HK1, HO_5, HO_6, HO_7, HB⟩ := hrel
    cases gk with
    | zero => exact absurd HA.out (by simp [spec_rpRanges.l0])
    | succ k1 =>
      have H := HA.out
      clear HA
      simp only [spec_rpRanges.l0] at H
      by_cases c8 : x17_1 < (t144.length : Int)
      · rw [if_pos c8] at H
        have c8b0 : decide (x17_1 < (t144.length : Int)) = true := decide_eq_true c8
        clear c8
        by_cases c9 : 0 ≤ x17_1
        · rw [if_pos c9] at H
          have c9b0 : decide (0 ≤ x17_1) = true := decide_eq_true c9
          clear c9
          by_cases c10 : x17_1 < (t144.length : Int)
          · rw [if_pos c10] at H
            have c10b0 : decide (x17_1 < (t144.length : Int)) = true := decide_eq_true c10
            clear c10
            have H' := Aside0.mk H
            clear H
            have p150 : 0 ≤ (x17_1 : Int) := of_decide_eq_true (by first | (with_reducible assumption) | assumption)
            have q150 : x17_1 < (t144.length : Int) := of_decide_eq_true (by first | (with_reducible assumption) | assumption)
            obtain ⟨ad150, A150_0, c150_0, e150, hx150_0, hl150_0, hi150_0⟩ := at_L4 (Kd.S_reads' HO_5.out).2.2 x17_1 p150 q150
            cases e150
            obtain ⟨ce150, hce150, hMe150, hcc150⟩ := Kd.S_get HO_5.out [] x17_1 p150 (by first | exact q150 | exact of_decide_eq_true (by first | (with_reducible assumption) | assumption) | (have e_ := (Kd.S_reads' HO_5.out).1; omega))
            obtain ⟨ve150_0, rfl, ge150_0⟩ := hMe150
            have hv150_0 := hcc150 0 _ rfl
            rw [Nat.add_zero, show ((Kd.slice 4 Kd.bool)).sz = 1 from rfl, Nat.mul_one] at hv150_0
            replace hv150_0 := Option.some.inj (hv150_0.symm.trans hx150_0)
            rw [hv150_0] at ge150_0
            have HL150_0 := Aside0.mk (show Kd.R Kd.bool 4 _ _ _ _ (rd_L4 t144 x17_1) from ge150_0)
            clear hv150_0 ge150_0
            have HX150_0 := Aside0.mk hx150_0
            clear hcc150 hce150
            have HR150_0 := Aside0.mk hi150_0
            have HC150_0 := Aside0.mk hl150_0
            clear hi150_0 hl150_0
            replace p150 := eq_true p150
            replace q150 := eq_true q150
            go_wp2
            go_loopg [7, 25] k1 (fun kq v7 v25 w' => ∃ (x7_2 : List (List Int)) (x25_2 : Int), v25 = .int .i64 x25_2 ∧ Aside0 (spec_rpRanges.l1 kq t144 t147 x7_2 x17_1 (t144.length : Int) x17_1 ((rd_L4 t144 x17_1).length : Int) x25_2 = some r) ∧ Aside0 (kq ≤ k1) ∧ Aside0 (Kd.S (Kd.slice 4 Kd.bool) 93 w' w.heap.size (fun k_ => some k_ ≠ (v148 : Value).ownBlock) (.slice (some ad150) t144.length co7) t144) ∧ Aside0 (Kd.S (Kd.slice 4 Kd.bool) 93 w' w.heap.size (fun k_ => some k_ ≠ ((.slice (some ad150) t144.length co7) : Value).ownBlock) v148 t147) ∧ Aside0 (Kd.S (Kd.slice 3 (Kd.int .i64)) 34 w' w.heap.size (fun _ => True) v7 x7_2) ∧ Aside0 (Below w.heap.size w w'))
            case atStart => exact ⟨(x7_1), (0), (by first | rfl | (simp; done) | (simp [*]; done)), H', ⟨Nat.le_refl _⟩, ⟨by (with_reducible repeat (first | apply Kd.S_alloc | apply Kd.S_drewN | apply Kd.S_drew)); exact HO_5.out⟩, ⟨by (with_reducible repeat (first | apply Kd.S_alloc | apply Kd.S_drewN | apply Kd.S_drew)); exact HO_6.out⟩, ⟨by (with_reducible repeat (first | apply Kd.S_alloc | apply Kd.S_drewN | apply Kd.S_drew)); exact HO_7.out⟩, ⟨by repeat (first | (with_reducible first | exact HB.out | apply below_alloc | apply pw_below_drewN | apply below_drew1) | exact HB.out)⟩⟩
            case round =>
              clear H'
              try clear c1
              try clear p1
              try clear q1
              try clear hx1
              try clear p2
              try clear c5
              try clear c8
              try clear c8b0
              try clear c9
              try clear c9b0
              try clear c10
              try clear c10b0
              try clear hx150_0
              try clear p150
              try clear p2
              try clear q150
              obtain ⟨x7_2, x25_2, rfl, HA, HK2, HO_5, HO_6, HO_7, HB⟩ := hrel
              cases gk with
              | zero => exact absurd HA.out (by simp [spec_rpRanges.l1])
              | succ k2 =>
                have H := HA.out
                clear HA
                simp only [spec_rpRanges.l1] at H
                by_cases c11 : x25_2 < ((rd_L4 t144 x17_1).length : Int)
                · rw [if_pos c11] at H
                  have c11b0 : decide (x25_2 < ((rd_L4 t144 x17_1).length : Int)) = true := decide_eq_true c11
                  clear c11
                  have HC12 := Aside0.mk H
                  clear H
                  go_upto_region 9 with (fail)
                  go_cut [44] (fun v44 wc => ∃ (kq : Nat) (x44_11 : Bool), v44 = .bool x44_11 ∧ Aside0 (spec_rpRanges.j2 kq t144 t147 x7_2 x17_1 x25_2 (t144.length : Int) x17_1 ((rd_L4 t144 x17_1).length : Int) x25_2 x44_11 = some r) ∧ Aside0 (kq ≤ k2) ∧ Aside0 (Kd.S (Kd.slice 4 Kd.bool) 93 wc w.heap.size (fun k_ => some k_ ≠ (v148 : Value).ownBlock) (.slice (some ad150) t144.length co7) t144) ∧ Aside0 (Kd.S (Kd.slice 4 Kd.bool) 93 wc w.heap.size (fun k_ => some k_ ≠ ((.slice (some ad150) t144.length co7) : Value).ownBlock) v148 t147) ∧ Aside0 (Kd.S (Kd.slice 3 (Kd.int .i64)) 34 wc w.heap.size (fun _ => True) u7 x7_2) ∧ Aside0 (Below w.heap.size w wc))
                  case first =>
                    have H := HC12.out
                    clear HC12
                    by_cases c13 : 0 ≤ x17_1
                    · rw [if_pos c13] at H
                      have c13b0 : decide (0 ≤ x17_1) = true := decide_eq_true c13
                      clear c13
                      (first | rw [c13b0] | (simp only [i64_w, i32_w]; rw [c13b0]) | skip)
                      by_cases c14 : x17_1 < (t144.length : Int)
                      · rw [if_pos c14] at H
                        have c14b0 : decide (x17_1 < (t144.length : Int)) = true := decide_eq_true c14
                        clear c14
                        by_cases c15 : 0 ≤ x25_2
                        · rw [if_pos c15] at H
                          have c15b0 : decide (0 ≤ x25_2) = true := decide_eq_true c15
                          clear c15
                          by_cases c16 : x25_2 < ((rd_L4 t144 x17_1).length : Int)
                          · rw [if_pos c16] at H
                            have c16b0 : decide (x25_2 < ((rd_L4 t144 x17_1).length : Int)) = true := decide_eq_true c16
                            clear c16
                            obtain ⟨bq17, hbq17⟩ : ∃ b_ : Bool, b_ = (rdOf false (rd_L4 t144 x17_1) x25_2) := ⟨_, rfl⟩
                            replace H : (if (bq17 = true) then (if x17_1 < (t147.length : Int) then (if x25_2 < ((rd_L4 t147 x17_1).length : Int) then (spec_rpRanges.j2 k2 t144 t147 x7_2 x17_1 x25_2 (t144.length : Int) x17_1 ((rd_L4 t144 x17_1).length : Int) x25_2 (rdOf false (rd_L4 t147 x17_1) x25_2)) else (none)) else (none)) else (spec_rpRanges.j2 k2 t144 t147 x7_2 x17_1 x25_2 (t144.length : Int) x17_1 ((rd_L4 t144 x17_1).length : Int) x25_2 true)) = some r := by rw [← hbq17] at H; exact H
                            have Nbq17 := Aside0.mk hbq17
                            clear hbq17
                            by_cases c18 : (bq17 = true)
                            · subst c18
                              have H1 : (if x17_1 < (t147.length : Int) then (if x25_2 < ((rd_L4 t147 x17_1).length : Int) then (spec_rpRanges.j2 k2 t144 t147 x7_2 x17_1 x25_2 (t144.length : Int) x17_1 ((rd_L4 t144 x17_1).length : Int) x25_2 (rdOf false (rd_L4 t147 x17_1) x25_2)) else (none)) else (none)) = some r := by rw [if_pos rfl] at H; exact H
                              clear H
                              have H := H1
                              clear H1
                              by_cases c19 : x17_1 < (t147.length : Int)
                              · rw [if_pos c19] at H
                                have c19b0 : decide (x17_1 < (t147.length : Int)) = true := decide_eq_true c19
                                clear c19
                                by_cases c20 : x25_2 < ((rd_L4 t147 x17_1).length : Int)
                                · rw [if_pos c20] at H
                                  have c20b0 : decide (x25_2 < ((rd_L4 t147 x17_1).length : Int)) = true := decide_eq_true c20
                                  clear c20
                                  have H' := Aside0.mk H
                                  clear H
                                  have p151 : 0 ≤ (x17_1 : Int) := of_decide_eq_true (by first | (with_reducible assumption) | assumption)
                                  have q151 : x17_1 < (t144.length : Int) := of_decide_eq_true (by first | (with_reducible assumption) | assumption)
                                  obtain ⟨ad151, A151_0, c151_0, e151, hx151_0, hl151_0, hi151_0⟩ := at_L4 (Kd.S_reads' HO_5.out).2.2 x17_1 p151 q151
                                  obtain rfl : ad150 = ad151 := (by injection e151)
                                  obtain ⟨ce151, hce151, hMe151, hcc151⟩ := Kd.S_get HO_5.out [] x17_1 p151 (by first | exact q151 | exact of_decide_eq_true (by first | (with_reducible assumption) | assumption) | (have e_ := (Kd.S_reads' HO_5.out).1; omega))
                                  obtain ⟨ve151_0, rfl, ge151_0⟩ := hMe151
                                  have hv151_0 := hcc151 0 _ rfl
                                  rw [Nat.add_zero, show ((Kd.slice 4 Kd.bool)).sz = 1 from rfl, Nat.mul_one] at hv151_0
                                  replace hv151_0 := Option.some.inj (hv151_0.symm.trans hx151_0)
                                  rw [hv151_0] at ge151_0
                                  have HL151_0 := Aside0.mk (show Kd.R Kd.bool 4 _ _ _ _ (rd_L4 t144 x17_1) from ge151_0)
                                  clear hv151_0 ge151_0
                                  have HX151_0 := Aside0.mk hx151_0
                                  clear hcc151 hce151
                                  have HR151_0 := Aside0.mk hi151_0
                                  have HC151_0 := Aside0.mk hl151_0
                                  clear hi151_0 hl151_0
                                  replace p151 := eq_true p151
                                  replace q151 := eq_true q151
                                  have p152 : 0 ≤ (x25_2 : Int) := of_decide_eq_true (by first | (with_reducible assumption) | assumption)
                                  have q152 : x25_2 < ((rd_L4 t144 x17_1).length : Int) := of_decide_eq_true (by first | (with_reducible assumption) | assumption)
                                  obtain ⟨ad152, e152, hx152_0⟩ := Kd.at_bool (by repeat (first | (with_reducible exact HR151_0.out) | (with_reducible refine Kd.C_alloc ?_ _) | (with_reducible refine Kd.C_drewN ?_ _) | (with_reducible refine Kd.C_drew ?_) | exact HR151_0.out)) x25_2 p152 q152
                                  (try rw [← Nbq17.out] at hx152_0)
                                  cases e152
                                  replace p152 := eq_true p152
                                  replace q152 := eq_true q152
                                  obtain ⟨Ao21, co21, eo21⟩ := Kd.S_slice HO_6.out
                                  subst eo21
                                  have p153 : 0 ≤ (x17_1 : Int) := of_decide_eq_true (by first | (with_reducible assumption) | assumption)
                                  have q153 : x17_1 < (t147.length : Int) := of_decide_eq_true (by first | (with_reducible assumption) | assumption)
                                  obtain ⟨ad153, A153_0, c153_0, e153, hx153_0, hl153_0, hi153_0⟩ := at_L4 (Kd.S_reads' HO_6.out).2.2 x17_1 p153 q153
                                  cases e153
                                  obtain ⟨ce153, hce153, hMe153, hcc153⟩ := Kd.S_get HO_6.out [] x17_1 p153 (by first | exact q153 | exact of_decide_eq_true (by first | (with_reducible assumption) | assumption) | (have e_ := (Kd.S_reads' HO_6.out).1; omega))
                                  obtain ⟨ve153_0, rfl, ge153_0⟩ := hMe153
                                  have hv153_0 := hcc153 0 _ rfl
                                  rw [Nat.add_zero, show ((Kd.slice 4 Kd.bool)).sz = 1 from rfl, Nat.mul_one] at hv153_0
                                  replace hv153_0 := Option.some.inj (hv153_0.symm.trans hx153_0)
                                  rw [hv153_0] at ge153_0
                                  have HL153_0 := Aside0.mk (show Kd.R Kd.bool 4 _ _ _ _ (rd_L4 t147 x17_1) from ge153_0)
                                  clear hv153_0 ge153_0
                                  have HX153_0 := Aside0.mk hx153_0
                                  clear hcc153 hce153
                                  have HR153_0 := Aside0.mk hi153_0
                                  have HC153_0 := Aside0.mk hl153_0
                                  clear hi153_0 hl153_0
                                  replace p153 := eq_true p153
                                  replace q153 := eq_true q153
                                  have p154 : 0 ≤ (x25_2 : Int) := of_decide_eq_true (by first | (with_reducible assumption) | assumption)
                                  have q154 : x25_2 < ((rd_L4 t147 x17_1).length : Int) := of_decide_eq_true (by first | (with_reducible assumption) | assumption)
                                  obtain ⟨ad154, e154, hx154_0⟩ := Kd.at_bool (by repeat (first | (with_reducible exact HR153_0.out) | (with_reducible refine Kd.C_alloc ?_ _) | (with_reducible refine Kd.C_drewN ?_ _) | (with_reducible refine Kd.C_drew ?_) | exact HR153_0.out)) x25_2 p154 q154
                                  (try rw [← Nbq17.out] at hx154_0)
                                  cases e154
                                  replace p154 := eq_true p154
                                  replace q154 := eq_true q154
                                  go_wp2
                                  go_meet
                                  case rel => exact ⟨_, (rdOf false (rd_L4 t147 x17_1) x25_2), (by first | rfl | (simp; done) | (simp [*]; done)), H', ⟨by have := HK1.out; have := HK2.out; first | omega | exact Nat.le_refl _⟩, ⟨by (with_reducible repeat (first | apply Kd.S_alloc | apply Kd.S_drewN | apply Kd.S_drew)); exact HO_5.out⟩, ⟨by (with_reducible repeat (first | apply Kd.S_alloc | apply Kd.S_drewN | apply Kd.S_drew)); exact HO_6.out⟩, ⟨by (with_reducible repeat (first | apply Kd.S_alloc | apply Kd.S_drewN | apply Kd.S_drew)); exact HO_7.out⟩, ⟨by repeat (first | (with_reducible first | exact HB.out | apply below_alloc | apply pw_below_drewN | apply below_drew1) | exact HB.out)⟩⟩
                                · rw [if_neg c20] at H
                                  exact absurd H (by simp)
                              · rw [if_neg c19] at H
                                exact absurd H (by simp)
                            · replace c18 := Bool.eq_false_iff.mpr c18
                              subst c18
                              have H1 : (spec_rpRanges.j2 k2 t144 t147 x7_2 x17_1 x25_2 (t144.length : Int) x17_1 ((rd_L4 t144 x17_1).length : Int) x25_2 true) = some r := by rw [if_neg (show ¬ (false = true) by decide)] at H; exact H
                              clear H
                              have H := H1
                              clear H1
                              have H' := Aside0.mk H
                              clear H
                              have p151 : 0 ≤ (x17_1 : Int) := of_decide_eq_true (by first | (with_reducible assumption) | assumption)
                              have q151 : x17_1 < (t144.length : Int) := of_decide_eq_true (by first | (with_reducible assumption) | assumption)
                              obtain ⟨ad151, A151_0, c151_0, e151, hx151_0, hl151_0, hi151_0⟩ := at_L4 (Kd.S_reads' HO_5.out).2.2 x17_1 p151 q151
                              obtain rfl : ad150 = ad151 := (by injection e151)
                              obtain ⟨ce151, hce151, hMe151, hcc151⟩ := Kd.S_get HO_5.out [] x17_1 p151 (by first | exact q151 | exact of_decide_eq_true (by first | (with_reducible assumption) | assumption) | (have e_ := (Kd.S_reads' HO_5.out).1; omega))
                              obtain ⟨ve151_0, rfl, ge151_0⟩ := hMe151
                              have hv151_0 := hcc151 0 _ rfl
                              rw [Nat.add_zero, show ((Kd.slice 4 Kd.bool)).sz = 1 from rfl, Nat.mul_one] at hv151_0
                              replace hv151_0 := Option.some.inj (hv151_0.symm.trans hx151_0)
                              rw [hv151_0] at ge151_0
                              have HL151_0 := Aside0.mk (show Kd.R Kd.bool 4 _ _ _ _ (rd_L4 t144 x17_1) from ge151_0)
                              clear hv151_0 ge151_0
                              have HX151_0 := Aside0.mk hx151_0
                              clear hcc151 hce151
                              have HR151_0 := Aside0.mk hi151_0
                              have HC151_0 := Aside0.mk hl151_0
                              clear hi151_0 hl151_0
                              replace p151 := eq_true p151
                              replace q151 := eq_true q151
                              have p152 : 0 ≤ (x25_2 : Int) := of_decide_eq_true (by first | (with_reducible assumption) | assumption)
                              have q152 : x25_2 < ((rd_L4 t144 x17_1).length : Int) := of_decide_eq_true (by first | (with_reducible assumption) | assumption)
                              obtain ⟨ad152, e152, hx152_0⟩ := Kd.at_bool (by repeat (first | (with_reducible exact HR151_0.out) | (with_reducible refine Kd.C_alloc ?_ _) | (with_reducible refine Kd.C_drewN ?_ _) | (with_reducible refine Kd.C_drew ?_) | exact HR151_0.out)) x25_2 p152 q152
                              (try rw [← Nbq17.out] at hx152_0)
                              cases e152
                              replace p152 := eq_true p152
                              replace q152 := eq_true q152
                              go_wp2
                              go_meet
                              case rel => exact ⟨_, (true), (by first | rfl | (simp; done) | (simp [*]; done)), H', ⟨by have := HK1.out; have := HK2.out; first | omega | exact Nat.le_refl _⟩, ⟨by (with_reducible repeat (first | apply Kd.S_alloc | apply Kd.S_drewN | apply Kd.S_drew)); exact HO_5.out⟩, ⟨by (with_reducible repeat (first | apply Kd.S_alloc | apply Kd.S_drewN | apply Kd.S_drew)); exact HO_6.out⟩, ⟨by (with_reducible repeat (first | apply Kd.S_alloc | apply Kd.S_drewN | apply Kd.S_drew)); exact HO_7.out⟩, ⟨by repeat (first | (with_reducible first | exact HB.out | apply below_alloc | apply pw_below_drewN | apply below_drew1) | exact HB.out)⟩⟩
                          · rw [if_neg c16] at H
                            exact absurd H (by simp)
                        · rw [if_neg c15] at H
                          exact absurd H (by simp)
                      · rw [if_neg c14] at H
                        exact absurd H (by simp)
                    · rw [if_neg c13] at H
                      exact absurd H (by simp)
                  case rest =>
                    clear HC12
                    try clear c1
                    try clear p1
                    try clear q1
                    try clear hx1
                    try clear c2
                    try clear p2
                    try clear c5
                    try clear c8
                    try clear c8b0
                    try clear c9
                    try clear c9b0
                    try clear c10
                    try clear c10b0
                    try clear c11
                    try clear c11b0
                    try clear c13
                    try clear c13b0
                    try clear c14
                    try clear c14b0
                    try clear c15
                    try clear c15b0
                    try clear p15
                    try clear q15
                    try clear hx15
                    try clear c16
                    try clear c16b0
                    try clear q17
                    try clear c18
                    try clear c19
                    try clear c19b0
                    try clear c20
                    try clear c20b0
                    try clear hx150_0
                    try clear hx151_0
                    try clear hx152_0
                    try clear hx153_0
                    try clear hx154_0
                    try clear p1
                    try clear p150
                    try clear p151
                    try clear p152
                    try clear p153
                    try clear p154
                    try clear p2
                    try clear q1
                    try clear q150
                    try clear q151
                    try clear q152
                    try clear q153
                    try clear q154
                    obtain ⟨kq, x44_11, rfl, HA, HJ11, HO_5, HO_6, HO_7, HB⟩ := hcut
                    cases kq with
                    | zero => exact absurd HA.out (by simp [spec_rpRanges.j2])
                    | succ kj11 =>
                      have H := HA.out
                      clear HA
                      simp only [spec_rpRanges.j2] at H
                      by_cases c22 : x44_11 = true
                      · subst c22
                        have H1 : (spec_rpRanges.l1 kj11 t144 t147 x7_2 x17_1 (t144.length : Int) x17_1 ((rd_L4 t144 x17_1).length : Int) (wrap64 (x25_2 + 1))) = some r := by rw [if_pos rfl] at H; exact H
                        clear H
                        have H := H1
                        clear H1
                        have H' := Aside0.mk H
                        clear H
                        go_wp2
                        go_roundg kj11
                        case measure => have := HK1.out; have := HK2.out; have := HJ11.out; omega
                        case rel => exact ⟨(x7_2), (wrap64 (x25_2 + 1)), (by first | rfl | (simp; done) | (simp [*]; done)), H', ⟨by have := HK1.out; have := HK2.out; have := HJ11.out; omega⟩, ⟨by (with_reducible repeat (first | apply Kd.S_alloc | apply Kd.S_drewN | apply Kd.S_drew)); exact HO_5.out⟩, ⟨by (with_reducible repeat (first | apply Kd.S_alloc | apply Kd.S_drewN | apply Kd.S_drew)); exact HO_6.out⟩, ⟨by (with_reducible repeat (first | apply Kd.S_alloc | apply Kd.S_drewN | apply Kd.S_drew)); exact HO_7.out⟩, ⟨by repeat (first | (with_reducible first | exact HB.out | apply below_alloc | apply pw_below_drewN | apply below_drew1) | exact HB.out)⟩⟩
                      · replace c22 := Bool.eq_false_iff.mpr c22
                        subst c22
                        have H1 : (if (x7_2.length : Int) > 0 then (if 0 ≤ (wrap64 ((x7_2.length : Int) - 1)) then (if (wrap64 ((x7_2.length : Int) - 1)) < (x7_2.length : Int) then (if 0 < ((rd_L5 x7_2 (wrap64 ((x7_2.length : Int) - 1))).length : Int) then (if (rd (rd_L5 x7_2 (wrap64 ((x7_2.length : Int) - 1))) 0) = x17_1 then (if 2 < ((rd_L5 x7_2 (wrap64 ((x7_2.length : Int) - 1))).length : Int) then (if (rd (rd_L5 x7_2 (wrap64 ((x7_2.length : Int) - 1))) 2) = x25_2 then (spec_rpRanges.l1 kj11 t144 t147 (x7_2.set ((wrap64 ((x7_2.length : Int) - 1)) : Int).toNat ((rd_L5 x7_2 (wrap64 ((x7_2.length : Int) - 1))).set (2 : Int).toNat (wrap64 ((rd (rd_L5 x7_2 (wrap64 ((x7_2.length : Int) - 1))) 2) + 1)))) x17_1 (t144.length : Int) x17_1 ((rd_L4 t144 x17_1).length : Int) (wrap64 (x25_2 + 1))) else (if x7_2.length < 5864062014805 then (spec_rpRanges.l1 kj11 t144 t147 (x7_2 ++ [(([x17_1, x25_2, wrap64 (x25_2 + 1)] : List Int))]) x17_1 (t144.length : Int) x17_1 ((rd_L4 t144 x17_1).length : Int) (wrap64 (x25_2 + 1))) else (none))) else (none)) else (if x7_2.length < 5864062014805 then (spec_rpRanges.l1 kj11 t144 t147 (x7_2 ++ [(([x17_1, x25_2, wrap64 (x25_2 + 1)] : List Int))]) x17_1 (t144.length : Int) x17_1 ((rd_L4 t144 x17_1).length : Int) (wrap64 (x25_2 + 1))) else (none))) else (none)) else (none)) else (none)) else (if x7_2.length < 5864062014805 then (spec_rpRanges.l1 kj11 t144 t147 (x7_2 ++ [(([x17_1, x25_2, wrap64 (x25_2 + 1)] : List Int))]) x17_1 (t144.length : Int) x17_1 ((rd_L4 t144 x17_1).length : Int) (wrap64 (x25_2 + 1))) else (none))) = some r := by rw [if_neg (show ¬ (false = true) by decide)] at H; exact H
                        clear H
                        have H := H1
                        clear H1
                        by_cases c23 : (x7_2.length : Int) > 0
                        · rw [if_pos c23] at H
                          have c23b0 : decide (0 < (x7_2.length : Int)) = true := decide_eq_true c23
                          have c23b1 : decide (0 < x7_2.length) = true := decide_eq_true (by omega)
                          clear c23
                          obtain ⟨ji24, hji24⟩ : ∃ j_ : Int, (wrap64 ((x7_2.length : Int) - 1)) = j_ := ⟨_, rfl⟩
                          replace H : (if 0 ≤ (ji24) then (if (ji24) < (x7_2.length : Int) then (if 0 < ((rd_L5 x7_2 (ji24)).length : Int) then (if (rd (rd_L5 x7_2 (ji24)) 0) = x17_1 then (if 2 < ((rd_L5 x7_2 (ji24)).length : Int) then (if (rd (rd_L5 x7_2 (ji24)) 2) = x25_2 then (spec_rpRanges.l1 kj11 t144 t147 (x7_2.set ((ji24) : Int).toNat ((rd_L5 x7_2 (ji24)).set (2 : Int).toNat (wrap64 ((rd (rd_L5 x7_2 (ji24)) 2) + 1)))) x17_1 (t144.length : Int) x17_1 ((rd_L4 t144 x17_1).length : Int) (wrap64 (x25_2 + 1))) else (if x7_2.length < 5864062014805 then (spec_rpRanges.l1 kj11 t144 t147 (x7_2 ++ [(([x17_1, x25_2, wrap64 (x25_2 + 1)] : List Int))]) x17_1 (t144.length : Int) x17_1 ((rd_L4 t144 x17_1).length : Int) (wrap64 (x25_2 + 1))) else (none))) else (none)) else (if x7_2.length < 5864062014805 then (spec_rpRanges.l1 kj11 t144 t147 (x7_2 ++ [(([x17_1, x25_2, wrap64 (x25_2 + 1)] : List Int))]) x17_1 (t144.length : Int) x17_1 ((rd_L4 t144 x17_1).length : Int) (wrap64 (x25_2 + 1))) else (none))) else (none)) else (none)) else (none)) = some r := by first | (rw [hji24] at H; exact H) | (simp only [hji24] at H ⊢; exact H)
                          have hji24w : (IntKind.i64.wrap ((x7_2.length : Int) - 1)) = ji24 := (i64_w _).trans hji24
                          by_cases c25 : 0 ≤ (ji24)
                          · rw [if_pos c25] at H
                            have c25b0 : decide (0 ≤ (ji24)) = true := decide_eq_true c25
                            clear c25
                            by_cases c26 : (ji24) < (x7_2.length : Int)
                            · rw [if_pos c26] at H
                              have c26b0 : decide ((ji24) < (x7_2.length : Int)) = true := decide_eq_true c26
                              clear c26
                              by_cases c27 : 0 < ((rd_L5 x7_2 (ji24)).length : Int)
                              · rw [if_pos c27] at H
                                have c27b0 : decide (0 < ((rd_L5 x7_2 (ji24)).length : Int)) = true := decide_eq_true c27
                                have c27b1 : decide (0 < (rd_L5 x7_2 (ji24)).length) = true := decide_eq_true (by omega)
                                clear c27
                                by_cases c28 : (rd (rd_L5 x7_2 (ji24)) 0) = x17_1
                                · rw [if_pos c28] at H
                                  have c28b0 : ((rd (rd_L5 x7_2 (ji24)) 0) == x17_1) = true := beq_iff_eq.mpr c28
                                  have c28b1 : ((rd (rd_L5 x7_2 (ji24)) 0) != x17_1) = false := bne_eq_false_iff_eq.mpr c28
                                  clear c28
                                  by_cases c29 : 2 < ((rd_L5 x7_2 (ji24)).length : Int)
                                  · rw [if_pos c29] at H
                                    have c29b0 : decide (2 < ((rd_L5 x7_2 (ji24)).length : Int)) = true := decide_eq_true c29
                                    have c29b1 : decide (2 < (rd_L5 x7_2 (ji24)).length) = true := decide_eq_true (by omega)
                                    clear c29
                                    by_cases c30 : (rd (rd_L5 x7_2 (ji24)) 2) = x25_2
                                    · rw [if_pos c30] at H
                                      have c30b0 : ((rd (rd_L5 x7_2 (ji24)) 2) == x25_2) = true := beq_iff_eq.mpr c30
                                      have c30b1 : ((rd (rd_L5 x7_2 (ji24)) 2) != x25_2) = false := bne_eq_false_iff_eq.mpr c30
                                      clear c30
                                      obtain ⟨y161, hy161⟩ : ∃ y_ : List Int, y_ = ((rd_L5 x7_2 (ji24)).set (2 : Int).toNat (wrap64 ((rd (rd_L5 x7_2 (ji24)) 2) + 1))) := ⟨_, rfl⟩
                                      replace H : (spec_rpRanges.l1 kj11 t144 t147 (x7_2.set ((ji24) : Int).toNat y161) x17_1 (t144.length : Int) x17_1 ((rd_L4 t144 x17_1).length : Int) (wrap64 (x25_2 + 1))) = some r := by first | (rw [hy161]; with_reducible exact H) | (have H2_ := (Option.bind_some _ _).symm.trans H; rw [hy161]; with_reducible exact H2_) | (have H2_ := (Option.bind_some _ _).symm.trans H; with_reducible exact H2_) | with_reducible exact H | (rw [hy161]; exact H) | exact H
                                      have Ny161 := Aside0.mk hy161
                                      clear hy161
                                      obtain ⟨y163, hy163⟩ : ∃ y_ : List (List Int), y_ = (x7_2.set ((ji24) : Int).toNat y161) := ⟨_, rfl⟩
                                      replace H : (spec_rpRanges.l1 kj11 t144 t147 y163 x17_1 (t144.length : Int) x17_1 ((rd_L4 t144 x17_1).length : Int) (wrap64 (x25_2 + 1))) = some r := by first | (rw [hy163]; with_reducible exact H) | (have H2_ := (Option.bind_some _ _).symm.trans H; rw [hy163]; with_reducible exact H2_) | (have H2_ := (Option.bind_some _ _).symm.trans H; with_reducible exact H2_) | with_reducible exact H | (rw [hy163]; exact H) | exact H
                                      have Ny163 := Aside0.mk hy163
                                      clear hy163
                                      have H' := Aside0.mk H
                                      clear H
                                      obtain ⟨Ao32, co32, eo32⟩ := Kd.S_slice HO_7.out
                                      subst eo32
                                      have p155 : 0 ≤ ((ji24) : Int) := of_decide_eq_true (by first | (with_reducible assumption) | assumption)
                                      have q155 : (ji24) < (x7_2.length : Int) := of_decide_eq_true (by first | (with_reducible assumption) | assumption)
                                      obtain ⟨ad155, A155_0, c155_0, e155, hx155_0, hl155_0, hi155_0⟩ := at_L5 (Kd.S_reads' HO_7.out).2.2 (ji24) p155 q155
                                      cases e155
                                      obtain ⟨ce155, hce155, hMe155, hcc155⟩ := Kd.S_get HO_7.out [] (ji24) p155 (by first | exact q155 | exact of_decide_eq_true (by first | (with_reducible assumption) | assumption) | (have e_ := (Kd.S_reads' HO_7.out).1; omega))
                                      obtain ⟨ve155_0, rfl, ge155_0⟩ := hMe155
                                      have hv155_0 := hcc155 0 _ rfl
                                      rw [Nat.add_zero, show ((Kd.slice 3 (Kd.int .i64))).sz = 1 from rfl, Nat.mul_one] at hv155_0
                                      replace hv155_0 := Option.some.inj (hv155_0.symm.trans hx155_0)
                                      rw [hv155_0] at ge155_0
                                      have HL155_0 := Aside0.mk (show Kd.R (Kd.int .i64) 3 _ _ _ _ (rd_L5 x7_2 (ji24)) from ge155_0)
                                      clear hv155_0 ge155_0
                                      have HX155_0 := Aside0.mk hx155_0
                                      clear hcc155 hce155
                                      have HR155_0 := Aside0.mk hi155_0
                                      have HC155_0 := Aside0.mk hl155_0
                                      clear hi155_0 hl155_0
                                      replace p155 := eq_true p155
                                      replace q155 := eq_true q155
                                      have p156 : 0 ≤ (0 : Int) := (by omega)
                                      have q156 : 0 < ((rd_L5 x7_2 (ji24)).length : Int) := of_decide_eq_true (by first | (with_reducible assumption) | assumption)
                                      obtain ⟨ad156, e156, hx156_0⟩ := Kd.at_int (by repeat (first | (with_reducible exact HR155_0.out) | (with_reducible refine Kd.C_alloc ?_ _) | (with_reducible refine Kd.C_drewN ?_ _) | (with_reducible refine Kd.C_drew ?_) | exact HR155_0.out)) 0 p156 q156
                                      cases e156
                                      have qi156 : (0 < (rd_L5 x7_2 (ji24)).length) = True := eq_true (by omega)
                                      (try rw [show ((0 : Int)).toNat = 0 from rfl] at hx156_0)
                                      (try rw [Addr.add_zero'] at hx156_0)
                                      replace p156 := eq_true p156
                                      replace q156 := eq_true q156
                                      have p157 : 0 ≤ ((ji24) : Int) := of_decide_eq_true (by first | (with_reducible assumption) | assumption)
                                      have q157 : (ji24) < (x7_2.length : Int) := of_decide_eq_true (by first | (with_reducible assumption) | assumption)
                                      obtain ⟨ad157, A157_0, c157_0, e157, hx157_0, hl157_0, hi157_0⟩ := at_L5 (Kd.S_reads' HO_7.out).2.2 (ji24) p157 q157
                                      obtain rfl : ad155 = ad157 := (by injection e157)
                                      obtain ⟨ce157, hce157, hMe157, hcc157⟩ := Kd.S_get HO_7.out [] (ji24) p157 (by first | exact q157 | exact of_decide_eq_true (by first | (with_reducible assumption) | assumption) | (have e_ := (Kd.S_reads' HO_7.out).1; omega))
                                      obtain ⟨ve157_0, rfl, ge157_0⟩ := hMe157
                                      have hv157_0 := hcc157 0 _ rfl
                                      rw [Nat.add_zero, show ((Kd.slice 3 (Kd.int .i64))).sz = 1 from rfl, Nat.mul_one] at hv157_0
                                      replace hv157_0 := Option.some.inj (hv157_0.symm.trans hx157_0)
                                      rw [hv157_0] at ge157_0
                                      have HL157_0 := Aside0.mk (show Kd.R (Kd.int .i64) 3 _ _ _ _ (rd_L5 x7_2 (ji24)) from ge157_0)
                                      clear hv157_0 ge157_0
                                      have HX157_0 := Aside0.mk hx157_0
                                      clear hcc157 hce157
                                      have HR157_0 := Aside0.mk hi157_0
                                      have HC157_0 := Aside0.mk hl157_0
                                      clear hi157_0 hl157_0
                                      replace p157 := eq_true p157
                                      replace q157 := eq_true q157
                                      have ea_ := Option.some.inj (hx155_0.symm.trans hx157_0)
                                      injection ea_ with ea_ en_ ec_
                                      subst ea_
                                      subst ec_
                                      clear en_
                                      have p158 : 0 ≤ (2 : Int) := (by omega)
                                      have q158 : 2 < ((rd_L5 x7_2 (ji24)).length : Int) := of_decide_eq_true (by first | (with_reducible assumption) | assumption)
                                      obtain ⟨ad158, e158, hx158_0⟩ := Kd.at_int (by repeat (first | (with_reducible exact HR157_0.out) | (with_reducible refine Kd.C_alloc ?_ _) | (with_reducible refine Kd.C_drewN ?_ _) | (with_reducible refine Kd.C_drew ?_) | exact HR157_0.out)) 2 p158 q158
                                      cases e158
                                      (try simp only [show (2 : Int).toNat = 2 from rfl, Nat.reduceMul, Nat.reduceEqDiff, Go.Addr.add, ↓reduceIte] at hx158_0)
                                      have qi158 : (2 < (rd_L5 x7_2 (ji24)).length) = True := eq_true (by omega)
                                      (try rw [show ((2 : Int)).toNat = 2 from rfl] at hx158_0)
                                      replace p158 := eq_true p158
                                      replace q158 := eq_true q158
                                      have p159 : 0 ≤ ((ji24) : Int) := of_decide_eq_true (by first | (with_reducible assumption) | assumption)
                                      have q159 : (ji24) < (x7_2.length : Int) := of_decide_eq_true (by first | (with_reducible assumption) | assumption)
                                      obtain ⟨ad159, A159_0, c159_0, e159, hx159_0, hl159_0, hi159_0⟩ := at_L5 (Kd.S_reads' HO_7.out).2.2 (ji24) p159 q159
                                      obtain rfl : ad155 = ad159 := (by injection e159)
                                      obtain ⟨ce159, hce159, hMe159, hcc159⟩ := Kd.S_get HO_7.out [] (ji24) p159 (by first | exact q159 | exact of_decide_eq_true (by first | (with_reducible assumption) | assumption) | (have e_ := (Kd.S_reads' HO_7.out).1; omega))
                                      obtain ⟨ve159_0, rfl, ge159_0⟩ := hMe159
                                      have hv159_0 := hcc159 0 _ rfl
                                      rw [Nat.add_zero, show ((Kd.slice 3 (Kd.int .i64))).sz = 1 from rfl, Nat.mul_one] at hv159_0
                                      replace hv159_0 := Option.some.inj (hv159_0.symm.trans hx159_0)
                                      rw [hv159_0] at ge159_0
                                      have HL159_0 := Aside0.mk (show Kd.R (Kd.int .i64) 3 _ _ _ _ (rd_L5 x7_2 (ji24)) from ge159_0)
                                      clear hv159_0 ge159_0
                                      have HX159_0 := Aside0.mk hx159_0
                                      clear hcc159 hce159
                                      have HR159_0 := Aside0.mk hi159_0
                                      have HC159_0 := Aside0.mk hl159_0
                                      clear hi159_0 hl159_0
                                      replace p159 := eq_true p159
                                      replace q159 := eq_true q159
                                      have ea_ := Option.some.inj (hx155_0.symm.trans hx159_0)
                                      injection ea_ with ea_ en_ ec_
                                      subst ea_
                                      subst ec_
                                      clear en_
                                      have p160 : 0 ≤ (2 : Int) := (by omega)
                                      have q160 : 2 < ((rd_L5 x7_2 (ji24)).length : Int) := of_decide_eq_true (by first | (with_reducible assumption) | assumption)
                                      obtain ⟨ad160, e160, hx160_0⟩ := Kd.at_int (by repeat (first | (with_reducible exact HR159_0.out) | (with_reducible refine Kd.C_alloc ?_ _) | (with_reducible refine Kd.C_drewN ?_ _) | (with_reducible refine Kd.C_drew ?_) | exact HR159_0.out)) 2 p160 q160
                                      cases e160
                                      (try simp only [show (2 : Int).toNat = 2 from rfl, Nat.reduceMul, Nat.reduceEqDiff, Go.Addr.add, ↓reduceIte] at hx160_0)
                                      have qi160 : (2 < (rd_L5 x7_2 (ji24)).length) = True := eq_true (by omega)
                                      (try rw [show ((2 : Int)).toNat = 2 from rfl] at hx160_0)
                                      replace p160 := eq_true p160
                                      replace q160 := eq_true q160
                                      have p31 : 0 ≤ (2 : Int) := (by omega)
                                      have q31 : (2 : Int) < (((rd_L5 x7_2 (ji24)).length : Int) : Int) := of_decide_eq_true (by first | (with_reducible assumption) | assumption)
                                      have qi31 : (2 < (rd_L5 x7_2 (ji24)).length) = True := eq_true (by omega)
                                      obtain ⟨go31, co31, eo31, gb31, gl31, cl31, HG31⟩ := Kd.R_form HL159_0.out (by omega)
                                      (first | cases eo31 | (injection eo31 with ea_ en_ ec_; (first | subst ea_ | (injection ea_ with ea_; subst ea_)); subst ec_; clear en_))
                                      have GB31 := Aside0.mk gb31
                                      have GG31 := Aside0.mk HG31
                                      clear gb31 gl31 HG31
                                      (first | simp only [add_plain] at hx160_0 | skip)
                                      obtain ⟨hx31_0, hf31_0⟩ := Kd.R_celln 0 HL159_0.out (2 : Int) p31 q31
                                      (try rw [show ((2 : Int)).toNat = 2 from rfl] at hx31_0)
                                      (try simp only [Nat.reduceMul, Nat.zero_mul, Nat.zero_add, Nat.reduceAdd] at hx31_0)
                                      (try rw [show ((2 : Int)).toNat = 2 from rfl] at hf31_0)
                                      (try simp only [Nat.reduceMul, Nat.zero_mul, Nat.zero_add, Nat.reduceAdd] at hf31_0)
                                      replace p31 := eq_true p31
                                      replace q31 := eq_true q31
                                      have hq33 : ((ji24) : Int) < (x7_2.length : Int) := (by have h_ : ((ji24) : Int) < ((x7_2.length : Int) : Int) := of_decide_eq_true (by first | (with_reducible assumption) | assumption); first | exact h_ | (have e_ := (Kd.S_reads' HO_7.out).1; omega) | simpa only [List.length_set, List.length_set] using h_)
                                      obtain ⟨oki33, ce33, hcl33, hM33, hcc33, hok33, hbk33⟩ := Kd.S_borrow HO_7.out [] ((ji24) : Int) (of_decide_eq_true (by first | (with_reducible assumption) | assumption)) hq33
                                      obtain ⟨ve33_0, rfl, ge33_0⟩ := hM33
                                      have hv33 := hcc33 0 _ rfl
                                      rw [Nat.add_zero, show ((Kd.slice 3 (Kd.int .i64))).sz = 1 from rfl, Nat.mul_one] at hv33
                                      replace hv33 := Option.some.inj (hv33.symm.trans HX159_0.out)
                                      subst hv33
                                      clear hcc33 hcl33
                                      replace ge33_0 := (show Kd.R (Kd.int .i64) 3 _ _ _ _ (rd_L5 x7_2 (ji24)) from ge33_0)
                                      have HP33 := Kd.R_putg ge33_0 (2 : Int) (wrap64 ((rd (rd_L5 x7_2 (ji24)) 2) + 1))
                                      go_wp2_with (first | ((with_reducible refine gate_store (t := 3) (p := 79) rfl ?_); refine store_event (t := 3) (p := 79) (v := ?vo_w34) (w1 := (wc.setCell ⟨go31, 2, none⟩ (.int .i64 (wrap64 ((rd (rd_L5 x7_2 (ji24)) 2) + 1))))) ?hg ?ho ?hn ?hr ?_; (case ho => rfl); (case hg => rfl); (case hn => rfl); (case hr => first | (go_simp; done) | (go_simp; rfl)); intro w34 hw; have hg : wc.grownBy w34 (some go31) := (by rw [hw]; exact HP33.2); have hz_ : Kd.R (Kd.int .i64) 3 w34 w.heap.size oki33 (.slice (some ⟨go31, 0, none⟩) (rd_L5 x7_2 (ji24)).length c155_0) y161 := (by rw [hw, Ny161.out]; exact HP33.1); have hp_ : Kd.S (Kd.slice 3 (Kd.int .i64)) 34 w34 w.heap.size (fun _ => True) (.slice (some ad155) x7_2.length co32) y163 := (by rw [Ny163.out]; exact hbk33 hg (fun k_ e_ => by injection e_ with e_; subst e_; exact ge33_0.1 _ rfl) (Kd.M_row hz_)); have hm_ := Kd.R_mono hz_ hok33; clear HP33 hbk33; have n0_ := Aside0.mk (Kd.S_over' (v := (.slice (some ⟨go31, 0, none⟩) (rd_L5 x7_2 (ji24)).length c155_0)) (by (with_reducible repeat (first | apply Kd.S_alloc | apply Kd.S_drewN | apply Kd.S_drew)); exact HO_5.out) (Kd.R_typed HL159_0.out) (by decide) hg); have n1_ := Aside0.mk (Kd.S_over' (v := (.slice (some ⟨go31, 0, none⟩) (rd_L5 x7_2 (ji24)).length c155_0)) (by (with_reducible repeat (first | apply Kd.S_alloc | apply Kd.S_drewN | apply Kd.S_drew)); exact HO_6.out) (Kd.R_typed HL159_0.out) (by decide) hg); have n2_ := Aside0.mk (hp_); have n3_ := Aside0.mk ((by rw [hw]; exact below_set (HB.out) GB31.out : Below w.heap.size w w34)); have n4_ := Aside0.mk (hm_); have n5_ := Aside0.mk ((Kd.R_reads' hm_).2.1); clear HO_5; clear HO_6; clear HO_7; clear HB; clear HL155_0; clear HL157_0; clear HL159_0; have HO_5 := n0_; have HO_6 := n1_; have HO_7 := n2_; have HB := n3_; have HL182 := n4_; have HC162 := n5_; clear n0_ n1_ n2_ n3_ n4_ n5_; clear hg hw hp_ hz_ hm_ hok33))
                                      go_roundg kj11
                                      case measure => have := HK1.out; have := HK2.out; have := HJ11.out; omega
                                      case rel => exact ⟨(y163), (wrap64 (x25_2 + 1)), (by first | rfl | (simp; done) | (simp [*]; done)), H', ⟨by have := HK1.out; have := HK2.out; have := HJ11.out; omega⟩, ⟨by (with_reducible repeat (first | apply Kd.S_alloc | apply Kd.S_drewN | apply Kd.S_drew)); exact HO_5.out⟩, ⟨by (with_reducible repeat (first | apply Kd.S_alloc | apply Kd.S_drewN | apply Kd.S_drew)); exact HO_6.out⟩, ⟨by (with_reducible repeat (first | apply Kd.S_alloc | apply Kd.S_drewN | apply Kd.S_drew)); exact HO_7.out⟩, ⟨by repeat (first | (with_reducible first | exact HB.out | apply below_alloc | apply pw_below_drewN | apply below_drew1) | exact HB.out)⟩⟩
                                    · rw [if_neg c30] at H
                                      have c30b0 : ((rd (rd_L5 x7_2 (ji24)) 2) == x25_2) = false := beq_eq_false_iff_ne.mpr c30
                                      have c30b1 : ((rd (rd_L5 x7_2 (ji24)) 2) != x25_2) = true := bne_iff_ne.mpr c30
                                      obtain ⟨y164, hy164⟩ : ∃ y_ : List Int, y_ = (([x17_1, x25_2, wrap64 (x25_2 + 1)] : List Int)) := ⟨_, rfl⟩
                                      replace H : (if x7_2.length < 5864062014805 then (spec_rpRanges.l1 kj11 t144 t147 (x7_2 ++ [y164]) x17_1 (t144.length : Int) x17_1 ((rd_L4 t144 x17_1).length : Int) (wrap64 (x25_2 + 1))) else (none)) = some r := by first | (rw [hy164]; with_reducible exact H) | (have H2_ := (Option.bind_some _ _).symm.trans H; rw [hy164]; with_reducible exact H2_) | (have H2_ := (Option.bind_some _ _).symm.trans H; with_reducible exact H2_) | with_reducible exact H | (rw [hy164]; exact H) | exact H
                                      have Ny164 := Aside0.mk hy164
                                      clear hy164
                                      by_cases c35 : x7_2.length < 5864062014805
                                      · rw [if_pos c35] at H
                                        have LMc35 := Aside0.mk c35
                                        clear c35
                                        obtain ⟨y167, hy167⟩ : ∃ y_ : List (List Int), y_ = (x7_2 ++ [y164]) := ⟨_, rfl⟩
                                        replace H : (spec_rpRanges.l1 kj11 t144 t147 y167 x17_1 (t144.length : Int) x17_1 ((rd_L4 t144 x17_1).length : Int) (wrap64 (x25_2 + 1))) = some r := by first | (rw [hy167]; with_reducible exact H) | (have H2_ := (Option.bind_some _ _).symm.trans H; rw [hy167]; with_reducible exact H2_) | (have H2_ := (Option.bind_some _ _).symm.trans H; with_reducible exact H2_) | with_reducible exact H | (rw [hy167]; exact H) | exact H
                                        have Ny167 := Aside0.mk hy167
                                        clear hy167
                                        have H' := Aside0.mk H
                                        clear H
                                        obtain ⟨Ao36, co36, eo36⟩ := Kd.S_slice HO_7.out
                                        subst eo36
                                        have p155 : 0 ≤ ((ji24) : Int) := of_decide_eq_true (by first | (with_reducible assumption) | assumption)
                                        have q155 : (ji24) < (x7_2.length : Int) := of_decide_eq_true (by first | (with_reducible assumption) | assumption)
                                        obtain ⟨ad155, A155_0, c155_0, e155, hx155_0, hl155_0, hi155_0⟩ := at_L5 (Kd.S_reads' HO_7.out).2.2 (ji24) p155 q155
                                        cases e155
                                        obtain ⟨ce155, hce155, hMe155, hcc155⟩ := Kd.S_get HO_7.out [] (ji24) p155 (by first | exact q155 | exact of_decide_eq_true (by first | (with_reducible assumption) | assumption) | (have e_ := (Kd.S_reads' HO_7.out).1; omega))
                                        obtain ⟨ve155_0, rfl, ge155_0⟩ := hMe155
                                        have hv155_0 := hcc155 0 _ rfl
                                        rw [Nat.add_zero, show ((Kd.slice 3 (Kd.int .i64))).sz = 1 from rfl, Nat.mul_one] at hv155_0
                                        replace hv155_0 := Option.some.inj (hv155_0.symm.trans hx155_0)
                                        rw [hv155_0] at ge155_0
                                        have HL155_0 := Aside0.mk (show Kd.R (Kd.int .i64) 3 _ _ _ _ (rd_L5 x7_2 (ji24)) from ge155_0)
                                        clear hv155_0 ge155_0
                                        have HX155_0 := Aside0.mk hx155_0
                                        clear hcc155 hce155
                                        have HR155_0 := Aside0.mk hi155_0
                                        have HC155_0 := Aside0.mk hl155_0
                                        clear hi155_0 hl155_0
                                        replace p155 := eq_true p155
                                        replace q155 := eq_true q155
                                        have p156 : 0 ≤ (0 : Int) := (by omega)
                                        have q156 : 0 < ((rd_L5 x7_2 (ji24)).length : Int) := of_decide_eq_true (by first | (with_reducible assumption) | assumption)
                                        obtain ⟨ad156, e156, hx156_0⟩ := Kd.at_int (by repeat (first | (with_reducible exact HR155_0.out) | (with_reducible refine Kd.C_alloc ?_ _) | (with_reducible refine Kd.C_drewN ?_ _) | (with_reducible refine Kd.C_drew ?_) | exact HR155_0.out)) 0 p156 q156
                                        cases e156
                                        have qi156 : (0 < (rd_L5 x7_2 (ji24)).length) = True := eq_true (by omega)
                                        (try rw [show ((0 : Int)).toNat = 0 from rfl] at hx156_0)
                                        (try rw [Addr.add_zero'] at hx156_0)
                                        replace p156 := eq_true p156
                                        replace q156 := eq_true q156
                                        have p157 : 0 ≤ ((ji24) : Int) := of_decide_eq_true (by first | (with_reducible assumption) | assumption)
                                        have q157 : (ji24) < (x7_2.length : Int) := of_decide_eq_true (by first | (with_reducible assumption) | assumption)
                                        obtain ⟨ad157, A157_0, c157_0, e157, hx157_0, hl157_0, hi157_0⟩ := at_L5 (Kd.S_reads' HO_7.out).2.2 (ji24) p157 q157
                                        obtain rfl : ad155 = ad157 := (by injection e157)
                                        obtain ⟨ce157, hce157, hMe157, hcc157⟩ := Kd.S_get HO_7.out [] (ji24) p157 (by first | exact q157 | exact of_decide_eq_true (by first | (with_reducible assumption) | assumption) | (have e_ := (Kd.S_reads' HO_7.out).1; omega))
                                        obtain ⟨ve157_0, rfl, ge157_0⟩ := hMe157
                                        have hv157_0 := hcc157 0 _ rfl
                                        rw [Nat.add_zero, show ((Kd.slice 3 (Kd.int .i64))).sz = 1 from rfl, Nat.mul_one] at hv157_0
                                        replace hv157_0 := Option.some.inj (hv157_0.symm.trans hx157_0)
                                        rw [hv157_0] at ge157_0
                                        have HL157_0 := Aside0.mk (show Kd.R (Kd.int .i64) 3 _ _ _ _ (rd_L5 x7_2 (ji24)) from ge157_0)
                                        clear hv157_0 ge157_0
                                        have HX157_0 := Aside0.mk hx157_0
                                        clear hcc157 hce157
                                        have HR157_0 := Aside0.mk hi157_0
                                        have HC157_0 := Aside0.mk hl157_0
                                        clear hi157_0 hl157_0
                                        replace p157 := eq_true p157
                                        replace q157 := eq_true q157
                                        have ea_ := Option.some.inj (hx155_0.symm.trans hx157_0)
                                        injection ea_ with ea_ en_ ec_
                                        subst ea_
                                        subst ec_
                                        clear en_
                                        have p158 : 0 ≤ (2 : Int) := (by omega)
                                        have q158 : 2 < ((rd_L5 x7_2 (ji24)).length : Int) := of_decide_eq_true (by first | (with_reducible assumption) | assumption)
                                        obtain ⟨ad158, e158, hx158_0⟩ := Kd.at_int (by repeat (first | (with_reducible exact HR157_0.out) | (with_reducible refine Kd.C_alloc ?_ _) | (with_reducible refine Kd.C_drewN ?_ _) | (with_reducible refine Kd.C_drew ?_) | exact HR157_0.out)) 2 p158 q158
                                        cases e158
                                        (try simp only [show (2 : Int).toNat = 2 from rfl, Nat.reduceMul, Nat.reduceEqDiff, Go.Addr.add, ↓reduceIte] at hx158_0)
                                        have qi158 : (2 < (rd_L5 x7_2 (ji24)).length) = True := eq_true (by omega)
                                        (try rw [show ((2 : Int)).toNat = 2 from rfl] at hx158_0)
                                        replace p158 := eq_true p158
                                        replace q158 := eq_true q158
                                        go_wp2_with (first | ((with_reducible refine gate_dst (N := 85) rfl ?_); refine Kd.R_lit (Kd.int .i64) _ 3 ?hg (N := 85) ?hd (xs := ([x17_1, x25_2, wrap64 (x25_2 + 1)] : List Int)) (inner := [.int .i64 x17_1, .int .i64 x25_2, .int .i64 (wrap64 (x25_2 + 1))]) (ok := fun _ => True) (okp := fun _ => True) ?hr ?hp (fun _ hk => hk) trivial (Below.refl _ _) (Nat.le_refl _) (by simp) ?_; (case hd => rfl); (case hg => rfl); (case hr => first | (go_simp; done) | (go_simp; rfl)); (case hp => exact (Reps.one (show Kd.M (Kd.int .i64) _ _ _ x17_1 [.int .i64 x17_1] from rfl) (Reps.one (show Kd.M (Kd.int .i64) _ _ _ x25_2 [.int .i64 x25_2] from rfl) (Reps.one (show Kd.M (Kd.int .i64) _ _ _ (wrap64 (x25_2 + 1)) [.int .i64 (wrap64 (x25_2 + 1))] from rfl) (Reps.none _ _))))); intro v165 w37 ho38 hb hg_ hnew_; clear hg_ hnew_; (first | rw [← Ny164.out] at ho38 | (simp only [Int.reduceToNat] at ho38; rw [← Ny164.out] at ho38)); have n0_ := Aside0.mk (Kd.S_below (by (with_reducible repeat (first | apply Kd.S_alloc | apply Kd.S_drewN | apply Kd.S_drew)); exact HO_5.out) hb); have n1_ := Aside0.mk (Kd.S_below (by (with_reducible repeat (first | apply Kd.S_alloc | apply Kd.S_drewN | apply Kd.S_drew)); exact HO_6.out) hb); have n2_ := Aside0.mk (Kd.S_elder' (by (with_reducible repeat (first | apply Kd.S_alloc | apply Kd.S_drewN | apply Kd.S_drew)); exact HO_7.out) (Kd.R_base ho38) hb); have n3_ := Aside0.mk (Kd.R_elder' (by (with_reducible repeat (first | apply Kd.R_alloc | apply Kd.R_drewN | apply Kd.R_drew)); exact HL155_0.out) (Kd.R_base ho38) hb); have n4_ := Aside0.mk (Kd.R_elder' (by (with_reducible repeat (first | apply Kd.R_alloc | apply Kd.R_drewN | apply Kd.R_drew)); exact HL157_0.out) (Kd.R_base ho38) hb); have n5_ := Aside0.mk (Kd.R_lower (Kd.R_new' (Kd.R_new' ho38 (Kd.R_lt (by (with_reducible repeat (first | apply Kd.R_alloc | apply Kd.R_drewN | apply Kd.R_drew)); exact HL155_0.out))) (Kd.R_lt (by (with_reducible repeat (first | apply Kd.R_alloc | apply Kd.R_drewN | apply Kd.R_drew)); exact HL157_0.out))) (below_size (by repeat (first | (with_reducible first | exact HB.out | apply below_alloc | apply pw_below_drewN | apply below_drew1) | exact HB.out)))); have n6_ := Aside0.mk (Kd.C_below (by repeat (first | (with_reducible exact HR155_0.out) | (with_reducible refine Kd.C_alloc ?_ _) | (with_reducible refine Kd.C_drewN ?_ _) | (with_reducible refine Kd.C_drew ?_) | exact HR155_0.out)) hb); have n7_ := Aside0.mk (pw_cell_below hb HX155_0.out); have n8_ := Aside0.mk (Kd.C_below (by repeat (first | (with_reducible exact HR157_0.out) | (with_reducible refine Kd.C_alloc ?_ _) | (with_reducible refine Kd.C_drewN ?_ _) | (with_reducible refine Kd.C_drew ?_) | exact HR157_0.out)) hb); have n9_ := Aside0.mk (pw_cell_below hb HX157_0.out); have n10_ := Aside0.mk (below_step (by repeat (first | (with_reducible first | exact HB.out | apply below_alloc | apply pw_below_drewN | apply below_drew1) | exact HB.out)) hb); clear HO_5; clear HO_6; clear HO_7; clear HL155_0; clear HL157_0; clear HR155_0; clear HX155_0; clear HR157_0; clear HX157_0; clear HB; have HO_5 := n0_; have HO_6 := n1_; have HO_7 := n2_; have HL155_0 := n3_; have HL157_0 := n4_; have HO166 := n5_; have HR155_0 := n6_; have HX155_0 := n7_; have HR157_0 := n8_; have HX157_0 := n9_; have HB := n10_; clear n0_ n1_ n2_ n3_ n4_ n5_ n6_ n7_ n8_ n9_ n10_; clear hb ho38; obtain ⟨Ao40, co40, eo40⟩ := Kd.R_slice HO166.out; subst eo40) | ((with_reducible refine gate_builtin (b := .append) (xs := #[.tmp 80, .tmp 86]) rfl ?_); at_builtin; refine Kd.S_append (Kd.slice 3 (Kd.int .i64)) (w0 := w) w.heap.size rfl (.tmp 80) (.tmp 86) 24 34 (.slice none 0 0) 24 rfl Try.underlying24 info34 rfl (by decide) (by omega) (.slice (some ad155) x7_2.length co36) x7_2 y164 [.slice Ao40 y164.length co40] (fun _ => True) (fun k_ => some k_ = (.slice Ao40 y164.length co40 : Value).ownBlock) rfl rfl ?aP (fun k_ hk_ => ((Kd.R_mono (ok' := fun k_ => ((fun _ => True)) k_ ∧ some k_ ≠ (.slice (some ad155) x7_2.length co36 : Value).ownBlock) (Kd.R_apart' (HO166.out) (Kd.S_typed HO_7.out) (by decide)) (fun k_ hk => ⟨trivial, hk.2⟩))).1 k_ hk_.symm) ?aF ?aO ?aB ?aS ?aL ?_; (case aP => exact Kd.M_row (Kd.R_mono (Kd.R_tight rfl (Kd.R_mono (ok' := fun k_ => ((fun _ => True)) k_ ∧ some k_ ≠ (.slice (some ad155) x7_2.length co36 : Value).ownBlock) (Kd.R_apart' (HO166.out) (Kd.S_typed HO_7.out) (by decide)) (fun k_ hk => ⟨trivial, hk.2⟩))) (fun _ h_ => h_))); (case aB => exact (by repeat (first | (with_reducible first | exact HB.out | apply below_alloc | apply pw_below_drewN | apply below_drew1) | exact HB.out))); (case aF => exact (fun _ _ => trivial)); (case aO => exact (by (with_reducible repeat (first | apply Kd.S_alloc | apply Kd.S_drewN | apply Kd.S_drew)); exact Kd.S_mono HO_7.out (fun k_ hk => ⟨trivial, fun e_ => hk.2 e_⟩))); (case aS => exact (below_size (by repeat (first | (with_reducible first | exact HB.out | apply below_alloc | apply pw_below_drewN | apply below_drew1) | exact HB.out)))); (case aL => have := LMc35.out; omega); intro v168 w39 ho hb hg hat; rw [← Ny167.out] at ho; have n0_ := Aside0.mk (Kd.S_over' (by (with_reducible repeat (first | apply Kd.S_alloc | apply Kd.S_drewN | apply Kd.S_drew)); exact HO_5.out) (Kd.S_typed (by (with_reducible repeat (first | apply Kd.S_alloc | apply Kd.S_drewN | apply Kd.S_drew)); exact HO_7.out)) (by decide) hg); have n1_ := Aside0.mk (Kd.S_over' (by (with_reducible repeat (first | apply Kd.S_alloc | apply Kd.S_drewN | apply Kd.S_drew)); exact HO_6.out) (Kd.S_typed (by (with_reducible repeat (first | apply Kd.S_alloc | apply Kd.S_drewN | apply Kd.S_drew)); exact HO_7.out)) (by decide) hg); have n2_ := Aside0.mk (Kd.R_after (ok := (fun k_ => some k_ ≠ (.slice Ao40 y164.length co40 : Value).ownBlock)) (by (with_reducible repeat (first | apply Kd.R_alloc | apply Kd.R_drewN | apply Kd.R_drew)); exact Kd.R_mono HL155_0.out (fun _ hk => ⟨hk.2, hk.1.2⟩)) hg hat); have n3_ := Aside0.mk (Kd.R_after (ok := (fun k_ => some k_ ≠ (.slice Ao40 y164.length co40 : Value).ownBlock)) (by (with_reducible repeat (first | apply Kd.R_alloc | apply Kd.R_drewN | apply Kd.R_drew)); exact Kd.R_mono HL157_0.out (fun _ hk => ⟨hk.2, hk.1.2⟩)) hg hat); have n4_ := Aside0.mk (hb); have n5_ := Aside0.mk (ho); clear HO_5; clear HO_6; clear HL155_0; clear HL157_0; clear HB; clear HO_7; clear HO166; have HO_5 := n0_; have HO_6 := n1_; have HL155_0 := n2_; have HL157_0 := n3_; have HB := n4_; have HO169 := n5_; clear n0_ n1_ n2_ n3_ n4_ n5_; clear ho hb hg hat))
                                        go_roundg kj11
                                        case measure => have := HK1.out; have := HK2.out; have := HJ11.out; omega
                                        case rel => exact ⟨(y167), (wrap64 (x25_2 + 1)), (by first | rfl | (simp; done) | (simp [*]; done)), H', ⟨by have := HK1.out; have := HK2.out; have := HJ11.out; omega⟩, ⟨by (with_reducible repeat (first | apply Kd.S_alloc | apply Kd.S_drewN | apply Kd.S_drew)); exact HO_5.out⟩, ⟨by (with_reducible repeat (first | apply Kd.S_alloc | apply Kd.S_drewN | apply Kd.S_drew)); exact HO_6.out⟩, ⟨by (with_reducible repeat (first | apply Kd.S_alloc | apply Kd.S_drewN | apply Kd.S_drew)); exact HO169.out⟩, ⟨by repeat (first | (with_reducible first | exact HB.out | apply below_alloc | apply pw_below_drewN | apply below_drew1) | exact HB.out)⟩⟩
                                      · rw [if_neg c35] at H
                                        exact absurd H (by simp)
                                  · rw [if_neg c29] at H
                                    exact absurd H (by simp)
                                · rw [if_neg c28] at H
                                  have c28b0 : ((rd (rd_L5 x7_2 (ji24)) 0) == x17_1) = false := beq_eq_false_iff_ne.mpr c28
                                  have c28b1 : ((rd (rd_L5 x7_2 (ji24)) 0) != x17_1) = true := bne_iff_ne.mpr c28
                                  obtain ⟨y170, hy170⟩ : ∃ y_ : List Int, y_ = (([x17_1, x25_2, wrap64 (x25_2 + 1)] : List Int)) := ⟨_, rfl⟩
                                  replace H : (if x7_2.length < 5864062014805 then (spec_rpRanges.l1 kj11 t144 t147 (x7_2 ++ [y170]) x17_1 (t144.length : Int) x17_1 ((rd_L4 t144 x17_1).length : Int) (wrap64 (x25_2 + 1))) else (none)) = some r := by first | (rw [hy170]; with_reducible exact H) | (have H2_ := (Option.bind_some _ _).symm.trans H; rw [hy170]; with_reducible exact H2_) | (have H2_ := (Option.bind_some _ _).symm.trans H; with_reducible exact H2_) | with_reducible exact H | (rw [hy170]; exact H) | exact H
                                  have Ny170 := Aside0.mk hy170
                                  clear hy170
                                  by_cases c41 : x7_2.length < 5864062014805
                                  · rw [if_pos c41] at H
                                    have LMc41 := Aside0.mk c41
                                    clear c41
                                    obtain ⟨y173, hy173⟩ : ∃ y_ : List (List Int), y_ = (x7_2 ++ [y170]) := ⟨_, rfl⟩
                                    replace H : (spec_rpRanges.l1 kj11 t144 t147 y173 x17_1 (t144.length : Int) x17_1 ((rd_L4 t144 x17_1).length : Int) (wrap64 (x25_2 + 1))) = some r := by first | (rw [hy173]; with_reducible exact H) | (have H2_ := (Option.bind_some _ _).symm.trans H; rw [hy173]; with_reducible exact H2_) | (have H2_ := (Option.bind_some _ _).symm.trans H; with_reducible exact H2_) | with_reducible exact H | (rw [hy173]; exact H) | exact H
                                    have Ny173 := Aside0.mk hy173
                                    clear hy173
                                    have H' := Aside0.mk H
                                    clear H
                                    obtain ⟨Ao42, co42, eo42⟩ := Kd.S_slice HO_7.out
                                    subst eo42
                                    have p155 : 0 ≤ ((ji24) : Int) := of_decide_eq_true (by first | (with_reducible assumption) | assumption)
                                    have q155 : (ji24) < (x7_2.length : Int) := of_decide_eq_true (by first | (with_reducible assumption) | assumption)
                                    obtain ⟨ad155, A155_0, c155_0, e155, hx155_0, hl155_0, hi155_0⟩ := at_L5 (Kd.S_reads' HO_7.out).2.2 (ji24) p155 q155
                                    cases e155
                                    obtain ⟨ce155, hce155, hMe155, hcc155⟩ := Kd.S_get HO_7.out [] (ji24) p155 (by first | exact q155 | exact of_decide_eq_true (by first | (with_reducible assumption) | assumption) | (have e_ := (Kd.S_reads' HO_7.out).1; omega))
                                    obtain ⟨ve155_0, rfl, ge155_0⟩ := hMe155
                                    have hv155_0 := hcc155 0 _ rfl
                                    rw [Nat.add_zero, show ((Kd.slice 3 (Kd.int .i64))).sz = 1 from rfl, Nat.mul_one] at hv155_0
                                    replace hv155_0 := Option.some.inj (hv155_0.symm.trans hx155_0)
                                    rw [hv155_0] at ge155_0
                                    have HL155_0 := Aside0.mk (show Kd.R (Kd.int .i64) 3 _ _ _ _ (rd_L5 x7_2 (ji24)) from ge155_0)
                                    clear hv155_0 ge155_0
                                    have HX155_0 := Aside0.mk hx155_0
                                    clear hcc155 hce155
                                    have HR155_0 := Aside0.mk hi155_0
                                    have HC155_0 := Aside0.mk hl155_0
                                    clear hi155_0 hl155_0
                                    replace p155 := eq_true p155
                                    replace q155 := eq_true q155
                                    have p156 : 0 ≤ (0 : Int) := (by omega)
                                    have q156 : 0 < ((rd_L5 x7_2 (ji24)).length : Int) := of_decide_eq_true (by first | (with_reducible assumption) | assumption)
                                    obtain ⟨ad156, e156, hx156_0⟩ := Kd.at_int (by repeat (first | (with_reducible exact HR155_0.out) | (with_reducible refine Kd.C_alloc ?_ _) | (with_reducible refine Kd.C_drewN ?_ _) | (with_reducible refine Kd.C_drew ?_) | exact HR155_0.out)) 0 p156 q156
                                    cases e156
                                    have qi156 : (0 < (rd_L5 x7_2 (ji24)).length) = True := eq_true (by omega)
                                    (try rw [show ((0 : Int)).toNat = 0 from rfl] at hx156_0)
                                    (try rw [Addr.add_zero'] at hx156_0)
                                    replace p156 := eq_true p156
                                    replace q156 := eq_true q156
                                    go_wp2_with (first | ((with_reducible refine gate_dst (N := 85) rfl ?_); refine Kd.R_lit (Kd.int .i64) _ 3 ?hg (N := 85) ?hd (xs := ([x17_1, x25_2, wrap64 (x25_2 + 1)] : List Int)) (inner := [.int .i64 x17_1, .int .i64 x25_2, .int .i64 (wrap64 (x25_2 + 1))]) (ok := fun _ => True) (okp := fun _ => True) ?hr ?hp (fun _ hk => hk) trivial (Below.refl _ _) (Nat.le_refl _) (by simp) ?_; (case hd => rfl); (case hg => rfl); (case hr => first | (go_simp; done) | (go_simp; rfl)); (case hp => exact (Reps.one (show Kd.M (Kd.int .i64) _ _ _ x17_1 [.int .i64 x17_1] from rfl) (Reps.one (show Kd.M (Kd.int .i64) _ _ _ x25_2 [.int .i64 x25_2] from rfl) (Reps.one (show Kd.M (Kd.int .i64) _ _ _ (wrap64 (x25_2 + 1)) [.int .i64 (wrap64 (x25_2 + 1))] from rfl) (Reps.none _ _))))); intro v171 w43 ho44 hb hg_ hnew_; clear hg_ hnew_; (first | rw [← Ny170.out] at ho44 | (simp only [Int.reduceToNat] at ho44; rw [← Ny170.out] at ho44)); have n0_ := Aside0.mk (Kd.S_below (by (with_reducible repeat (first | apply Kd.S_alloc | apply Kd.S_drewN | apply Kd.S_drew)); exact HO_5.out) hb); have n1_ := Aside0.mk (Kd.S_below (by (with_reducible repeat (first | apply Kd.S_alloc | apply Kd.S_drewN | apply Kd.S_drew)); exact HO_6.out) hb); have n2_ := Aside0.mk (Kd.S_elder' (by (with_reducible repeat (first | apply Kd.S_alloc | apply Kd.S_drewN | apply Kd.S_drew)); exact HO_7.out) (Kd.R_base ho44) hb); have n3_ := Aside0.mk (Kd.R_elder' (by (with_reducible repeat (first | apply Kd.R_alloc | apply Kd.R_drewN | apply Kd.R_drew)); exact HL155_0.out) (Kd.R_base ho44) hb); have n4_ := Aside0.mk (Kd.R_lower (Kd.R_new' ho44 (Kd.R_lt (by (with_reducible repeat (first | apply Kd.R_alloc | apply Kd.R_drewN | apply Kd.R_drew)); exact HL155_0.out))) (below_size (by repeat (first | (with_reducible first | exact HB.out | apply below_alloc | apply pw_below_drewN | apply below_drew1) | exact HB.out)))); have n5_ := Aside0.mk (Kd.C_below (by repeat (first | (with_reducible exact HR155_0.out) | (with_reducible refine Kd.C_alloc ?_ _) | (with_reducible refine Kd.C_drewN ?_ _) | (with_reducible refine Kd.C_drew ?_) | exact HR155_0.out)) hb); have n6_ := Aside0.mk (pw_cell_below hb HX155_0.out); have n7_ := Aside0.mk (below_step (by repeat (first | (with_reducible first | exact HB.out | apply below_alloc | apply pw_below_drewN | apply below_drew1) | exact HB.out)) hb); clear HO_5; clear HO_6; clear HO_7; clear HL155_0; clear HR155_0; clear HX155_0; clear HB; have HO_5 := n0_; have HO_6 := n1_; have HO_7 := n2_; have HL155_0 := n3_; have HO172 := n4_; have HR155_0 := n5_; have HX155_0 := n6_; have HB := n7_; clear n0_ n1_ n2_ n3_ n4_ n5_ n6_ n7_; clear hb ho44; obtain ⟨Ao46, co46, eo46⟩ := Kd.R_slice HO172.out; subst eo46) | ((with_reducible refine gate_builtin (b := .append) (xs := #[.tmp 80, .tmp 86]) rfl ?_); at_builtin; refine Kd.S_append (Kd.slice 3 (Kd.int .i64)) (w0 := w) w.heap.size rfl (.tmp 80) (.tmp 86) 24 34 (.slice none 0 0) 24 rfl Try.underlying24 info34 rfl (by decide) (by omega) (.slice (some ad155) x7_2.length co42) x7_2 y170 [.slice Ao46 y170.length co46] (fun _ => True) (fun k_ => some k_ = (.slice Ao46 y170.length co46 : Value).ownBlock) rfl rfl ?aP (fun k_ hk_ => ((Kd.R_mono (ok' := fun k_ => ((fun _ => True)) k_ ∧ some k_ ≠ (.slice (some ad155) x7_2.length co42 : Value).ownBlock) (Kd.R_apart' (HO172.out) (Kd.S_typed HO_7.out) (by decide)) (fun k_ hk => ⟨trivial, hk.2⟩))).1 k_ hk_.symm) ?aF ?aO ?aB ?aS ?aL ?_; (case aP => exact Kd.M_row (Kd.R_mono (Kd.R_tight rfl (Kd.R_mono (ok' := fun k_ => ((fun _ => True)) k_ ∧ some k_ ≠ (.slice (some ad155) x7_2.length co42 : Value).ownBlock) (Kd.R_apart' (HO172.out) (Kd.S_typed HO_7.out) (by decide)) (fun k_ hk => ⟨trivial, hk.2⟩))) (fun _ h_ => h_))); (case aB => exact (by repeat (first | (with_reducible first | exact HB.out | apply below_alloc | apply pw_below_drewN | apply below_drew1) | exact HB.out))); (case aF => exact (fun _ _ => trivial)); (case aO => exact (by (with_reducible repeat (first | apply Kd.S_alloc | apply Kd.S_drewN | apply Kd.S_drew)); exact Kd.S_mono HO_7.out (fun k_ hk => ⟨trivial, fun e_ => hk.2 e_⟩))); (case aS => exact (below_size (by repeat (first | (with_reducible first | exact HB.out | apply below_alloc | apply pw_below_drewN | apply below_drew1) | exact HB.out)))); (case aL => have := LMc41.out; omega); intro v174 w45 ho hb hg hat; rw [← Ny173.out] at ho; have n0_ := Aside0.mk (Kd.S_over' (by (with_reducible repeat (first | apply Kd.S_alloc | apply Kd.S_drewN | apply Kd.S_drew)); exact HO_5.out) (Kd.S_typed (by (with_reducible repeat (first | apply Kd.S_alloc | apply Kd.S_drewN | apply Kd.S_drew)); exact HO_7.out)) (by decide) hg); have n1_ := Aside0.mk (Kd.S_over' (by (with_reducible repeat (first | apply Kd.S_alloc | apply Kd.S_drewN | apply Kd.S_drew)); exact HO_6.out) (Kd.S_typed (by (with_reducible repeat (first | apply Kd.S_alloc | apply Kd.S_drewN | apply Kd.S_drew)); exact HO_7.out)) (by decide) hg); have n2_ := Aside0.mk (Kd.R_after (ok := (fun k_ => some k_ ≠ (.slice Ao46 y170.length co46 : Value).ownBlock)) (by (with_reducible repeat (first | apply Kd.R_alloc | apply Kd.R_drewN | apply Kd.R_drew)); exact Kd.R_mono HL155_0.out (fun _ hk => ⟨hk.2, hk.1.2⟩)) hg hat); have n3_ := Aside0.mk (hb); have n4_ := Aside0.mk (ho); clear HO_5; clear HO_6; clear HL155_0; clear HB; clear HO_7; clear HO172; have HO_5 := n0_; have HO_6 := n1_; have HL155_0 := n2_; have HB := n3_; have HO175 := n4_; clear n0_ n1_ n2_ n3_ n4_; clear ho hb hg hat))
                                    go_roundg kj11
                                    case measure => have := HK1.out; have := HK2.out; have := HJ11.out; omega
                                    case rel => exact ⟨(y173), (wrap64 (x25_2 + 1)), (by first | rfl | (simp; done) | (simp [*]; done)), H', ⟨by have := HK1.out; have := HK2.out; have := HJ11.out; omega⟩, ⟨by (with_reducible repeat (first | apply Kd.S_alloc | apply Kd.S_drewN | apply Kd.S_drew)); exact HO_5.out⟩, ⟨by (with_reducible repeat (first | apply Kd.S_alloc | apply Kd.S_drewN | apply Kd.S_drew)); exact HO_6.out⟩, ⟨by (with_reducible repeat (first | apply Kd.S_alloc | apply Kd.S_drewN | apply Kd.S_drew)); exact HO175.out⟩, ⟨by repeat (first | (with_reducible first | exact HB.out | apply below_alloc | apply pw_below_drewN | apply below_drew1) | exact HB.out)⟩⟩
                                  · rw [if_neg c41] at H
                                    exact absurd H (by simp)
                              · rw [if_neg c27] at H
                                exact absurd H (by simp)
                            · rw [if_neg c26] at H
                              exact absurd H (by simp)
                          · rw [if_neg c25] at H
                            exact absurd H (by simp)
                        · rw [if_neg c23] at H
                          have c23b0 : decide (0 < (x7_2.length : Int)) = false := decide_eq_false c23
                          have c23b1 : decide (0 < x7_2.length) = false := decide_eq_false (by omega)
                          clear c23
                          obtain ⟨y176, hy176⟩ : ∃ y_ : List Int, y_ = (([x17_1, x25_2, wrap64 (x25_2 + 1)] : List Int)) := ⟨_, rfl⟩
                          replace H : (if x7_2.length < 5864062014805 then (spec_rpRanges.l1 kj11 t144 t147 (x7_2 ++ [y176]) x17_1 (t144.length : Int) x17_1 ((rd_L4 t144 x17_1).length : Int) (wrap64 (x25_2 + 1))) else (none)) = some r := by first | (rw [hy176]; with_reducible exact H) | (have H2_ := (Option.bind_some _ _).symm.trans H; rw [hy176]; with_reducible exact H2_) | (have H2_ := (Option.bind_some _ _).symm.trans H; with_reducible exact H2_) | with_reducible exact H | (rw [hy176]; exact H) | exact H
                          have Ny176 := Aside0.mk hy176
                          clear hy176
                          by_cases c47 : x7_2.length < 5864062014805
                          · rw [if_pos c47] at H
                            have LMc47 := Aside0.mk c47
                            clear c47
                            obtain ⟨y179, hy179⟩ : ∃ y_ : List (List Int), y_ = (x7_2 ++ [y176]) := ⟨_, rfl⟩
                            replace H : (spec_rpRanges.l1 kj11 t144 t147 y179 x17_1 (t144.length : Int) x17_1 ((rd_L4 t144 x17_1).length : Int) (wrap64 (x25_2 + 1))) = some r := by first | (rw [hy179]; with_reducible exact H) | (have H2_ := (Option.bind_some _ _).symm.trans H; rw [hy179]; with_reducible exact H2_) | (have H2_ := (Option.bind_some _ _).symm.trans H; with_reducible exact H2_) | with_reducible exact H | (rw [hy179]; exact H) | exact H
                            have Ny179 := Aside0.mk hy179
                            clear hy179
                            have H' := Aside0.mk H
                            clear H
                            obtain ⟨Ao48, co48, eo48⟩ := Kd.S_slice HO_7.out
                            subst eo48
                            go_wp2_with (first | ((with_reducible refine gate_dst (N := 85) rfl ?_); refine Kd.R_lit (Kd.int .i64) _ 3 ?hg (N := 85) ?hd (xs := ([x17_1, x25_2, wrap64 (x25_2 + 1)] : List Int)) (inner := [.int .i64 x17_1, .int .i64 x25_2, .int .i64 (wrap64 (x25_2 + 1))]) (ok := fun _ => True) (okp := fun _ => True) ?hr ?hp (fun _ hk => hk) trivial (Below.refl _ _) (Nat.le_refl _) (by simp) ?_; (case hd => rfl); (case hg => rfl); (case hr => first | (go_simp; done) | (go_simp; rfl)); (case hp => exact (Reps.one (show Kd.M (Kd.int .i64) _ _ _ x17_1 [.int .i64 x17_1] from rfl) (Reps.one (show Kd.M (Kd.int .i64) _ _ _ x25_2 [.int .i64 x25_2] from rfl) (Reps.one (show Kd.M (Kd.int .i64) _ _ _ (wrap64 (x25_2 + 1)) [.int .i64 (wrap64 (x25_2 + 1))] from rfl) (Reps.none _ _))))); intro v177 w49 ho50 hb hg_ hnew_; clear hg_ hnew_; (first | rw [← Ny176.out] at ho50 | (simp only [Int.reduceToNat] at ho50; rw [← Ny176.out] at ho50)); have n0_ := Aside0.mk (Kd.S_below (by (with_reducible repeat (first | apply Kd.S_alloc | apply Kd.S_drewN | apply Kd.S_drew)); exact HO_5.out) hb); have n1_ := Aside0.mk (Kd.S_below (by (with_reducible repeat (first | apply Kd.S_alloc | apply Kd.S_drewN | apply Kd.S_drew)); exact HO_6.out) hb); have n2_ := Aside0.mk (Kd.S_elder' (by (with_reducible repeat (first | apply Kd.S_alloc | apply Kd.S_drewN | apply Kd.S_drew)); exact HO_7.out) (Kd.R_base ho50) hb); have n3_ := Aside0.mk (Kd.R_lower ho50 (below_size (by repeat (first | (with_reducible first | exact HB.out | apply below_alloc | apply pw_below_drewN | apply below_drew1) | exact HB.out)))); have n4_ := Aside0.mk (below_step (by repeat (first | (with_reducible first | exact HB.out | apply below_alloc | apply pw_below_drewN | apply below_drew1) | exact HB.out)) hb); clear HO_5; clear HO_6; clear HO_7; clear HB; have HO_5 := n0_; have HO_6 := n1_; have HO_7 := n2_; have HO178 := n3_; have HB := n4_; clear n0_ n1_ n2_ n3_ n4_; clear hb ho50; obtain ⟨Ao52, co52, eo52⟩ := Kd.R_slice HO178.out; subst eo52) | ((with_reducible refine gate_builtin (b := .append) (xs := #[.tmp 80, .tmp 86]) rfl ?_); at_builtin; refine Kd.S_append (Kd.slice 3 (Kd.int .i64)) (w0 := w) w.heap.size rfl (.tmp 80) (.tmp 86) 24 34 (.slice none 0 0) 24 rfl Try.underlying24 info34 rfl (by decide) (by omega) (.slice Ao48 x7_2.length co48) x7_2 y176 [.slice Ao52 y176.length co52] (fun _ => True) (fun k_ => some k_ = (.slice Ao52 y176.length co52 : Value).ownBlock) rfl rfl ?aP (fun k_ hk_ => ((Kd.R_mono (ok' := fun k_ => ((fun _ => True)) k_ ∧ some k_ ≠ (.slice Ao48 x7_2.length co48 : Value).ownBlock) (Kd.R_apart' (HO178.out) (Kd.S_typed HO_7.out) (by decide)) (fun k_ hk => ⟨trivial, hk.2⟩))).1 k_ hk_.symm) ?aF ?aO ?aB ?aS ?aL ?_; (case aP => exact Kd.M_row (Kd.R_mono (Kd.R_tight rfl (Kd.R_mono (ok' := fun k_ => ((fun _ => True)) k_ ∧ some k_ ≠ (.slice Ao48 x7_2.length co48 : Value).ownBlock) (Kd.R_apart' (HO178.out) (Kd.S_typed HO_7.out) (by decide)) (fun k_ hk => ⟨trivial, hk.2⟩))) (fun _ h_ => h_))); (case aB => exact (by repeat (first | (with_reducible first | exact HB.out | apply below_alloc | apply pw_below_drewN | apply below_drew1) | exact HB.out))); (case aF => exact (fun _ _ => trivial)); (case aO => exact (by (with_reducible repeat (first | apply Kd.S_alloc | apply Kd.S_drewN | apply Kd.S_drew)); exact Kd.S_mono HO_7.out (fun k_ hk => ⟨trivial, fun e_ => hk.2 e_⟩))); (case aS => exact (below_size (by repeat (first | (with_reducible first | exact HB.out | apply below_alloc | apply pw_below_drewN | apply below_drew1) | exact HB.out)))); (case aL => have := LMc47.out; omega); intro v180 w51 ho hb hg hat; rw [← Ny179.out] at ho; have n0_ := Aside0.mk (Kd.S_over' (by (with_reducible repeat (first | apply Kd.S_alloc | apply Kd.S_drewN | apply Kd.S_drew)); exact HO_5.out) (Kd.S_typed (by (with_reducible repeat (first | apply Kd.S_alloc | apply Kd.S_drewN | apply Kd.S_drew)); exact HO_7.out)) (by decide) hg); have n1_ := Aside0.mk (Kd.S_over' (by (with_reducible repeat (first | apply Kd.S_alloc | apply Kd.S_drewN | apply Kd.S_drew)); exact HO_6.out) (Kd.S_typed (by (with_reducible repeat (first | apply Kd.S_alloc | apply Kd.S_drewN | apply Kd.S_drew)); exact HO_7.out)) (by decide) hg); have n2_ := Aside0.mk (hb); have n3_ := Aside0.mk (ho); clear HO_5; clear HO_6; clear HB; clear HO_7; clear HO178; have HO_5 := n0_; have HO_6 := n1_; have HB := n2_; have HO181 := n3_; clear n0_ n1_ n2_ n3_; clear ho hb hg hat))
                            go_roundg kj11
                            case measure => have := HK1.out; have := HK2.out; have := HJ11.out; omega
                            case rel => exact ⟨(y179), (wrap64 (x25_2 + 1)), (by first | rfl | (simp; done) | (simp [*]; done)), H', ⟨by have := HK1.out; have := HK2.out; have := HJ11.out; omega⟩, ⟨by (with_reducible repeat (first | apply Kd.S_alloc | apply Kd.S_drewN | apply Kd.S_drew)); exact HO_5.out⟩, ⟨by (with_reducible repeat (first | apply Kd.S_alloc | apply Kd.S_drewN | apply Kd.S_drew)); exact HO_6.out⟩, ⟨by (with_reducible repeat (first | apply Kd.S_alloc | apply Kd.S_drewN | apply Kd.S_drew)); exact HO181.out⟩, ⟨by repeat (first | (with_reducible first | exact HB.out | apply below_alloc | apply pw_below_drewN | apply below_drew1) | exact HB.out)⟩⟩
                          · rw [if_neg c47] at H
                            exact absurd H (by simp)
                · rw [if_neg c11] at H
                  have c11b0 : decide (x25_2 < ((rd_L4 t144 x17_1).length : Int)) = false := decide_eq_false c11
                  clear c11
                  have H' := Aside0.mk H
                  clear H
                  go_wp2
                  go_roundg k2
                  case measure => have := HK1.out; have := HK2.out; omega
                  case rel => exact ⟨(x7_2), (wrap64 (x17_1 + 1)), (by first | rfl | (simp; done) | (simp [*]; done)), H', ⟨by have := HK1.out; have := HK2.out; omega⟩, ⟨by (with_reducible repeat (first | apply Kd.S_alloc | apply Kd.S_drewN | apply Kd.S_drew)); exact HO_5.out⟩, ⟨by (with_reducible repeat (first | apply Kd.S_alloc | apply Kd.S_drewN | apply Kd.S_drew)); exact HO_6.out⟩, ⟨by (with_reducible repeat (first | apply Kd.S_alloc | apply Kd.S_drewN | apply Kd.S_drew)); exact HO_7.out⟩, ⟨by repeat (first | (with_reducible first | exact HB.out | apply below_alloc | apply pw_below_drewN | apply below_drew1) | exact HB.out)⟩⟩
          · rw [if_neg c10] at H
            exact absurd H (by simp)
        · rw [if_neg c9] at H
          exact absurd H (by simp)
      · rw [if_neg c8] at H
        have c8b0 : decide (x17_1 < (t144.length : Int)) = false := decide_eq_false c8
        clear c8
        obtain rfl := Option.some.inj H
        go_wp2
        go_ret
        exact ⟨_, by first | rfl | (simp [errW_none, errW_some] <;> rfl) | (simp [*, errW_none, errW_some] <;> rfl), by (with_reducible repeat (first | apply Kd.S_alloc | apply Kd.S_drewN | apply Kd.S_drew)); exact HO_7.out, by repeat (first | (with_reducible first | exact HB.out | apply below_alloc | apply pw_below_drewN | apply below_drew1) | exact HB.out)⟩

end Go.Proofs.Ytjniaiobnbdhhab.PFnExactCutsFor
