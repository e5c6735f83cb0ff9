/- The walks of functions that FnExactPatchesFor reaches: what they return is what the plain functions of the same names say. Laid by a program of this session after the kit's print. No conditions beyond the arguments' being read. -/
import Derived.Test.YtjniaiobnbdhhabRPatchesFor0
import Derived.Test.YtjniaiobnbdhhabRPatchesFor5
namespace Go.Proofs.Ytjniaiobnbdhhab.PFnExactPatchesFor
open Go.RowKit Go.Proofs.YtjniaiobnbdhhabW.PrintWords Go.Proofs.YtjniaiobnbdhhabW.PrintLast Go.Proofs.YtjniaiobnbdhhabW.PrintMore
attribute [local go_sem] max2_int min2_int max_two min_two max_three min_three max_four min_four   -- for this text's walks alone
set_option linter.unusedVariables false
set_option linter.unusedSimpArgs false

/-! ### spec_rpRanges: function 54 -/
mutual
def spec_rpRanges.l0 : Nat → List (List Bool) → List (List Bool) → List (List Int) → Int → Int → Option ((List (List Int)))
  | 0, _, _, _, _, _ => none
  | k + 1, x5, x6, x7, x16, x17 => if x17 < x16 then (if 0 ≤ x17 then (if x17 < (x5.length : Int) then (spec_rpRanges.l1 k x5 x6 x7 x17 x16 x17 ((rd_L5 x5 x17).length : Int) 0) else (none)) else (none)) else (some x7)
def spec_rpRanges.l1 : Nat → List (List Bool) → List (List Bool) → List (List Int) → Int → Int → Int → Int → Int → Option ((List (List Int)))
  | 0, _, _, _, _, _, _, _, _ => none
  | k + 1, x5, x6, x7, x8, x16, x17, x24, x25 => if x25 < x24 then (if 0 ≤ x8 then (if x8 < (x5.length : Int) then (if 0 ≤ x25 then (if x25 < ((rd_L5 x5 x8).length : Int) then (if (rdOf false (rd_L5 x5 x8) x25 = true) then (if x8 < (x6.length : Int) then (if x25 < ((rd_L5 x6 x8).length : Int) then (spec_rpRanges.j2 k x5 x6 x7 x8 x25 x16 x17 x24 x25 (rdOf false (rd_L5 x6 x8) x25)) else (none)) else (none)) else (spec_rpRanges.j2 k x5 x6 x7 x8 x25 x16 x17 x24 x25 true)) else (none)) else (none)) else (none)) else (none)) else (spec_rpRanges.l0 k x5 x6 x7 x16 (wrap64 (x17 + 1)))
def spec_rpRanges.j2 : Nat → List (List Bool) → List (List Bool) → List (List Int) → Int → Int → Int → Int → Int → Int → Bool → Option ((List (List Int)))
  | 0, _, _, _, _, _, _, _, _, _, _ => none
  | k + 1, x5, x6, x7, x8, x9, x16, x17, x24, x25, x44 => if x44 = true then (spec_rpRanges.l1 k x5 x6 x7 x8 x16 x17 x24 (wrap64 (x25 + 1))) else (if (x7.length : Int) > 0 then (if 0 ≤ (wrap64 ((x7.length : Int) - 1)) then (if (wrap64 ((x7.length : Int) - 1)) < (x7.length : Int) then (if 0 < ((rd_L3 x7 (wrap64 ((x7.length : Int) - 1))).length : Int) then (if (rd (rd_L3 x7 (wrap64 ((x7.length : Int) - 1))) 0) = x8 then (if 2 < ((rd_L3 x7 (wrap64 ((x7.length : Int) - 1))).length : Int) then (if (rd (rd_L3 x7 (wrap64 ((x7.length : Int) - 1))) 2) = x9 then (spec_rpRanges.l1 k x5 x6 (x7.set ((wrap64 ((x7.length : Int) - 1)) : Int).toNat ((rd_L3 x7 (wrap64 ((x7.length : Int) - 1))).set (2 : Int).toNat (wrap64 ((rd (rd_L3 x7 (wrap64 ((x7.length : Int) - 1))) 2) + 1)))) x8 x16 x17 x24 (wrap64 (x25 + 1))) else (if x7.length < 5864062014805 then (spec_rpRanges.l1 k x5 x6 (x7 ++ [(([x8, x9, wrap64 (x9 + 1)] : List Int))]) x8 x16 x17 x24 (wrap64 (x25 + 1))) else (none))) else (none)) else (if x7.length < 5864062014805 then (spec_rpRanges.l1 k x5 x6 (x7 ++ [(([x8, x9, wrap64 (x9 + 1)] : List Int))]) x8 x16 x17 x24 (wrap64 (x25 + 1))) else (none))) else (none)) else (none)) else (none)) else (if x7.length < 5864062014805 then (spec_rpRanges.l1 k x5 x6 (x7 ++ [(([x8, x9, wrap64 (x9 + 1)] : List Int))]) x8 x16 x17 x24 (wrap64 (x25 + 1))) else (none)))
end
def spec_rpRanges.f (k : Nat) (l0 : List (S80)) (l1 : List (S80)) : Option ((List (List Int))) := (spec_rpOpen.f k l0).bind fun t173 => ((spec_rpOpen.f k l1).bind fun t176 => (spec_rpRanges.l0 k t173 t176 ([] : List (List Int)) (t173.length : Int) 0))
theorem spec_rpRanges.mono_l : ∀ k, (∀ y0 y1 y2 y3 y4, LeO (spec_rpRanges.l0 k y0 y1 y2 y3 y4) (spec_rpRanges.l0 (k + 1) y0 y1 y2 y3 y4)) ∧ (∀ y0 y1 y2 y3 y4 y5 y6 y7, LeO (spec_rpRanges.l1 k y0 y1 y2 y3 y4 y5 y6 y7) (spec_rpRanges.l1 (k + 1) y0 y1 y2 y3 y4 y5 y6 y7)) ∧ (∀ y0 y1 y2 y3 y4 y5 y6 y7 y8 y9, LeO (spec_rpRanges.j2 k y0 y1 y2 y3 y4 y5 y6 y7 y8 y9) (spec_rpRanges.j2 (k + 1) y0 y1 y2 y3 y4 y5 y6 y7 y8 y9))
  | 0 => ⟨fun _ _ _ _ _ r h => by simp [spec_rpRanges.l0] at h, fun _ _ _ _ _ _ _ _ r h => by simp [spec_rpRanges.l1] at h, fun _ _ _ _ _ _ _ _ _ _ r h => by simp [spec_rpRanges.j2] at h⟩
  | k + 1 => by
    obtain ⟨ih0, ih1, ih2⟩ := spec_rpRanges.mono_l k
    refine ⟨?_, ?_, ?_⟩
    · intro y0 y1 y2 y3 y4
      unfold spec_rpRanges.l0
      repeat' first
      | (with_reducible exact ih0 _ _ _ _ _)
      | (with_reducible exact ih1 _ _ _ _ _ _ _ _)
      | (with_reducible exact ih2 _ _ _ _ _ _ _ _ _ _)
      | (with_reducible exact spec_rpOpen.mono _ _)
      | (with_reducible exact LeO.refl _)
      | (with_reducible exact LeO.none _)
      | (with_reducible refine LeO.ite ?_ ?_)
      | (with_reducible refine LeO.bind ?_ (fun _ => ?_))
      | exact ih0 _ _ _ _ _
      | exact ih1 _ _ _ _ _ _ _ _
      | exact ih2 _ _ _ _ _ _ _ _ _ _
      | exact spec_rpOpen.mono _ _
      | exact LeO.none _
      | refine LeO.ite ?_ ?_
      | refine LeO.bind ?_ (fun _ => ?_)
    · intro y0 y1 y2 y3 y4 y5 y6 y7
      unfold spec_rpRanges.l1
      repeat' first
      | (with_reducible exact ih0 _ _ _ _ _)
      | (with_reducible exact ih1 _ _ _ _ _ _ _ _)
      | (with_reducible exact ih2 _ _ _ _ _ _ _ _ _ _)
      | (with_reducible exact spec_rpOpen.mono _ _)
      | (with_reducible exact LeO.refl _)
      | (with_reducible exact LeO.none _)
      | (with_reducible refine LeO.ite ?_ ?_)
      | (with_reducible refine LeO.bind ?_ (fun _ => ?_))
      | exact ih0 _ _ _ _ _
      | exact ih1 _ _ _ _ _ _ _ _
      | exact ih2 _ _ _ _ _ _ _ _ _ _
      | exact spec_rpOpen.mono _ _
      | exact LeO.none _
      | refine LeO.ite ?_ ?_
      | refine LeO.bind ?_ (fun _ => ?_)
    · intro y0 y1 y2 y3 y4 y5 y6 y7 y8 y9
      unfold spec_rpRanges.j2
      repeat' first
      | (with_reducible exact ih0 _ _ _ _ _)
      | (with_reducible exact ih1 _ _ _ _ _ _ _ _)
      | (with_reducible exact ih2 _ _ _ _ _ _ _ _ _ _)
      | (with_reducible exact spec_rpOpen.mono _ _)
      | (with_reducible exact LeO.refl _)
      | (with_reducible exact LeO.none _)
      | (with_reducible refine LeO.ite ?_ ?_)
      | (with_reducible refine LeO.bind ?_ (fun _ => ?_))
      | exact ih0 _ _ _ _ _
      | exact ih1 _ _ _ _ _ _ _ _
      | exact ih2 _ _ _ _ _ _ _ _ _ _
      | exact spec_rpOpen.mono _ _
      | exact LeO.none _
      | refine LeO.ite ?_ ?_
      | refine LeO.bind ?_ (fun _ => ?_)
theorem spec_rpRanges.mono : ∀ a0 a1 k, LeO (spec_rpRanges.f k a0 a1) (spec_rpRanges.f (k + 1) a0 a1) := by
  intro a0 a1 k
  obtain ⟨ih0, ih1, ih2⟩ := spec_rpRanges.mono_l k
  unfold spec_rpRanges.f
  repeat' first
      | (with_reducible exact ih0 _ _ _ _ _)
      | (with_reducible exact ih1 _ _ _ _ _ _ _ _)
      | (with_reducible exact ih2 _ _ _ _ _ _ _ _ _ _)
      | (with_reducible exact spec_rpOpen.mono _ _)
      | (with_reducible exact LeO.refl _)
      | (with_reducible exact LeO.none _)
      | (with_reducible refine LeO.ite ?_ ?_)
      | (with_reducible refine LeO.bind ?_ (fun _ => ?_))
      | exact ih0 _ _ _ _ _
      | exact ih1 _ _ _ _ _ _ _ _
      | exact ih2 _ _ _ _ _ _ _ _ _ _
      | exact spec_rpOpen.mono _ _
      | exact LeO.none _
      | refine LeO.ite ?_ ?_
      | refine LeO.bind ?_ (fun _ => ?_)
set_option maxHeartbeats 8000000 in
set_option maxRecDepth 100000 in
theorem spec_rpRanges.calls (k : Nat) (A0 : Option Addr) (c0 : Nat) (l0 : List (S80)) (A1 : Option Addr) (c1 : Nat) (l1 : List (S80)) (r : List (List Int)) (w : World) (hr0 : Kd.C k80 w A0 l0.length l0) (hc0 : l0.length ≤ c0) (hr1 : Kd.C k80 w A1 l1.length l1) (hc1 : l1.length ≤ c1) (h : spec_rpRanges.f k l0 l1 = some r) :
    Calls Try.prog 54 #[.slice A0 l0.length c0, .slice A1 l1.length c1] w fun e w' => ∃ v0_ : Value, e = .returned (v0_) ∧ Kd.S (Kd.slice 3 (Kd.int .i64)) 34 w' w.heap.size (fun _ => True) v0_ r ∧ Below w.heap.size w w' := by
  have HR0 := Aside0.mk hr0
  have HC0 := Aside0.mk hc0
  clear hr0 hc0
  have HR1 := Aside0.mk hr1
  have HC1 := Aside0.mk hc1
  clear hr1 hc1
  have HB := Aside0.mk (Below.refl w.heap.size w)
  have H : ((spec_rpOpen.f k l0).bind fun t173 => ((spec_rpOpen.f k l1).bind fun t176 => (spec_rpRanges.l0 k t173 t176 ([] : List (List Int)) (t173.length : Int) 0))) = some r := h
  clear h
  replace H := Option.bind_eq_some_iff.mp H
  obtain ⟨t173, A30, H⟩ := H
  replace H : ((spec_rpOpen.f k l1).bind fun t176 => (spec_rpRanges.l0 k t173 t176 ([] : List (List Int)) (t173.length : Int) 0)) = some r := H
  have A3 := Aside0.mk A30
  clear A30
  replace H := Option.bind_eq_some_iff.mp H
  obtain ⟨t176, A40, H⟩ := H
  replace H : (spec_rpRanges.l0 k t173 t176 ([] : List (List Int)) (t173.length : Int) 0) = some r := H
  have A4 := Aside0.mk A40
  clear A40
  have H' := Aside0.mk H
  clear H
  go_enter Try.func54, Try.ntmps54
  go_wp2_with (first | ((with_reducible refine gate_callee (f := 86) rfl ?_); refine goesL_ (some 12) rfl rfl Try.func86 (by kernel_rfl) rfl #[.slice A0 l0.length c0] rfl (by (try simp only [List.map_toArray, List.map_cons, List.map_nil]); first | done | rfl | (simp only [List.length_drop, List.length_take]; rfl)) ?_; (with_reducible refine (spec_rpOpen.calls k _ _ l0 t173 _ ?side1 ?side2 A3.out).mono ?_); (case side1 => repeat (first | exact HR0.out | (with_reducible refine Kd.C_alloc ?_ _) | (with_reducible refine Kd.C_drewN ?_ _) | (with_reducible refine Kd.C_drew ?_))); (case side2 => exact HC0.out); rintro e w5 ⟨v174, rfl, ho0, hb⟩; refine ⟨_, rfl, ?_⟩; have n0_ := Aside0.mk (Kd.S_lower ho0 (below_size (by repeat (first | (with_reducible first | exact HB.out | apply below_alloc | apply pw_below_drewN | apply below_drew1) | exact HB.out)))); have n1_ := Aside0.mk (below_step (by repeat (first | (with_reducible first | exact HB.out | apply below_alloc | apply pw_below_drewN | apply below_drew1) | exact HB.out)) hb); clear HB; have HO175 := n0_; have HB := n1_; clear n0_ n1_; (try clear hb); (try clear hb2); (try clear hk); (try clear hi); (try clear ho0)) | ((with_reducible refine gate_callee (f := 86) rfl ?_); refine goesL_ (some 14) rfl rfl Try.func86 (by kernel_rfl) rfl #[.slice A1 l1.length c1] rfl (by (try simp only [List.map_toArray, List.map_cons, List.map_nil]); first | done | rfl | (simp only [List.length_drop, List.length_take]; rfl)) ?_; (with_reducible refine (spec_rpOpen.calls k _ _ l1 t176 _ ?side1 ?side2 A4.out).mono ?_); (case side1 => repeat (first | exact (Kd.C_below HR1.out HB.out) | (with_reducible refine Kd.C_alloc ?_ _) | (with_reducible refine Kd.C_drewN ?_ _) | (with_reducible refine Kd.C_drew ?_))); (case side2 => exact HC1.out); rintro e w6 ⟨v177, rfl, ho0, hb⟩; refine ⟨_, rfl, ?_⟩; have n0_ := Aside0.mk (Kd.S_elder' (by (with_reducible repeat (first | apply Kd.S_alloc | apply Kd.S_drewN | apply Kd.S_drew)); exact HO175.out) (Kd.S_base ho0) hb); have n1_ := Aside0.mk (Kd.S_lower (Kd.S_new' ho0 (Kd.S_lt (by (with_reducible repeat (first | apply Kd.S_alloc | apply Kd.S_drewN | apply Kd.S_drew)); exact HO175.out))) (below_size (by repeat (first | (with_reducible first | exact HB.out | apply below_alloc | apply pw_below_drewN | apply below_drew1) | exact HB.out)))); have n2_ := Aside0.mk (below_step (by repeat (first | (with_reducible first | exact HB.out | apply below_alloc | apply pw_below_drewN | apply below_drew1) | exact HB.out)) hb); clear HO175; clear HB; have HO175 := n0_; have HO178 := n1_; have HB := n2_; clear n0_ n1_ n2_; (try clear hb); (try clear hb2); (try clear hk); (try clear hi); (try clear ho0); obtain ⟨Ao7, co7, eo7⟩ := Kd.S_slice HO175.out; subst eo7))
  go_loopg [7, 17] k (fun kq v7 v17 w' => ∃ (x7_1 : List (List Int)) (x17_1 : Int), v17 = .int .i64 x17_1 ∧ Aside0 (spec_rpRanges.l0 kq t173 t176 x7_1 (t173.length : Int) x17_1 = some r) ∧ Aside0 (kq ≤ k) ∧ Aside0 (Kd.S (Kd.slice 4 Kd.bool) 93 w' w.heap.size (fun k_ => some k_ ≠ (v177 : Value).ownBlock) (.slice Ao7 t173.length co7) t173) ∧ Aside0 (Kd.S (Kd.slice 4 Kd.bool) 93 w' w.heap.size (fun k_ => some k_ ≠ ((.slice Ao7 t173.length co7) : Value).ownBlock) v177 t176) ∧ Aside0 (Kd.S (Kd.slice 3 (Kd.int .i64)) 34 w' w.heap.size (fun _ => True) v7 x7_1) ∧ Aside0 (Below w.heap.size w w'))
  case atStart => exact ⟨(([] : List (List Int))), (0), (by first | rfl | (simp; done) | (simp [*]; done)), H', ⟨Nat.le_refl _⟩, ⟨by (with_reducible repeat (first | apply Kd.S_alloc | apply Kd.S_drewN | apply Kd.S_drew)); exact Kd.S_mono HO175.out (fun _ hk => hk.2)⟩, ⟨by (with_reducible repeat (first | apply Kd.S_alloc | apply Kd.S_drewN | apply Kd.S_drew)); exact Kd.S_mono HO178.out (fun _ hk => hk.2)⟩, ⟨by first | exact Kd.S_nil _ _ _ _ _ | exact Kd.N_nil _ _ _ _ _ | exact Kd.V_nil _ _ _ _ _ | exact Kd.Q_nil _ _ _ _ _ | exact Kd.R_nil _ _ _ _ _⟩, ⟨by repeat (first | (with_reducible first | exact HB.out | apply below_alloc | apply pw_below_drewN | apply below_drew1) | exact HB.out)⟩⟩
  case round =>
    clear H'
    try clear c1
    try clear p2
    try clear c5
    obtain ⟨x7_1, x17_1, rfl, HA, HK1, HO_5, HO_6, HO_7, HB⟩ := hrel
    cases gk with
    | zero => exact absurd HA.out (by simp [spec_rpRanges.l0])
    | succ k1 =>
      have H := HA.out
      clear HA
      simp only [spec_rpRanges.l0] at H
      by_cases c8 : x17_1 < (t173.length : Int)
      · rw [if_pos c8] at H
        have c8b0 : decide (x17_1 < (t173.length : Int)) = true := decide_eq_true c8
        clear c8
        by_cases c9 : 0 ≤ x17_1
        · rw [if_pos c9] at H
          have c9b0 : decide (0 ≤ x17_1) = true := decide_eq_true c9
          clear c9
          by_cases c10 : x17_1 < (t173.length : Int)
          · rw [if_pos c10] at H
            have c10b0 : decide (x17_1 < (t173.length : Int)) = true := decide_eq_true c10
            clear c10
            have H' := Aside0.mk H
            clear H
            have p179 : 0 ≤ (x17_1 : Int) := of_decide_eq_true (by first | (with_reducible assumption) | assumption)
            have q179 : x17_1 < (t173.length : Int) := of_decide_eq_true (by first | (with_reducible assumption) | assumption)
            obtain ⟨ad179, A179_0, c179_0, e179, hx179_0, hl179_0, hi179_0⟩ := at_L5 (Kd.S_reads' HO_5.out).2.2 x17_1 p179 q179
            cases e179
            obtain ⟨ce179, hce179, hMe179, hcc179⟩ := Kd.S_get HO_5.out [] x17_1 p179 (by first | exact q179 | exact of_decide_eq_true (by first | (with_reducible assumption) | assumption) | (have e_ := (Kd.S_reads' HO_5.out).1; omega))
            obtain ⟨ve179_0, rfl, ge179_0⟩ := hMe179
            have hv179_0 := hcc179 0 _ rfl
            rw [Nat.add_zero, show ((Kd.slice 4 Kd.bool)).sz = 1 from rfl, Nat.mul_one] at hv179_0
            replace hv179_0 := Option.some.inj (hv179_0.symm.trans hx179_0)
            rw [hv179_0] at ge179_0
            have HL179_0 := Aside0.mk (show Kd.R Kd.bool 4 _ _ _ _ (rd_L5 t173 x17_1) from ge179_0)
            clear hv179_0 ge179_0
            have HX179_0 := Aside0.mk hx179_0
            clear hcc179 hce179
            have HR179_0 := Aside0.mk hi179_0
            have HC179_0 := Aside0.mk hl179_0
            clear hi179_0 hl179_0
            replace p179 := eq_true p179
            replace q179 := eq_true q179
            go_wp2
            go_loopg [7, 25] k1 (fun kq v7 v25 w' => ∃ (x7_2 : List (List Int)) (x25_2 : Int), v25 = .int .i64 x25_2 ∧ Aside0 (spec_rpRanges.l1 kq t173 t176 x7_2 x17_1 (t173.length : Int) x17_1 ((rd_L5 t173 x17_1).length : Int) x25_2 = some r) ∧ Aside0 (kq ≤ k1) ∧ Aside0 (Kd.S (Kd.slice 4 Kd.bool) 93 w' w.heap.size (fun k_ => some k_ ≠ (v177 : Value).ownBlock) (.slice (some ad179) t173.length co7) t173) ∧ Aside0 (Kd.S (Kd.slice 4 Kd.bool) 93 w' w.heap.size (fun k_ => some k_ ≠ ((.slice (some ad179) t173.length co7) : Value).ownBlock) v177 t176) ∧ Aside0 (Kd.S (Kd.slice 3 (Kd.int .i64)) 34 w' w.heap.size (fun _ => True) v7 x7_2) ∧ Aside0 (Below w.heap.size w w'))
            case atStart => exact ⟨(x7_1), (0), (by first | rfl | (simp; done) | (simp [*]; done)), H', ⟨Nat.le_refl _⟩, ⟨by (with_reducible repeat (first | apply Kd.S_alloc | apply Kd.S_drewN | apply Kd.S_drew)); exact HO_5.out⟩, ⟨by (with_reducible repeat (first | apply Kd.S_alloc | apply Kd.S_drewN | apply Kd.S_drew)); exact HO_6.out⟩, ⟨by (with_reducible repeat (first | apply Kd.S_alloc | apply Kd.S_drewN | apply Kd.S_drew)); exact HO_7.out⟩, ⟨by repeat (first | (with_reducible first | exact HB.out | apply below_alloc | apply pw_below_drewN | apply below_drew1) | exact HB.out)⟩⟩
            case round =>
              clear H'
              try clear c1
              try clear p1
              try clear q1
              try clear hx1
              try clear p2
              try clear c5
              try clear c8
              try clear c8b0
              try clear c9
              try clear c9b0
              try clear c10
              try clear c10b0
              try clear hx179_0
              try clear p179
              try clear p2
              try clear q179
              obtain ⟨x7_2, x25_2, rfl, HA, HK2, HO_5, HO_6, HO_7, HB⟩ := hrel
              cases gk with
              | zero => exact absurd HA.out (by simp [spec_rpRanges.l1])
              | succ k2 =>
                have H := HA.out
                clear HA
                simp only [spec_rpRanges.l1] at H
                by_cases c11 : x25_2 < ((rd_L5 t173 x17_1).length : Int)
                · rw [if_pos c11] at H
                  have c11b0 : decide (x25_2 < ((rd_L5 t173 x17_1).length : Int)) = true := decide_eq_true c11
                  clear c11
                  have HC12 := Aside0.mk H
                  clear H
                  go_upto_region 9 with (fail)
                  go_cut [44] (fun v44 wc => ∃ (kq : Nat) (x44_11 : Bool), v44 = .bool x44_11 ∧ Aside0 (spec_rpRanges.j2 kq t173 t176 x7_2 x17_1 x25_2 (t173.length : Int) x17_1 ((rd_L5 t173 x17_1).length : Int) x25_2 x44_11 = some r) ∧ Aside0 (kq ≤ k2) ∧ Aside0 (Kd.S (Kd.slice 4 Kd.bool) 93 wc w.heap.size (fun k_ => some k_ ≠ (v177 : Value).ownBlock) (.slice (some ad179) t173.length co7) t173) ∧ Aside0 (Kd.S (Kd.slice 4 Kd.bool) 93 wc w.heap.size (fun k_ => some k_ ≠ ((.slice (some ad179) t173.length co7) : Value).ownBlock) v177 t176) ∧ Aside0 (Kd.S (Kd.slice 3 (Kd.int .i64)) 34 wc w.heap.size (fun _ => True) u7 x7_2) ∧ Aside0 (Below w.heap.size w wc))
                  case first =>
                    have H := HC12.out
                    clear HC12
                    by_cases c13 : 0 ≤ x17_1
                    · rw [if_pos c13] at H
                      have c13b0 : decide (0 ≤ x17_1) = true := decide_eq_true c13
                      clear c13
                      (first | rw [c13b0] | (simp only [i64_w, i32_w]; rw [c13b0]) | skip)
                      by_cases c14 : x17_1 < (t173.length : Int)
                      · rw [if_pos c14] at H
                        have c14b0 : decide (x17_1 < (t173.length : Int)) = true := decide_eq_true c14
                        clear c14
                        by_cases c15 : 0 ≤ x25_2
                        · rw [if_pos c15] at H
                          have c15b0 : decide (0 ≤ x25_2) = true := decide_eq_true c15
                          clear c15
                          by_cases c16 : x25_2 < ((rd_L5 t173 x17_1).length : Int)
                          · rw [if_pos c16] at H
                            have c16b0 : decide (x25_2 < ((rd_L5 t173 x17_1).length : Int)) = true := decide_eq_true c16
                            clear c16
                            obtain ⟨bq17, hbq17⟩ : ∃ b_ : Bool, b_ = (rdOf false (rd_L5 t173 x17_1) x25_2) := ⟨_, rfl⟩
                            replace H : (if (bq17 = true) then (if x17_1 < (t176.length : Int) then (if x25_2 < ((rd_L5 t176 x17_1).length : Int) then (spec_rpRanges.j2 k2 t173 t176 x7_2 x17_1 x25_2 (t173.length : Int) x17_1 ((rd_L5 t173 x17_1).length : Int) x25_2 (rdOf false (rd_L5 t176 x17_1) x25_2)) else (none)) else (none)) else (spec_rpRanges.j2 k2 t173 t176 x7_2 x17_1 x25_2 (t173.length : Int) x17_1 ((rd_L5 t173 x17_1).length : Int) x25_2 true)) = some r := by rw [← hbq17] at H; exact H
                            have Nbq17 := Aside0.mk hbq17
                            clear hbq17
                            by_cases c18 : (bq17 = true)
                            · subst c18
                              have H1 : (if x17_1 < (t176.length : Int) then (if x25_2 < ((rd_L5 t176 x17_1).length : Int) then (spec_rpRanges.j2 k2 t173 t176 x7_2 x17_1 x25_2 (t173.length : Int) x17_1 ((rd_L5 t173 x17_1).length : Int) x25_2 (rdOf false (rd_L5 t176 x17_1) x25_2)) else (none)) else (none)) = some r := by rw [if_pos rfl] at H; exact H
                              clear H
                              have H := H1
                              clear H1
                              by_cases c19 : x17_1 < (t176.length : Int)
                              · rw [if_pos c19] at H
                                have c19b0 : decide (x17_1 < (t176.length : Int)) = true := decide_eq_true c19
                                clear c19
                                by_cases c20 : x25_2 < ((rd_L5 t176 x17_1).length : Int)
                                · rw [if_pos c20] at H
                                  have c20b0 : decide (x25_2 < ((rd_L5 t176 x17_1).length : Int)) = true := decide_eq_true c20
                                  clear c20
                                  have H' := Aside0.mk H
                                  clear H
                                  have p180 : 0 ≤ (x17_1 : Int) := of_decide_eq_true (by first | (with_reducible assumption) | assumption)
                                  have q180 : x17_1 < (t173.length : Int) := of_decide_eq_true (by first | (with_reducible assumption) | assumption)
                                  obtain ⟨ad180, A180_0, c180_0, e180, hx180_0, hl180_0, hi180_0⟩ := at_L5 (Kd.S_reads' HO_5.out).2.2 x17_1 p180 q180
                                  obtain rfl : ad179 = ad180 := (by injection e180)
                                  obtain ⟨ce180, hce180, hMe180, hcc180⟩ := Kd.S_get HO_5.out [] x17_1 p180 (by first | exact q180 | exact of_decide_eq_true (by first | (with_reducible assumption) | assumption) | (have e_ := (Kd.S_reads' HO_5.out).1; omega))
                                  obtain ⟨ve180_0, rfl, ge180_0⟩ := hMe180
                                  have hv180_0 := hcc180 0 _ rfl
                                  rw [Nat.add_zero, show ((Kd.slice 4 Kd.bool)).sz = 1 from rfl, Nat.mul_one] at hv180_0
                                  replace hv180_0 := Option.some.inj (hv180_0.symm.trans hx180_0)
                                  rw [hv180_0] at ge180_0
                                  have HL180_0 := Aside0.mk (show Kd.R Kd.bool 4 _ _ _ _ (rd_L5 t173 x17_1) from ge180_0)
                                  clear hv180_0 ge180_0
                                  have HX180_0 := Aside0.mk hx180_0
                                  clear hcc180 hce180
                                  have HR180_0 := Aside0.mk hi180_0
                                  have HC180_0 := Aside0.mk hl180_0
                                  clear hi180_0 hl180_0
                                  replace p180 := eq_true p180
                                  replace q180 := eq_true q180
                                  have p181 : 0 ≤ (x25_2 : Int) := of_decide_eq_true (by first | (with_reducible assumption) | assumption)
                                  have q181 : x25_2 < ((rd_L5 t173 x17_1).length : Int) := of_decide_eq_true (by first | (with_reducible assumption) | assumption)
                                  obtain ⟨ad181, e181, hx181_0⟩ := Kd.at_bool (by repeat (first | (with_reducible exact HR180_0.out) | (with_reducible refine Kd.C_alloc ?_ _) | (with_reducible refine Kd.C_drewN ?_ _) | (with_reducible refine Kd.C_drew ?_) | exact HR180_0.out)) x25_2 p181 q181
                                  (try rw [← Nbq17.out] at hx181_0)
                                  cases e181
                                  replace p181 := eq_true p181
                                  replace q181 := eq_true q181
                                  obtain ⟨Ao21, co21, eo21⟩ := Kd.S_slice HO_6.out
                                  subst eo21
                                  have p182 : 0 ≤ (x17_1 : Int) := of_decide_eq_true (by first | (with_reducible assumption) | assumption)
                                  have q182 : x17_1 < (t176.length : Int) := of_decide_eq_true (by first | (with_reducible assumption) | assumption)
                                  obtain ⟨ad182, A182_0, c182_0, e182, hx182_0, hl182_0, hi182_0⟩ := at_L5 (Kd.S_reads' HO_6.out).2.2 x17_1 p182 q182
                                  cases e182
                                  obtain ⟨ce182, hce182, hMe182, hcc182⟩ := Kd.S_get HO_6.out [] x17_1 p182 (by first | exact q182 | exact of_decide_eq_true (by first | (with_reducible assumption) | assumption) | (have e_ := (Kd.S_reads' HO_6.out).1; omega))
                                  obtain ⟨ve182_0, rfl, ge182_0⟩ := hMe182
                                  have hv182_0 := hcc182 0 _ rfl
                                  rw [Nat.add_zero, show ((Kd.slice 4 Kd.bool)).sz = 1 from rfl, Nat.mul_one] at hv182_0
                                  replace hv182_0 := Option.some.inj (hv182_0.symm.trans hx182_0)
                                  rw [hv182_0] at ge182_0
                                  have HL182_0 := Aside0.mk (show Kd.R Kd.bool 4 _ _ _ _ (rd_L5 t176 x17_1) from ge182_0)
                                  clear hv182_0 ge182_0
                                  have HX182_0 := Aside0.mk hx182_0
                                  clear hcc182 hce182
                                  have HR182_0 := Aside0.mk hi182_0
                                  have HC182_0 := Aside0.mk hl182_0
                                  clear hi182_0 hl182_0
                                  replace p182 := eq_true p182
                                  replace q182 := eq_true q182
                                  have p183 : 0 ≤ (x25_2 : Int) := of_decide_eq_true (by first | (with_reducible assumption) | assumption)
                                  have q183 : x25_2 < ((rd_L5 t176 x17_1).length : Int) := of_decide_eq_true (by first | (with_reducible assumption) | assumption)
                                  obtain ⟨ad183, e183, hx183_0⟩ := Kd.at_bool (by repeat (first | (with_reducible exact HR182_0.out) | (with_reducible refine Kd.C_alloc ?_ _) | (with_reducible refine Kd.C_drewN ?_ _) | (with_reducible refine Kd.C_drew ?_) | exact HR182_0.out)) x25_2 p183 q183
                                  (try rw [← Nbq17.out] at hx183_0)
                                  cases e183
                                  replace p183 := eq_true p183
                                  replace q183 := eq_true q183
                                  go_wp2
                                  go_meet
                                  case rel => exact ⟨_, (rdOf false (rd_L5 t176 x17_1) x25_2), (by first | rfl | (simp; done) | (simp [*]; done)), H', ⟨by have := HK1.out; have := HK2.out; first | omega | exact Nat.le_refl _⟩, ⟨by (with_reducible repeat (first | apply Kd.S_alloc | apply Kd.S_drewN | apply Kd.S_drew)); exact HO_5.out⟩, ⟨by (with_reducible repeat (first | apply Kd.S_alloc | apply Kd.S_drewN | apply Kd.S_drew)); exact HO_6.out⟩, ⟨by (with_reducible repeat (first | apply Kd.S_alloc | apply Kd.S_drewN | apply Kd.S_drew)); exact HO_7.out⟩, ⟨by repeat (first | (with_reducible first | exact HB.out | apply below_alloc | apply pw_below_drewN | apply below_drew1) | exact HB.out)⟩⟩
                                · rw [if_neg c20] at H
                                  exact absurd H (by simp)
                              · rw [if_neg c19] at H
                                exact absurd H (by simp)
                            · replace c18 := Bool.eq_false_iff.mpr c18
                              subst c18
                              have H1 : (spec_rpRanges.j2 k2 t173 t176 x7_2 x17_1 x25_2 (t173.length : Int) x17_1 ((rd_L5 t173 x17_1).length : Int) x25_2 true) = some r := by rw [if_neg (show ¬ (false = true) by decide)] at H; exact H
                              clear H
                              have H := H1
                              clear H1
                              have H' := Aside0.mk H
                              clear H
                              have p180 : 0 ≤ (x17_1 : Int) := of_decide_eq_true (by first | (with_reducible assumption) | assumption)
                              have q180 : x17_1 < (t173.length : Int) := of_decide_eq_true (by first | (with_reducible assumption) | assumption)
                              obtain ⟨ad180, A180_0, c180_0, e180, hx180_0, hl180_0, hi180_0⟩ := at_L5 (Kd.S_reads' HO_5.out).2.2 x17_1 p180 q180
                              obtain rfl : ad179 = ad180 := (by injection e180)
                              obtain ⟨ce180, hce180, hMe180, hcc180⟩ := Kd.S_get HO_5.out [] x17_1 p180 (by first | exact q180 | exact of_decide_eq_true (by first | (with_reducible assumption) | assumption) | (have e_ := (Kd.S_reads' HO_5.out).1; omega))
                              obtain ⟨ve180_0, rfl, ge180_0⟩ := hMe180
                              have hv180_0 := hcc180 0 _ rfl
                              rw [Nat.add_zero, show ((Kd.slice 4 Kd.bool)).sz = 1 from rfl, Nat.mul_one] at hv180_0
                              replace hv180_0 := Option.some.inj (hv180_0.symm.trans hx180_0)
                              rw [hv180_0] at ge180_0
                              have HL180_0 := Aside0.mk (show Kd.R Kd.bool 4 _ _ _ _ (rd_L5 t173 x17_1) from ge180_0)
                              clear hv180_0 ge180_0
                              have HX180_0 := Aside0.mk hx180_0
                              clear hcc180 hce180
                              have HR180_0 := Aside0.mk hi180_0
                              have HC180_0 := Aside0.mk hl180_0
                              clear hi180_0 hl180_0
                              replace p180 := eq_true p180
                              replace q180 := eq_true q180
                              have p181 : 0 ≤ (x25_2 : Int) := of_decide_eq_true (by first | (with_reducible assumption) | assumption)
                              have q181 : x25_2 < ((rd_L5 t173 x17_1).length : Int) := of_decide_eq_true (by first | (with_reducible assumption) | assumption)
                              obtain ⟨ad181, e181, hx181_0⟩ := Kd.at_bool (by repeat (first | (with_reducible exact HR180_0.out) | (with_reducible refine Kd.C_alloc ?_ _) | (with_reducible refine Kd.C_drewN ?_ _) | (with_reducible refine Kd.C_drew ?_) | exact HR180_0.out)) x25_2 p181 q181
                              (try rw [← Nbq17.out] at hx181_0)
                              cases e181
                              replace p181 := eq_true p181
                              replace q181 := eq_true q181
                              go_wp2
                              go_meet
                              case rel => exact ⟨_, (true), (by first | rfl | (simp; done) | (simp [*]; done)), H', ⟨by have := HK1.out; have := HK2.out; first | omega | exact Nat.le_refl _⟩, ⟨by (with_reducible repeat (first | apply Kd.S_alloc | apply Kd.S_drewN | apply Kd.S_drew)); exact HO_5.out⟩, ⟨by (with_reducible repeat (first | apply Kd.S_alloc | apply Kd.S_drewN | apply Kd.S_drew)); exact HO_6.out⟩, ⟨by (with_reducible repeat (first | apply Kd.S_alloc | apply Kd.S_drewN | apply Kd.S_drew)); exact HO_7.out⟩, ⟨by repeat (first | (with_reducible first | exact HB.out | apply below_alloc | apply pw_below_drewN | apply below_drew1) | exact HB.out)⟩⟩
                          · rw [if_neg c16] at H
                            exact absurd H (by simp)
                        · rw [if_neg c15] at H
                          exact absurd H (by simp)
                      · rw [if_neg c14] at H
                        exact absurd H (by simp)
                    · rw [if_neg c13] at H
                      exact absurd H (by simp)
                  case rest =>
                    clear HC12
                    try clear c1
                    try clear p1
                    try clear q1
                    try clear hx1
                    try clear c2
                    try clear p2
                    try clear c5
                    try clear c8
                    try clear c8b0
                    try clear c9
                    try clear c9b0
                    try clear c10
                    try clear c10b0
                    try clear c11
                    try clear c11b0
                    try clear c13
                    try clear c13b0
                    try clear c14
                    try clear c14b0
                    try clear c15
                    try clear c15b0
                    try clear c16
                    try clear c16b0
                    try clear c17
                    try clear p17
                    try clear q17
                    try clear hx17
                    try clear c18
                    try clear p18
                    try clear q18
                    try clear hx18
                    try clear c19
                    try clear c19b0
                    try clear c20
                    try clear c20b0
                    try clear hx179_0
                    try clear hx180_0
                    try clear hx181_0
                    try clear hx182_0
                    try clear hx183_0
                    try clear p1
                    try clear p179
                    try clear p180
                    try clear p181
                    try clear p182
                    try clear p183
                    try clear p2
                    try clear q1
                    try clear q179
                    try clear q180
                    try clear q181
                    try clear q182
                    try clear q183
                    obtain ⟨kq, x44_11, rfl, HA, HJ11, HO_5, HO_6, HO_7, HB⟩ := hcut
                    cases kq with
                    | zero => exact absurd HA.out (by simp [spec_rpRanges.j2])
                    | succ kj11 =>
                      have H := HA.out
                      clear HA
                      simp only [spec_rpRanges.j2] at H
                      by_cases c22 : x44_11 = true
                      · subst c22
                        have H1 : (spec_rpRanges.l1 kj11 t173 t176 x7_2 x17_1 (t173.length : Int) x17_1 ((rd_L5 t173 x17_1).length : Int) (wrap64 (x25_2 + 1))) = some r := by rw [if_pos rfl] at H; exact H
                        clear H
                        have H := H1
                        clear H1
                        have H' := Aside0.mk H
                        clear H
                        go_wp2
                        go_roundg kj11
                        case measure => have := HK1.out; have := HK2.out; have := HJ11.out; omega
                        case rel => exact ⟨(x7_2), (wrap64 (x25_2 + 1)), (by first | rfl | (simp; done) | (simp [*]; done)), H', ⟨by have := HK1.out; have := HK2.out; have := HJ11.out; omega⟩, ⟨by (with_reducible repeat (first | apply Kd.S_alloc | apply Kd.S_drewN | apply Kd.S_drew)); exact HO_5.out⟩, ⟨by (with_reducible repeat (first | apply Kd.S_alloc | apply Kd.S_drewN | apply Kd.S_drew)); exact HO_6.out⟩, ⟨by (with_reducible repeat (first | apply Kd.S_alloc | apply Kd.S_drewN | apply Kd.S_drew)); exact HO_7.out⟩, ⟨by repeat (first | (with_reducible first | exact HB.out | apply below_alloc | apply pw_below_drewN | apply below_drew1) | exact HB.out)⟩⟩
                      · replace c22 := Bool.eq_false_iff.mpr c22
                        subst c22
                        have H1 : (if (x7_2.length : Int) > 0 then (if 0 ≤ (wrap64 ((x7_2.length : Int) - 1)) then (if (wrap64 ((x7_2.length : Int) - 1)) < (x7_2.length : Int) then (if 0 < ((rd_L3 x7_2 (wrap64 ((x7_2.length : Int) - 1))).length : Int) then (if (rd (rd_L3 x7_2 (wrap64 ((x7_2.length : Int) - 1))) 0) = x17_1 then (if 2 < ((rd_L3 x7_2 (wrap64 ((x7_2.length : Int) - 1))).length : Int) then (if (rd (rd_L3 x7_2 (wrap64 ((x7_2.length : Int) - 1))) 2) = x25_2 then (spec_rpRanges.l1 kj11 t173 t176 (x7_2.set ((wrap64 ((x7_2.length : Int) - 1)) : Int).toNat ((rd_L3 x7_2 (wrap64 ((x7_2.length : Int) - 1))).set (2 : Int).toNat (wrap64 ((rd (rd_L3 x7_2 (wrap64 ((x7_2.length : Int) - 1))) 2) + 1)))) x17_1 (t173.length : Int) x17_1 ((rd_L5 t173 x17_1).length : Int) (wrap64 (x25_2 + 1))) else (if x7_2.length < 5864062014805 then (spec_rpRanges.l1 kj11 t173 t176 (x7_2 ++ [(([x17_1, x25_2, wrap64 (x25_2 + 1)] : List Int))]) x17_1 (t173.length : Int) x17_1 ((rd_L5 t173 x17_1).length : Int) (wrap64 (x25_2 + 1))) else (none))) else (none)) else (if x7_2.length < 5864062014805 then (spec_rpRanges.l1 kj11 t173 t176 (x7_2 ++ [(([x17_1, x25_2, wrap64 (x25_2 + 1)] : List Int))]) x17_1 (t173.length : Int) x17_1 ((rd_L5 t173 x17_1).length : Int) (wrap64 (x25_2 + 1))) else (none))) else (none)) else (none)) else (none)) else (if x7_2.length < 5864062014805 then (spec_rpRanges.l1 kj11 t173 t176 (x7_2 ++ [(([x17_1, x25_2, wrap64 (x25_2 + 1)] : List Int))]) x17_1 (t173.length : Int) x17_1 ((rd_L5 t173 x17_1).length : Int) (wrap64 (x25_2 + 1))) else (none))) = some r := by rw [if_neg (show ¬ (false = true) by decide)] at H; exact H
                        clear H
                        have H := H1
                        clear H1
                        by_cases c23 : (x7_2.length : Int) > 0
                        · rw [if_pos c23] at H
                          have c23b0 : decide (0 < (x7_2.length : Int)) = true := decide_eq_true c23
                          have c23b1 : decide (0 < x7_2.length) = true := decide_eq_true (by omega)
                          clear c23
                          obtain ⟨ji24, hji24⟩ : ∃ j_ : Int, (wrap64 ((x7_2.length : Int) - 1)) = j_ := ⟨_, rfl⟩
                          replace H : (if 0 ≤ (ji24) then (if (ji24) < (x7_2.length : Int) then (if 0 < ((rd_L3 x7_2 (ji24)).length : Int) then (if (rd (rd_L3 x7_2 (ji24)) 0) = x17_1 then (if 2 < ((rd_L3 x7_2 (ji24)).length : Int) then (if (rd (rd_L3 x7_2 (ji24)) 2) = x25_2 then (spec_rpRanges.l1 kj11 t173 t176 (x7_2.set ((ji24) : Int).toNat ((rd_L3 x7_2 (ji24)).set (2 : Int).toNat (wrap64 ((rd (rd_L3 x7_2 (ji24)) 2) + 1)))) x17_1 (t173.length : Int) x17_1 ((rd_L5 t173 x17_1).length : Int) (wrap64 (x25_2 + 1))) else (if x7_2.length < 5864062014805 then (spec_rpRanges.l1 kj11 t173 t176 (x7_2 ++ [(([x17_1, x25_2, wrap64 (x25_2 + 1)] : List Int))]) x17_1 (t173.length : Int) x17_1 ((rd_L5 t173 x17_1).length : Int) (wrap64 (x25_2 + 1))) else (none))) else (none)) else (if x7_2.length < 5864062014805 then (spec_rpRanges.l1 kj11 t173 t176 (x7_2 ++ [(([x17_1, x25_2, wrap64 (x25_2 + 1)] : List Int))]) x17_1 (t173.length : Int) x17_1 ((rd_L5 t173 x17_1).length : Int) (wrap64 (x25_2 + 1))) else (none))) else (none)) else (none)) else (none)) = some r := by first | (rw [hji24] at H; exact H) | (simp only [hji24] at H ⊢; exact H)
                          have hji24w : (IntKind.i64.wrap ((x7_2.length : Int) - 1)) = ji24 := (i64_w _).trans hji24
                          by_cases c25 : 0 ≤ (ji24)
                          · rw [if_pos c25] at H
                            have c25b0 : decide (0 ≤ (ji24)) = true := decide_eq_true c25
                            clear c25
                            by_cases c26 : (ji24) < (x7_2.length : Int)
                            · rw [if_pos c26] at H
                              have c26b0 : decide ((ji24) < (x7_2.length : Int)) = true := decide_eq_true c26
                              clear c26
                              by_cases c27 : 0 < ((rd_L3 x7_2 (ji24)).length : Int)
                              · rw [if_pos c27] at H
                                have c27b0 : decide (0 < ((rd_L3 x7_2 (ji24)).length : Int)) = true := decide_eq_true c27
                                have c27b1 : decide (0 < (rd_L3 x7_2 (ji24)).length) = true := decide_eq_true (by omega)
                                clear c27
                                by_cases c28 : (rd (rd_L3 x7_2 (ji24)) 0) = x17_1
                                · rw [if_pos c28] at H
                                  have c28b0 : ((rd (rd_L3 x7_2 (ji24)) 0) == x17_1) = true := beq_iff_eq.mpr c28
                                  have c28b1 : ((rd (rd_L3 x7_2 (ji24)) 0) != x17_1) = false := bne_eq_false_iff_eq.mpr c28
                                  clear c28
                                  by_cases c29 : 2 < ((rd_L3 x7_2 (ji24)).length : Int)
                                  · rw [if_pos c29] at H
                                    have c29b0 : decide (2 < ((rd_L3 x7_2 (ji24)).length : Int)) = true := decide_eq_true c29
                                    have c29b1 : decide (2 < (rd_L3 x7_2 (ji24)).length) = true := decide_eq_true (by omega)
                                    clear c29
                                    by_cases c30 : (rd (rd_L3 x7_2 (ji24)) 2) = x25_2
                                    · rw [if_pos c30] at H
                                      have c30b0 : ((rd (rd_L3 x7_2 (ji24)) 2) == x25_2) = true := beq_iff_eq.mpr c30
                                      have c30b1 : ((rd (rd_L3 x7_2 (ji24)) 2) != x25_2) = false := bne_eq_false_iff_eq.mpr c30
                                      clear c30
                                      obtain ⟨y190, hy190⟩ : ∃ y_ : List Int, y_ = ((rd_L3 x7_2 (ji24)).set (2 : Int).toNat (wrap64 ((rd (rd_L3 x7_2 (ji24)) 2) + 1))) := ⟨_, rfl⟩
                                      replace H : (spec_rpRanges.l1 kj11 t173 t176 (x7_2.set ((ji24) : Int).toNat y190) x17_1 (t173.length : Int) x17_1 ((rd_L5 t173 x17_1).length : Int) (wrap64 (x25_2 + 1))) = some r := by first | (rw [hy190]; with_reducible exact H) | (have H2_ := (Option.bind_some _ _).symm.trans H; rw [hy190]; with_reducible exact H2_) | (have H2_ := (Option.bind_some _ _).symm.trans H; with_reducible exact H2_) | with_reducible exact H | (rw [hy190]; exact H) | exact H
                                      have Ny190 := Aside0.mk hy190
                                      clear hy190
                                      obtain ⟨y192, hy192⟩ : ∃ y_ : List (List Int), y_ = (x7_2.set ((ji24) : Int).toNat y190) := ⟨_, rfl⟩
                                      replace H : (spec_rpRanges.l1 kj11 t173 t176 y192 x17_1 (t173.length : Int) x17_1 ((rd_L5 t173 x17_1).length : Int) (wrap64 (x25_2 + 1))) = some r := by first | (rw [hy192]; with_reducible exact H) | (have H2_ := (Option.bind_some _ _).symm.trans H; rw [hy192]; with_reducible exact H2_) | (have H2_ := (Option.bind_some _ _).symm.trans H; with_reducible exact H2_) | with_reducible exact H | (rw [hy192]; exact H) | exact H
                                      have Ny192 := Aside0.mk hy192
                                      clear hy192
                                      have H' := Aside0.mk H
                                      clear H
                                      obtain ⟨Ao32, co32, eo32⟩ := Kd.S_slice HO_7.out
                                      subst eo32
                                      have p184 : 0 ≤ ((ji24) : Int) := of_decide_eq_true (by first | (with_reducible assumption) | assumption)
                                      have q184 : (ji24) < (x7_2.length : Int) := of_decide_eq_true (by first | (with_reducible assumption) | assumption)
                                      obtain ⟨ad184, A184_0, c184_0, e184, hx184_0, hl184_0, hi184_0⟩ := at_L3 (Kd.S_reads' HO_7.out).2.2 (ji24) p184 q184
                                      cases e184
                                      obtain ⟨ce184, hce184, hMe184, hcc184⟩ := Kd.S_get HO_7.out [] (ji24) p184 (by first | exact q184 | exact of_decide_eq_true (by first | (with_reducible assumption) | assumption) | (have e_ := (Kd.S_reads' HO_7.out).1; omega))
                                      obtain ⟨ve184_0, rfl, ge184_0⟩ := hMe184
                                      have hv184_0 := hcc184 0 _ rfl
                                      rw [Nat.add_zero, show ((Kd.slice 3 (Kd.int .i64))).sz = 1 from rfl, Nat.mul_one] at hv184_0
                                      replace hv184_0 := Option.some.inj (hv184_0.symm.trans hx184_0)
                                      rw [hv184_0] at ge184_0
                                      have HL184_0 := Aside0.mk (show Kd.R (Kd.int .i64) 3 _ _ _ _ (rd_L3 x7_2 (ji24)) from ge184_0)
                                      clear hv184_0 ge184_0
                                      have HX184_0 := Aside0.mk hx184_0
                                      clear hcc184 hce184
                                      have HR184_0 := Aside0.mk hi184_0
                                      have HC184_0 := Aside0.mk hl184_0
                                      clear hi184_0 hl184_0
                                      replace p184 := eq_true p184
                                      replace q184 := eq_true q184
                                      have p185 : 0 ≤ (0 : Int) := (by omega)
                                      have q185 : 0 < ((rd_L3 x7_2 (ji24)).length : Int) := of_decide_eq_true (by first | (with_reducible assumption) | assumption)
                                      obtain ⟨ad185, e185, hx185_0⟩ := Kd.at_int (by repeat (first | (with_reducible exact HR184_0.out) | (with_reducible refine Kd.C_alloc ?_ _) | (with_reducible refine Kd.C_drewN ?_ _) | (with_reducible refine Kd.C_drew ?_) | exact HR184_0.out)) 0 p185 q185
                                      cases e185
                                      have qi185 : (0 < (rd_L3 x7_2 (ji24)).length) = True := eq_true (by omega)
                                      (try rw [show ((0 : Int)).toNat = 0 from rfl] at hx185_0)
                                      (try rw [Addr.add_zero'] at hx185_0)
                                      replace p185 := eq_true p185
                                      replace q185 := eq_true q185
                                      have p186 : 0 ≤ ((ji24) : Int) := of_decide_eq_true (by first | (with_reducible assumption) | assumption)
                                      have q186 : (ji24) < (x7_2.length : Int) := of_decide_eq_true (by first | (with_reducible assumption) | assumption)
                                      obtain ⟨ad186, A186_0, c186_0, e186, hx186_0, hl186_0, hi186_0⟩ := at_L3 (Kd.S_reads' HO_7.out).2.2 (ji24) p186 q186
                                      obtain rfl : ad184 = ad186 := (by injection e186)
                                      obtain ⟨ce186, hce186, hMe186, hcc186⟩ := Kd.S_get HO_7.out [] (ji24) p186 (by first | exact q186 | exact of_decide_eq_true (by first | (with_reducible assumption) | assumption) | (have e_ := (Kd.S_reads' HO_7.out).1; omega))
                                      obtain ⟨ve186_0, rfl, ge186_0⟩ := hMe186
                                      have hv186_0 := hcc186 0 _ rfl
                                      rw [Nat.add_zero, show ((Kd.slice 3 (Kd.int .i64))).sz = 1 from rfl, Nat.mul_one] at hv186_0
                                      replace hv186_0 := Option.some.inj (hv186_0.symm.trans hx186_0)
                                      rw [hv186_0] at ge186_0
                                      have HL186_0 := Aside0.mk (show Kd.R (Kd.int .i64) 3 _ _ _ _ (rd_L3 x7_2 (ji24)) from ge186_0)
                                      clear hv186_0 ge186_0
                                      have HX186_0 := Aside0.mk hx186_0
                                      clear hcc186 hce186
                                      have HR186_0 := Aside0.mk hi186_0
                                      have HC186_0 := Aside0.mk hl186_0
                                      clear hi186_0 hl186_0
                                      replace p186 := eq_true p186
                                      replace q186 := eq_true q186
                                      have ea_ := Option.some.inj (hx184_0.symm.trans hx186_0)
                                      injection ea_ with ea_ en_ ec_
                                      subst ea_
                                      subst ec_
                                      clear en_
                                      have p187 : 0 ≤ (2 : Int) := (by omega)
                                      have q187 : 2 < ((rd_L3 x7_2 (ji24)).length : Int) := of_decide_eq_true (by first | (with_reducible assumption) | assumption)
                                      obtain ⟨ad187, e187, hx187_0⟩ := Kd.at_int (by repeat (first | (with_reducible exact HR186_0.out) | (with_reducible refine Kd.C_alloc ?_ _) | (with_reducible refine Kd.C_drewN ?_ _) | (with_reducible refine Kd.C_drew ?_) | exact HR186_0.out)) 2 p187 q187
                                      cases e187
                                      (try simp only [show (2 : Int).toNat = 2 from rfl, Nat.reduceMul, Nat.reduceEqDiff, Go.Addr.add, ↓reduceIte] at hx187_0)
                                      have qi187 : (2 < (rd_L3 x7_2 (ji24)).length) = True := eq_true (by omega)
                                      (try rw [show ((2 : Int)).toNat = 2 from rfl] at hx187_0)
                                      replace p187 := eq_true p187
                                      replace q187 := eq_true q187
                                      have p188 : 0 ≤ ((ji24) : Int) := of_decide_eq_true (by first | (with_reducible assumption) | assumption)
                                      have q188 : (ji24) < (x7_2.length : Int) := of_decide_eq_true (by first | (with_reducible assumption) | assumption)
                                      obtain ⟨ad188, A188_0, c188_0, e188, hx188_0, hl188_0, hi188_0⟩ := at_L3 (Kd.S_reads' HO_7.out).2.2 (ji24) p188 q188
                                      obtain rfl : ad184 = ad188 := (by injection e188)
                                      obtain ⟨ce188, hce188, hMe188, hcc188⟩ := Kd.S_get HO_7.out [] (ji24) p188 (by first | exact q188 | exact of_decide_eq_true (by first | (with_reducible assumption) | assumption) | (have e_ := (Kd.S_reads' HO_7.out).1; omega))
                                      obtain ⟨ve188_0, rfl, ge188_0⟩ := hMe188
                                      have hv188_0 := hcc188 0 _ rfl
                                      rw [Nat.add_zero, show ((Kd.slice 3 (Kd.int .i64))).sz = 1 from rfl, Nat.mul_one] at hv188_0
                                      replace hv188_0 := Option.some.inj (hv188_0.symm.trans hx188_0)
                                      rw [hv188_0] at ge188_0
                                      have HL188_0 := Aside0.mk (show Kd.R (Kd.int .i64) 3 _ _ _ _ (rd_L3 x7_2 (ji24)) from ge188_0)
                                      clear hv188_0 ge188_0
                                      have HX188_0 := Aside0.mk hx188_0
                                      clear hcc188 hce188
                                      have HR188_0 := Aside0.mk hi188_0
                                      have HC188_0 := Aside0.mk hl188_0
                                      clear hi188_0 hl188_0
                                      replace p188 := eq_true p188
                                      replace q188 := eq_true q188
                                      have ea_ := Option.some.inj (hx184_0.symm.trans hx188_0)
                                      injection ea_ with ea_ en_ ec_
                                      subst ea_
                                      subst ec_
                                      clear en_
                                      have p189 : 0 ≤ (2 : Int) := (by omega)
                                      have q189 : 2 < ((rd_L3 x7_2 (ji24)).length : Int) := of_decide_eq_true (by first | (with_reducible assumption) | assumption)
                                      obtain ⟨ad189, e189, hx189_0⟩ := Kd.at_int (by repeat (first | (with_reducible exact HR188_0.out) | (with_reducible refine Kd.C_alloc ?_ _) | (with_reducible refine Kd.C_drewN ?_ _) | (with_reducible refine Kd.C_drew ?_) | exact HR188_0.out)) 2 p189 q189
                                      cases e189
                                      (try simp only [show (2 : Int).toNat = 2 from rfl, Nat.reduceMul, Nat.reduceEqDiff, Go.Addr.add, ↓reduceIte] at hx189_0)
                                      have qi189 : (2 < (rd_L3 x7_2 (ji24)).length) = True := eq_true (by omega)
                                      (try rw [show ((2 : Int)).toNat = 2 from rfl] at hx189_0)
                                      replace p189 := eq_true p189
                                      replace q189 := eq_true q189
                                      have p31 : 0 ≤ (2 : Int) := (by omega)
                                      have q31 : (2 : Int) < (((rd_L3 x7_2 (ji24)).length : Int) : Int) := of_decide_eq_true (by first | (with_reducible assumption) | assumption)
                                      have qi31 : (2 < (rd_L3 x7_2 (ji24)).length) = True := eq_true (by omega)
                                      obtain ⟨go31, co31, eo31, gb31, gl31, cl31, HG31⟩ := Kd.R_form HL188_0.out (by omega)
                                      (first | cases eo31 | (injection eo31 with ea_ en_ ec_; (first | subst ea_ | (injection ea_ with ea_; subst ea_)); subst ec_; clear en_))
                                      have GB31 := Aside0.mk gb31
                                      have GG31 := Aside0.mk HG31
                                      clear gb31 gl31 HG31
                                      (first | simp only [add_plain] at hx189_0 | skip)
                                      obtain ⟨hx31_0, hf31_0⟩ := Kd.R_celln 0 HL188_0.out (2 : Int) p31 q31
                                      (try rw [show ((2 : Int)).toNat = 2 from rfl] at hx31_0)
                                      (try simp only [Nat.reduceMul, Nat.zero_mul, Nat.zero_add, Nat.reduceAdd] at hx31_0)
                                      (try rw [show ((2 : Int)).toNat = 2 from rfl] at hf31_0)
                                      (try simp only [Nat.reduceMul, Nat.zero_mul, Nat.zero_add, Nat.reduceAdd] at hf31_0)
                                      replace p31 := eq_true p31
                                      replace q31 := eq_true q31
                                      have hq33 : ((ji24) : Int) < (x7_2.length : Int) := (by have h_ : ((ji24) : Int) < ((x7_2.length : Int) : Int) := of_decide_eq_true (by first | (with_reducible assumption) | assumption); first | exact h_ | (have e_ := (Kd.S_reads' HO_7.out).1; omega) | simpa only [List.length_set, List.length_set] using h_)
                                      obtain ⟨oki33, ce33, hcl33, hM33, hcc33, hok33, hbk33⟩ := Kd.S_borrow HO_7.out [] ((ji24) : Int) (of_decide_eq_true (by first | (with_reducible assumption) | assumption)) hq33
                                      obtain ⟨ve33_0, rfl, ge33_0⟩ := hM33
                                      have hv33 := hcc33 0 _ rfl
                                      rw [Nat.add_zero, show ((Kd.slice 3 (Kd.int .i64))).sz = 1 from rfl, Nat.mul_one] at hv33
                                      replace hv33 := Option.some.inj (hv33.symm.trans HX188_0.out)
                                      subst hv33
                                      clear hcc33 hcl33
                                      replace ge33_0 := (show Kd.R (Kd.int .i64) 3 _ _ _ _ (rd_L3 x7_2 (ji24)) from ge33_0)
                                      have HP33 := Kd.R_putg ge33_0 (2 : Int) (wrap64 ((rd (rd_L3 x7_2 (ji24)) 2) + 1))
                                      go_wp2_with (first | ((with_reducible refine gate_store (t := 3) (p := 79) rfl ?_); refine store_event (t := 3) (p := 79) (v := ?vo_w34) (w1 := (wc.setCell ⟨go31, 2, none⟩ (.int .i64 (wrap64 ((rd (rd_L3 x7_2 (ji24)) 2) + 1))))) ?hg ?ho ?hn ?hr ?_; (case ho => rfl); (case hg => rfl); (case hn => rfl); (case hr => first | (go_simp; done) | (go_simp; rfl)); intro w34 hw; have hg : wc.grownBy w34 (some go31) := (by rw [hw]; exact HP33.2); have hz_ : Kd.R (Kd.int .i64) 3 w34 w.heap.size oki33 (.slice (some ⟨go31, 0, none⟩) (rd_L3 x7_2 (ji24)).length c184_0) y190 := (by rw [hw, Ny190.out]; exact HP33.1); have hp_ : Kd.S (Kd.slice 3 (Kd.int .i64)) 34 w34 w.heap.size (fun _ => True) (.slice (some ad184) x7_2.length co32) y192 := (by rw [Ny192.out]; exact hbk33 hg (fun k_ e_ => by injection e_ with e_; subst e_; exact ge33_0.1 _ rfl) (Kd.M_row hz_)); have hm_ := Kd.R_mono hz_ hok33; clear HP33 hbk33; have n0_ := Aside0.mk (Kd.S_over' (v := (.slice (some ⟨go31, 0, none⟩) (rd_L3 x7_2 (ji24)).length c184_0)) (by (with_reducible repeat (first | apply Kd.S_alloc | apply Kd.S_drewN | apply Kd.S_drew)); exact HO_5.out) (Kd.R_typed HL188_0.out) (by decide) hg); have n1_ := Aside0.mk (Kd.S_over' (v := (.slice (some ⟨go31, 0, none⟩) (rd_L3 x7_2 (ji24)).length c184_0)) (by (with_reducible repeat (first | apply Kd.S_alloc | apply Kd.S_drewN | apply Kd.S_drew)); exact HO_6.out) (Kd.R_typed HL188_0.out) (by decide) hg); have n2_ := Aside0.mk (hp_); have n3_ := Aside0.mk ((by rw [hw]; exact below_set (HB.out) GB31.out : Below w.heap.size w w34)); have n4_ := Aside0.mk (hm_); have n5_ := Aside0.mk ((Kd.R_reads' hm_).2.1); clear HO_5; clear HO_6; clear HO_7; clear HB; clear HL184_0; clear HL186_0; clear HL188_0; have HO_5 := n0_; have HO_6 := n1_; have HO_7 := n2_; have HB := n3_; have HL211 := n4_; have HC191 := n5_; clear n0_ n1_ n2_ n3_ n4_ n5_; clear hg hw hp_ hz_ hm_ hok33))
                                      go_roundg kj11
                                      case measure => have := HK1.out; have := HK2.out; have := HJ11.out; omega
                                      case rel => exact ⟨(y192), (wrap64 (x25_2 + 1)), (by first | rfl | (simp; done) | (simp [*]; done)), H', ⟨by have := HK1.out; have := HK2.out; have := HJ11.out; omega⟩, ⟨by (with_reducible repeat (first | apply Kd.S_alloc | apply Kd.S_drewN | apply Kd.S_drew)); exact HO_5.out⟩, ⟨by (with_reducible repeat (first | apply Kd.S_alloc | apply Kd.S_drewN | apply Kd.S_drew)); exact HO_6.out⟩, ⟨by (with_reducible repeat (first | apply Kd.S_alloc | apply Kd.S_drewN | apply Kd.S_drew)); exact HO_7.out⟩, ⟨by repeat (first | (with_reducible first | exact HB.out | apply below_alloc | apply pw_below_drewN | apply below_drew1) | exact HB.out)⟩⟩
                                    · rw [if_neg c30] at H
                                      have c30b0 : ((rd (rd_L3 x7_2 (ji24)) 2) == x25_2) = false := beq_eq_false_iff_ne.mpr c30
                                      have c30b1 : ((rd (rd_L3 x7_2 (ji24)) 2) != x25_2) = true := bne_iff_ne.mpr c30
                                      obtain ⟨y193, hy193⟩ : ∃ y_ : List Int, y_ = (([x17_1, x25_2, wrap64 (x25_2 + 1)] : List Int)) := ⟨_, rfl⟩
                                      replace H : (if x7_2.length < 5864062014805 then (spec_rpRanges.l1 kj11 t173 t176 (x7_2 ++ [y193]) x17_1 (t173.length : Int) x17_1 ((rd_L5 t173 x17_1).length : Int) (wrap64 (x25_2 + 1))) else (none)) = some r := by first | (rw [hy193]; with_reducible exact H) | (have H2_ := (Option.bind_some _ _).symm.trans H; rw [hy193]; with_reducible exact H2_) | (have H2_ := (Option.bind_some _ _).symm.trans H; with_reducible exact H2_) | with_reducible exact H | (rw [hy193]; exact H) | exact H
                                      have Ny193 := Aside0.mk hy193
                                      clear hy193
                                      by_cases c35 : x7_2.length < 5864062014805
                                      · rw [if_pos c35] at H
                                        have LMc35 := Aside0.mk c35
                                        clear c35
                                        obtain ⟨y196, hy196⟩ : ∃ y_ : List (List Int), y_ = (x7_2 ++ [y193]) := ⟨_, rfl⟩
                                        replace H : (spec_rpRanges.l1 kj11 t173 t176 y196 x17_1 (t173.length : Int) x17_1 ((rd_L5 t173 x17_1).length : Int) (wrap64 (x25_2 + 1))) = some r := by first | (rw [hy196]; with_reducible exact H) | (have H2_ := (Option.bind_some _ _).symm.trans H; rw [hy196]; with_reducible exact H2_) | (have H2_ := (Option.bind_some _ _).symm.trans H; with_reducible exact H2_) | with_reducible exact H | (rw [hy196]; exact H) | exact H
                                        have Ny196 := Aside0.mk hy196
                                        clear hy196
                                        have H' := Aside0.mk H
                                        clear H
                                        obtain ⟨Ao36, co36, eo36⟩ := Kd.S_slice HO_7.out
                                        subst eo36
                                        have p184 : 0 ≤ ((ji24) : Int) := of_decide_eq_true (by first | (with_reducible assumption) | assumption)
                                        have q184 : (ji24) < (x7_2.length : Int) := of_decide_eq_true (by first | (with_reducible assumption) | assumption)
                                        obtain ⟨ad184, A184_0, c184_0, e184, hx184_0, hl184_0, hi184_0⟩ := at_L3 (Kd.S_reads' HO_7.out).2.2 (ji24) p184 q184
                                        cases e184
                                        obtain ⟨ce184, hce184, hMe184, hcc184⟩ := Kd.S_get HO_7.out [] (ji24) p184 (by first | exact q184 | exact of_decide_eq_true (by first | (with_reducible assumption) | assumption) | (have e_ := (Kd.S_reads' HO_7.out).1; omega))
                                        obtain ⟨ve184_0, rfl, ge184_0⟩ := hMe184
                                        have hv184_0 := hcc184 0 _ rfl
                                        rw [Nat.add_zero, show ((Kd.slice 3 (Kd.int .i64))).sz = 1 from rfl, Nat.mul_one] at hv184_0
                                        replace hv184_0 := Option.some.inj (hv184_0.symm.trans hx184_0)
                                        rw [hv184_0] at ge184_0
                                        have HL184_0 := Aside0.mk (show Kd.R (Kd.int .i64) 3 _ _ _ _ (rd_L3 x7_2 (ji24)) from ge184_0)
                                        clear hv184_0 ge184_0
                                        have HX184_0 := Aside0.mk hx184_0
                                        clear hcc184 hce184
                                        have HR184_0 := Aside0.mk hi184_0
                                        have HC184_0 := Aside0.mk hl184_0
                                        clear hi184_0 hl184_0
                                        replace p184 := eq_true p184
                                        replace q184 := eq_true q184
                                        have p185 : 0 ≤ (0 : Int) := (by omega)
                                        have q185 : 0 < ((rd_L3 x7_2 (ji24)).length : Int) := of_decide_eq_true (by first | (with_reducible assumption) | assumption)
                                        obtain ⟨ad185, e185, hx185_0⟩ := Kd.at_int (by repeat (first | (with_reducible exact HR184_0.out) | (with_reducible refine Kd.C_alloc ?_ _) | (with_reducible refine Kd.C_drewN ?_ _) | (with_reducible refine Kd.C_drew ?_) | exact HR184_0.out)) 0 p185 q185
                                        cases e185
                                        have qi185 : (0 < (rd_L3 x7_2 (ji24)).length) = True := eq_true (by omega)
                                        (try rw [show ((0 : Int)).toNat = 0 from rfl] at hx185_0)
                                        (try rw [Addr.add_zero'] at hx185_0)
                                        replace p185 := eq_true p185
                                        replace q185 := eq_true q185
                                        have p186 : 0 ≤ ((ji24) : Int) := of_decide_eq_true (by first | (with_reducible assumption) | assumption)
                                        have q186 : (ji24) < (x7_2.length : Int) := of_decide_eq_true (by first | (with_reducible assumption) | assumption)
                                        obtain ⟨ad186, A186_0, c186_0, e186, hx186_0, hl186_0, hi186_0⟩ := at_L3 (Kd.S_reads' HO_7.out).2.2 (ji24) p186 q186
                                        obtain rfl : ad184 = ad186 := (by injection e186)
                                        obtain ⟨ce186, hce186, hMe186, hcc186⟩ := Kd.S_get HO_7.out [] (ji24) p186 (by first | exact q186 | exact of_decide_eq_true (by first | (with_reducible assumption) | assumption) | (have e_ := (Kd.S_reads' HO_7.out).1; omega))
                                        obtain ⟨ve186_0, rfl, ge186_0⟩ := hMe186
                                        have hv186_0 := hcc186 0 _ rfl
                                        rw [Nat.add_zero, show ((Kd.slice 3 (Kd.int .i64))).sz = 1 from rfl, Nat.mul_one] at hv186_0
                                        replace hv186_0 := Option.some.inj (hv186_0.symm.trans hx186_0)
                                        rw [hv186_0] at ge186_0
                                        have HL186_0 := Aside0.mk (show Kd.R (Kd.int .i64) 3 _ _ _ _ (rd_L3 x7_2 (ji24)) from ge186_0)
                                        clear hv186_0 ge186_0
                                        have HX186_0 := Aside0.mk hx186_0
                                        clear hcc186 hce186
                                        have HR186_0 := Aside0.mk hi186_0
                                        have HC186_0 := Aside0.mk hl186_0
                                        clear hi186_0 hl186_0
                                        replace p186 := eq_true p186
                                        replace q186 := eq_true q186
                                        have ea_ := Option.some.inj (hx184_0.symm.trans hx186_0)
                                        injection ea_ with ea_ en_ ec_
                                        subst ea_
                                        subst ec_
                                        clear en_
                                        have p187 : 0 ≤ (2 : Int) := (by omega)
                                        have q187 : 2 < ((rd_L3 x7_2 (ji24)).length : Int) := of_decide_eq_true (by first | (with_reducible assumption) | assumption)
                                        obtain ⟨ad187, e187, hx187_0⟩ := Kd.at_int (by repeat (first | (with_reducible exact HR186_0.out) | (with_reducible refine Kd.C_alloc ?_ _) | (with_reducible refine Kd.C_drewN ?_ _) | (with_reducible refine Kd.C_drew ?_) | exact HR186_0.out)) 2 p187 q187
                                        cases e187
                                        (try simp only [show (2 : Int).toNat = 2 from rfl, Nat.reduceMul, Nat.reduceEqDiff, Go.Addr.add, ↓reduceIte] at hx187_0)
                                        have qi187 : (2 < (rd_L3 x7_2 (ji24)).length) = True := eq_true (by omega)
                                        (try rw [show ((2 : Int)).toNat = 2 from rfl] at hx187_0)
                                        replace p187 := eq_true p187
                                        replace q187 := eq_true q187
                                        go_wp2_with (first | ((with_reducible refine gate_dst (N := 85) rfl ?_); refine Kd.R_lit (Kd.int .i64) _ 3 ?hg (N := 85) ?hd (xs := ([x17_1, x25_2, wrap64 (x25_2 + 1)] : List Int)) (inner := [.int .i64 x17_1, .int .i64 x25_2, .int .i64 (wrap64 (x25_2 + 1))]) (ok := fun _ => True) (okp := fun _ => True) ?hr ?hp (fun _ hk => hk) trivial (Below.refl _ _) (Nat.le_refl _) (by simp) ?_; (case hd => rfl); (case hg => rfl); (case hr => first | (go_simp; done) | (go_simp; rfl)); (case hp => exact (Reps.one (show Kd.M (Kd.int .i64) _ _ _ x17_1 [.int .i64 x17_1] from rfl) (Reps.one (show Kd.M (Kd.int .i64) _ _ _ x25_2 [.int .i64 x25_2] from rfl) (Reps.one (show Kd.M (Kd.int .i64) _ _ _ (wrap64 (x25_2 + 1)) [.int .i64 (wrap64 (x25_2 + 1))] from rfl) (Reps.none _ _))))); intro v194 w37 ho38 hb hg_ hnew_; clear hg_ hnew_; (first | rw [← Ny193.out] at ho38 | (simp only [Int.reduceToNat] at ho38; rw [← Ny193.out] at ho38)); have n0_ := Aside0.mk (Kd.S_below (by (with_reducible repeat (first | apply Kd.S_alloc | apply Kd.S_drewN | apply Kd.S_drew)); exact HO_5.out) hb); have n1_ := Aside0.mk (Kd.S_below (by (with_reducible repeat (first | apply Kd.S_alloc | apply Kd.S_drewN | apply Kd.S_drew)); exact HO_6.out) hb); have n2_ := Aside0.mk (Kd.S_elder' (by (with_reducible repeat (first | apply Kd.S_alloc | apply Kd.S_drewN | apply Kd.S_drew)); exact HO_7.out) (Kd.R_base ho38) hb); have n3_ := Aside0.mk (Kd.R_elder' (by (with_reducible repeat (first | apply Kd.R_alloc | apply Kd.R_drewN | apply Kd.R_drew)); exact HL184_0.out) (Kd.R_base ho38) hb); have n4_ := Aside0.mk (Kd.R_elder' (by (with_reducible repeat (first | apply Kd.R_alloc | apply Kd.R_drewN | apply Kd.R_drew)); exact HL186_0.out) (Kd.R_base ho38) hb); have n5_ := Aside0.mk (Kd.R_lower (Kd.R_new' (Kd.R_new' ho38 (Kd.R_lt (by (with_reducible repeat (first | apply Kd.R_alloc | apply Kd.R_drewN | apply Kd.R_drew)); exact HL184_0.out))) (Kd.R_lt (by (with_reducible repeat (first | apply Kd.R_alloc | apply Kd.R_drewN | apply Kd.R_drew)); exact HL186_0.out))) (below_size (by repeat (first | (with_reducible first | exact HB.out | apply below_alloc | apply pw_below_drewN | apply below_drew1) | exact HB.out)))); have n6_ := Aside0.mk (Kd.C_below (by repeat (first | (with_reducible exact HR184_0.out) | (with_reducible refine Kd.C_alloc ?_ _) | (with_reducible refine Kd.C_drewN ?_ _) | (with_reducible refine Kd.C_drew ?_) | exact HR184_0.out)) hb); have n7_ := Aside0.mk (pw_cell_below hb HX184_0.out); have n8_ := Aside0.mk (Kd.C_below (by repeat (first | (with_reducible exact HR186_0.out) | (with_reducible refine Kd.C_alloc ?_ _) | (with_reducible refine Kd.C_drewN ?_ _) | (with_reducible refine Kd.C_drew ?_) | exact HR186_0.out)) hb); have n9_ := Aside0.mk (pw_cell_below hb HX186_0.out); have n10_ := Aside0.mk (below_step (by repeat (first | (with_reducible first | exact HB.out | apply below_alloc | apply pw_below_drewN | apply below_drew1) | exact HB.out)) hb); clear HO_5; clear HO_6; clear HO_7; clear HL184_0; clear HL186_0; clear HR184_0; clear HX184_0; clear HR186_0; clear HX186_0; clear HB; have HO_5 := n0_; have HO_6 := n1_; have HO_7 := n2_; have HL184_0 := n3_; have HL186_0 := n4_; have HO195 := n5_; have HR184_0 := n6_; have HX184_0 := n7_; have HR186_0 := n8_; have HX186_0 := n9_; have HB := n10_; clear n0_ n1_ n2_ n3_ n4_ n5_ n6_ n7_ n8_ n9_ n10_; clear hb ho38; obtain ⟨Ao40, co40, eo40⟩ := Kd.R_slice HO195.out; subst eo40) | ((with_reducible refine gate_builtin (b := .append) (xs := #[.tmp 80, .tmp 86]) rfl ?_); at_builtin; refine Kd.S_append (Kd.slice 3 (Kd.int .i64)) (w0 := w) w.heap.size rfl (.tmp 80) (.tmp 86) 24 34 (.slice none 0 0) 24 rfl Try.underlying24 info34 rfl (by decide) (by omega) (.slice (some ad184) x7_2.length co36) x7_2 y193 [.slice Ao40 y193.length co40] (fun _ => True) (fun k_ => some k_ = (.slice Ao40 y193.length co40 : Value).ownBlock) rfl rfl ?aP (fun k_ hk_ => ((Kd.R_mono (ok' := fun k_ => ((fun _ => True)) k_ ∧ some k_ ≠ (.slice (some ad184) x7_2.length co36 : Value).ownBlock) (Kd.R_apart' (HO195.out) (Kd.S_typed HO_7.out) (by decide)) (fun k_ hk => ⟨trivial, hk.2⟩))).1 k_ hk_.symm) ?aF ?aO ?aB ?aS ?aL ?_; (case aP => exact Kd.M_row (Kd.R_mono (Kd.R_tight rfl (Kd.R_mono (ok' := fun k_ => ((fun _ => True)) k_ ∧ some k_ ≠ (.slice (some ad184) x7_2.length co36 : Value).ownBlock) (Kd.R_apart' (HO195.out) (Kd.S_typed HO_7.out) (by decide)) (fun k_ hk => ⟨trivial, hk.2⟩))) (fun _ h_ => h_))); (case aB => exact (by repeat (first | (with_reducible first | exact HB.out | apply below_alloc | apply pw_below_drewN | apply below_drew1) | exact HB.out))); (case aF => exact (fun _ _ => trivial)); (case aO => exact (by (with_reducible repeat (first | apply Kd.S_alloc | apply Kd.S_drewN | apply Kd.S_drew)); exact Kd.S_mono HO_7.out (fun k_ hk => ⟨trivial, fun e_ => hk.2 e_⟩))); (case aS => exact (below_size (by repeat (first | (with_reducible first | exact HB.out | apply below_alloc | apply pw_below_drewN | apply below_drew1) | exact HB.out)))); (case aL => have := LMc35.out; omega); intro v197 w39 ho hb hg hat; rw [← Ny196.out] at ho; have n0_ := Aside0.mk (Kd.S_over' (by (with_reducible repeat (first | apply Kd.S_alloc | apply Kd.S_drewN | apply Kd.S_drew)); exact HO_5.out) (Kd.S_typed (by (with_reducible repeat (first | apply Kd.S_alloc | apply Kd.S_drewN | apply Kd.S_drew)); exact HO_7.out)) (by decide) hg); have n1_ := Aside0.mk (Kd.S_over' (by (with_reducible repeat (first | apply Kd.S_alloc | apply Kd.S_drewN | apply Kd.S_drew)); exact HO_6.out) (Kd.S_typed (by (with_reducible repeat (first | apply Kd.S_alloc | apply Kd.S_drewN | apply Kd.S_drew)); exact HO_7.out)) (by decide) hg); have n2_ := Aside0.mk (Kd.R_after (ok := (fun k_ => some k_ ≠ (.slice Ao40 y193.length co40 : Value).ownBlock)) (by (with_reducible repeat (first | apply Kd.R_alloc | apply Kd.R_drewN | apply Kd.R_drew)); exact Kd.R_mono HL184_0.out (fun _ hk => ⟨hk.2, hk.1.2⟩)) hg hat); have n3_ := Aside0.mk (Kd.R_after (ok := (fun k_ => some k_ ≠ (.slice Ao40 y193.length co40 : Value).ownBlock)) (by (with_reducible repeat (first | apply Kd.R_alloc | apply Kd.R_drewN | apply Kd.R_drew)); exact Kd.R_mono HL186_0.out (fun _ hk => ⟨hk.2, hk.1.2⟩)) hg hat); have n4_ := Aside0.mk (hb); have n5_ := Aside0.mk (ho); clear HO_5; clear HO_6; clear HL184_0; clear HL186_0; clear HB; clear HO_7; clear HO195; have HO_5 := n0_; have HO_6 := n1_; have HL184_0 := n2_; have HL186_0 := n3_; have HB := n4_; have HO198 := n5_; clear n0_ n1_ n2_ n3_ n4_ n5_; clear ho hb hg hat))
                                        go_roundg kj11
                                        case measure => have := HK1.out; have := HK2.out; have := HJ11.out; omega
                                        case rel => exact ⟨(y196), (wrap64 (x25_2 + 1)), (by first | rfl | (simp; done) | (simp [*]; done)), H', ⟨by have := HK1.out; have := HK2.out; have := HJ11.out; omega⟩, ⟨by (with_reducible repeat (first | apply Kd.S_alloc | apply Kd.S_drewN | apply Kd.S_drew)); exact HO_5.out⟩, ⟨by (with_reducible repeat (first | apply Kd.S_alloc | apply Kd.S_drewN | apply Kd.S_drew)); exact HO_6.out⟩, ⟨by (with_reducible repeat (first | apply Kd.S_alloc | apply Kd.S_drewN | apply Kd.S_drew)); exact HO198.out⟩, ⟨by repeat (first | (with_reducible first | exact HB.out | apply below_alloc | apply pw_below_drewN | apply below_drew1) | exact HB.out)⟩⟩
                                      · rw [if_neg c35] at H
                                        exact absurd H (by simp)
                                  · rw [if_neg c29] at H
                                    exact absurd H (by simp)
                                · rw [if_neg c28] at H
                                  have c28b0 : ((rd (rd_L3 x7_2 (ji24)) 0) == x17_1) = false := beq_eq_false_iff_ne.mpr c28
                                  have c28b1 : ((rd (rd_L3 x7_2 (ji24)) 0) != x17_1) = true := bne_iff_ne.mpr c28
                                  obtain ⟨y199, hy199⟩ : ∃ y_ : List Int, y_ = (([x17_1, x25_2, wrap64 (x25_2 + 1)] : List Int)) := ⟨_, rfl⟩
                                  replace H : (if x7_2.length < 5864062014805 then (spec_rpRanges.l1 kj11 t173 t176 (x7_2 ++ [y199]) x17_1 (t173.length : Int) x17_1 ((rd_L5 t173 x17_1).length : Int) (wrap64 (x25_2 + 1))) else (none)) = some r := by first | (rw [hy199]; with_reducible exact H) | (have H2_ := (Option.bind_some _ _).symm.trans H; rw [hy199]; with_reducible exact H2_) | (have H2_ := (Option.bind_some _ _).symm.trans H; with_reducible exact H2_) | with_reducible exact H | (rw [hy199]; exact H) | exact H
                                  have Ny199 := Aside0.mk hy199
                                  clear hy199
                                  by_cases c41 : x7_2.length < 5864062014805
                                  · rw [if_pos c41] at H
                                    have LMc41 := Aside0.mk c41
                                    clear c41
                                    obtain ⟨y202, hy202⟩ : ∃ y_ : List (List Int), y_ = (x7_2 ++ [y199]) := ⟨_, rfl⟩
                                    replace H : (spec_rpRanges.l1 kj11 t173 t176 y202 x17_1 (t173.length : Int) x17_1 ((rd_L5 t173 x17_1).length : Int) (wrap64 (x25_2 + 1))) = some r := by first | (rw [hy202]; with_reducible exact H) | (have H2_ := (Option.bind_some _ _).symm.trans H; rw [hy202]; with_reducible exact H2_) | (have H2_ := (Option.bind_some _ _).symm.trans H; with_reducible exact H2_) | with_reducible exact H | (rw [hy202]; exact H) | exact H
                                    have Ny202 := Aside0.mk hy202
                                    clear hy202
                                    have H' := Aside0.mk H
                                    clear H
                                    obtain ⟨Ao42, co42, eo42⟩ := Kd.S_slice HO_7.out
                                    subst eo42
                                    have p184 : 0 ≤ ((ji24) : Int) := of_decide_eq_true (by first | (with_reducible assumption) | assumption)
                                    have q184 : (ji24) < (x7_2.length : Int) := of_decide_eq_true (by first | (with_reducible assumption) | assumption)
                                    obtain ⟨ad184, A184_0, c184_0, e184, hx184_0, hl184_0, hi184_0⟩ := at_L3 (Kd.S_reads' HO_7.out).2.2 (ji24) p184 q184
                                    cases e184
                                    obtain ⟨ce184, hce184, hMe184, hcc184⟩ := Kd.S_get HO_7.out [] (ji24) p184 (by first | exact q184 | exact of_decide_eq_true (by first | (with_reducible assumption) | assumption) | (have e_ := (Kd.S_reads' HO_7.out).1; omega))
                                    obtain ⟨ve184_0, rfl, ge184_0⟩ := hMe184
                                    have hv184_0 := hcc184 0 _ rfl
                                    rw [Nat.add_zero, show ((Kd.slice 3 (Kd.int .i64))).sz = 1 from rfl, Nat.mul_one] at hv184_0
                                    replace hv184_0 := Option.some.inj (hv184_0.symm.trans hx184_0)
                                    rw [hv184_0] at ge184_0
                                    have HL184_0 := Aside0.mk (show Kd.R (Kd.int .i64) 3 _ _ _ _ (rd_L3 x7_2 (ji24)) from ge184_0)
                                    clear hv184_0 ge184_0
                                    have HX184_0 := Aside0.mk hx184_0
                                    clear hcc184 hce184
                                    have HR184_0 := Aside0.mk hi184_0
                                    have HC184_0 := Aside0.mk hl184_0
                                    clear hi184_0 hl184_0
                                    replace p184 := eq_true p184
                                    replace q184 := eq_true q184
                                    have p185 : 0 ≤ (0 : Int) := (by omega)
                                    have q185 : 0 < ((rd_L3 x7_2 (ji24)).length : Int) := of_decide_eq_true (by first | (with_reducible assumption) | assumption)
                                    obtain ⟨ad185, e185, hx185_0⟩ := Kd.at_int (by repeat (first | (with_reducible exact HR184_0.out) | (with_reducible refine Kd.C_alloc ?_ _) | (with_reducible refine Kd.C_drewN ?_ _) | (with_reducible refine Kd.C_drew ?_) | exact HR184_0.out)) 0 p185 q185
                                    cases e185
                                    have qi185 : (0 < (rd_L3 x7_2 (ji24)).length) = True := eq_true (by omega)
                                    (try rw [show ((0 : Int)).toNat = 0 from rfl] at hx185_0)
                                    (try rw [Addr.add_zero'] at hx185_0)
                                    replace p185 := eq_true p185
                                    replace q185 := eq_true q185
                                    go_wp2_with (first | ((with_reducible refine gate_dst (N := 85) rfl ?_); refine Kd.R_lit (Kd.int .i64) _ 3 ?hg (N := 85) ?hd (xs := ([x17_1, x25_2, wrap64 (x25_2 + 1)] : List Int)) (inner := [.int .i64 x17_1, .int .i64 x25_2, .int .i64 (wrap64 (x25_2 + 1))]) (ok := fun _ => True) (okp := fun _ => True) ?hr ?hp (fun _ hk => hk) trivial (Below.refl _ _) (Nat.le_refl _) (by simp) ?_; (case hd => rfl); (case hg => rfl); (case hr => first | (go_simp; done) | (go_simp; rfl)); (case hp => exact (Reps.one (show Kd.M (Kd.int .i64) _ _ _ x17_1 [.int .i64 x17_1] from rfl) (Reps.one (show Kd.M (Kd.int .i64) _ _ _ x25_2 [.int .i64 x25_2] from rfl) (Reps.one (show Kd.M (Kd.int .i64) _ _ _ (wrap64 (x25_2 + 1)) [.int .i64 (wrap64 (x25_2 + 1))] from rfl) (Reps.none _ _))))); intro v200 w43 ho44 hb hg_ hnew_; clear hg_ hnew_; (first | rw [← Ny199.out] at ho44 | (simp only [Int.reduceToNat] at ho44; rw [← Ny199.out] at ho44)); have n0_ := Aside0.mk (Kd.S_below (by (with_reducible repeat (first | apply Kd.S_alloc | apply Kd.S_drewN | apply Kd.S_drew)); exact HO_5.out) hb); have n1_ := Aside0.mk (Kd.S_below (by (with_reducible repeat (first | apply Kd.S_alloc | apply Kd.S_drewN | apply Kd.S_drew)); exact HO_6.out) hb); have n2_ := Aside0.mk (Kd.S_elder' (by (with_reducible repeat (first | apply Kd.S_alloc | apply Kd.S_drewN | apply Kd.S_drew)); exact HO_7.out) (Kd.R_base ho44) hb); have n3_ := Aside0.mk (Kd.R_elder' (by (with_reducible repeat (first | apply Kd.R_alloc | apply Kd.R_drewN | apply Kd.R_drew)); exact HL184_0.out) (Kd.R_base ho44) hb); have n4_ := Aside0.mk (Kd.R_lower (Kd.R_new' ho44 (Kd.R_lt (by (with_reducible repeat (first | apply Kd.R_alloc | apply Kd.R_drewN | apply Kd.R_drew)); exact HL184_0.out))) (below_size (by repeat (first | (with_reducible first | exact HB.out | apply below_alloc | apply pw_below_drewN | apply below_drew1) | exact HB.out)))); have n5_ := Aside0.mk (Kd.C_below (by repeat (first | (with_reducible exact HR184_0.out) | (with_reducible refine Kd.C_alloc ?_ _) | (with_reducible refine Kd.C_drewN ?_ _) | (with_reducible refine Kd.C_drew ?_) | exact HR184_0.out)) hb); have n6_ := Aside0.mk (pw_cell_below hb HX184_0.out); have n7_ := Aside0.mk (below_step (by repeat (first | (with_reducible first | exact HB.out | apply below_alloc | apply pw_below_drewN | apply below_drew1) | exact HB.out)) hb); clear HO_5; clear HO_6; clear HO_7; clear HL184_0; clear HR184_0; clear HX184_0; clear HB; have HO_5 := n0_; have HO_6 := n1_; have HO_7 := n2_; have HL184_0 := n3_; have HO201 := n4_; have HR184_0 := n5_; have HX184_0 := n6_; have HB := n7_; clear n0_ n1_ n2_ n3_ n4_ n5_ n6_ n7_; clear hb ho44; obtain ⟨Ao46, co46, eo46⟩ := Kd.R_slice HO201.out; subst eo46) | ((with_reducible refine gate_builtin (b := .append) (xs := #[.tmp 80, .tmp 86]) rfl ?_); at_builtin; refine Kd.S_append (Kd.slice 3 (Kd.int .i64)) (w0 := w) w.heap.size rfl (.tmp 80) (.tmp 86) 24 34 (.slice none 0 0) 24 rfl Try.underlying24 info34 rfl (by decide) (by omega) (.slice (some ad184) x7_2.length co42) x7_2 y199 [.slice Ao46 y199.length co46] (fun _ => True) (fun k_ => some k_ = (.slice Ao46 y199.length co46 : Value).ownBlock) rfl rfl ?aP (fun k_ hk_ => ((Kd.R_mono (ok' := fun k_ => ((fun _ => True)) k_ ∧ some k_ ≠ (.slice (some ad184) x7_2.length co42 : Value).ownBlock) (Kd.R_apart' (HO201.out) (Kd.S_typed HO_7.out) (by decide)) (fun k_ hk => ⟨trivial, hk.2⟩))).1 k_ hk_.symm) ?aF ?aO ?aB ?aS ?aL ?_; (case aP => exact Kd.M_row (Kd.R_mono (Kd.R_tight rfl (Kd.R_mono (ok' := fun k_ => ((fun _ => True)) k_ ∧ some k_ ≠ (.slice (some ad184) x7_2.length co42 : Value).ownBlock) (Kd.R_apart' (HO201.out) (Kd.S_typed HO_7.out) (by decide)) (fun k_ hk => ⟨trivial, hk.2⟩))) (fun _ h_ => h_))); (case aB => exact (by repeat (first | (with_reducible first | exact HB.out | apply below_alloc | apply pw_below_drewN | apply below_drew1) | exact HB.out))); (case aF => exact (fun _ _ => trivial)); (case aO => exact (by (with_reducible repeat (first | apply Kd.S_alloc | apply Kd.S_drewN | apply Kd.S_drew)); exact Kd.S_mono HO_7.out (fun k_ hk => ⟨trivial, fun e_ => hk.2 e_⟩))); (case aS => exact (below_size (by repeat (first | (with_reducible first | exact HB.out | apply below_alloc | apply pw_below_drewN | apply below_drew1) | exact HB.out)))); (case aL => have := LMc41.out; omega); intro v203 w45 ho hb hg hat; rw [← Ny202.out] at ho; have n0_ := Aside0.mk (Kd.S_over' (by (with_reducible repeat (first | apply Kd.S_alloc | apply Kd.S_drewN | apply Kd.S_drew)); exact HO_5.out) (Kd.S_typed (by (with_reducible repeat (first | apply Kd.S_alloc | apply Kd.S_drewN | apply Kd.S_drew)); exact HO_7.out)) (by decide) hg); have n1_ := Aside0.mk (Kd.S_over' (by (with_reducible repeat (first | apply Kd.S_alloc | apply Kd.S_drewN | apply Kd.S_drew)); exact HO_6.out) (Kd.S_typed (by (with_reducible repeat (first | apply Kd.S_alloc | apply Kd.S_drewN | apply Kd.S_drew)); exact HO_7.out)) (by decide) hg); have n2_ := Aside0.mk (Kd.R_after (ok := (fun k_ => some k_ ≠ (.slice Ao46 y199.length co46 : Value).ownBlock)) (by (with_reducible repeat (first | apply Kd.R_alloc | apply Kd.R_drewN | apply Kd.R_drew)); exact Kd.R_mono HL184_0.out (fun _ hk => ⟨hk.2, hk.1.2⟩)) hg hat); have n3_ := Aside0.mk (hb); have n4_ := Aside0.mk (ho); clear HO_5; clear HO_6; clear HL184_0; clear HB; clear HO_7; clear HO201; have HO_5 := n0_; have HO_6 := n1_; have HL184_0 := n2_; have HB := n3_; have HO204 := n4_; clear n0_ n1_ n2_ n3_ n4_; clear ho hb hg hat))
                                    go_roundg kj11
                                    case measure => have := HK1.out; have := HK2.out; have := HJ11.out; omega
                                    case rel => exact ⟨(y202), (wrap64 (x25_2 + 1)), (by first | rfl | (simp; done) | (simp [*]; done)), H', ⟨by have := HK1.out; have := HK2.out; have := HJ11.out; omega⟩, ⟨by (with_reducible repeat (first | apply Kd.S_alloc | apply Kd.S_drewN | apply Kd.S_drew)); exact HO_5.out⟩, ⟨by (with_reducible repeat (first | apply Kd.S_alloc | apply Kd.S_drewN | apply Kd.S_drew)); exact HO_6.out⟩, ⟨by (with_reducible repeat (first | apply Kd.S_alloc | apply Kd.S_drewN | apply Kd.S_drew)); exact HO204.out⟩, ⟨by repeat (first | (with_reducible first | exact HB.out | apply below_alloc | apply pw_below_drewN | apply below_drew1) | exact HB.out)⟩⟩
                                  · rw [if_neg c41] at H
                                    exact absurd H (by simp)
                              · rw [if_neg c27] at H
                                exact absurd H (by simp)
                            · rw [if_neg c26] at H
                              exact absurd H (by simp)
                          · rw [if_neg c25] at H
                            exact absurd H (by simp)
                        · rw [if_neg c23] at H
                          have c23b0 : decide (0 < (x7_2.length : Int)) = false := decide_eq_false c23
                          have c23b1 : decide (0 < x7_2.length) = false := decide_eq_false (by omega)
                          clear c23
                          obtain ⟨y205, hy205⟩ : ∃ y_ : List Int, y_ = (([x17_1, x25_2, wrap64 (x25_2 + 1)] : List Int)) := ⟨_, rfl⟩
                          replace H : (if x7_2.length < 5864062014805 then (spec_rpRanges.l1 kj11 t173 t176 (x7_2 ++ [y205]) x17_1 (t173.length : Int) x17_1 ((rd_L5 t173 x17_1).length : Int) (wrap64 (x25_2 + 1))) else (none)) = some r := by first | (rw [hy205]; with_reducible exact H) | (have H2_ := (Option.bind_some _ _).symm.trans H; rw [hy205]; with_reducible exact H2_) | (have H2_ := (Option.bind_some _ _).symm.trans H; with_reducible exact H2_) | with_reducible exact H | (rw [hy205]; exact H) | exact H
                          have Ny205 := Aside0.mk hy205
                          clear hy205
                          by_cases c47 : x7_2.length < 5864062014805
                          · rw [if_pos c47] at H
                            have LMc47 := Aside0.mk c47
                            clear c47
                            obtain ⟨y208, hy208⟩ : ∃ y_ : List (List Int), y_ = (x7_2 ++ [y205]) := ⟨_, rfl⟩
                            replace H : (spec_rpRanges.l1 kj11 t173 t176 y208 x17_1 (t173.length : Int) x17_1 ((rd_L5 t173 x17_1).length : Int) (wrap64 (x25_2 + 1))) = some r := by first | (rw [hy208]; with_reducible exact H) | (have H2_ := (Option.bind_some _ _).symm.trans H; rw [hy208]; with_reducible exact H2_) | (have H2_ := (Option.bind_some _ _).symm.trans H; with_reducible exact H2_) | with_reducible exact H | (rw [hy208]; exact H) | exact H
                            have Ny208 := Aside0.mk hy208
                            clear hy208
                            have H' := Aside0.mk H
                            clear H
                            obtain ⟨Ao48, co48, eo48⟩ := Kd.S_slice HO_7.out
                            subst eo48
                            go_wp2_with (first | ((with_reducible refine gate_dst (N := 85) rfl ?_); refine Kd.R_lit (Kd.int .i64) _ 3 ?hg (N := 85) ?hd (xs := ([x17_1, x25_2, wrap64 (x25_2 + 1)] : List Int)) (inner := [.int .i64 x17_1, .int .i64 x25_2, .int .i64 (wrap64 (x25_2 + 1))]) (ok := fun _ => True) (okp := fun _ => True) ?hr ?hp (fun _ hk => hk) trivial (Below.refl _ _) (Nat.le_refl _) (by simp) ?_; (case hd => rfl); (case hg => rfl); (case hr => first | (go_simp; done) | (go_simp; rfl)); (case hp => exact (Reps.one (show Kd.M (Kd.int .i64) _ _ _ x17_1 [.int .i64 x17_1] from rfl) (Reps.one (show Kd.M (Kd.int .i64) _ _ _ x25_2 [.int .i64 x25_2] from rfl) (Reps.one (show Kd.M (Kd.int .i64) _ _ _ (wrap64 (x25_2 + 1)) [.int .i64 (wrap64 (x25_2 + 1))] from rfl) (Reps.none _ _))))); intro v206 w49 ho50 hb hg_ hnew_; clear hg_ hnew_; (first | rw [← Ny205.out] at ho50 | (simp only [Int.reduceToNat] at ho50; rw [← Ny205.out] at ho50)); have n0_ := Aside0.mk (Kd.S_below (by (with_reducible repeat (first | apply Kd.S_alloc | apply Kd.S_drewN | apply Kd.S_drew)); exact HO_5.out) hb); have n1_ := Aside0.mk (Kd.S_below (by (with_reducible repeat (first | apply Kd.S_alloc | apply Kd.S_drewN | apply Kd.S_drew)); exact HO_6.out) hb); have n2_ := Aside0.mk (Kd.S_elder' (by (with_reducible repeat (first | apply Kd.S_alloc | apply Kd.S_drewN | apply Kd.S_drew)); exact HO_7.out) (Kd.R_base ho50) hb); have n3_ := Aside0.mk (Kd.R_lower ho50 (below_size (by repeat (first | (with_reducible first | exact HB.out | apply below_alloc | apply pw_below_drewN | apply below_drew1) | exact HB.out)))); have n4_ := Aside0.mk (below_step (by repeat (first | (with_reducible first | exact HB.out | apply below_alloc | apply pw_below_drewN | apply below_drew1) | exact HB.out)) hb); clear HO_5; clear HO_6; clear HO_7; clear HB; have HO_5 := n0_; have HO_6 := n1_; have HO_7 := n2_; have HO207 := n3_; have HB := n4_; clear n0_ n1_ n2_ n3_ n4_; clear hb ho50; obtain ⟨Ao52, co52, eo52⟩ := Kd.R_slice HO207.out; subst eo52) | ((with_reducible refine gate_builtin (b := .append) (xs := #[.tmp 80, .tmp 86]) rfl ?_); at_builtin; refine Kd.S_append (Kd.slice 3 (Kd.int .i64)) (w0 := w) w.heap.size rfl (.tmp 80) (.tmp 86) 24 34 (.slice none 0 0) 24 rfl Try.underlying24 info34 rfl (by decide) (by omega) (.slice Ao48 x7_2.length co48) x7_2 y205 [.slice Ao52 y205.length co52] (fun _ => True) (fun k_ => some k_ = (.slice Ao52 y205.length co52 : Value).ownBlock) rfl rfl ?aP (fun k_ hk_ => ((Kd.R_mono (ok' := fun k_ => ((fun _ => True)) k_ ∧ some k_ ≠ (.slice Ao48 x7_2.length co48 : Value).ownBlock) (Kd.R_apart' (HO207.out) (Kd.S_typed HO_7.out) (by decide)) (fun k_ hk => ⟨trivial, hk.2⟩))).1 k_ hk_.symm) ?aF ?aO ?aB ?aS ?aL ?_; (case aP => exact Kd.M_row (Kd.R_mono (Kd.R_tight rfl (Kd.R_mono (ok' := fun k_ => ((fun _ => True)) k_ ∧ some k_ ≠ (.slice Ao48 x7_2.length co48 : Value).ownBlock) (Kd.R_apart' (HO207.out) (Kd.S_typed HO_7.out) (by decide)) (fun k_ hk => ⟨trivial, hk.2⟩))) (fun _ h_ => h_))); (case aB => exact (by repeat (first | (with_reducible first | exact HB.out | apply below_alloc | apply pw_below_drewN | apply below_drew1) | exact HB.out))); (case aF => exact (fun _ _ => trivial)); (case aO => exact (by (with_reducible repeat (first | apply Kd.S_alloc | apply Kd.S_drewN | apply Kd.S_drew)); exact Kd.S_mono HO_7.out (fun k_ hk => ⟨trivial, fun e_ => hk.2 e_⟩))); (case aS => exact (below_size (by repeat (first | (with_reducible first | exact HB.out | apply below_alloc | apply pw_below_drewN | apply below_drew1) | exact HB.out)))); (case aL => have := LMc47.out; omega); intro v209 w51 ho hb hg hat; rw [← Ny208.out] at ho; have n0_ := Aside0.mk (Kd.S_over' (by (with_reducible repeat (first | apply Kd.S_alloc | apply Kd.S_drewN | apply Kd.S_drew)); exact HO_5.out) (Kd.S_typed (by (with_reducible repeat (first | apply Kd.S_alloc | apply Kd.S_drewN | apply Kd.S_drew)); exact HO_7.out)) (by decide) hg); have n1_ := Aside0.mk (Kd.S_over' (by (with_reducible repeat (first | apply Kd.S_alloc | apply Kd.S_drewN | apply Kd.S_drew)); exact HO_6.out) (Kd.S_typed (by (with_reducible repeat (first | apply Kd.S_alloc | apply Kd.S_drewN | apply Kd.S_drew)); exact HO_7.out)) (by decide) hg); have n2_ := Aside0.mk (hb); have n3_ := Aside0.mk (ho); clear HO_5; clear HO_6; clear HB; clear HO_7; clear HO207; have HO_5 := n0_; have HO_6 := n1_; have HB := n2_; have HO210 := n3_; clear n0_ n1_ n2_ n3_; clear ho hb hg hat))
                            go_roundg kj11
                            case measure => have := HK1.out; have := HK2.out; have := HJ11.out; omega
                            case rel => exact ⟨(y208), (wrap64 (x25_2 + 1)), (by first | rfl | (simp; done) | (simp [*]; done)), H', ⟨by have := HK1.out; have := HK2.out; have := HJ11.out; omega⟩, ⟨by (with_reducible repeat (first | apply Kd.S_alloc | apply Kd.S_drewN | apply Kd.S_drew)); exact HO_5.out⟩, ⟨by (with_reducible repeat (first | apply Kd.S_alloc | apply Kd.S_drewN | apply Kd.S_drew)); exact HO_6.out⟩, ⟨by (with_reducible repeat (first | apply Kd.S_alloc | apply Kd.S_drewN | apply Kd.S_drew)); exact HO210.out⟩, ⟨by repeat (first | (with_reducible first | exact HB.out | apply below_alloc | apply pw_below_drewN | apply below_drew1) | exact HB.out)⟩⟩
                          · rw [if_neg c47] at H
                            exact absurd H (by simp)
                · rw [if_neg c11] at H
                  have c11b0 : decide (x25_2 < ((rd_L5 t173 x17_1).length : Int)) = false := decide_eq_false c11
                  clear c11
                  have H' := Aside0.mk H
                  clear H
                  go_wp2
                  go_roundg k2
                  case measure => have := HK1.out; have := HK2.out; omega
                  case rel => exact ⟨(x7_2), (wrap64 (x17_1 + 1)), (by first | rfl | (simp; done) | (simp [*]; done)), H', ⟨by have := HK1.out; have := HK2.out; omega⟩, ⟨by (with_reducible repeat (first | apply Kd.S_alloc | apply Kd.S_drewN | apply Kd.S_drew)); exact HO_5.out⟩, ⟨by (with_reducible repeat (first | apply Kd.S_alloc | apply Kd.S_drewN | apply Kd.S_drew)); exact HO_6.out⟩, ⟨by (with_reducible repeat (first | apply Kd.S_alloc | apply Kd.S_drewN | apply Kd.S_drew)); exact HO_7.out⟩, ⟨by repeat (first | (with_reducible first | exact HB.out | apply below_alloc | apply pw_below_drewN | apply below_drew1) | exact HB.out)⟩⟩
          · rw [if_neg c10] at H
            exact absurd H (by simp)
        · rw [if_neg c9] at H
          exact absurd H (by simp)
      · rw [if_neg c8] at H
        have c8b0 : decide (x17_1 < (t173.length : Int)) = false := decide_eq_false c8
        clear c8
        obtain rfl := Option.some.inj H
        go_wp2
        go_ret
        exact ⟨_, by first | rfl | (simp [errW_none, errW_some] <;> rfl) | (simp [*, errW_none, errW_some] <;> rfl), by (with_reducible repeat (first | apply Kd.S_alloc | apply Kd.S_drewN | apply Kd.S_drew)); exact HO_7.out, by repeat (first | (with_reducible first | exact HB.out | apply below_alloc | apply pw_below_drewN | apply below_drew1) | exact HB.out)⟩

end Go.Proofs.Ytjniaiobnbdhhab.PFnExactPatchesFor
