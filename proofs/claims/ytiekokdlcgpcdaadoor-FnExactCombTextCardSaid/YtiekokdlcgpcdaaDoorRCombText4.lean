/- The walks of functions that FnExactCombText reaches: what they return is what the plain functions of the same names say. Laid by a program of this session after the kit's print. No conditions beyond the arguments' being read. -/
import Derived.Test.YtiekokdlcgpcdaaDoorRCombText0
import Derived.Test.YtiekokdlcgpcdaaDoorRCombText3
namespace Go.Proofs.YtiekokdlcgpcdaaDoor.PFnExactCombText
open Go.RowKit Go.Proofs.YtiekokdlcgpcdaaDoorW.PrintWords Go.Proofs.YtiekokdlcgpcdaaDoorW.PrintLast Go.Proofs.YtiekokdlcgpcdaaDoorW.PrintMore
attribute [local go_sem] max2_int min2_int max_two min_two max_three min_three max_four min_four   -- for this text's walks alone
set_option linter.unusedVariables false
set_option linter.unusedSimpArgs false

theorem quiet_drawn {P : Program} {f : FuncId} {args : Array Value} {w : World} {n : Nat} {v : Value} (h : Calls P f args (w.drewN n) fun e w' => e = .returned v ∧ Drawn0 (w.drewN n) w') : Calls P f args (w.drewN n) fun e w'' => e = .returned v ∧ ∃ m, w'' = w.drewN m :=
  Calls.quiet_of (h.mono fun _ _ ⟨he, m, hm⟩ => ⟨he, m, hm⟩)
/-! ### impl_IsComb: function 19 -/
mutual
def impl_IsComb.j0 : Nat → List (S38) → Bool → Option (Bool)
  | 0, _, _ => none
  | k + 1, x0, x12 => if x12 = true then (some false) else (impl_IsComb.l0 k x0 x0 (x0.length : Int) 0)
def impl_IsComb.l0 : Nat → List (S38) → List (S38) → Int → Int → Option (Bool)
  | 0, _, _, _, _ => none
  | k + 1, x0, x13, x14, x15 => if x15 < x14 then (if 0 ≤ x15 then (if x15 < (x13.length : Int) then ((impl_isPitch.f ((rd_T38 x13 x15).f0)).bind fun t146 => (if t146 = true then ((impl_isCents.f ((rd_T38 x13 x15).f1)).bind fun t147 => (if t147 = true then (if ((rd_T38 x13 x15).f2) = 0 then (if x15 > 0 then (if 0 ≤ (wrap64 (x15 - 1)) then (if (wrap64 (x15 - 1)) < (x0.length : Int) then (if ((rd_T38 x13 x15).f0) < ((rd_T38 x0 (wrap64 (x15 - 1))).f0) then (some false) else (if x15 ≥ 4 then (if 0 ≤ (wrap64 (x15 - 4)) then (if (wrap64 (x15 - 4)) < (x0.length : Int) then (if ((rd_T38 x13 x15).f0) = ((rd_T38 x0 (wrap64 (x15 - 4))).f0) then (some false) else (impl_IsComb.l0 k x0 x13 x14 (wrap64 (x15 + 1)))) else (none)) else (none)) else (impl_IsComb.l0 k x0 x13 x14 (wrap64 (x15 + 1))))) else (none)) else (none)) else (if x15 ≥ 4 then (if 0 ≤ (wrap64 (x15 - 4)) then (if (wrap64 (x15 - 4)) < (x0.length : Int) then (if ((rd_T38 x13 x15).f0) = ((rd_T38 x0 (wrap64 (x15 - 4))).f0) then (some false) else (impl_IsComb.l0 k x0 x13 x14 (wrap64 (x15 + 1)))) else (none)) else (none)) else (impl_IsComb.l0 k x0 x13 x14 (wrap64 (x15 + 1))))) else (if ((rd_T38 x13 x15).f2) = 1 then (if x15 > 0 then (if 0 ≤ (wrap64 (x15 - 1)) then (if (wrap64 (x15 - 1)) < (x0.length : Int) then (if ((rd_T38 x13 x15).f0) < ((rd_T38 x0 (wrap64 (x15 - 1))).f0) then (some false) else (if x15 ≥ 4 then (if 0 ≤ (wrap64 (x15 - 4)) then (if (wrap64 (x15 - 4)) < (x0.length : Int) then (if ((rd_T38 x13 x15).f0) = ((rd_T38 x0 (wrap64 (x15 - 4))).f0) then (some false) else (impl_IsComb.l0 k x0 x13 x14 (wrap64 (x15 + 1)))) else (none)) else (none)) else (impl_IsComb.l0 k x0 x13 x14 (wrap64 (x15 + 1))))) else (none)) else (none)) else (if x15 ≥ 4 then (if 0 ≤ (wrap64 (x15 - 4)) then (if (wrap64 (x15 - 4)) < (x0.length : Int) then (if ((rd_T38 x13 x15).f0) = ((rd_T38 x0 (wrap64 (x15 - 4))).f0) then (some false) else (impl_IsComb.l0 k x0 x13 x14 (wrap64 (x15 + 1)))) else (none)) else (none)) else (impl_IsComb.l0 k x0 x13 x14 (wrap64 (x15 + 1))))) else (some false))) else (some false))) else (some false))) else (none)) else (none)) else (some true)
end
def impl_IsComb.f (k : Nat) (l0 : List (S38)) : Option (Bool) := if (l0.length : Int) < 1 then (impl_IsComb.j0 k l0 true) else (impl_IsComb.j0 k l0 (decide ((l0.length : Int) > 40)))
theorem impl_IsComb.mono_l : ∀ k, (∀ y0 y1, LeO (impl_IsComb.j0 k y0 y1) (impl_IsComb.j0 (k + 1) y0 y1)) ∧ (∀ y0 y1 y2 y3, LeO (impl_IsComb.l0 k y0 y1 y2 y3) (impl_IsComb.l0 (k + 1) y0 y1 y2 y3))
  | 0 => ⟨fun _ _ r h => by simp [impl_IsComb.j0] at h, fun _ _ _ _ r h => by simp [impl_IsComb.l0] at h⟩
  | k + 1 => by
    obtain ⟨ih0, ih1⟩ := impl_IsComb.mono_l k
    refine ⟨?_, ?_⟩
    · intro y0 y1
      unfold impl_IsComb.j0
      repeat' first
      | (with_reducible exact ih0 _ _)
      | (with_reducible exact ih1 _ _ _ _)
      | (with_reducible exact LeO.refl _)
      | (with_reducible exact LeO.none _)
      | (with_reducible refine LeO.ite ?_ ?_)
      | (with_reducible refine LeO.bind ?_ (fun _ => ?_))
      | exact ih0 _ _
      | exact ih1 _ _ _ _
      | exact LeO.none _
      | refine LeO.ite ?_ ?_
      | refine LeO.bind ?_ (fun _ => ?_)
    · intro y0 y1 y2 y3
      unfold impl_IsComb.l0
      repeat' first
      | (with_reducible exact ih0 _ _)
      | (with_reducible exact ih1 _ _ _ _)
      | (with_reducible exact LeO.refl _)
      | (with_reducible exact LeO.none _)
      | (with_reducible refine LeO.ite ?_ ?_)
      | (with_reducible refine LeO.bind ?_ (fun _ => ?_))
      | exact ih0 _ _
      | exact ih1 _ _ _ _
      | exact LeO.none _
      | refine LeO.ite ?_ ?_
      | refine LeO.bind ?_ (fun _ => ?_)
theorem impl_IsComb.mono : ∀ a0 k, LeO (impl_IsComb.f k a0) (impl_IsComb.f (k + 1) a0) := by
  intro a0 k
  obtain ⟨ih0, ih1⟩ := impl_IsComb.mono_l k
  unfold impl_IsComb.f
  repeat' first
      | (with_reducible exact ih0 _ _)
      | (with_reducible exact ih1 _ _ _ _)
      | (with_reducible exact LeO.refl _)
      | (with_reducible exact LeO.none _)
      | (with_reducible refine LeO.ite ?_ ?_)
      | (with_reducible refine LeO.bind ?_ (fun _ => ?_))
      | exact ih0 _ _
      | exact ih1 _ _ _ _
      | exact LeO.none _
      | refine LeO.ite ?_ ?_
      | refine LeO.bind ?_ (fun _ => ?_)
def impl_IsComb.T6 : Bool × List (List Nat × List Nat) := (true, [([], []), ([0], [0]), ([1], [1]), ([2], [2]), ([3, 2], [3]), ([4], [4]), ([5, 4], [4, 5]), ([6, 4, 4], [4, 6]), ([7, 4], [4, 7]), ([4, 8], [4, 8]), ([9, 7], [9]), ([10], [10]), ([11, 10], [10, 11]), ([12, 10], [10, 12]), ([13, 10, 10], [10, 13]), ([14], [14]), ([15, 14], [14, 15]), ([16, 14], [14, 16]), ([14, 17, 10], [10, 14, 17]), ([10, 18], [10, 18]), ([19, 14], [19]), ([20], [20]), ([21, 20], [20, 21]), ([22, 20, 20], [20, 22]), ([23], [23]), ([24, 23], [23, 24]), ([23], [23]), ([23], [23]), ([27, 23], [23, 27]), ([26, 28, 23], [23, 26, 28]), ([29, 23], [23, 29]), ([30, 23], [23, 30]), ([25, 31, 23], [23, 25, 31]), ([23, 32, 20], [20, 23, 32]), ([20, 33], [20, 33]), ([34, 23], [34]), ([35], [35]), ([36, 35], [35, 36]), ([37, 35, 35], [35, 37]), ([38], [38]), ([39, 38], [38, 39]), ([38], [38]), ([38], [38]), ([42, 38], [38, 42]), ([41, 43, 38], [38, 41, 43]), ([44, 38], [38, 44]), ([45, 38], [38, 45]), ([40, 46, 38], [38, 40, 46]), ([38, 47, 35], [35, 38, 47]), ([35, 48], [35, 48])])
def impl_IsComb.B6 : List Nat := [0, 1, 3, 7, 15, 31, 63, 127, 255, 511, 1023, 2047, 4095, 8191, 16383, 32767, 65535, 131071, 262143, 524287, 1048575, 2097151, 4194303, 8388607, 16777215, 33554431, 16777215, 16777215, 150994943, 486539263, 1023410175, 2097151999, 4294967295, 8589934591, 17179869183, 34359738367, 68719476735, 137438953471, 274877906943, 549755813887, 1099511627775, 549755813887, 549755813887, 4947802324991, 15942918602751, 33535104647167, 68719476735999, 140737488355327, 281474976710655, 562949953421311]
theorem impl_IsComb.tab6 : rtab .any (opsOf Tryd.f19 6) = impl_IsComb.T6 := by kernel_rfl
theorem impl_IsComb.bits6 : waitsOk impl_IsComb.T6.2 impl_IsComb.B6 = true := by kernel_rfl
set_option maxHeartbeats 8000000 in
set_option maxRecDepth 100000 in
theorem impl_IsComb.calls (k : Nat) (A0 : Option Addr) (c0 : Nat) (l0 : List (S38)) (r : Bool) (w : World) (hr0 : Kd.C k38 w A0 l0.length l0) (hc0 : l0.length ≤ c0) (h : impl_IsComb.f k l0 = some r) :
    Calls Tryd.prog 19 #[.slice A0 l0.length c0] w fun e w' => e = .returned (.bool r) ∧ Below w.heap.size w w' := by
  have hu38 := Tryd.underlying38
  have HR0 := Aside0.mk hr0
  have HC0 := Aside0.mk hc0
  clear hr0 hc0
  have HB := Aside0.mk (Below.refl w.heap.size w)
  have H : (if (l0.length : Int) < 1 then (impl_IsComb.j0 k l0 true) else (impl_IsComb.j0 k l0 (decide ((l0.length : Int) > 40)))) = some r := h
  clear h
  have HC2 := Aside0.mk H
  clear H
  go_enter Tryd.func19, Tryd.ntmps19
  go_upto_region 1 with (fail)
  go_cut [12] (fun v12 wc => ∃ (kq : Nat) (x12_1 : Bool), v12 = .bool x12_1 ∧ Aside0 (impl_IsComb.j0 kq l0 x12_1 = some r) ∧ Aside0 (kq ≤ k) ∧ Aside0 (Below w.heap.size w wc))
  case first =>
    have H := HC2.out
    clear HC2
    by_cases c3 : (l0.length : Int) < 1
    · rw [if_pos c3] at H
      have c3b0 : decide ((l0.length : Int) < 1) = true := decide_eq_true c3
      have c3b1 : decide (l0.length < 1) = true := decide_eq_true (by omega)
      clear c3
      (first | rw [c3b0] | (simp only [i64_w, i32_w]; rw [c3b0]) | skip)
      have H' := Aside0.mk H
      clear H
      go_wp2
      go_meet
      case rel => exact ⟨_, (true), (by first | rfl | (simp; done) | (simp [*]; done)), H', ⟨by first | omega | exact Nat.le_refl _⟩, ⟨by repeat (first | (with_reducible first | exact HB.out | apply below_alloc | apply pw_below_drewN | apply below_drew1) | exact HB.out)⟩⟩
    · rw [if_neg c3] at H
      have c3b0 : decide ((l0.length : Int) < 1) = false := decide_eq_false c3
      have c3b1 : decide (l0.length < 1) = false := decide_eq_false (by omega)
      clear c3
      (first | rw [c3b0] | (simp only [i64_w, i32_w]; rw [c3b0]) | skip)
      have H' := Aside0.mk H
      clear H
      go_wp2
      go_meet
      case rel => exact ⟨_, (decide ((l0.length : Int) > 40)), (by first | rfl | (simp; done) | (simp [*]; done)), H', ⟨by first | omega | exact Nat.le_refl _⟩, ⟨by repeat (first | (with_reducible first | exact HB.out | apply below_alloc | apply pw_below_drewN | apply below_drew1) | exact HB.out)⟩⟩
  case rest =>
    clear HC2
    try clear c1
    try clear p2
    try clear c3
    try clear c3b0
    try clear c3b1
    obtain ⟨kq, x12_1, rfl, HA, HJ1, HB⟩ := hcut
    cases kq with
    | zero => exact absurd HA.out (by simp [impl_IsComb.j0])
    | succ kj1 =>
      have H := HA.out
      clear HA
      simp only [impl_IsComb.j0] at H
      by_cases c4 : x12_1 = true
      · subst c4
        have H1 : (some false) = some r := by rw [if_pos rfl] at H; exact H
        clear H
        have H := H1
        clear H1
        obtain rfl := Option.some.inj H
        go_wp2
        go_ret
        exact ⟨by first | rfl | (simp [errW_none, errW_some] <;> rfl) | (simp [*, errW_none, errW_some] <;> rfl), by repeat (first | (with_reducible first | exact HB.out | apply below_alloc | apply pw_below_drewN | apply below_drew1) | exact HB.out)⟩
      · replace c4 := Bool.eq_false_iff.mpr c4
        subst c4
        have H1 : (impl_IsComb.l0 kj1 l0 l0 (l0.length : Int) 0) = some r := by rw [if_neg (show ¬ (false = true) by decide)] at H; exact H
        clear H
        have H := H1
        clear H1
        have H' := Aside0.mk H
        clear H
        go_wp2
        go_loopg [15] kj1 (fun kq v15 w' => ∃ (x15_2 : Int), v15 = .int .i64 x15_2 ∧ Aside0 (impl_IsComb.l0 kq l0 l0 (l0.length : Int) x15_2 = some r) ∧ Aside0 (kq ≤ kj1) ∧ Aside0 (Below w.heap.size w w'))
        case atStart => exact ⟨(0), (by first | rfl | (simp; done) | (simp [*]; done)), H', ⟨Nat.le_refl _⟩, ⟨by repeat (first | (with_reducible first | exact HB.out | apply below_alloc | apply pw_below_drewN | apply below_drew1) | exact HB.out)⟩⟩
        case round =>
          clear H'
          try clear c1
          try clear p2
          try clear c3
          try clear c3b0
          try clear c3b1
          try clear c4
          try clear p2
          obtain ⟨x15_2, rfl, HA, HK2, HB⟩ := hrel
          cases gk with
          | zero => exact absurd HA.out (by simp [impl_IsComb.l0])
          | succ k2 =>
            have H := HA.out
            clear HA
            simp only [impl_IsComb.l0] at H
            by_cases c5 : x15_2 < (l0.length : Int)
            · rw [if_pos c5] at H
              have c5b0 : decide (x15_2 < (l0.length : Int)) = true := decide_eq_true c5
              clear c5
              by_cases c6 : 0 ≤ x15_2
              · rw [if_pos c6] at H
                have c6b0 : decide (0 ≤ x15_2) = true := decide_eq_true c6
                clear c6
                by_cases c7 : x15_2 < (l0.length : Int)
                · rw [if_pos c7] at H
                  have c7b0 : decide (x15_2 < (l0.length : Int)) = true := decide_eq_true c7
                  clear c7
                  replace H := Option.bind_eq_some_iff.mp H
                  obtain ⟨t146, A80, H⟩ := H
                  replace H : (if t146 = true then ((impl_isCents.f ((rd_T38 l0 x15_2).f1)).bind fun t147 => (if t147 = true then (if ((rd_T38 l0 x15_2).f2) = 0 then (if x15_2 > 0 then (if 0 ≤ (wrap64 (x15_2 - 1)) then (if (wrap64 (x15_2 - 1)) < (l0.length : Int) then (if ((rd_T38 l0 x15_2).f0) < ((rd_T38 l0 (wrap64 (x15_2 - 1))).f0) then (some false) else (if x15_2 ≥ 4 then (if 0 ≤ (wrap64 (x15_2 - 4)) then (if (wrap64 (x15_2 - 4)) < (l0.length : Int) then (if ((rd_T38 l0 x15_2).f0) = ((rd_T38 l0 (wrap64 (x15_2 - 4))).f0) then (some false) else (impl_IsComb.l0 k2 l0 l0 (l0.length : Int) (wrap64 (x15_2 + 1)))) else (none)) else (none)) else (impl_IsComb.l0 k2 l0 l0 (l0.length : Int) (wrap64 (x15_2 + 1))))) else (none)) else (none)) else (if x15_2 ≥ 4 then (if 0 ≤ (wrap64 (x15_2 - 4)) then (if (wrap64 (x15_2 - 4)) < (l0.length : Int) then (if ((rd_T38 l0 x15_2).f0) = ((rd_T38 l0 (wrap64 (x15_2 - 4))).f0) then (some false) else (impl_IsComb.l0 k2 l0 l0 (l0.length : Int) (wrap64 (x15_2 + 1)))) else (none)) else (none)) else (impl_IsComb.l0 k2 l0 l0 (l0.length : Int) (wrap64 (x15_2 + 1))))) else (if ((rd_T38 l0 x15_2).f2) = 1 then (if x15_2 > 0 then (if 0 ≤ (wrap64 (x15_2 - 1)) then (if (wrap64 (x15_2 - 1)) < (l0.length : Int) then (if ((rd_T38 l0 x15_2).f0) < ((rd_T38 l0 (wrap64 (x15_2 - 1))).f0) then (some false) else (if x15_2 ≥ 4 then (if 0 ≤ (wrap64 (x15_2 - 4)) then (if (wrap64 (x15_2 - 4)) < (l0.length : Int) then (if ((rd_T38 l0 x15_2).f0) = ((rd_T38 l0 (wrap64 (x15_2 - 4))).f0) then (some false) else (impl_IsComb.l0 k2 l0 l0 (l0.length : Int) (wrap64 (x15_2 + 1)))) else (none)) else (none)) else (impl_IsComb.l0 k2 l0 l0 (l0.length : Int) (wrap64 (x15_2 + 1))))) else (none)) else (none)) else (if x15_2 ≥ 4 then (if 0 ≤ (wrap64 (x15_2 - 4)) then (if (wrap64 (x15_2 - 4)) < (l0.length : Int) then (if ((rd_T38 l0 x15_2).f0) = ((rd_T38 l0 (wrap64 (x15_2 - 4))).f0) then (some false) else (impl_IsComb.l0 k2 l0 l0 (l0.length : Int) (wrap64 (x15_2 + 1)))) else (none)) else (none)) else (impl_IsComb.l0 k2 l0 l0 (l0.length : Int) (wrap64 (x15_2 + 1))))) else (some false))) else (some false))) else (some false)) = some r := H
                  have A8 := Aside0.mk A80
                  clear A80
                  by_cases c9 : t146 = true
                  · subst c9
                    have H1 : ((impl_isCents.f ((rd_T38 l0 x15_2).f1)).bind fun t147 => (if t147 = true then (if ((rd_T38 l0 x15_2).f2) = 0 then (if x15_2 > 0 then (if 0 ≤ (wrap64 (x15_2 - 1)) then (if (wrap64 (x15_2 - 1)) < (l0.length : Int) then (if ((rd_T38 l0 x15_2).f0) < ((rd_T38 l0 (wrap64 (x15_2 - 1))).f0) then (some false) else (if x15_2 ≥ 4 then (if 0 ≤ (wrap64 (x15_2 - 4)) then (if (wrap64 (x15_2 - 4)) < (l0.length : Int) then (if ((rd_T38 l0 x15_2).f0) = ((rd_T38 l0 (wrap64 (x15_2 - 4))).f0) then (some false) else (impl_IsComb.l0 k2 l0 l0 (l0.length : Int) (wrap64 (x15_2 + 1)))) else (none)) else (none)) else (impl_IsComb.l0 k2 l0 l0 (l0.length : Int) (wrap64 (x15_2 + 1))))) else (none)) else (none)) else (if x15_2 ≥ 4 then (if 0 ≤ (wrap64 (x15_2 - 4)) then (if (wrap64 (x15_2 - 4)) < (l0.length : Int) then (if ((rd_T38 l0 x15_2).f0) = ((rd_T38 l0 (wrap64 (x15_2 - 4))).f0) then (some false) else (impl_IsComb.l0 k2 l0 l0 (l0.length : Int) (wrap64 (x15_2 + 1)))) else (none)) else (none)) else (impl_IsComb.l0 k2 l0 l0 (l0.length : Int) (wrap64 (x15_2 + 1))))) else (if ((rd_T38 l0 x15_2).f2) = 1 then (if x15_2 > 0 then (if 0 ≤ (wrap64 (x15_2 - 1)) then (if (wrap64 (x15_2 - 1)) < (l0.length : Int) then (if ((rd_T38 l0 x15_2).f0) < ((rd_T38 l0 (wrap64 (x15_2 - 1))).f0) then (some false) else (if x15_2 ≥ 4 then (if 0 ≤ (wrap64 (x15_2 - 4)) then (if (wrap64 (x15_2 - 4)) < (l0.length : Int) then (if ((rd_T38 l0 x15_2).f0) = ((rd_T38 l0 (wrap64 (x15_2 - 4))).f0) then (some false) else (impl_IsComb.l0 k2 l0 l0 (l0.length : Int) (wrap64 (x15_2 + 1)))) else (none)) else (none)) else (impl_IsComb.l0 k2 l0 l0 (l0.length : Int) (wrap64 (x15_2 + 1))))) else (none)) else (none)) else (if x15_2 ≥ 4 then (if 0 ≤ (wrap64 (x15_2 - 4)) then (if (wrap64 (x15_2 - 4)) < (l0.length : Int) then (if ((rd_T38 l0 x15_2).f0) = ((rd_T38 l0 (wrap64 (x15_2 - 4))).f0) then (some false) else (impl_IsComb.l0 k2 l0 l0 (l0.length : Int) (wrap64 (x15_2 + 1)))) else (none)) else (none)) else (impl_IsComb.l0 k2 l0 l0 (l0.length : Int) (wrap64 (x15_2 + 1))))) else (some false))) else (some false))) = some r := by rw [if_pos rfl] at H; exact H
                    clear H
                    have H := H1
                    clear H1
                    replace H := Option.bind_eq_some_iff.mp H
                    obtain ⟨t147, A100, H⟩ := H
                    replace H : (if t147 = true then (if ((rd_T38 l0 x15_2).f2) = 0 then (if x15_2 > 0 then (if 0 ≤ (wrap64 (x15_2 - 1)) then (if (wrap64 (x15_2 - 1)) < (l0.length : Int) then (if ((rd_T38 l0 x15_2).f0) < ((rd_T38 l0 (wrap64 (x15_2 - 1))).f0) then (some false) else (if x15_2 ≥ 4 then (if 0 ≤ (wrap64 (x15_2 - 4)) then (if (wrap64 (x15_2 - 4)) < (l0.length : Int) then (if ((rd_T38 l0 x15_2).f0) = ((rd_T38 l0 (wrap64 (x15_2 - 4))).f0) then (some false) else (impl_IsComb.l0 k2 l0 l0 (l0.length : Int) (wrap64 (x15_2 + 1)))) else (none)) else (none)) else (impl_IsComb.l0 k2 l0 l0 (l0.length : Int) (wrap64 (x15_2 + 1))))) else (none)) else (none)) else (if x15_2 ≥ 4 then (if 0 ≤ (wrap64 (x15_2 - 4)) then (if (wrap64 (x15_2 - 4)) < (l0.length : Int) then (if ((rd_T38 l0 x15_2).f0) = ((rd_T38 l0 (wrap64 (x15_2 - 4))).f0) then (some false) else (impl_IsComb.l0 k2 l0 l0 (l0.length : Int) (wrap64 (x15_2 + 1)))) else (none)) else (none)) else (impl_IsComb.l0 k2 l0 l0 (l0.length : Int) (wrap64 (x15_2 + 1))))) else (if ((rd_T38 l0 x15_2).f2) = 1 then (if x15_2 > 0 then (if 0 ≤ (wrap64 (x15_2 - 1)) then (if (wrap64 (x15_2 - 1)) < (l0.length : Int) then (if ((rd_T38 l0 x15_2).f0) < ((rd_T38 l0 (wrap64 (x15_2 - 1))).f0) then (some false) else (if x15_2 ≥ 4 then (if 0 ≤ (wrap64 (x15_2 - 4)) then (if (wrap64 (x15_2 - 4)) < (l0.length : Int) then (if ((rd_T38 l0 x15_2).f0) = ((rd_T38 l0 (wrap64 (x15_2 - 4))).f0) then (some false) else (impl_IsComb.l0 k2 l0 l0 (l0.length : Int) (wrap64 (x15_2 + 1)))) else (none)) else (none)) else (impl_IsComb.l0 k2 l0 l0 (l0.length : Int) (wrap64 (x15_2 + 1))))) else (none)) else (none)) else (if x15_2 ≥ 4 then (if 0 ≤ (wrap64 (x15_2 - 4)) then (if (wrap64 (x15_2 - 4)) < (l0.length : Int) then (if ((rd_T38 l0 x15_2).f0) = ((rd_T38 l0 (wrap64 (x15_2 - 4))).f0) then (some false) else (impl_IsComb.l0 k2 l0 l0 (l0.length : Int) (wrap64 (x15_2 + 1)))) else (none)) else (none)) else (impl_IsComb.l0 k2 l0 l0 (l0.length : Int) (wrap64 (x15_2 + 1))))) else (some false))) else (some false)) = some r := H
                    have A10 := Aside0.mk A100
                    clear A100
                    by_cases c11 : t147 = true
                    · subst c11
                      have H1 : (if ((rd_T38 l0 x15_2).f2) = 0 then (if x15_2 > 0 then (if 0 ≤ (wrap64 (x15_2 - 1)) then (if (wrap64 (x15_2 - 1)) < (l0.length : Int) then (if ((rd_T38 l0 x15_2).f0) < ((rd_T38 l0 (wrap64 (x15_2 - 1))).f0) then (some false) else (if x15_2 ≥ 4 then (if 0 ≤ (wrap64 (x15_2 - 4)) then (if (wrap64 (x15_2 - 4)) < (l0.length : Int) then (if ((rd_T38 l0 x15_2).f0) = ((rd_T38 l0 (wrap64 (x15_2 - 4))).f0) then (some false) else (impl_IsComb.l0 k2 l0 l0 (l0.length : Int) (wrap64 (x15_2 + 1)))) else (none)) else (none)) else (impl_IsComb.l0 k2 l0 l0 (l0.length : Int) (wrap64 (x15_2 + 1))))) else (none)) else (none)) else (if x15_2 ≥ 4 then (if 0 ≤ (wrap64 (x15_2 - 4)) then (if (wrap64 (x15_2 - 4)) < (l0.length : Int) then (if ((rd_T38 l0 x15_2).f0) = ((rd_T38 l0 (wrap64 (x15_2 - 4))).f0) then (some false) else (impl_IsComb.l0 k2 l0 l0 (l0.length : Int) (wrap64 (x15_2 + 1)))) else (none)) else (none)) else (impl_IsComb.l0 k2 l0 l0 (l0.length : Int) (wrap64 (x15_2 + 1))))) else (if ((rd_T38 l0 x15_2).f2) = 1 then (if x15_2 > 0 then (if 0 ≤ (wrap64 (x15_2 - 1)) then (if (wrap64 (x15_2 - 1)) < (l0.length : Int) then (if ((rd_T38 l0 x15_2).f0) < ((rd_T38 l0 (wrap64 (x15_2 - 1))).f0) then (some false) else (if x15_2 ≥ 4 then (if 0 ≤ (wrap64 (x15_2 - 4)) then (if (wrap64 (x15_2 - 4)) < (l0.length : Int) then (if ((rd_T38 l0 x15_2).f0) = ((rd_T38 l0 (wrap64 (x15_2 - 4))).f0) then (some false) else (impl_IsComb.l0 k2 l0 l0 (l0.length : Int) (wrap64 (x15_2 + 1)))) else (none)) else (none)) else (impl_IsComb.l0 k2 l0 l0 (l0.length : Int) (wrap64 (x15_2 + 1))))) else (none)) else (none)) else (if x15_2 ≥ 4 then (if 0 ≤ (wrap64 (x15_2 - 4)) then (if (wrap64 (x15_2 - 4)) < (l0.length : Int) then (if ((rd_T38 l0 x15_2).f0) = ((rd_T38 l0 (wrap64 (x15_2 - 4))).f0) then (some false) else (impl_IsComb.l0 k2 l0 l0 (l0.length : Int) (wrap64 (x15_2 + 1)))) else (none)) else (none)) else (impl_IsComb.l0 k2 l0 l0 (l0.length : Int) (wrap64 (x15_2 + 1))))) else (some false))) = some r := by rw [if_pos rfl] at H; exact H
                      clear H
                      have H := H1
                      clear H1
                      by_cases c12 : ((rd_T38 l0 x15_2).f2) = 0
                      · rw [if_pos c12] at H
                        have c12b0 : (((rd_T38 l0 x15_2).f2) == 0) = true := beq_iff_eq.mpr c12
                        have c12b1 : (((rd_T38 l0 x15_2).f2) != 0) = false := bne_eq_false_iff_eq.mpr c12
                        clear c12
                        by_cases c13 : x15_2 > 0
                        · rw [if_pos c13] at H
                          have c13b0 : decide (0 < x15_2) = true := decide_eq_true c13
                          clear c13
                          obtain ⟨ji14, hji14⟩ : ∃ j_ : Int, (wrap64 (x15_2 - 1)) = j_ := ⟨_, rfl⟩
                          replace H : (if 0 ≤ (ji14) then (if (ji14) < (l0.length : Int) then (if ((rd_T38 l0 x15_2).f0) < ((rd_T38 l0 (ji14)).f0) then (some false) else (if x15_2 ≥ 4 then (if 0 ≤ (wrap64 (x15_2 - 4)) then (if (wrap64 (x15_2 - 4)) < (l0.length : Int) then (if ((rd_T38 l0 x15_2).f0) = ((rd_T38 l0 (wrap64 (x15_2 - 4))).f0) then (some false) else (impl_IsComb.l0 k2 l0 l0 (l0.length : Int) (wrap64 (x15_2 + 1)))) else (none)) else (none)) else (impl_IsComb.l0 k2 l0 l0 (l0.length : Int) (wrap64 (x15_2 + 1))))) else (none)) else (none)) = some r := by first | (rw [hji14] at H; exact H) | (simp only [hji14] at H ⊢; exact H)
                          (try rw [hji14] at A8)
                          (try rw [hji14] at A10)
                          have hji14w : (IntKind.i64.wrap (x15_2 - 1)) = ji14 := (i64_w _).trans hji14
                          by_cases c15 : 0 ≤ (ji14)
                          · rw [if_pos c15] at H
                            have c15b0 : decide (0 ≤ (ji14)) = true := decide_eq_true c15
                            clear c15
                            by_cases c16 : (ji14) < (l0.length : Int)
                            · rw [if_pos c16] at H
                              have c16b0 : decide ((ji14) < (l0.length : Int)) = true := decide_eq_true c16
                              clear c16
                              by_cases c17 : ((rd_T38 l0 x15_2).f0) < ((rd_T38 l0 (ji14)).f0)
                              · rw [if_pos c17] at H
                                have c17b0 : decide (((rd_T38 l0 x15_2).f0) < ((rd_T38 l0 (ji14)).f0)) = true := decide_eq_true c17
                                clear c17
                                obtain rfl := Option.some.inj H
                                have p144 : 0 ≤ (x15_2 : Int) := of_decide_eq_true (by first | (with_reducible assumption) | assumption)
                                have q144 : x15_2 < (l0.length : Int) := of_decide_eq_true (by first | (with_reducible assumption) | assumption)
                                obtain ⟨ad144, e144, hx144_0, hx144_1, hx144_2⟩ := at_T38 HR0.out x15_2 p144 q144
                                cases e144
                                replace hx144_0 := (HB.out.cell (World.block_lt_of_cell? w _ hx144_0)).trans hx144_0
                                replace hx144_1 := (HB.out.cell (World.block_lt_of_cell? w _ hx144_1)).trans hx144_1
                                replace hx144_2 := (HB.out.cell (World.block_lt_of_cell? w _ hx144_2)).trans hx144_2
                                replace p144 := eq_true p144
                                replace q144 := eq_true q144
                                try go_wp2_with (first | ((with_reducible refine gate_dst (N := 4) rfl ?_); (try (refine gate_guard (by rfl) ?_; dsimp only)); refine box_event ?hg (N := 4) ?hd (cs := #[.int .i64 0, .int .i64 0, .int .i64 0]) (t := 38) ?hr ?_; (case hd => rfl); (case hg => rfl); (case hr => first | (go_simp; done) | (go_simp; rfl)); intro gb145 hg w18 hbox hb; have n0_ := Aside0.mk (below_step (by repeat (first | (with_reducible first | exact HB.out | apply below_alloc | apply pw_below_drewN | apply below_drew1) | exact HB.out)) hb); have n1_ := Aside0.mk (hbox); have n2_ := Aside0.mk ((by rw [hg]; exact (below_size (by repeat (first | (with_reducible first | exact HB.out | apply below_alloc | apply pw_below_drewN | apply below_drew1) | exact HB.out))) : w.heap.size ≤ gb145)); have n3_ := Aside0.mk ((by rw [hg]; exact (below_size (by repeat (first | (with_reducible first | exact HB.out | apply below_alloc | apply pw_below_drewN | apply below_drew1) | exact HB.out))) : w.heap.size ≤ gb145)); clear HB; have HB := n0_; have BK145 := n1_; have GW145 := n2_; have GE145 := n3_; clear n0_ n1_ n2_ n3_; clear hb hbox hg; have hcz19_0 : w18.cell? ⟨gb145, 0, none⟩ = some (.int .i64 0) := (blk_cell BK145.out 0).trans rfl; have hcz19_1 : w18.cell? ⟨gb145, 1, none⟩ = some (.int .i64 0) := (blk_cell BK145.out 1).trans rfl; have hcz19_2 : w18.cell? ⟨gb145, 2, none⟩ = some (.int .i64 0) := (blk_cell BK145.out 2).trans rfl; have hfz19_0 := blk_frozen BK145.out 0; have hfz19_1 := blk_frozen BK145.out 1; have hfz19_2 := blk_frozen BK145.out 2))
                                have n0_ : Aside0 ((((w18.setCell ⟨gb145, 0, none⟩ (.int .i64 ((rd_T38 l0 x15_2).f0))).setCell ⟨gb145, 1, none⟩ (.int .i64 ((rd_T38 l0 x15_2).f1))).setCell ⟨gb145, 2, none⟩ (.int .i64 ((rd_T38 l0 x15_2).f2))).heap[gb145]? = some (.cells #[.int .i64 ((rd_T38 l0 x15_2).f0), .int .i64 ((rd_T38 l0 x15_2).f1), .int .i64 ((rd_T38 l0 x15_2).f2)] 38 (0, 0))) := ⟨by (with_reducible repeat (first | refine blk_drewN ?_ _ | refine blk_drew ?_ | refine blk_alloc ?_ _)); refine blk_put (cs := #[.int .i64 ((rd_T38 l0 x15_2).f0), .int .i64 ((rd_T38 l0 x15_2).f1), .int .i64 0]) ?_ 2 _ rfl; (with_reducible repeat (first | refine blk_drewN ?_ _ | refine blk_drew ?_ | refine blk_alloc ?_ _)); refine blk_put (cs := #[.int .i64 ((rd_T38 l0 x15_2).f0), .int .i64 0, .int .i64 0]) ?_ 1 _ rfl; (with_reducible repeat (first | refine blk_drewN ?_ _ | refine blk_drew ?_ | refine blk_alloc ?_ _)); refine blk_put (cs := #[.int .i64 0, .int .i64 0, .int .i64 0]) ?_ 0 _ rfl; (with_reducible repeat (first | refine blk_drewN ?_ _ | refine blk_drew ?_ | refine blk_alloc ?_ _)); exact BK145.out⟩
                                have n1_ : Aside0 (Below w.heap.size w (((w18.setCell ⟨gb145, 0, none⟩ (.int .i64 ((rd_T38 l0 x15_2).f0))).setCell ⟨gb145, 1, none⟩ (.int .i64 ((rd_T38 l0 x15_2).f1))).setCell ⟨gb145, 2, none⟩ (.int .i64 ((rd_T38 l0 x15_2).f2)))) := ⟨by repeat (first | (with_reducible first | exact HB.out | apply below_alloc | apply pw_below_drewN | apply below_drew1 | refine below_set ?_ GE145.out) | exact HB.out)⟩
                                (try clear BK145)
                                (try clear HB)
                                generalize (((w18.setCell ⟨gb145, 0, none⟩ (.int .i64 ((rd_T38 l0 x15_2).f0))).setCell ⟨gb145, 1, none⟩ (.int .i64 ((rd_T38 l0 x15_2).f1))).setCell ⟨gb145, 2, none⟩ (.int .i64 ((rd_T38 l0 x15_2).f2))) = w20 at n0_ n1_ ⊢
                                have BK145 := n0_
                                have HB := n1_
                                clear n0_ n1_
                                have p148 : 0 ≤ ((ji14) : Int) := of_decide_eq_true (by first | (with_reducible assumption) | assumption)
                                have q148 : (ji14) < (l0.length : Int) := of_decide_eq_true (by first | (with_reducible assumption) | assumption)
                                obtain ⟨ad148, e148, hx148_0, hx148_1, hx148_2⟩ := at_T38 HR0.out (ji14) p148 q148
                                have hw148_2 := hx148_2
                                have hw148_1 := hx148_1
                                have hw148_0 := hx148_0
                                obtain rfl : ad144 = ad148 := (by injection e148)
                                replace hx148_0 := (HB.out.cell (World.block_lt_of_cell? w _ hx148_0)).trans hx148_0
                                replace hx148_1 := (HB.out.cell (World.block_lt_of_cell? w _ hx148_1)).trans hx148_1
                                replace hx148_2 := (HB.out.cell (World.block_lt_of_cell? w _ hx148_2)).trans hx148_2
                                replace p148 := eq_true p148
                                replace q148 := eq_true q148
                                have hq0_ : w20.cell? ⟨gb145, 0, none⟩ = some (.int .i64 ((rd_T38 l0 x15_2).f0)) := (blk_cell BK145.out 0).trans rfl
                                have hq1_ : w20.cell? ⟨gb145, 1, none⟩ = some (.int .i64 ((rd_T38 l0 x15_2).f1)) := (blk_cell BK145.out 1).trans rfl
                                have hq2_ : w20.cell? ⟨gb145, 2, none⟩ = some (.int .i64 ((rd_T38 l0 x15_2).f2)) := (blk_cell BK145.out 2).trans rfl
                                go_quiet (first | (go_at_call 34; exact quiet_drawn (impl_isPitch.calls ((rd_T38 l0 x15_2).f0) true _ A8.out)) | (go_at_call 35; exact quiet_drawn (impl_isCents.calls ((rd_T38 l0 x15_2).f1) true _ A10.out)))
                                try go_wp2
                                go_ret
                                exact ⟨by first | rfl | (simp [errW_none, errW_some] <;> rfl) | (simp only [← hji14]; first | rfl | (simp [errW_none, errW_some] <;> rfl)) | (simp [*, errW_none, errW_some] <;> rfl), by repeat (first | (with_reducible first | exact HB.out | apply below_alloc | apply pw_below_drewN | apply below_drew1 | refine below_set ?_ GE145.out) | exact HB.out)⟩
                              · rw [if_neg c17] at H
                                have c17b0 : decide (((rd_T38 l0 x15_2).f0) < ((rd_T38 l0 (ji14)).f0)) = false := decide_eq_false c17
                                clear c17
                                by_cases c22 : x15_2 ≥ 4
                                · rw [if_pos c22] at H
                                  have c22b0 : decide (4 ≤ x15_2) = true := decide_eq_true c22
                                  clear c22
                                  obtain ⟨ji23, hji23⟩ : ∃ j_ : Int, (wrap64 (x15_2 - 4)) = j_ := ⟨_, rfl⟩
                                  replace H : (if 0 ≤ (ji23) then (if (ji23) < (l0.length : Int) then (if ((rd_T38 l0 x15_2).f0) = ((rd_T38 l0 (ji23)).f0) then (some false) else (impl_IsComb.l0 k2 l0 l0 (l0.length : Int) (wrap64 (x15_2 + 1)))) else (none)) else (none)) = some r := by first | (rw [hji23] at H; exact H) | (simp only [hji23] at H ⊢; exact H)
                                  (try rw [hji23] at A8)
                                  (try rw [hji23] at A10)
                                  have hji23w : (IntKind.i64.wrap (x15_2 - 4)) = ji23 := (i64_w _).trans hji23
                                  by_cases c24 : 0 ≤ (ji23)
                                  · rw [if_pos c24] at H
                                    have c24b0 : decide (0 ≤ (ji23)) = true := decide_eq_true c24
                                    clear c24
                                    by_cases c25 : (ji23) < (l0.length : Int)
                                    · rw [if_pos c25] at H
                                      have c25b0 : decide ((ji23) < (l0.length : Int)) = true := decide_eq_true c25
                                      clear c25
                                      by_cases c26 : ((rd_T38 l0 x15_2).f0) = ((rd_T38 l0 (ji23)).f0)
                                      · rw [if_pos c26] at H
                                        have c26b0 : (((rd_T38 l0 x15_2).f0) == ((rd_T38 l0 (ji23)).f0)) = true := beq_iff_eq.mpr c26
                                        have c26b1 : (((rd_T38 l0 x15_2).f0) != ((rd_T38 l0 (ji23)).f0)) = false := bne_eq_false_iff_eq.mpr c26
                                        clear c26
                                        obtain rfl := Option.some.inj H
                                        have p144 : 0 ≤ (x15_2 : Int) := of_decide_eq_true (by first | (with_reducible assumption) | assumption)
                                        have q144 : x15_2 < (l0.length : Int) := of_decide_eq_true (by first | (with_reducible assumption) | assumption)
                                        obtain ⟨ad144, e144, hx144_0, hx144_1, hx144_2⟩ := at_T38 HR0.out x15_2 p144 q144
                                        cases e144
                                        replace hx144_0 := (HB.out.cell (World.block_lt_of_cell? w _ hx144_0)).trans hx144_0
                                        replace hx144_1 := (HB.out.cell (World.block_lt_of_cell? w _ hx144_1)).trans hx144_1
                                        replace hx144_2 := (HB.out.cell (World.block_lt_of_cell? w _ hx144_2)).trans hx144_2
                                        replace p144 := eq_true p144
                                        replace q144 := eq_true q144
                                        try go_wp2_with (first | ((with_reducible refine gate_dst (N := 4) rfl ?_); (try (refine gate_guard (by rfl) ?_; dsimp only)); refine box_event ?hg (N := 4) ?hd (cs := #[.int .i64 0, .int .i64 0, .int .i64 0]) (t := 38) ?hr ?_; (case hd => rfl); (case hg => rfl); (case hr => first | (go_simp; done) | (go_simp; rfl)); intro gb145 hg w27 hbox hb; have n0_ := Aside0.mk (below_step (by repeat (first | (with_reducible first | exact HB.out | apply below_alloc | apply pw_below_drewN | apply below_drew1) | exact HB.out)) hb); have n1_ := Aside0.mk (hbox); have n2_ := Aside0.mk ((by rw [hg]; exact (below_size (by repeat (first | (with_reducible first | exact HB.out | apply below_alloc | apply pw_below_drewN | apply below_drew1) | exact HB.out))) : w.heap.size ≤ gb145)); have n3_ := Aside0.mk ((by rw [hg]; exact (below_size (by repeat (first | (with_reducible first | exact HB.out | apply below_alloc | apply pw_below_drewN | apply below_drew1) | exact HB.out))) : w.heap.size ≤ gb145)); clear HB; have HB := n0_; have BK145 := n1_; have GW145 := n2_; have GE145 := n3_; clear n0_ n1_ n2_ n3_; clear hb hbox hg; have hcz28_0 : w27.cell? ⟨gb145, 0, none⟩ = some (.int .i64 0) := (blk_cell BK145.out 0).trans rfl; have hcz28_1 : w27.cell? ⟨gb145, 1, none⟩ = some (.int .i64 0) := (blk_cell BK145.out 1).trans rfl; have hcz28_2 : w27.cell? ⟨gb145, 2, none⟩ = some (.int .i64 0) := (blk_cell BK145.out 2).trans rfl; have hfz28_0 := blk_frozen BK145.out 0; have hfz28_1 := blk_frozen BK145.out 1; have hfz28_2 := blk_frozen BK145.out 2))
                                        have n0_ : Aside0 ((((w27.setCell ⟨gb145, 0, none⟩ (.int .i64 ((rd_T38 l0 x15_2).f0))).setCell ⟨gb145, 1, none⟩ (.int .i64 ((rd_T38 l0 x15_2).f1))).setCell ⟨gb145, 2, none⟩ (.int .i64 ((rd_T38 l0 x15_2).f2))).heap[gb145]? = some (.cells #[.int .i64 ((rd_T38 l0 x15_2).f0), .int .i64 ((rd_T38 l0 x15_2).f1), .int .i64 ((rd_T38 l0 x15_2).f2)] 38 (0, 0))) := ⟨by (with_reducible repeat (first | refine blk_drewN ?_ _ | refine blk_drew ?_ | refine blk_alloc ?_ _)); refine blk_put (cs := #[.int .i64 ((rd_T38 l0 x15_2).f0), .int .i64 ((rd_T38 l0 x15_2).f1), .int .i64 0]) ?_ 2 _ rfl; (with_reducible repeat (first | refine blk_drewN ?_ _ | refine blk_drew ?_ | refine blk_alloc ?_ _)); refine blk_put (cs := #[.int .i64 ((rd_T38 l0 x15_2).f0), .int .i64 0, .int .i64 0]) ?_ 1 _ rfl; (with_reducible repeat (first | refine blk_drewN ?_ _ | refine blk_drew ?_ | refine blk_alloc ?_ _)); refine blk_put (cs := #[.int .i64 0, .int .i64 0, .int .i64 0]) ?_ 0 _ rfl; (with_reducible repeat (first | refine blk_drewN ?_ _ | refine blk_drew ?_ | refine blk_alloc ?_ _)); exact BK145.out⟩
                                        have n1_ : Aside0 (Below w.heap.size w (((w27.setCell ⟨gb145, 0, none⟩ (.int .i64 ((rd_T38 l0 x15_2).f0))).setCell ⟨gb145, 1, none⟩ (.int .i64 ((rd_T38 l0 x15_2).f1))).setCell ⟨gb145, 2, none⟩ (.int .i64 ((rd_T38 l0 x15_2).f2)))) := ⟨by repeat (first | (with_reducible first | exact HB.out | apply below_alloc | apply pw_below_drewN | apply below_drew1 | refine below_set ?_ GE145.out) | exact HB.out)⟩
                                        (try clear BK145)
                                        (try clear HB)
                                        generalize (((w27.setCell ⟨gb145, 0, none⟩ (.int .i64 ((rd_T38 l0 x15_2).f0))).setCell ⟨gb145, 1, none⟩ (.int .i64 ((rd_T38 l0 x15_2).f1))).setCell ⟨gb145, 2, none⟩ (.int .i64 ((rd_T38 l0 x15_2).f2))) = w29 at n0_ n1_ ⊢
                                        have BK145 := n0_
                                        have HB := n1_
                                        clear n0_ n1_
                                        have p148 : 0 ≤ ((ji14) : Int) := of_decide_eq_true (by first | (with_reducible assumption) | assumption)
                                        have q148 : (ji14) < (l0.length : Int) := of_decide_eq_true (by first | (with_reducible assumption) | assumption)
                                        obtain ⟨ad148, e148, hx148_0, hx148_1, hx148_2⟩ := at_T38 HR0.out (ji14) p148 q148
                                        have hw148_2 := hx148_2
                                        have hw148_1 := hx148_1
                                        have hw148_0 := hx148_0
                                        obtain rfl : ad144 = ad148 := (by injection e148)
                                        replace hx148_0 := (HB.out.cell (World.block_lt_of_cell? w _ hx148_0)).trans hx148_0
                                        replace hx148_1 := (HB.out.cell (World.block_lt_of_cell? w _ hx148_1)).trans hx148_1
                                        replace hx148_2 := (HB.out.cell (World.block_lt_of_cell? w _ hx148_2)).trans hx148_2
                                        replace p148 := eq_true p148
                                        replace q148 := eq_true q148
                                        have p149 : 0 ≤ ((ji23) : Int) := of_decide_eq_true (by first | (with_reducible assumption) | assumption)
                                        have q149 : (ji23) < (l0.length : Int) := of_decide_eq_true (by first | (with_reducible assumption) | assumption)
                                        obtain ⟨ad149, e149, hx149_0, hx149_1, hx149_2⟩ := at_T38 HR0.out (ji23) p149 q149
                                        have hw149_2 := hx149_2
                                        have hw149_1 := hx149_1
                                        have hw149_0 := hx149_0
                                        obtain rfl : ad144 = ad149 := (by injection e149)
                                        replace hx149_0 := (HB.out.cell (World.block_lt_of_cell? w _ hx149_0)).trans hx149_0
                                        replace hx149_1 := (HB.out.cell (World.block_lt_of_cell? w _ hx149_1)).trans hx149_1
                                        replace hx149_2 := (HB.out.cell (World.block_lt_of_cell? w _ hx149_2)).trans hx149_2
                                        replace p149 := eq_true p149
                                        replace q149 := eq_true q149
                                        have hq0_ : w29.cell? ⟨gb145, 0, none⟩ = some (.int .i64 ((rd_T38 l0 x15_2).f0)) := (blk_cell BK145.out 0).trans rfl
                                        have hq1_ : w29.cell? ⟨gb145, 1, none⟩ = some (.int .i64 ((rd_T38 l0 x15_2).f1)) := (blk_cell BK145.out 1).trans rfl
                                        have hq2_ : w29.cell? ⟨gb145, 2, none⟩ = some (.int .i64 ((rd_T38 l0 x15_2).f2)) := (blk_cell BK145.out 2).trans rfl
                                        go_quiet (first | (go_at_call 34; exact quiet_drawn (impl_isPitch.calls ((rd_T38 l0 x15_2).f0) true _ A8.out)) | (go_at_call 35; exact quiet_drawn (impl_isCents.calls ((rd_T38 l0 x15_2).f1) true _ A10.out)))
                                        try go_wp2
                                        go_ret
                                        exact ⟨by first | rfl | (simp [errW_none, errW_some] <;> rfl) | (simp only [← hji14, ← hji23]; first | rfl | (simp [errW_none, errW_some] <;> rfl)) | (simp [*, errW_none, errW_some] <;> rfl), by repeat (first | (with_reducible first | exact HB.out | apply below_alloc | apply pw_below_drewN | apply below_drew1 | refine below_set ?_ GE145.out) | exact HB.out)⟩
                                      · rw [if_neg c26] at H
                                        have c26b0 : (((rd_T38 l0 x15_2).f0) == ((rd_T38 l0 (ji23)).f0)) = false := beq_eq_false_iff_ne.mpr c26
                                        have c26b1 : (((rd_T38 l0 x15_2).f0) != ((rd_T38 l0 (ji23)).f0)) = true := bne_iff_ne.mpr c26
                                        have H' := Aside0.mk H
                                        clear H
                                        have p144 : 0 ≤ (x15_2 : Int) := of_decide_eq_true (by first | (with_reducible assumption) | assumption)
                                        have q144 : x15_2 < (l0.length : Int) := of_decide_eq_true (by first | (with_reducible assumption) | assumption)
                                        obtain ⟨ad144, e144, hx144_0, hx144_1, hx144_2⟩ := at_T38 HR0.out x15_2 p144 q144
                                        cases e144
                                        replace hx144_0 := (HB.out.cell (World.block_lt_of_cell? w _ hx144_0)).trans hx144_0
                                        replace hx144_1 := (HB.out.cell (World.block_lt_of_cell? w _ hx144_1)).trans hx144_1
                                        replace hx144_2 := (HB.out.cell (World.block_lt_of_cell? w _ hx144_2)).trans hx144_2
                                        replace p144 := eq_true p144
                                        replace q144 := eq_true q144
                                        try go_wp2_with (first | ((with_reducible refine gate_dst (N := 4) rfl ?_); (try (refine gate_guard (by rfl) ?_; dsimp only)); refine box_event ?hg (N := 4) ?hd (cs := #[.int .i64 0, .int .i64 0, .int .i64 0]) (t := 38) ?hr ?_; (case hd => rfl); (case hg => rfl); (case hr => first | (go_simp; done) | (go_simp; rfl)); intro gb145 hg w31 hbox hb; have n0_ := Aside0.mk (below_step (by repeat (first | (with_reducible first | exact HB.out | apply below_alloc | apply pw_below_drewN | apply below_drew1) | exact HB.out)) hb); have n1_ := Aside0.mk (hbox); have n2_ := Aside0.mk ((by rw [hg]; exact (below_size (by repeat (first | (with_reducible first | exact HB.out | apply below_alloc | apply pw_below_drewN | apply below_drew1) | exact HB.out))) : w.heap.size ≤ gb145)); have n3_ := Aside0.mk ((by rw [hg]; exact (below_size (by repeat (first | (with_reducible first | exact HB.out | apply below_alloc | apply pw_below_drewN | apply below_drew1) | exact HB.out))) : w.heap.size ≤ gb145)); clear HB; have HB := n0_; have BK145 := n1_; have GW145 := n2_; have GE145 := n3_; clear n0_ n1_ n2_ n3_; clear hb hbox hg; have hcz32_0 : w31.cell? ⟨gb145, 0, none⟩ = some (.int .i64 0) := (blk_cell BK145.out 0).trans rfl; have hcz32_1 : w31.cell? ⟨gb145, 1, none⟩ = some (.int .i64 0) := (blk_cell BK145.out 1).trans rfl; have hcz32_2 : w31.cell? ⟨gb145, 2, none⟩ = some (.int .i64 0) := (blk_cell BK145.out 2).trans rfl; have hfz32_0 := blk_frozen BK145.out 0; have hfz32_1 := blk_frozen BK145.out 1; have hfz32_2 := blk_frozen BK145.out 2))
                                        have n0_ : Aside0 ((((w31.setCell ⟨gb145, 0, none⟩ (.int .i64 ((rd_T38 l0 x15_2).f0))).setCell ⟨gb145, 1, none⟩ (.int .i64 ((rd_T38 l0 x15_2).f1))).setCell ⟨gb145, 2, none⟩ (.int .i64 ((rd_T38 l0 x15_2).f2))).heap[gb145]? = some (.cells #[.int .i64 ((rd_T38 l0 x15_2).f0), .int .i64 ((rd_T38 l0 x15_2).f1), .int .i64 ((rd_T38 l0 x15_2).f2)] 38 (0, 0))) := ⟨by (with_reducible repeat (first | refine blk_drewN ?_ _ | refine blk_drew ?_ | refine blk_alloc ?_ _)); refine blk_put (cs := #[.int .i64 ((rd_T38 l0 x15_2).f0), .int .i64 ((rd_T38 l0 x15_2).f1), .int .i64 0]) ?_ 2 _ rfl; (with_reducible repeat (first | refine blk_drewN ?_ _ | refine blk_drew ?_ | refine blk_alloc ?_ _)); refine blk_put (cs := #[.int .i64 ((rd_T38 l0 x15_2).f0), .int .i64 0, .int .i64 0]) ?_ 1 _ rfl; (with_reducible repeat (first | refine blk_drewN ?_ _ | refine blk_drew ?_ | refine blk_alloc ?_ _)); refine blk_put (cs := #[.int .i64 0, .int .i64 0, .int .i64 0]) ?_ 0 _ rfl; (with_reducible repeat (first | refine blk_drewN ?_ _ | refine blk_drew ?_ | refine blk_alloc ?_ _)); exact BK145.out⟩
                                        have n1_ : Aside0 (Below w.heap.size w (((w31.setCell ⟨gb145, 0, none⟩ (.int .i64 ((rd_T38 l0 x15_2).f0))).setCell ⟨gb145, 1, none⟩ (.int .i64 ((rd_T38 l0 x15_2).f1))).setCell ⟨gb145, 2, none⟩ (.int .i64 ((rd_T38 l0 x15_2).f2)))) := ⟨by repeat (first | (with_reducible first | exact HB.out | apply below_alloc | apply pw_below_drewN | apply below_drew1 | refine below_set ?_ GE145.out) | exact HB.out)⟩
                                        (try clear BK145)
                                        (try clear HB)
                                        generalize (((w31.setCell ⟨gb145, 0, none⟩ (.int .i64 ((rd_T38 l0 x15_2).f0))).setCell ⟨gb145, 1, none⟩ (.int .i64 ((rd_T38 l0 x15_2).f1))).setCell ⟨gb145, 2, none⟩ (.int .i64 ((rd_T38 l0 x15_2).f2))) = w33 at n0_ n1_ ⊢
                                        have BK145 := n0_
                                        have HB := n1_
                                        clear n0_ n1_
                                        have p148 : 0 ≤ ((ji14) : Int) := of_decide_eq_true (by first | (with_reducible assumption) | assumption)
                                        have q148 : (ji14) < (l0.length : Int) := of_decide_eq_true (by first | (with_reducible assumption) | assumption)
                                        obtain ⟨ad148, e148, hx148_0, hx148_1, hx148_2⟩ := at_T38 HR0.out (ji14) p148 q148
                                        have hw148_2 := hx148_2
                                        have hw148_1 := hx148_1
                                        have hw148_0 := hx148_0
                                        obtain rfl : ad144 = ad148 := (by injection e148)
                                        replace hx148_0 := (HB.out.cell (World.block_lt_of_cell? w _ hx148_0)).trans hx148_0
                                        replace hx148_1 := (HB.out.cell (World.block_lt_of_cell? w _ hx148_1)).trans hx148_1
                                        replace hx148_2 := (HB.out.cell (World.block_lt_of_cell? w _ hx148_2)).trans hx148_2
                                        replace p148 := eq_true p148
                                        replace q148 := eq_true q148
                                        have p149 : 0 ≤ ((ji23) : Int) := of_decide_eq_true (by first | (with_reducible assumption) | assumption)
                                        have q149 : (ji23) < (l0.length : Int) := of_decide_eq_true (by first | (with_reducible assumption) | assumption)
                                        obtain ⟨ad149, e149, hx149_0, hx149_1, hx149_2⟩ := at_T38 HR0.out (ji23) p149 q149
                                        have hw149_2 := hx149_2
                                        have hw149_1 := hx149_1
                                        have hw149_0 := hx149_0
                                        obtain rfl : ad144 = ad149 := (by injection e149)
                                        replace hx149_0 := (HB.out.cell (World.block_lt_of_cell? w _ hx149_0)).trans hx149_0
                                        replace hx149_1 := (HB.out.cell (World.block_lt_of_cell? w _ hx149_1)).trans hx149_1
                                        replace hx149_2 := (HB.out.cell (World.block_lt_of_cell? w _ hx149_2)).trans hx149_2
                                        replace p149 := eq_true p149
                                        replace q149 := eq_true q149
                                        have hq0_ : w33.cell? ⟨gb145, 0, none⟩ = some (.int .i64 ((rd_T38 l0 x15_2).f0)) := (blk_cell BK145.out 0).trans rfl
                                        have hq1_ : w33.cell? ⟨gb145, 1, none⟩ = some (.int .i64 ((rd_T38 l0 x15_2).f1)) := (blk_cell BK145.out 1).trans rfl
                                        have hq2_ : w33.cell? ⟨gb145, 2, none⟩ = some (.int .i64 ((rd_T38 l0 x15_2).f2)) := (blk_cell BK145.out 2).trans rfl
                                        go_quiet (first | (go_at_call 34; exact quiet_drawn (impl_isPitch.calls ((rd_T38 l0 x15_2).f0) true _ A8.out)) | (go_at_call 35; exact quiet_drawn (impl_isCents.calls ((rd_T38 l0 x15_2).f1) true _ A10.out)))
                                        try go_wp2
                                        go_roundg k2
                                        case measure => have := HJ1.out; have := HK2.out; omega
                                        case rel => exact ⟨(wrap64 (x15_2 + 1)), (by first | rfl | (simp; done) | (simp [*]; done)), H', ⟨by have := HJ1.out; have := HK2.out; omega⟩, ⟨by repeat (first | (with_reducible first | exact HB.out | apply below_alloc | apply pw_below_drewN | apply below_drew1 | refine below_set ?_ GE145.out) | exact HB.out)⟩⟩
                                    · rw [if_neg c25] at H
                                      exact absurd H (by simp)
                                  · rw [if_neg c24] at H
                                    exact absurd H (by simp)
                                · rw [if_neg c22] at H
                                  have c22b0 : decide (4 ≤ x15_2) = false := decide_eq_false c22
                                  clear c22
                                  have H' := Aside0.mk H
                                  clear H
                                  have p144 : 0 ≤ (x15_2 : Int) := of_decide_eq_true (by first | (with_reducible assumption) | assumption)
                                  have q144 : x15_2 < (l0.length : Int) := of_decide_eq_true (by first | (with_reducible assumption) | assumption)
                                  obtain ⟨ad144, e144, hx144_0, hx144_1, hx144_2⟩ := at_T38 HR0.out x15_2 p144 q144
                                  cases e144
                                  replace hx144_0 := (HB.out.cell (World.block_lt_of_cell? w _ hx144_0)).trans hx144_0
                                  replace hx144_1 := (HB.out.cell (World.block_lt_of_cell? w _ hx144_1)).trans hx144_1
                                  replace hx144_2 := (HB.out.cell (World.block_lt_of_cell? w _ hx144_2)).trans hx144_2
                                  replace p144 := eq_true p144
                                  replace q144 := eq_true q144
                                  try go_wp2_with (first | ((with_reducible refine gate_dst (N := 4) rfl ?_); (try (refine gate_guard (by rfl) ?_; dsimp only)); refine box_event ?hg (N := 4) ?hd (cs := #[.int .i64 0, .int .i64 0, .int .i64 0]) (t := 38) ?hr ?_; (case hd => rfl); (case hg => rfl); (case hr => first | (go_simp; done) | (go_simp; rfl)); intro gb145 hg w35 hbox hb; have n0_ := Aside0.mk (below_step (by repeat (first | (with_reducible first | exact HB.out | apply below_alloc | apply pw_below_drewN | apply below_drew1) | exact HB.out)) hb); have n1_ := Aside0.mk (hbox); have n2_ := Aside0.mk ((by rw [hg]; exact (below_size (by repeat (first | (with_reducible first | exact HB.out | apply below_alloc | apply pw_below_drewN | apply below_drew1) | exact HB.out))) : w.heap.size ≤ gb145)); have n3_ := Aside0.mk ((by rw [hg]; exact (below_size (by repeat (first | (with_reducible first | exact HB.out | apply below_alloc | apply pw_below_drewN | apply below_drew1) | exact HB.out))) : w.heap.size ≤ gb145)); clear HB; have HB := n0_; have BK145 := n1_; have GW145 := n2_; have GE145 := n3_; clear n0_ n1_ n2_ n3_; clear hb hbox hg; have hcz36_0 : w35.cell? ⟨gb145, 0, none⟩ = some (.int .i64 0) := (blk_cell BK145.out 0).trans rfl; have hcz36_1 : w35.cell? ⟨gb145, 1, none⟩ = some (.int .i64 0) := (blk_cell BK145.out 1).trans rfl; have hcz36_2 : w35.cell? ⟨gb145, 2, none⟩ = some (.int .i64 0) := (blk_cell BK145.out 2).trans rfl; have hfz36_0 := blk_frozen BK145.out 0; have hfz36_1 := blk_frozen BK145.out 1; have hfz36_2 := blk_frozen BK145.out 2))
                                  have n0_ : Aside0 ((((w35.setCell ⟨gb145, 0, none⟩ (.int .i64 ((rd_T38 l0 x15_2).f0))).setCell ⟨gb145, 1, none⟩ (.int .i64 ((rd_T38 l0 x15_2).f1))).setCell ⟨gb145, 2, none⟩ (.int .i64 ((rd_T38 l0 x15_2).f2))).heap[gb145]? = some (.cells #[.int .i64 ((rd_T38 l0 x15_2).f0), .int .i64 ((rd_T38 l0 x15_2).f1), .int .i64 ((rd_T38 l0 x15_2).f2)] 38 (0, 0))) := ⟨by (with_reducible repeat (first | refine blk_drewN ?_ _ | refine blk_drew ?_ | refine blk_alloc ?_ _)); refine blk_put (cs := #[.int .i64 ((rd_T38 l0 x15_2).f0), .int .i64 ((rd_T38 l0 x15_2).f1), .int .i64 0]) ?_ 2 _ rfl; (with_reducible repeat (first | refine blk_drewN ?_ _ | refine blk_drew ?_ | refine blk_alloc ?_ _)); refine blk_put (cs := #[.int .i64 ((rd_T38 l0 x15_2).f0), .int .i64 0, .int .i64 0]) ?_ 1 _ rfl; (with_reducible repeat (first | refine blk_drewN ?_ _ | refine blk_drew ?_ | refine blk_alloc ?_ _)); refine blk_put (cs := #[.int .i64 0, .int .i64 0, .int .i64 0]) ?_ 0 _ rfl; (with_reducible repeat (first | refine blk_drewN ?_ _ | refine blk_drew ?_ | refine blk_alloc ?_ _)); exact BK145.out⟩
                                  have n1_ : Aside0 (Below w.heap.size w (((w35.setCell ⟨gb145, 0, none⟩ (.int .i64 ((rd_T38 l0 x15_2).f0))).setCell ⟨gb145, 1, none⟩ (.int .i64 ((rd_T38 l0 x15_2).f1))).setCell ⟨gb145, 2, none⟩ (.int .i64 ((rd_T38 l0 x15_2).f2)))) := ⟨by repeat (first | (with_reducible first | exact HB.out | apply below_alloc | apply pw_below_drewN | apply below_drew1 | refine below_set ?_ GE145.out) | exact HB.out)⟩
                                  (try clear BK145)
                                  (try clear HB)
                                  generalize (((w35.setCell ⟨gb145, 0, none⟩ (.int .i64 ((rd_T38 l0 x15_2).f0))).setCell ⟨gb145, 1, none⟩ (.int .i64 ((rd_T38 l0 x15_2).f1))).setCell ⟨gb145, 2, none⟩ (.int .i64 ((rd_T38 l0 x15_2).f2))) = w37 at n0_ n1_ ⊢
                                  have BK145 := n0_
                                  have HB := n1_
                                  clear n0_ n1_
                                  have p148 : 0 ≤ ((ji14) : Int) := of_decide_eq_true (by first | (with_reducible assumption) | assumption)
                                  have q148 : (ji14) < (l0.length : Int) := of_decide_eq_true (by first | (with_reducible assumption) | assumption)
                                  obtain ⟨ad148, e148, hx148_0, hx148_1, hx148_2⟩ := at_T38 HR0.out (ji14) p148 q148
                                  have hw148_2 := hx148_2
                                  have hw148_1 := hx148_1
                                  have hw148_0 := hx148_0
                                  obtain rfl : ad144 = ad148 := (by injection e148)
                                  replace hx148_0 := (HB.out.cell (World.block_lt_of_cell? w _ hx148_0)).trans hx148_0
                                  replace hx148_1 := (HB.out.cell (World.block_lt_of_cell? w _ hx148_1)).trans hx148_1
                                  replace hx148_2 := (HB.out.cell (World.block_lt_of_cell? w _ hx148_2)).trans hx148_2
                                  replace p148 := eq_true p148
                                  replace q148 := eq_true q148
                                  have hq0_ : w37.cell? ⟨gb145, 0, none⟩ = some (.int .i64 ((rd_T38 l0 x15_2).f0)) := (blk_cell BK145.out 0).trans rfl
                                  have hq1_ : w37.cell? ⟨gb145, 1, none⟩ = some (.int .i64 ((rd_T38 l0 x15_2).f1)) := (blk_cell BK145.out 1).trans rfl
                                  have hq2_ : w37.cell? ⟨gb145, 2, none⟩ = some (.int .i64 ((rd_T38 l0 x15_2).f2)) := (blk_cell BK145.out 2).trans rfl
                                  go_quiet (first | (go_at_call 34; exact quiet_drawn (impl_isPitch.calls ((rd_T38 l0 x15_2).f0) true _ A8.out)) | (go_at_call 35; exact quiet_drawn (impl_isCents.calls ((rd_T38 l0 x15_2).f1) true _ A10.out)))
                                  try go_wp2
                                  go_roundg k2
                                  case measure => have := HJ1.out; have := HK2.out; omega
                                  case rel => exact ⟨(wrap64 (x15_2 + 1)), (by first | rfl | (simp; done) | (simp [*]; done)), H', ⟨by have := HJ1.out; have := HK2.out; omega⟩, ⟨by repeat (first | (with_reducible first | exact HB.out | apply below_alloc | apply pw_below_drewN | apply below_drew1 | refine below_set ?_ GE145.out) | exact HB.out)⟩⟩
                            · rw [if_neg c16] at H
                              exact absurd H (by simp)
                          · rw [if_neg c15] at H
                            exact absurd H (by simp)
                        · rw [if_neg c13] at H
                          have c13b0 : decide (0 < x15_2) = false := decide_eq_false c13
                          clear c13
                          by_cases c39 : x15_2 ≥ 4
                          · rw [if_pos c39] at H
                            have c39b0 : decide (4 ≤ x15_2) = true := decide_eq_true c39
                            clear c39
                            obtain ⟨ji40, hji40⟩ : ∃ j_ : Int, (wrap64 (x15_2 - 4)) = j_ := ⟨_, rfl⟩
                            replace H : (if 0 ≤ (ji40) then (if (ji40) < (l0.length : Int) then (if ((rd_T38 l0 x15_2).f0) = ((rd_T38 l0 (ji40)).f0) then (some false) else (impl_IsComb.l0 k2 l0 l0 (l0.length : Int) (wrap64 (x15_2 + 1)))) else (none)) else (none)) = some r := by first | (rw [hji40] at H; exact H) | (simp only [hji40] at H ⊢; exact H)
                            (try rw [hji40] at A8)
                            (try rw [hji40] at A10)
                            have hji40w : (IntKind.i64.wrap (x15_2 - 4)) = ji40 := (i64_w _).trans hji40
                            by_cases c41 : 0 ≤ (ji40)
                            · rw [if_pos c41] at H
                              have c41b0 : decide (0 ≤ (ji40)) = true := decide_eq_true c41
                              clear c41
                              by_cases c42 : (ji40) < (l0.length : Int)
                              · rw [if_pos c42] at H
                                have c42b0 : decide ((ji40) < (l0.length : Int)) = true := decide_eq_true c42
                                clear c42
                                by_cases c43 : ((rd_T38 l0 x15_2).f0) = ((rd_T38 l0 (ji40)).f0)
                                · rw [if_pos c43] at H
                                  have c43b0 : (((rd_T38 l0 x15_2).f0) == ((rd_T38 l0 (ji40)).f0)) = true := beq_iff_eq.mpr c43
                                  have c43b1 : (((rd_T38 l0 x15_2).f0) != ((rd_T38 l0 (ji40)).f0)) = false := bne_eq_false_iff_eq.mpr c43
                                  clear c43
                                  obtain rfl := Option.some.inj H
                                  have p144 : 0 ≤ (x15_2 : Int) := of_decide_eq_true (by first | (with_reducible assumption) | assumption)
                                  have q144 : x15_2 < (l0.length : Int) := of_decide_eq_true (by first | (with_reducible assumption) | assumption)
                                  obtain ⟨ad144, e144, hx144_0, hx144_1, hx144_2⟩ := at_T38 HR0.out x15_2 p144 q144
                                  cases e144
                                  replace hx144_0 := (HB.out.cell (World.block_lt_of_cell? w _ hx144_0)).trans hx144_0
                                  replace hx144_1 := (HB.out.cell (World.block_lt_of_cell? w _ hx144_1)).trans hx144_1
                                  replace hx144_2 := (HB.out.cell (World.block_lt_of_cell? w _ hx144_2)).trans hx144_2
                                  replace p144 := eq_true p144
                                  replace q144 := eq_true q144
                                  try go_wp2_with (first | ((with_reducible refine gate_dst (N := 4) rfl ?_); (try (refine gate_guard (by rfl) ?_; dsimp only)); refine box_event ?hg (N := 4) ?hd (cs := #[.int .i64 0, .int .i64 0, .int .i64 0]) (t := 38) ?hr ?_; (case hd => rfl); (case hg => rfl); (case hr => first | (go_simp; done) | (go_simp; rfl)); intro gb145 hg w44 hbox hb; have n0_ := Aside0.mk (below_step (by repeat (first | (with_reducible first | exact HB.out | apply below_alloc | apply pw_below_drewN | apply below_drew1) | exact HB.out)) hb); have n1_ := Aside0.mk (hbox); have n2_ := Aside0.mk ((by rw [hg]; exact (below_size (by repeat (first | (with_reducible first | exact HB.out | apply below_alloc | apply pw_below_drewN | apply below_drew1) | exact HB.out))) : w.heap.size ≤ gb145)); have n3_ := Aside0.mk ((by rw [hg]; exact (below_size (by repeat (first | (with_reducible first | exact HB.out | apply below_alloc | apply pw_below_drewN | apply below_drew1) | exact HB.out))) : w.heap.size ≤ gb145)); clear HB; have HB := n0_; have BK145 := n1_; have GW145 := n2_; have GE145 := n3_; clear n0_ n1_ n2_ n3_; clear hb hbox hg; have hcz45_0 : w44.cell? ⟨gb145, 0, none⟩ = some (.int .i64 0) := (blk_cell BK145.out 0).trans rfl; have hcz45_1 : w44.cell? ⟨gb145, 1, none⟩ = some (.int .i64 0) := (blk_cell BK145.out 1).trans rfl; have hcz45_2 : w44.cell? ⟨gb145, 2, none⟩ = some (.int .i64 0) := (blk_cell BK145.out 2).trans rfl; have hfz45_0 := blk_frozen BK145.out 0; have hfz45_1 := blk_frozen BK145.out 1; have hfz45_2 := blk_frozen BK145.out 2))
                                  have n0_ : Aside0 ((((w44.setCell ⟨gb145, 0, none⟩ (.int .i64 ((rd_T38 l0 x15_2).f0))).setCell ⟨gb145, 1, none⟩ (.int .i64 ((rd_T38 l0 x15_2).f1))).setCell ⟨gb145, 2, none⟩ (.int .i64 ((rd_T38 l0 x15_2).f2))).heap[gb145]? = some (.cells #[.int .i64 ((rd_T38 l0 x15_2).f0), .int .i64 ((rd_T38 l0 x15_2).f1), .int .i64 ((rd_T38 l0 x15_2).f2)] 38 (0, 0))) := ⟨by (with_reducible repeat (first | refine blk_drewN ?_ _ | refine blk_drew ?_ | refine blk_alloc ?_ _)); refine blk_put (cs := #[.int .i64 ((rd_T38 l0 x15_2).f0), .int .i64 ((rd_T38 l0 x15_2).f1), .int .i64 0]) ?_ 2 _ rfl; (with_reducible repeat (first | refine blk_drewN ?_ _ | refine blk_drew ?_ | refine blk_alloc ?_ _)); refine blk_put (cs := #[.int .i64 ((rd_T38 l0 x15_2).f0), .int .i64 0, .int .i64 0]) ?_ 1 _ rfl; (with_reducible repeat (first | refine blk_drewN ?_ _ | refine blk_drew ?_ | refine blk_alloc ?_ _)); refine blk_put (cs := #[.int .i64 0, .int .i64 0, .int .i64 0]) ?_ 0 _ rfl; (with_reducible repeat (first | refine blk_drewN ?_ _ | refine blk_drew ?_ | refine blk_alloc ?_ _)); exact BK145.out⟩
                                  have n1_ : Aside0 (Below w.heap.size w (((w44.setCell ⟨gb145, 0, none⟩ (.int .i64 ((rd_T38 l0 x15_2).f0))).setCell ⟨gb145, 1, none⟩ (.int .i64 ((rd_T38 l0 x15_2).f1))).setCell ⟨gb145, 2, none⟩ (.int .i64 ((rd_T38 l0 x15_2).f2)))) := ⟨by repeat (first | (with_reducible first | exact HB.out | apply below_alloc | apply pw_below_drewN | apply below_drew1 | refine below_set ?_ GE145.out) | exact HB.out)⟩
                                  (try clear BK145)
                                  (try clear HB)
                                  generalize (((w44.setCell ⟨gb145, 0, none⟩ (.int .i64 ((rd_T38 l0 x15_2).f0))).setCell ⟨gb145, 1, none⟩ (.int .i64 ((rd_T38 l0 x15_2).f1))).setCell ⟨gb145, 2, none⟩ (.int .i64 ((rd_T38 l0 x15_2).f2))) = w46 at n0_ n1_ ⊢
                                  have BK145 := n0_
                                  have HB := n1_
                                  clear n0_ n1_
                                  have p150 : 0 ≤ ((ji40) : Int) := of_decide_eq_true (by first | (with_reducible assumption) | assumption)
                                  have q150 : (ji40) < (l0.length : Int) := of_decide_eq_true (by first | (with_reducible assumption) | assumption)
                                  obtain ⟨ad150, e150, hx150_0, hx150_1, hx150_2⟩ := at_T38 HR0.out (ji40) p150 q150
                                  have hw150_2 := hx150_2
                                  have hw150_1 := hx150_1
                                  have hw150_0 := hx150_0
                                  obtain rfl : ad144 = ad150 := (by injection e150)
                                  replace hx150_0 := (HB.out.cell (World.block_lt_of_cell? w _ hx150_0)).trans hx150_0
                                  replace hx150_1 := (HB.out.cell (World.block_lt_of_cell? w _ hx150_1)).trans hx150_1
                                  replace hx150_2 := (HB.out.cell (World.block_lt_of_cell? w _ hx150_2)).trans hx150_2
                                  replace p150 := eq_true p150
                                  replace q150 := eq_true q150
                                  have hq0_ : w46.cell? ⟨gb145, 0, none⟩ = some (.int .i64 ((rd_T38 l0 x15_2).f0)) := (blk_cell BK145.out 0).trans rfl
                                  have hq1_ : w46.cell? ⟨gb145, 1, none⟩ = some (.int .i64 ((rd_T38 l0 x15_2).f1)) := (blk_cell BK145.out 1).trans rfl
                                  have hq2_ : w46.cell? ⟨gb145, 2, none⟩ = some (.int .i64 ((rd_T38 l0 x15_2).f2)) := (blk_cell BK145.out 2).trans rfl
                                  go_quiet (first | (go_at_call 34; exact quiet_drawn (impl_isPitch.calls ((rd_T38 l0 x15_2).f0) true _ A8.out)) | (go_at_call 35; exact quiet_drawn (impl_isCents.calls ((rd_T38 l0 x15_2).f1) true _ A10.out)))
                                  try go_wp2
                                  go_ret
                                  exact ⟨by first | rfl | (simp [errW_none, errW_some] <;> rfl) | (simp only [← hji40]; first | rfl | (simp [errW_none, errW_some] <;> rfl)) | (simp [*, errW_none, errW_some] <;> rfl), by repeat (first | (with_reducible first | exact HB.out | apply below_alloc | apply pw_below_drewN | apply below_drew1 | refine below_set ?_ GE145.out) | exact HB.out)⟩
                                · rw [if_neg c43] at H
                                  have c43b0 : (((rd_T38 l0 x15_2).f0) == ((rd_T38 l0 (ji40)).f0)) = false := beq_eq_false_iff_ne.mpr c43
                                  have c43b1 : (((rd_T38 l0 x15_2).f0) != ((rd_T38 l0 (ji40)).f0)) = true := bne_iff_ne.mpr c43
                                  have H' := Aside0.mk H
                                  clear H
                                  have p144 : 0 ≤ (x15_2 : Int) := of_decide_eq_true (by first | (with_reducible assumption) | assumption)
                                  have q144 : x15_2 < (l0.length : Int) := of_decide_eq_true (by first | (with_reducible assumption) | assumption)
                                  obtain ⟨ad144, e144, hx144_0, hx144_1, hx144_2⟩ := at_T38 HR0.out x15_2 p144 q144
                                  cases e144
                                  replace hx144_0 := (HB.out.cell (World.block_lt_of_cell? w _ hx144_0)).trans hx144_0
                                  replace hx144_1 := (HB.out.cell (World.block_lt_of_cell? w _ hx144_1)).trans hx144_1
                                  replace hx144_2 := (HB.out.cell (World.block_lt_of_cell? w _ hx144_2)).trans hx144_2
                                  replace p144 := eq_true p144
                                  replace q144 := eq_true q144
                                  try go_wp2_with (first | ((with_reducible refine gate_dst (N := 4) rfl ?_); (try (refine gate_guard (by rfl) ?_; dsimp only)); refine box_event ?hg (N := 4) ?hd (cs := #[.int .i64 0, .int .i64 0, .int .i64 0]) (t := 38) ?hr ?_; (case hd => rfl); (case hg => rfl); (case hr => first | (go_simp; done) | (go_simp; rfl)); intro gb145 hg w48 hbox hb; have n0_ := Aside0.mk (below_step (by repeat (first | (with_reducible first | exact HB.out | apply below_alloc | apply pw_below_drewN | apply below_drew1) | exact HB.out)) hb); have n1_ := Aside0.mk (hbox); have n2_ := Aside0.mk ((by rw [hg]; exact (below_size (by repeat (first | (with_reducible first | exact HB.out | apply below_alloc | apply pw_below_drewN | apply below_drew1) | exact HB.out))) : w.heap.size ≤ gb145)); have n3_ := Aside0.mk ((by rw [hg]; exact (below_size (by repeat (first | (with_reducible first | exact HB.out | apply below_alloc | apply pw_below_drewN | apply below_drew1) | exact HB.out))) : w.heap.size ≤ gb145)); clear HB; have HB := n0_; have BK145 := n1_; have GW145 := n2_; have GE145 := n3_; clear n0_ n1_ n2_ n3_; clear hb hbox hg; have hcz49_0 : w48.cell? ⟨gb145, 0, none⟩ = some (.int .i64 0) := (blk_cell BK145.out 0).trans rfl; have hcz49_1 : w48.cell? ⟨gb145, 1, none⟩ = some (.int .i64 0) := (blk_cell BK145.out 1).trans rfl; have hcz49_2 : w48.cell? ⟨gb145, 2, none⟩ = some (.int .i64 0) := (blk_cell BK145.out 2).trans rfl; have hfz49_0 := blk_frozen BK145.out 0; have hfz49_1 := blk_frozen BK145.out 1; have hfz49_2 := blk_frozen BK145.out 2))
                                  have n0_ : Aside0 ((((w48.setCell ⟨gb145, 0, none⟩ (.int .i64 ((rd_T38 l0 x15_2).f0))).setCell ⟨gb145, 1, none⟩ (.int .i64 ((rd_T38 l0 x15_2).f1))).setCell ⟨gb145, 2, none⟩ (.int .i64 ((rd_T38 l0 x15_2).f2))).heap[gb145]? = some (.cells #[.int .i64 ((rd_T38 l0 x15_2).f0), .int .i64 ((rd_T38 l0 x15_2).f1), .int .i64 ((rd_T38 l0 x15_2).f2)] 38 (0, 0))) := ⟨by (with_reducible repeat (first | refine blk_drewN ?_ _ | refine blk_drew ?_ | refine blk_alloc ?_ _)); refine blk_put (cs := #[.int .i64 ((rd_T38 l0 x15_2).f0), .int .i64 ((rd_T38 l0 x15_2).f1), .int .i64 0]) ?_ 2 _ rfl; (with_reducible repeat (first | refine blk_drewN ?_ _ | refine blk_drew ?_ | refine blk_alloc ?_ _)); refine blk_put (cs := #[.int .i64 ((rd_T38 l0 x15_2).f0), .int .i64 0, .int .i64 0]) ?_ 1 _ rfl; (with_reducible repeat (first | refine blk_drewN ?_ _ | refine blk_drew ?_ | refine blk_alloc ?_ _)); refine blk_put (cs := #[.int .i64 0, .int .i64 0, .int .i64 0]) ?_ 0 _ rfl; (with_reducible repeat (first | refine blk_drewN ?_ _ | refine blk_drew ?_ | refine blk_alloc ?_ _)); exact BK145.out⟩
                                  have n1_ : Aside0 (Below w.heap.size w (((w48.setCell ⟨gb145, 0, none⟩ (.int .i64 ((rd_T38 l0 x15_2).f0))).setCell ⟨gb145, 1, none⟩ (.int .i64 ((rd_T38 l0 x15_2).f1))).setCell ⟨gb145, 2, none⟩ (.int .i64 ((rd_T38 l0 x15_2).f2)))) := ⟨by repeat (first | (with_reducible first | exact HB.out | apply below_alloc | apply pw_below_drewN | apply below_drew1 | refine below_set ?_ GE145.out) | exact HB.out)⟩
                                  (try clear BK145)
                                  (try clear HB)
                                  generalize (((w48.setCell ⟨gb145, 0, none⟩ (.int .i64 ((rd_T38 l0 x15_2).f0))).setCell ⟨gb145, 1, none⟩ (.int .i64 ((rd_T38 l0 x15_2).f1))).setCell ⟨gb145, 2, none⟩ (.int .i64 ((rd_T38 l0 x15_2).f2))) = w50 at n0_ n1_ ⊢
                                  have BK145 := n0_
                                  have HB := n1_
                                  clear n0_ n1_
                                  have p150 : 0 ≤ ((ji40) : Int) := of_decide_eq_true (by first | (with_reducible assumption) | assumption)
                                  have q150 : (ji40) < (l0.length : Int) := of_decide_eq_true (by first | (with_reducible assumption) | assumption)
                                  obtain ⟨ad150, e150, hx150_0, hx150_1, hx150_2⟩ := at_T38 HR0.out (ji40) p150 q150
                                  have hw150_2 := hx150_2
                                  have hw150_1 := hx150_1
                                  have hw150_0 := hx150_0
                                  obtain rfl : ad144 = ad150 := (by injection e150)
                                  replace hx150_0 := (HB.out.cell (World.block_lt_of_cell? w _ hx150_0)).trans hx150_0
                                  replace hx150_1 := (HB.out.cell (World.block_lt_of_cell? w _ hx150_1)).trans hx150_1
                                  replace hx150_2 := (HB.out.cell (World.block_lt_of_cell? w _ hx150_2)).trans hx150_2
                                  replace p150 := eq_true p150
                                  replace q150 := eq_true q150
                                  have hq0_ : w50.cell? ⟨gb145, 0, none⟩ = some (.int .i64 ((rd_T38 l0 x15_2).f0)) := (blk_cell BK145.out 0).trans rfl
                                  have hq1_ : w50.cell? ⟨gb145, 1, none⟩ = some (.int .i64 ((rd_T38 l0 x15_2).f1)) := (blk_cell BK145.out 1).trans rfl
                                  have hq2_ : w50.cell? ⟨gb145, 2, none⟩ = some (.int .i64 ((rd_T38 l0 x15_2).f2)) := (blk_cell BK145.out 2).trans rfl
                                  go_quiet (first | (go_at_call 34; exact quiet_drawn (impl_isPitch.calls ((rd_T38 l0 x15_2).f0) true _ A8.out)) | (go_at_call 35; exact quiet_drawn (impl_isCents.calls ((rd_T38 l0 x15_2).f1) true _ A10.out)))
                                  try go_wp2
                                  go_roundg k2
                                  case measure => have := HJ1.out; have := HK2.out; omega
                                  case rel => exact ⟨(wrap64 (x15_2 + 1)), (by first | rfl | (simp; done) | (simp [*]; done)), H', ⟨by have := HJ1.out; have := HK2.out; omega⟩, ⟨by repeat (first | (with_reducible first | exact HB.out | apply below_alloc | apply pw_below_drewN | apply below_drew1 | refine below_set ?_ GE145.out) | exact HB.out)⟩⟩
                              · rw [if_neg c42] at H
                                exact absurd H (by simp)
                            · rw [if_neg c41] at H
                              exact absurd H (by simp)
                          · rw [if_neg c39] at H
                            have c39b0 : decide (4 ≤ x15_2) = false := decide_eq_false c39
                            clear c39
                            have H' := Aside0.mk H
                            clear H
                            have p144 : 0 ≤ (x15_2 : Int) := of_decide_eq_true (by first | (with_reducible assumption) | assumption)
                            have q144 : x15_2 < (l0.length : Int) := of_decide_eq_true (by first | (with_reducible assumption) | assumption)
                            obtain ⟨ad144, e144, hx144_0, hx144_1, hx144_2⟩ := at_T38 HR0.out x15_2 p144 q144
                            cases e144
                            replace hx144_0 := (HB.out.cell (World.block_lt_of_cell? w _ hx144_0)).trans hx144_0
                            replace hx144_1 := (HB.out.cell (World.block_lt_of_cell? w _ hx144_1)).trans hx144_1
                            replace hx144_2 := (HB.out.cell (World.block_lt_of_cell? w _ hx144_2)).trans hx144_2
                            replace p144 := eq_true p144
                            replace q144 := eq_true q144
                            try go_wp2_with (first | ((with_reducible refine gate_dst (N := 4) rfl ?_); (try (refine gate_guard (by rfl) ?_; dsimp only)); refine box_event ?hg (N := 4) ?hd (cs := #[.int .i64 0, .int .i64 0, .int .i64 0]) (t := 38) ?hr ?_; (case hd => rfl); (case hg => rfl); (case hr => first | (go_simp; done) | (go_simp; rfl)); intro gb145 hg w52 hbox hb; have n0_ := Aside0.mk (below_step (by repeat (first | (with_reducible first | exact HB.out | apply below_alloc | apply pw_below_drewN | apply below_drew1) | exact HB.out)) hb); have n1_ := Aside0.mk (hbox); have n2_ := Aside0.mk ((by rw [hg]; exact (below_size (by repeat (first | (with_reducible first | exact HB.out | apply below_alloc | apply pw_below_drewN | apply below_drew1) | exact HB.out))) : w.heap.size ≤ gb145)); have n3_ := Aside0.mk ((by rw [hg]; exact (below_size (by repeat (first | (with_reducible first | exact HB.out | apply below_alloc | apply pw_below_drewN | apply below_drew1) | exact HB.out))) : w.heap.size ≤ gb145)); clear HB; have HB := n0_; have BK145 := n1_; have GW145 := n2_; have GE145 := n3_; clear n0_ n1_ n2_ n3_; clear hb hbox hg; have hcz53_0 : w52.cell? ⟨gb145, 0, none⟩ = some (.int .i64 0) := (blk_cell BK145.out 0).trans rfl; have hcz53_1 : w52.cell? ⟨gb145, 1, none⟩ = some (.int .i64 0) := (blk_cell BK145.out 1).trans rfl; have hcz53_2 : w52.cell? ⟨gb145, 2, none⟩ = some (.int .i64 0) := (blk_cell BK145.out 2).trans rfl; have hfz53_0 := blk_frozen BK145.out 0; have hfz53_1 := blk_frozen BK145.out 1; have hfz53_2 := blk_frozen BK145.out 2))
                            have n0_ : Aside0 ((((w52.setCell ⟨gb145, 0, none⟩ (.int .i64 ((rd_T38 l0 x15_2).f0))).setCell ⟨gb145, 1, none⟩ (.int .i64 ((rd_T38 l0 x15_2).f1))).setCell ⟨gb145, 2, none⟩ (.int .i64 ((rd_T38 l0 x15_2).f2))).heap[gb145]? = some (.cells #[.int .i64 ((rd_T38 l0 x15_2).f0), .int .i64 ((rd_T38 l0 x15_2).f1), .int .i64 ((rd_T38 l0 x15_2).f2)] 38 (0, 0))) := ⟨by (with_reducible repeat (first | refine blk_drewN ?_ _ | refine blk_drew ?_ | refine blk_alloc ?_ _)); refine blk_put (cs := #[.int .i64 ((rd_T38 l0 x15_2).f0), .int .i64 ((rd_T38 l0 x15_2).f1), .int .i64 0]) ?_ 2 _ rfl; (with_reducible repeat (first | refine blk_drewN ?_ _ | refine blk_drew ?_ | refine blk_alloc ?_ _)); refine blk_put (cs := #[.int .i64 ((rd_T38 l0 x15_2).f0), .int .i64 0, .int .i64 0]) ?_ 1 _ rfl; (with_reducible repeat (first | refine blk_drewN ?_ _ | refine blk_drew ?_ | refine blk_alloc ?_ _)); refine blk_put (cs := #[.int .i64 0, .int .i64 0, .int .i64 0]) ?_ 0 _ rfl; (with_reducible repeat (first | refine blk_drewN ?_ _ | refine blk_drew ?_ | refine blk_alloc ?_ _)); exact BK145.out⟩
                            have n1_ : Aside0 (Below w.heap.size w (((w52.setCell ⟨gb145, 0, none⟩ (.int .i64 ((rd_T38 l0 x15_2).f0))).setCell ⟨gb145, 1, none⟩ (.int .i64 ((rd_T38 l0 x15_2).f1))).setCell ⟨gb145, 2, none⟩ (.int .i64 ((rd_T38 l0 x15_2).f2)))) := ⟨by repeat (first | (with_reducible first | exact HB.out | apply below_alloc | apply pw_below_drewN | apply below_drew1 | refine below_set ?_ GE145.out) | exact HB.out)⟩
                            (try clear BK145)
                            (try clear HB)
                            generalize (((w52.setCell ⟨gb145, 0, none⟩ (.int .i64 ((rd_T38 l0 x15_2).f0))).setCell ⟨gb145, 1, none⟩ (.int .i64 ((rd_T38 l0 x15_2).f1))).setCell ⟨gb145, 2, none⟩ (.int .i64 ((rd_T38 l0 x15_2).f2))) = w54 at n0_ n1_ ⊢
                            have BK145 := n0_
                            have HB := n1_
                            clear n0_ n1_
                            have hq0_ : w54.cell? ⟨gb145, 0, none⟩ = some (.int .i64 ((rd_T38 l0 x15_2).f0)) := (blk_cell BK145.out 0).trans rfl
                            have hq1_ : w54.cell? ⟨gb145, 1, none⟩ = some (.int .i64 ((rd_T38 l0 x15_2).f1)) := (blk_cell BK145.out 1).trans rfl
                            have hq2_ : w54.cell? ⟨gb145, 2, none⟩ = some (.int .i64 ((rd_T38 l0 x15_2).f2)) := (blk_cell BK145.out 2).trans rfl
                            go_quiet (first | (go_at_call 34; exact quiet_drawn (impl_isPitch.calls ((rd_T38 l0 x15_2).f0) true _ A8.out)) | (go_at_call 35; exact quiet_drawn (impl_isCents.calls ((rd_T38 l0 x15_2).f1) true _ A10.out)))
                            try go_wp2
                            go_roundg k2
                            case measure => have := HJ1.out; have := HK2.out; omega
                            case rel => exact ⟨(wrap64 (x15_2 + 1)), (by first | rfl | (simp; done) | (simp [*]; done)), H', ⟨by have := HJ1.out; have := HK2.out; omega⟩, ⟨by repeat (first | (with_reducible first | exact HB.out | apply below_alloc | apply pw_below_drewN | apply below_drew1 | refine below_set ?_ GE145.out) | exact HB.out)⟩⟩
                      · rw [if_neg c12] at H
                        have c12b0 : (((rd_T38 l0 x15_2).f2) == 0) = false := beq_eq_false_iff_ne.mpr c12
                        have c12b1 : (((rd_T38 l0 x15_2).f2) != 0) = true := bne_iff_ne.mpr c12
                        by_cases c56 : ((rd_T38 l0 x15_2).f2) = 1
                        · rw [if_pos c56] at H
                          have c56b0 : (((rd_T38 l0 x15_2).f2) == 1) = true := beq_iff_eq.mpr c56
                          have c56b1 : (((rd_T38 l0 x15_2).f2) != 1) = false := bne_eq_false_iff_eq.mpr c56
                          clear c56
                          by_cases c57 : x15_2 > 0
                          · rw [if_pos c57] at H
                            have c57b0 : decide (0 < x15_2) = true := decide_eq_true c57
                            clear c57
                            obtain ⟨ji58, hji58⟩ : ∃ j_ : Int, (wrap64 (x15_2 - 1)) = j_ := ⟨_, rfl⟩
                            replace H : (if 0 ≤ (ji58) then (if (ji58) < (l0.length : Int) then (if ((rd_T38 l0 x15_2).f0) < ((rd_T38 l0 (ji58)).f0) then (some false) else (if x15_2 ≥ 4 then (if 0 ≤ (wrap64 (x15_2 - 4)) then (if (wrap64 (x15_2 - 4)) < (l0.length : Int) then (if ((rd_T38 l0 x15_2).f0) = ((rd_T38 l0 (wrap64 (x15_2 - 4))).f0) then (some false) else (impl_IsComb.l0 k2 l0 l0 (l0.length : Int) (wrap64 (x15_2 + 1)))) else (none)) else (none)) else (impl_IsComb.l0 k2 l0 l0 (l0.length : Int) (wrap64 (x15_2 + 1))))) else (none)) else (none)) = some r := by first | (rw [hji58] at H; exact H) | (simp only [hji58] at H ⊢; exact H)
                            (try rw [hji58] at A8)
                            (try rw [hji58] at A10)
                            have hji58w : (IntKind.i64.wrap (x15_2 - 1)) = ji58 := (i64_w _).trans hji58
                            by_cases c59 : 0 ≤ (ji58)
                            · rw [if_pos c59] at H
                              have c59b0 : decide (0 ≤ (ji58)) = true := decide_eq_true c59
                              clear c59
                              by_cases c60 : (ji58) < (l0.length : Int)
                              · rw [if_pos c60] at H
                                have c60b0 : decide ((ji58) < (l0.length : Int)) = true := decide_eq_true c60
                                clear c60
                                by_cases c61 : ((rd_T38 l0 x15_2).f0) < ((rd_T38 l0 (ji58)).f0)
                                · rw [if_pos c61] at H
                                  have c61b0 : decide (((rd_T38 l0 x15_2).f0) < ((rd_T38 l0 (ji58)).f0)) = true := decide_eq_true c61
                                  clear c61
                                  obtain rfl := Option.some.inj H
                                  have p144 : 0 ≤ (x15_2 : Int) := of_decide_eq_true (by first | (with_reducible assumption) | assumption)
                                  have q144 : x15_2 < (l0.length : Int) := of_decide_eq_true (by first | (with_reducible assumption) | assumption)
                                  obtain ⟨ad144, e144, hx144_0, hx144_1, hx144_2⟩ := at_T38 HR0.out x15_2 p144 q144
                                  cases e144
                                  replace hx144_0 := (HB.out.cell (World.block_lt_of_cell? w _ hx144_0)).trans hx144_0
                                  replace hx144_1 := (HB.out.cell (World.block_lt_of_cell? w _ hx144_1)).trans hx144_1
                                  replace hx144_2 := (HB.out.cell (World.block_lt_of_cell? w _ hx144_2)).trans hx144_2
                                  replace p144 := eq_true p144
                                  replace q144 := eq_true q144
                                  try go_wp2_with (first | ((with_reducible refine gate_dst (N := 4) rfl ?_); (try (refine gate_guard (by rfl) ?_; dsimp only)); refine box_event ?hg (N := 4) ?hd (cs := #[.int .i64 0, .int .i64 0, .int .i64 0]) (t := 38) ?hr ?_; (case hd => rfl); (case hg => rfl); (case hr => first | (go_simp; done) | (go_simp; rfl)); intro gb145 hg w62 hbox hb; have n0_ := Aside0.mk (below_step (by repeat (first | (with_reducible first | exact HB.out | apply below_alloc | apply pw_below_drewN | apply below_drew1) | exact HB.out)) hb); have n1_ := Aside0.mk (hbox); have n2_ := Aside0.mk ((by rw [hg]; exact (below_size (by repeat (first | (with_reducible first | exact HB.out | apply below_alloc | apply pw_below_drewN | apply below_drew1) | exact HB.out))) : w.heap.size ≤ gb145)); have n3_ := Aside0.mk ((by rw [hg]; exact (below_size (by repeat (first | (with_reducible first | exact HB.out | apply below_alloc | apply pw_below_drewN | apply below_drew1) | exact HB.out))) : w.heap.size ≤ gb145)); clear HB; have HB := n0_; have BK145 := n1_; have GW145 := n2_; have GE145 := n3_; clear n0_ n1_ n2_ n3_; clear hb hbox hg; have hcz63_0 : w62.cell? ⟨gb145, 0, none⟩ = some (.int .i64 0) := (blk_cell BK145.out 0).trans rfl; have hcz63_1 : w62.cell? ⟨gb145, 1, none⟩ = some (.int .i64 0) := (blk_cell BK145.out 1).trans rfl; have hcz63_2 : w62.cell? ⟨gb145, 2, none⟩ = some (.int .i64 0) := (blk_cell BK145.out 2).trans rfl; have hfz63_0 := blk_frozen BK145.out 0; have hfz63_1 := blk_frozen BK145.out 1; have hfz63_2 := blk_frozen BK145.out 2))
                                  have n0_ : Aside0 ((((w62.setCell ⟨gb145, 0, none⟩ (.int .i64 ((rd_T38 l0 x15_2).f0))).setCell ⟨gb145, 1, none⟩ (.int .i64 ((rd_T38 l0 x15_2).f1))).setCell ⟨gb145, 2, none⟩ (.int .i64 ((rd_T38 l0 x15_2).f2))).heap[gb145]? = some (.cells #[.int .i64 ((rd_T38 l0 x15_2).f0), .int .i64 ((rd_T38 l0 x15_2).f1), .int .i64 ((rd_T38 l0 x15_2).f2)] 38 (0, 0))) := ⟨by (with_reducible repeat (first | refine blk_drewN ?_ _ | refine blk_drew ?_ | refine blk_alloc ?_ _)); refine blk_put (cs := #[.int .i64 ((rd_T38 l0 x15_2).f0), .int .i64 ((rd_T38 l0 x15_2).f1), .int .i64 0]) ?_ 2 _ rfl; (with_reducible repeat (first | refine blk_drewN ?_ _ | refine blk_drew ?_ | refine blk_alloc ?_ _)); refine blk_put (cs := #[.int .i64 ((rd_T38 l0 x15_2).f0), .int .i64 0, .int .i64 0]) ?_ 1 _ rfl; (with_reducible repeat (first | refine blk_drewN ?_ _ | refine blk_drew ?_ | refine blk_alloc ?_ _)); refine blk_put (cs := #[.int .i64 0, .int .i64 0, .int .i64 0]) ?_ 0 _ rfl; (with_reducible repeat (first | refine blk_drewN ?_ _ | refine blk_drew ?_ | refine blk_alloc ?_ _)); exact BK145.out⟩
                                  have n1_ : Aside0 (Below w.heap.size w (((w62.setCell ⟨gb145, 0, none⟩ (.int .i64 ((rd_T38 l0 x15_2).f0))).setCell ⟨gb145, 1, none⟩ (.int .i64 ((rd_T38 l0 x15_2).f1))).setCell ⟨gb145, 2, none⟩ (.int .i64 ((rd_T38 l0 x15_2).f2)))) := ⟨by repeat (first | (with_reducible first | exact HB.out | apply below_alloc | apply pw_below_drewN | apply below_drew1 | refine below_set ?_ GE145.out) | exact HB.out)⟩
                                  (try clear BK145)
                                  (try clear HB)
                                  generalize (((w62.setCell ⟨gb145, 0, none⟩ (.int .i64 ((rd_T38 l0 x15_2).f0))).setCell ⟨gb145, 1, none⟩ (.int .i64 ((rd_T38 l0 x15_2).f1))).setCell ⟨gb145, 2, none⟩ (.int .i64 ((rd_T38 l0 x15_2).f2))) = w64 at n0_ n1_ ⊢
                                  have BK145 := n0_
                                  have HB := n1_
                                  clear n0_ n1_
                                  have p151 : 0 ≤ ((ji58) : Int) := of_decide_eq_true (by first | (with_reducible assumption) | assumption)
                                  have q151 : (ji58) < (l0.length : Int) := of_decide_eq_true (by first | (with_reducible assumption) | assumption)
                                  obtain ⟨ad151, e151, hx151_0, hx151_1, hx151_2⟩ := at_T38 HR0.out (ji58) p151 q151
                                  have hw151_2 := hx151_2
                                  have hw151_1 := hx151_1
                                  have hw151_0 := hx151_0
                                  obtain rfl : ad144 = ad151 := (by injection e151)
                                  replace hx151_0 := (HB.out.cell (World.block_lt_of_cell? w _ hx151_0)).trans hx151_0
                                  replace hx151_1 := (HB.out.cell (World.block_lt_of_cell? w _ hx151_1)).trans hx151_1
                                  replace hx151_2 := (HB.out.cell (World.block_lt_of_cell? w _ hx151_2)).trans hx151_2
                                  replace p151 := eq_true p151
                                  replace q151 := eq_true q151
                                  have hq0_ : w64.cell? ⟨gb145, 0, none⟩ = some (.int .i64 ((rd_T38 l0 x15_2).f0)) := (blk_cell BK145.out 0).trans rfl
                                  have hq1_ : w64.cell? ⟨gb145, 1, none⟩ = some (.int .i64 ((rd_T38 l0 x15_2).f1)) := (blk_cell BK145.out 1).trans rfl
                                  have hq2_ : w64.cell? ⟨gb145, 2, none⟩ = some (.int .i64 ((rd_T38 l0 x15_2).f2)) := (blk_cell BK145.out 2).trans rfl
                                  go_quiet (first | (go_at_call 34; exact quiet_drawn (impl_isPitch.calls ((rd_T38 l0 x15_2).f0) true _ A8.out)) | (go_at_call 35; exact quiet_drawn (impl_isCents.calls ((rd_T38 l0 x15_2).f1) true _ A10.out)))
                                  try go_wp2
                                  go_ret
                                  exact ⟨by first | rfl | (simp [errW_none, errW_some] <;> rfl) | (simp only [← hji58]; first | rfl | (simp [errW_none, errW_some] <;> rfl)) | (simp [*, errW_none, errW_some] <;> rfl), by repeat (first | (with_reducible first | exact HB.out | apply below_alloc | apply pw_below_drewN | apply below_drew1 | refine below_set ?_ GE145.out) | exact HB.out)⟩
                                · rw [if_neg c61] at H
                                  have c61b0 : decide (((rd_T38 l0 x15_2).f0) < ((rd_T38 l0 (ji58)).f0)) = false := decide_eq_false c61
                                  clear c61
                                  by_cases c66 : x15_2 ≥ 4
                                  · rw [if_pos c66] at H
                                    have c66b0 : decide (4 ≤ x15_2) = true := decide_eq_true c66
                                    clear c66
                                    obtain ⟨ji67, hji67⟩ : ∃ j_ : Int, (wrap64 (x15_2 - 4)) = j_ := ⟨_, rfl⟩
                                    replace H : (if 0 ≤ (ji67) then (if (ji67) < (l0.length : Int) then (if ((rd_T38 l0 x15_2).f0) = ((rd_T38 l0 (ji67)).f0) then (some false) else (impl_IsComb.l0 k2 l0 l0 (l0.length : Int) (wrap64 (x15_2 + 1)))) else (none)) else (none)) = some r := by first | (rw [hji67] at H; exact H) | (simp only [hji67] at H ⊢; exact H)
                                    (try rw [hji67] at A8)
                                    (try rw [hji67] at A10)
                                    have hji67w : (IntKind.i64.wrap (x15_2 - 4)) = ji67 := (i64_w _).trans hji67
                                    by_cases c68 : 0 ≤ (ji67)
                                    · rw [if_pos c68] at H
                                      have c68b0 : decide (0 ≤ (ji67)) = true := decide_eq_true c68
                                      clear c68
                                      by_cases c69 : (ji67) < (l0.length : Int)
                                      · rw [if_pos c69] at H
                                        have c69b0 : decide ((ji67) < (l0.length : Int)) = true := decide_eq_true c69
                                        clear c69
                                        by_cases c70 : ((rd_T38 l0 x15_2).f0) = ((rd_T38 l0 (ji67)).f0)
                                        · rw [if_pos c70] at H
                                          have c70b0 : (((rd_T38 l0 x15_2).f0) == ((rd_T38 l0 (ji67)).f0)) = true := beq_iff_eq.mpr c70
                                          have c70b1 : (((rd_T38 l0 x15_2).f0) != ((rd_T38 l0 (ji67)).f0)) = false := bne_eq_false_iff_eq.mpr c70
                                          clear c70
                                          obtain rfl := Option.some.inj H
                                          have p144 : 0 ≤ (x15_2 : Int) := of_decide_eq_true (by first | (with_reducible assumption) | assumption)
                                          have q144 : x15_2 < (l0.length : Int) := of_decide_eq_true (by first | (with_reducible assumption) | assumption)
                                          obtain ⟨ad144, e144, hx144_0, hx144_1, hx144_2⟩ := at_T38 HR0.out x15_2 p144 q144
                                          cases e144
                                          replace hx144_0 := (HB.out.cell (World.block_lt_of_cell? w _ hx144_0)).trans hx144_0
                                          replace hx144_1 := (HB.out.cell (World.block_lt_of_cell? w _ hx144_1)).trans hx144_1
                                          replace hx144_2 := (HB.out.cell (World.block_lt_of_cell? w _ hx144_2)).trans hx144_2
                                          replace p144 := eq_true p144
                                          replace q144 := eq_true q144
                                          try go_wp2_with (first | ((with_reducible refine gate_dst (N := 4) rfl ?_); (try (refine gate_guard (by rfl) ?_; dsimp only)); refine box_event ?hg (N := 4) ?hd (cs := #[.int .i64 0, .int .i64 0, .int .i64 0]) (t := 38) ?hr ?_; (case hd => rfl); (case hg => rfl); (case hr => first | (go_simp; done) | (go_simp; rfl)); intro gb145 hg w71 hbox hb; have n0_ := Aside0.mk (below_step (by repeat (first | (with_reducible first | exact HB.out | apply below_alloc | apply pw_below_drewN | apply below_drew1) | exact HB.out)) hb); have n1_ := Aside0.mk (hbox); have n2_ := Aside0.mk ((by rw [hg]; exact (below_size (by repeat (first | (with_reducible first | exact HB.out | apply below_alloc | apply pw_below_drewN | apply below_drew1) | exact HB.out))) : w.heap.size ≤ gb145)); have n3_ := Aside0.mk ((by rw [hg]; exact (below_size (by repeat (first | (with_reducible first | exact HB.out | apply below_alloc | apply pw_below_drewN | apply below_drew1) | exact HB.out))) : w.heap.size ≤ gb145)); clear HB; have HB := n0_; have BK145 := n1_; have GW145 := n2_; have GE145 := n3_; clear n0_ n1_ n2_ n3_; clear hb hbox hg; have hcz72_0 : w71.cell? ⟨gb145, 0, none⟩ = some (.int .i64 0) := (blk_cell BK145.out 0).trans rfl; have hcz72_1 : w71.cell? ⟨gb145, 1, none⟩ = some (.int .i64 0) := (blk_cell BK145.out 1).trans rfl; have hcz72_2 : w71.cell? ⟨gb145, 2, none⟩ = some (.int .i64 0) := (blk_cell BK145.out 2).trans rfl; have hfz72_0 := blk_frozen BK145.out 0; have hfz72_1 := blk_frozen BK145.out 1; have hfz72_2 := blk_frozen BK145.out 2))
                                          have n0_ : Aside0 ((((w71.setCell ⟨gb145, 0, none⟩ (.int .i64 ((rd_T38 l0 x15_2).f0))).setCell ⟨gb145, 1, none⟩ (.int .i64 ((rd_T38 l0 x15_2).f1))).setCell ⟨gb145, 2, none⟩ (.int .i64 ((rd_T38 l0 x15_2).f2))).heap[gb145]? = some (.cells #[.int .i64 ((rd_T38 l0 x15_2).f0), .int .i64 ((rd_T38 l0 x15_2).f1), .int .i64 ((rd_T38 l0 x15_2).f2)] 38 (0, 0))) := ⟨by (with_reducible repeat (first | refine blk_drewN ?_ _ | refine blk_drew ?_ | refine blk_alloc ?_ _)); refine blk_put (cs := #[.int .i64 ((rd_T38 l0 x15_2).f0), .int .i64 ((rd_T38 l0 x15_2).f1), .int .i64 0]) ?_ 2 _ rfl; (with_reducible repeat (first | refine blk_drewN ?_ _ | refine blk_drew ?_ | refine blk_alloc ?_ _)); refine blk_put (cs := #[.int .i64 ((rd_T38 l0 x15_2).f0), .int .i64 0, .int .i64 0]) ?_ 1 _ rfl; (with_reducible repeat (first | refine blk_drewN ?_ _ | refine blk_drew ?_ | refine blk_alloc ?_ _)); refine blk_put (cs := #[.int .i64 0, .int .i64 0, .int .i64 0]) ?_ 0 _ rfl; (with_reducible repeat (first | refine blk_drewN ?_ _ | refine blk_drew ?_ | refine blk_alloc ?_ _)); exact BK145.out⟩
                                          have n1_ : Aside0 (Below w.heap.size w (((w71.setCell ⟨gb145, 0, none⟩ (.int .i64 ((rd_T38 l0 x15_2).f0))).setCell ⟨gb145, 1, none⟩ (.int .i64 ((rd_T38 l0 x15_2).f1))).setCell ⟨gb145, 2, none⟩ (.int .i64 ((rd_T38 l0 x15_2).f2)))) := ⟨by repeat (first | (with_reducible first | exact HB.out | apply below_alloc | apply pw_below_drewN | apply below_drew1 | refine below_set ?_ GE145.out) | exact HB.out)⟩
                                          (try clear BK145)
                                          (try clear HB)
                                          generalize (((w71.setCell ⟨gb145, 0, none⟩ (.int .i64 ((rd_T38 l0 x15_2).f0))).setCell ⟨gb145, 1, none⟩ (.int .i64 ((rd_T38 l0 x15_2).f1))).setCell ⟨gb145, 2, none⟩ (.int .i64 ((rd_T38 l0 x15_2).f2))) = w73 at n0_ n1_ ⊢
                                          have BK145 := n0_
                                          have HB := n1_
                                          clear n0_ n1_
                                          have p151 : 0 ≤ ((ji58) : Int) := of_decide_eq_true (by first | (with_reducible assumption) | assumption)
                                          have q151 : (ji58) < (l0.length : Int) := of_decide_eq_true (by first | (with_reducible assumption) | assumption)
                                          obtain ⟨ad151, e151, hx151_0, hx151_1, hx151_2⟩ := at_T38 HR0.out (ji58) p151 q151
                                          have hw151_2 := hx151_2
                                          have hw151_1 := hx151_1
                                          have hw151_0 := hx151_0
                                          obtain rfl : ad144 = ad151 := (by injection e151)
                                          replace hx151_0 := (HB.out.cell (World.block_lt_of_cell? w _ hx151_0)).trans hx151_0
                                          replace hx151_1 := (HB.out.cell (World.block_lt_of_cell? w _ hx151_1)).trans hx151_1
                                          replace hx151_2 := (HB.out.cell (World.block_lt_of_cell? w _ hx151_2)).trans hx151_2
                                          replace p151 := eq_true p151
                                          replace q151 := eq_true q151
                                          have p152 : 0 ≤ ((ji67) : Int) := of_decide_eq_true (by first | (with_reducible assumption) | assumption)
                                          have q152 : (ji67) < (l0.length : Int) := of_decide_eq_true (by first | (with_reducible assumption) | assumption)
                                          obtain ⟨ad152, e152, hx152_0, hx152_1, hx152_2⟩ := at_T38 HR0.out (ji67) p152 q152
                                          have hw152_2 := hx152_2
                                          have hw152_1 := hx152_1
                                          have hw152_0 := hx152_0
                                          obtain rfl : ad144 = ad152 := (by injection e152)
                                          replace hx152_0 := (HB.out.cell (World.block_lt_of_cell? w _ hx152_0)).trans hx152_0
                                          replace hx152_1 := (HB.out.cell (World.block_lt_of_cell? w _ hx152_1)).trans hx152_1
                                          replace hx152_2 := (HB.out.cell (World.block_lt_of_cell? w _ hx152_2)).trans hx152_2
                                          replace p152 := eq_true p152
                                          replace q152 := eq_true q152
                                          have hq0_ : w73.cell? ⟨gb145, 0, none⟩ = some (.int .i64 ((rd_T38 l0 x15_2).f0)) := (blk_cell BK145.out 0).trans rfl
                                          have hq1_ : w73.cell? ⟨gb145, 1, none⟩ = some (.int .i64 ((rd_T38 l0 x15_2).f1)) := (blk_cell BK145.out 1).trans rfl
                                          have hq2_ : w73.cell? ⟨gb145, 2, none⟩ = some (.int .i64 ((rd_T38 l0 x15_2).f2)) := (blk_cell BK145.out 2).trans rfl
                                          go_quiet (first | (go_at_call 34; exact quiet_drawn (impl_isPitch.calls ((rd_T38 l0 x15_2).f0) true _ A8.out)) | (go_at_call 35; exact quiet_drawn (impl_isCents.calls ((rd_T38 l0 x15_2).f1) true _ A10.out)))
                                          try go_wp2
                                          go_ret
                                          exact ⟨by first | rfl | (simp [errW_none, errW_some] <;> rfl) | (simp only [← hji58, ← hji67]; first | rfl | (simp [errW_none, errW_some] <;> rfl)) | (simp [*, errW_none, errW_some] <;> rfl), by repeat (first | (with_reducible first | exact HB.out | apply below_alloc | apply pw_below_drewN | apply below_drew1 | refine below_set ?_ GE145.out) | exact HB.out)⟩
                                        · rw [if_neg c70] at H
                                          have c70b0 : (((rd_T38 l0 x15_2).f0) == ((rd_T38 l0 (ji67)).f0)) = false := beq_eq_false_iff_ne.mpr c70
                                          have c70b1 : (((rd_T38 l0 x15_2).f0) != ((rd_T38 l0 (ji67)).f0)) = true := bne_iff_ne.mpr c70
                                          have H' := Aside0.mk H
                                          clear H
                                          have p144 : 0 ≤ (x15_2 : Int) := of_decide_eq_true (by first | (with_reducible assumption) | assumption)
                                          have q144 : x15_2 < (l0.length : Int) := of_decide_eq_true (by first | (with_reducible assumption) | assumption)
                                          obtain ⟨ad144, e144, hx144_0, hx144_1, hx144_2⟩ := at_T38 HR0.out x15_2 p144 q144
                                          cases e144
                                          replace hx144_0 := (HB.out.cell (World.block_lt_of_cell? w _ hx144_0)).trans hx144_0
                                          replace hx144_1 := (HB.out.cell (World.block_lt_of_cell? w _ hx144_1)).trans hx144_1
                                          replace hx144_2 := (HB.out.cell (World.block_lt_of_cell? w _ hx144_2)).trans hx144_2
                                          replace p144 := eq_true p144
                                          replace q144 := eq_true q144
                                          try go_wp2_with (first | ((with_reducible refine gate_dst (N := 4) rfl ?_); (try (refine gate_guard (by rfl) ?_; dsimp only)); refine box_event ?hg (N := 4) ?hd (cs := #[.int .i64 0, .int .i64 0, .int .i64 0]) (t := 38) ?hr ?_; (case hd => rfl); (case hg => rfl); (case hr => first | (go_simp; done) | (go_simp; rfl)); intro gb145 hg w75 hbox hb; have n0_ := Aside0.mk (below_step (by repeat (first | (with_reducible first | exact HB.out | apply below_alloc | apply pw_below_drewN | apply below_drew1) | exact HB.out)) hb); have n1_ := Aside0.mk (hbox); have n2_ := Aside0.mk ((by rw [hg]; exact (below_size (by repeat (first | (with_reducible first | exact HB.out | apply below_alloc | apply pw_below_drewN | apply below_drew1) | exact HB.out))) : w.heap.size ≤ gb145)); have n3_ := Aside0.mk ((by rw [hg]; exact (below_size (by repeat (first | (with_reducible first | exact HB.out | apply below_alloc | apply pw_below_drewN | apply below_drew1) | exact HB.out))) : w.heap.size ≤ gb145)); clear HB; have HB := n0_; have BK145 := n1_; have GW145 := n2_; have GE145 := n3_; clear n0_ n1_ n2_ n3_; clear hb hbox hg; have hcz76_0 : w75.cell? ⟨gb145, 0, none⟩ = some (.int .i64 0) := (blk_cell BK145.out 0).trans rfl; have hcz76_1 : w75.cell? ⟨gb145, 1, none⟩ = some (.int .i64 0) := (blk_cell BK145.out 1).trans rfl; have hcz76_2 : w75.cell? ⟨gb145, 2, none⟩ = some (.int .i64 0) := (blk_cell BK145.out 2).trans rfl; have hfz76_0 := blk_frozen BK145.out 0; have hfz76_1 := blk_frozen BK145.out 1; have hfz76_2 := blk_frozen BK145.out 2))
                                          have n0_ : Aside0 ((((w75.setCell ⟨gb145, 0, none⟩ (.int .i64 ((rd_T38 l0 x15_2).f0))).setCell ⟨gb145, 1, none⟩ (.int .i64 ((rd_T38 l0 x15_2).f1))).setCell ⟨gb145, 2, none⟩ (.int .i64 ((rd_T38 l0 x15_2).f2))).heap[gb145]? = some (.cells #[.int .i64 ((rd_T38 l0 x15_2).f0), .int .i64 ((rd_T38 l0 x15_2).f1), .int .i64 ((rd_T38 l0 x15_2).f2)] 38 (0, 0))) := ⟨by (with_reducible repeat (first | refine blk_drewN ?_ _ | refine blk_drew ?_ | refine blk_alloc ?_ _)); refine blk_put (cs := #[.int .i64 ((rd_T38 l0 x15_2).f0), .int .i64 ((rd_T38 l0 x15_2).f1), .int .i64 0]) ?_ 2 _ rfl; (with_reducible repeat (first | refine blk_drewN ?_ _ | refine blk_drew ?_ | refine blk_alloc ?_ _)); refine blk_put (cs := #[.int .i64 ((rd_T38 l0 x15_2).f0), .int .i64 0, .int .i64 0]) ?_ 1 _ rfl; (with_reducible repeat (first | refine blk_drewN ?_ _ | refine blk_drew ?_ | refine blk_alloc ?_ _)); refine blk_put (cs := #[.int .i64 0, .int .i64 0, .int .i64 0]) ?_ 0 _ rfl; (with_reducible repeat (first | refine blk_drewN ?_ _ | refine blk_drew ?_ | refine blk_alloc ?_ _)); exact BK145.out⟩
                                          have n1_ : Aside0 (Below w.heap.size w (((w75.setCell ⟨gb145, 0, none⟩ (.int .i64 ((rd_T38 l0 x15_2).f0))).setCell ⟨gb145, 1, none⟩ (.int .i64 ((rd_T38 l0 x15_2).f1))).setCell ⟨gb145, 2, none⟩ (.int .i64 ((rd_T38 l0 x15_2).f2)))) := ⟨by repeat (first | (with_reducible first | exact HB.out | apply below_alloc | apply pw_below_drewN | apply below_drew1 | refine below_set ?_ GE145.out) | exact HB.out)⟩
                                          (try clear BK145)
                                          (try clear HB)
                                          generalize (((w75.setCell ⟨gb145, 0, none⟩ (.int .i64 ((rd_T38 l0 x15_2).f0))).setCell ⟨gb145, 1, none⟩ (.int .i64 ((rd_T38 l0 x15_2).f1))).setCell ⟨gb145, 2, none⟩ (.int .i64 ((rd_T38 l0 x15_2).f2))) = w77 at n0_ n1_ ⊢
                                          have BK145 := n0_
                                          have HB := n1_
                                          clear n0_ n1_
                                          have p151 : 0 ≤ ((ji58) : Int) := of_decide_eq_true (by first | (with_reducible assumption) | assumption)
                                          have q151 : (ji58) < (l0.length : Int) := of_decide_eq_true (by first | (with_reducible assumption) | assumption)
                                          obtain ⟨ad151, e151, hx151_0, hx151_1, hx151_2⟩ := at_T38 HR0.out (ji58) p151 q151
                                          have hw151_2 := hx151_2
                                          have hw151_1 := hx151_1
                                          have hw151_0 := hx151_0
                                          obtain rfl : ad144 = ad151 := (by injection e151)
                                          replace hx151_0 := (HB.out.cell (World.block_lt_of_cell? w _ hx151_0)).trans hx151_0
                                          replace hx151_1 := (HB.out.cell (World.block_lt_of_cell? w _ hx151_1)).trans hx151_1
                                          replace hx151_2 := (HB.out.cell (World.block_lt_of_cell? w _ hx151_2)).trans hx151_2
                                          replace p151 := eq_true p151
                                          replace q151 := eq_true q151
                                          have p152 : 0 ≤ ((ji67) : Int) := of_decide_eq_true (by first | (with_reducible assumption) | assumption)
                                          have q152 : (ji67) < (l0.length : Int) := of_decide_eq_true (by first | (with_reducible assumption) | assumption)
                                          obtain ⟨ad152, e152, hx152_0, hx152_1, hx152_2⟩ := at_T38 HR0.out (ji67) p152 q152
                                          have hw152_2 := hx152_2
                                          have hw152_1 := hx152_1
                                          have hw152_0 := hx152_0
                                          obtain rfl : ad144 = ad152 := (by injection e152)
                                          replace hx152_0 := (HB.out.cell (World.block_lt_of_cell? w _ hx152_0)).trans hx152_0
                                          replace hx152_1 := (HB.out.cell (World.block_lt_of_cell? w _ hx152_1)).trans hx152_1
                                          replace hx152_2 := (HB.out.cell (World.block_lt_of_cell? w _ hx152_2)).trans hx152_2
                                          replace p152 := eq_true p152
                                          replace q152 := eq_true q152
                                          have hq0_ : w77.cell? ⟨gb145, 0, none⟩ = some (.int .i64 ((rd_T38 l0 x15_2).f0)) := (blk_cell BK145.out 0).trans rfl
                                          have hq1_ : w77.cell? ⟨gb145, 1, none⟩ = some (.int .i64 ((rd_T38 l0 x15_2).f1)) := (blk_cell BK145.out 1).trans rfl
                                          have hq2_ : w77.cell? ⟨gb145, 2, none⟩ = some (.int .i64 ((rd_T38 l0 x15_2).f2)) := (blk_cell BK145.out 2).trans rfl
                                          go_quiet (first | (go_at_call 34; exact quiet_drawn (impl_isPitch.calls ((rd_T38 l0 x15_2).f0) true _ A8.out)) | (go_at_call 35; exact quiet_drawn (impl_isCents.calls ((rd_T38 l0 x15_2).f1) true _ A10.out)))
                                          try go_wp2
                                          go_roundg k2
                                          case measure => have := HJ1.out; have := HK2.out; omega
                                          case rel => exact ⟨(wrap64 (x15_2 + 1)), (by first | rfl | (simp; done) | (simp [*]; done)), H', ⟨by have := HJ1.out; have := HK2.out; omega⟩, ⟨by repeat (first | (with_reducible first | exact HB.out | apply below_alloc | apply pw_below_drewN | apply below_drew1 | refine below_set ?_ GE145.out) | exact HB.out)⟩⟩
                                      · rw [if_neg c69] at H
                                        exact absurd H (by simp)
                                    · rw [if_neg c68] at H
                                      exact absurd H (by simp)
                                  · rw [if_neg c66] at H
                                    have c66b0 : decide (4 ≤ x15_2) = false := decide_eq_false c66
                                    clear c66
                                    have H' := Aside0.mk H
                                    clear H
                                    have p144 : 0 ≤ (x15_2 : Int) := of_decide_eq_true (by first | (with_reducible assumption) | assumption)
                                    have q144 : x15_2 < (l0.length : Int) := of_decide_eq_true (by first | (with_reducible assumption) | assumption)
                                    obtain ⟨ad144, e144, hx144_0, hx144_1, hx144_2⟩ := at_T38 HR0.out x15_2 p144 q144
                                    cases e144
                                    replace hx144_0 := (HB.out.cell (World.block_lt_of_cell? w _ hx144_0)).trans hx144_0
                                    replace hx144_1 := (HB.out.cell (World.block_lt_of_cell? w _ hx144_1)).trans hx144_1
                                    replace hx144_2 := (HB.out.cell (World.block_lt_of_cell? w _ hx144_2)).trans hx144_2
                                    replace p144 := eq_true p144
                                    replace q144 := eq_true q144
                                    try go_wp2_with (first | ((with_reducible refine gate_dst (N := 4) rfl ?_); (try (refine gate_guard (by rfl) ?_; dsimp only)); refine box_event ?hg (N := 4) ?hd (cs := #[.int .i64 0, .int .i64 0, .int .i64 0]) (t := 38) ?hr ?_; (case hd => rfl); (case hg => rfl); (case hr => first | (go_simp; done) | (go_simp; rfl)); intro gb145 hg w79 hbox hb; have n0_ := Aside0.mk (below_step (by repeat (first | (with_reducible first | exact HB.out | apply below_alloc | apply pw_below_drewN | apply below_drew1) | exact HB.out)) hb); have n1_ := Aside0.mk (hbox); have n2_ := Aside0.mk ((by rw [hg]; exact (below_size (by repeat (first | (with_reducible first | exact HB.out | apply below_alloc | apply pw_below_drewN | apply below_drew1) | exact HB.out))) : w.heap.size ≤ gb145)); have n3_ := Aside0.mk ((by rw [hg]; exact (below_size (by repeat (first | (with_reducible first | exact HB.out | apply below_alloc | apply pw_below_drewN | apply below_drew1) | exact HB.out))) : w.heap.size ≤ gb145)); clear HB; have HB := n0_; have BK145 := n1_; have GW145 := n2_; have GE145 := n3_; clear n0_ n1_ n2_ n3_; clear hb hbox hg; have hcz80_0 : w79.cell? ⟨gb145, 0, none⟩ = some (.int .i64 0) := (blk_cell BK145.out 0).trans rfl; have hcz80_1 : w79.cell? ⟨gb145, 1, none⟩ = some (.int .i64 0) := (blk_cell BK145.out 1).trans rfl; have hcz80_2 : w79.cell? ⟨gb145, 2, none⟩ = some (.int .i64 0) := (blk_cell BK145.out 2).trans rfl; have hfz80_0 := blk_frozen BK145.out 0; have hfz80_1 := blk_frozen BK145.out 1; have hfz80_2 := blk_frozen BK145.out 2))
                                    have n0_ : Aside0 ((((w79.setCell ⟨gb145, 0, none⟩ (.int .i64 ((rd_T38 l0 x15_2).f0))).setCell ⟨gb145, 1, none⟩ (.int .i64 ((rd_T38 l0 x15_2).f1))).setCell ⟨gb145, 2, none⟩ (.int .i64 ((rd_T38 l0 x15_2).f2))).heap[gb145]? = some (.cells #[.int .i64 ((rd_T38 l0 x15_2).f0), .int .i64 ((rd_T38 l0 x15_2).f1), .int .i64 ((rd_T38 l0 x15_2).f2)] 38 (0, 0))) := ⟨by (with_reducible repeat (first | refine blk_drewN ?_ _ | refine blk_drew ?_ | refine blk_alloc ?_ _)); refine blk_put (cs := #[.int .i64 ((rd_T38 l0 x15_2).f0), .int .i64 ((rd_T38 l0 x15_2).f1), .int .i64 0]) ?_ 2 _ rfl; (with_reducible repeat (first | refine blk_drewN ?_ _ | refine blk_drew ?_ | refine blk_alloc ?_ _)); refine blk_put (cs := #[.int .i64 ((rd_T38 l0 x15_2).f0), .int .i64 0, .int .i64 0]) ?_ 1 _ rfl; (with_reducible repeat (first | refine blk_drewN ?_ _ | refine blk_drew ?_ | refine blk_alloc ?_ _)); refine blk_put (cs := #[.int .i64 0, .int .i64 0, .int .i64 0]) ?_ 0 _ rfl; (with_reducible repeat (first | refine blk_drewN ?_ _ | refine blk_drew ?_ | refine blk_alloc ?_ _)); exact BK145.out⟩
                                    have n1_ : Aside0 (Below w.heap.size w (((w79.setCell ⟨gb145, 0, none⟩ (.int .i64 ((rd_T38 l0 x15_2).f0))).setCell ⟨gb145, 1, none⟩ (.int .i64 ((rd_T38 l0 x15_2).f1))).setCell ⟨gb145, 2, none⟩ (.int .i64 ((rd_T38 l0 x15_2).f2)))) := ⟨by repeat (first | (with_reducible first | exact HB.out | apply below_alloc | apply pw_below_drewN | apply below_drew1 | refine below_set ?_ GE145.out) | exact HB.out)⟩
                                    (try clear BK145)
                                    (try clear HB)
                                    generalize (((w79.setCell ⟨gb145, 0, none⟩ (.int .i64 ((rd_T38 l0 x15_2).f0))).setCell ⟨gb145, 1, none⟩ (.int .i64 ((rd_T38 l0 x15_2).f1))).setCell ⟨gb145, 2, none⟩ (.int .i64 ((rd_T38 l0 x15_2).f2))) = w81 at n0_ n1_ ⊢
                                    have BK145 := n0_
                                    have HB := n1_
                                    clear n0_ n1_
                                    have p151 : 0 ≤ ((ji58) : Int) := of_decide_eq_true (by first | (with_reducible assumption) | assumption)
                                    have q151 : (ji58) < (l0.length : Int) := of_decide_eq_true (by first | (with_reducible assumption) | assumption)
                                    obtain ⟨ad151, e151, hx151_0, hx151_1, hx151_2⟩ := at_T38 HR0.out (ji58) p151 q151
                                    have hw151_2 := hx151_2
                                    have hw151_1 := hx151_1
                                    have hw151_0 := hx151_0
                                    obtain rfl : ad144 = ad151 := (by injection e151)
                                    replace hx151_0 := (HB.out.cell (World.block_lt_of_cell? w _ hx151_0)).trans hx151_0
                                    replace hx151_1 := (HB.out.cell (World.block_lt_of_cell? w _ hx151_1)).trans hx151_1
                                    replace hx151_2 := (HB.out.cell (World.block_lt_of_cell? w _ hx151_2)).trans hx151_2
                                    replace p151 := eq_true p151
                                    replace q151 := eq_true q151
                                    have hq0_ : w81.cell? ⟨gb145, 0, none⟩ = some (.int .i64 ((rd_T38 l0 x15_2).f0)) := (blk_cell BK145.out 0).trans rfl
                                    have hq1_ : w81.cell? ⟨gb145, 1, none⟩ = some (.int .i64 ((rd_T38 l0 x15_2).f1)) := (blk_cell BK145.out 1).trans rfl
                                    have hq2_ : w81.cell? ⟨gb145, 2, none⟩ = some (.int .i64 ((rd_T38 l0 x15_2).f2)) := (blk_cell BK145.out 2).trans rfl
                                    go_quiet (first | (go_at_call 34; exact quiet_drawn (impl_isPitch.calls ((rd_T38 l0 x15_2).f0) true _ A8.out)) | (go_at_call 35; exact quiet_drawn (impl_isCents.calls ((rd_T38 l0 x15_2).f1) true _ A10.out)))
                                    try go_wp2
                                    go_roundg k2
                                    case measure => have := HJ1.out; have := HK2.out; omega
                                    case rel => exact ⟨(wrap64 (x15_2 + 1)), (by first | rfl | (simp; done) | (simp [*]; done)), H', ⟨by have := HJ1.out; have := HK2.out; omega⟩, ⟨by repeat (first | (with_reducible first | exact HB.out | apply below_alloc | apply pw_below_drewN | apply below_drew1 | refine below_set ?_ GE145.out) | exact HB.out)⟩⟩
                              · rw [if_neg c60] at H
                                exact absurd H (by simp)
                            · rw [if_neg c59] at H
                              exact absurd H (by simp)
                          · rw [if_neg c57] at H
                            have c57b0 : decide (0 < x15_2) = false := decide_eq_false c57
                            clear c57
                            by_cases c83 : x15_2 ≥ 4
                            · rw [if_pos c83] at H
                              have c83b0 : decide (4 ≤ x15_2) = true := decide_eq_true c83
                              clear c83
                              obtain ⟨ji84, hji84⟩ : ∃ j_ : Int, (wrap64 (x15_2 - 4)) = j_ := ⟨_, rfl⟩
                              replace H : (if 0 ≤ (ji84) then (if (ji84) < (l0.length : Int) then (if ((rd_T38 l0 x15_2).f0) = ((rd_T38 l0 (ji84)).f0) then (some false) else (impl_IsComb.l0 k2 l0 l0 (l0.length : Int) (wrap64 (x15_2 + 1)))) else (none)) else (none)) = some r := by first | (rw [hji84] at H; exact H) | (simp only [hji84] at H ⊢; exact H)
                              (try rw [hji84] at A8)
                              (try rw [hji84] at A10)
                              have hji84w : (IntKind.i64.wrap (x15_2 - 4)) = ji84 := (i64_w _).trans hji84
                              by_cases c85 : 0 ≤ (ji84)
                              · rw [if_pos c85] at H
                                have c85b0 : decide (0 ≤ (ji84)) = true := decide_eq_true c85
                                clear c85
                                by_cases c86 : (ji84) < (l0.length : Int)
                                · rw [if_pos c86] at H
                                  have c86b0 : decide ((ji84) < (l0.length : Int)) = true := decide_eq_true c86
                                  clear c86
                                  by_cases c87 : ((rd_T38 l0 x15_2).f0) = ((rd_T38 l0 (ji84)).f0)
                                  · rw [if_pos c87] at H
                                    have c87b0 : (((rd_T38 l0 x15_2).f0) == ((rd_T38 l0 (ji84)).f0)) = true := beq_iff_eq.mpr c87
                                    have c87b1 : (((rd_T38 l0 x15_2).f0) != ((rd_T38 l0 (ji84)).f0)) = false := bne_eq_false_iff_eq.mpr c87
                                    clear c87
                                    obtain rfl := Option.some.inj H
                                    have p144 : 0 ≤ (x15_2 : Int) := of_decide_eq_true (by first | (with_reducible assumption) | assumption)
                                    have q144 : x15_2 < (l0.length : Int) := of_decide_eq_true (by first | (with_reducible assumption) | assumption)
                                    obtain ⟨ad144, e144, hx144_0, hx144_1, hx144_2⟩ := at_T38 HR0.out x15_2 p144 q144
                                    cases e144
                                    replace hx144_0 := (HB.out.cell (World.block_lt_of_cell? w _ hx144_0)).trans hx144_0
                                    replace hx144_1 := (HB.out.cell (World.block_lt_of_cell? w _ hx144_1)).trans hx144_1
                                    replace hx144_2 := (HB.out.cell (World.block_lt_of_cell? w _ hx144_2)).trans hx144_2
                                    replace p144 := eq_true p144
                                    replace q144 := eq_true q144
                                    try go_wp2_with (first | ((with_reducible refine gate_dst (N := 4) rfl ?_); (try (refine gate_guard (by rfl) ?_; dsimp only)); refine box_event ?hg (N := 4) ?hd (cs := #[.int .i64 0, .int .i64 0, .int .i64 0]) (t := 38) ?hr ?_; (case hd => rfl); (case hg => rfl); (case hr => first | (go_simp; done) | (go_simp; rfl)); intro gb145 hg w88 hbox hb; have n0_ := Aside0.mk (below_step (by repeat (first | (with_reducible first | exact HB.out | apply below_alloc | apply pw_below_drewN | apply below_drew1) | exact HB.out)) hb); have n1_ := Aside0.mk (hbox); have n2_ := Aside0.mk ((by rw [hg]; exact (below_size (by repeat (first | (with_reducible first | exact HB.out | apply below_alloc | apply pw_below_drewN | apply below_drew1) | exact HB.out))) : w.heap.size ≤ gb145)); have n3_ := Aside0.mk ((by rw [hg]; exact (below_size (by repeat (first | (with_reducible first | exact HB.out | apply below_alloc | apply pw_below_drewN | apply below_drew1) | exact HB.out))) : w.heap.size ≤ gb145)); clear HB; have HB := n0_; have BK145 := n1_; have GW145 := n2_; have GE145 := n3_; clear n0_ n1_ n2_ n3_; clear hb hbox hg; have hcz89_0 : w88.cell? ⟨gb145, 0, none⟩ = some (.int .i64 0) := (blk_cell BK145.out 0).trans rfl; have hcz89_1 : w88.cell? ⟨gb145, 1, none⟩ = some (.int .i64 0) := (blk_cell BK145.out 1).trans rfl; have hcz89_2 : w88.cell? ⟨gb145, 2, none⟩ = some (.int .i64 0) := (blk_cell BK145.out 2).trans rfl; have hfz89_0 := blk_frozen BK145.out 0; have hfz89_1 := blk_frozen BK145.out 1; have hfz89_2 := blk_frozen BK145.out 2))
                                    have n0_ : Aside0 ((((w88.setCell ⟨gb145, 0, none⟩ (.int .i64 ((rd_T38 l0 x15_2).f0))).setCell ⟨gb145, 1, none⟩ (.int .i64 ((rd_T38 l0 x15_2).f1))).setCell ⟨gb145, 2, none⟩ (.int .i64 ((rd_T38 l0 x15_2).f2))).heap[gb145]? = some (.cells #[.int .i64 ((rd_T38 l0 x15_2).f0), .int .i64 ((rd_T38 l0 x15_2).f1), .int .i64 ((rd_T38 l0 x15_2).f2)] 38 (0, 0))) := ⟨by (with_reducible repeat (first | refine blk_drewN ?_ _ | refine blk_drew ?_ | refine blk_alloc ?_ _)); refine blk_put (cs := #[.int .i64 ((rd_T38 l0 x15_2).f0), .int .i64 ((rd_T38 l0 x15_2).f1), .int .i64 0]) ?_ 2 _ rfl; (with_reducible repeat (first | refine blk_drewN ?_ _ | refine blk_drew ?_ | refine blk_alloc ?_ _)); refine blk_put (cs := #[.int .i64 ((rd_T38 l0 x15_2).f0), .int .i64 0, .int .i64 0]) ?_ 1 _ rfl; (with_reducible repeat (first | refine blk_drewN ?_ _ | refine blk_drew ?_ | refine blk_alloc ?_ _)); refine blk_put (cs := #[.int .i64 0, .int .i64 0, .int .i64 0]) ?_ 0 _ rfl; (with_reducible repeat (first | refine blk_drewN ?_ _ | refine blk_drew ?_ | refine blk_alloc ?_ _)); exact BK145.out⟩
                                    have n1_ : Aside0 (Below w.heap.size w (((w88.setCell ⟨gb145, 0, none⟩ (.int .i64 ((rd_T38 l0 x15_2).f0))).setCell ⟨gb145, 1, none⟩ (.int .i64 ((rd_T38 l0 x15_2).f1))).setCell ⟨gb145, 2, none⟩ (.int .i64 ((rd_T38 l0 x15_2).f2)))) := ⟨by repeat (first | (with_reducible first | exact HB.out | apply below_alloc | apply pw_below_drewN | apply below_drew1 | refine below_set ?_ GE145.out) | exact HB.out)⟩
                                    (try clear BK145)
                                    (try clear HB)
                                    generalize (((w88.setCell ⟨gb145, 0, none⟩ (.int .i64 ((rd_T38 l0 x15_2).f0))).setCell ⟨gb145, 1, none⟩ (.int .i64 ((rd_T38 l0 x15_2).f1))).setCell ⟨gb145, 2, none⟩ (.int .i64 ((rd_T38 l0 x15_2).f2))) = w90 at n0_ n1_ ⊢
                                    have BK145 := n0_
                                    have HB := n1_
                                    clear n0_ n1_
                                    have p153 : 0 ≤ ((ji84) : Int) := of_decide_eq_true (by first | (with_reducible assumption) | assumption)
                                    have q153 : (ji84) < (l0.length : Int) := of_decide_eq_true (by first | (with_reducible assumption) | assumption)
                                    obtain ⟨ad153, e153, hx153_0, hx153_1, hx153_2⟩ := at_T38 HR0.out (ji84) p153 q153
                                    have hw153_2 := hx153_2
                                    have hw153_1 := hx153_1
                                    have hw153_0 := hx153_0
                                    obtain rfl : ad144 = ad153 := (by injection e153)
                                    replace hx153_0 := (HB.out.cell (World.block_lt_of_cell? w _ hx153_0)).trans hx153_0
                                    replace hx153_1 := (HB.out.cell (World.block_lt_of_cell? w _ hx153_1)).trans hx153_1
                                    replace hx153_2 := (HB.out.cell (World.block_lt_of_cell? w _ hx153_2)).trans hx153_2
                                    replace p153 := eq_true p153
                                    replace q153 := eq_true q153
                                    have hq0_ : w90.cell? ⟨gb145, 0, none⟩ = some (.int .i64 ((rd_T38 l0 x15_2).f0)) := (blk_cell BK145.out 0).trans rfl
                                    have hq1_ : w90.cell? ⟨gb145, 1, none⟩ = some (.int .i64 ((rd_T38 l0 x15_2).f1)) := (blk_cell BK145.out 1).trans rfl
                                    have hq2_ : w90.cell? ⟨gb145, 2, none⟩ = some (.int .i64 ((rd_T38 l0 x15_2).f2)) := (blk_cell BK145.out 2).trans rfl
                                    go_quiet (first | (go_at_call 34; exact quiet_drawn (impl_isPitch.calls ((rd_T38 l0 x15_2).f0) true _ A8.out)) | (go_at_call 35; exact quiet_drawn (impl_isCents.calls ((rd_T38 l0 x15_2).f1) true _ A10.out)))
                                    try go_wp2
                                    go_ret
                                    exact ⟨by first | rfl | (simp [errW_none, errW_some] <;> rfl) | (simp only [← hji84]; first | rfl | (simp [errW_none, errW_some] <;> rfl)) | (simp [*, errW_none, errW_some] <;> rfl), by repeat (first | (with_reducible first | exact HB.out | apply below_alloc | apply pw_below_drewN | apply below_drew1 | refine below_set ?_ GE145.out) | exact HB.out)⟩
                                  · rw [if_neg c87] at H
                                    have c87b0 : (((rd_T38 l0 x15_2).f0) == ((rd_T38 l0 (ji84)).f0)) = false := beq_eq_false_iff_ne.mpr c87
                                    have c87b1 : (((rd_T38 l0 x15_2).f0) != ((rd_T38 l0 (ji84)).f0)) = true := bne_iff_ne.mpr c87
                                    have H' := Aside0.mk H
                                    clear H
                                    have p144 : 0 ≤ (x15_2 : Int) := of_decide_eq_true (by first | (with_reducible assumption) | assumption)
                                    have q144 : x15_2 < (l0.length : Int) := of_decide_eq_true (by first | (with_reducible assumption) | assumption)
                                    obtain ⟨ad144, e144, hx144_0, hx144_1, hx144_2⟩ := at_T38 HR0.out x15_2 p144 q144
                                    cases e144
                                    replace hx144_0 := (HB.out.cell (World.block_lt_of_cell? w _ hx144_0)).trans hx144_0
                                    replace hx144_1 := (HB.out.cell (World.block_lt_of_cell? w _ hx144_1)).trans hx144_1
                                    replace hx144_2 := (HB.out.cell (World.block_lt_of_cell? w _ hx144_2)).trans hx144_2
                                    replace p144 := eq_true p144
                                    replace q144 := eq_true q144
                                    try go_wp2_with (first | ((with_reducible refine gate_dst (N := 4) rfl ?_); (try (refine gate_guard (by rfl) ?_; dsimp only)); refine box_event ?hg (N := 4) ?hd (cs := #[.int .i64 0, .int .i64 0, .int .i64 0]) (t := 38) ?hr ?_; (case hd => rfl); (case hg => rfl); (case hr => first | (go_simp; done) | (go_simp; rfl)); intro gb145 hg w92 hbox hb; have n0_ := Aside0.mk (below_step (by repeat (first | (with_reducible first | exact HB.out | apply below_alloc | apply pw_below_drewN | apply below_drew1) | exact HB.out)) hb); have n1_ := Aside0.mk (hbox); have n2_ := Aside0.mk ((by rw [hg]; exact (below_size (by repeat (first | (with_reducible first | exact HB.out | apply below_alloc | apply pw_below_drewN | apply below_drew1) | exact HB.out))) : w.heap.size ≤ gb145)); have n3_ := Aside0.mk ((by rw [hg]; exact (below_size (by repeat (first | (with_reducible first | exact HB.out | apply below_alloc | apply pw_below_drewN | apply below_drew1) | exact HB.out))) : w.heap.size ≤ gb145)); clear HB; have HB := n0_; have BK145 := n1_; have GW145 := n2_; have GE145 := n3_; clear n0_ n1_ n2_ n3_; clear hb hbox hg; have hcz93_0 : w92.cell? ⟨gb145, 0, none⟩ = some (.int .i64 0) := (blk_cell BK145.out 0).trans rfl; have hcz93_1 : w92.cell? ⟨gb145, 1, none⟩ = some (.int .i64 0) := (blk_cell BK145.out 1).trans rfl; have hcz93_2 : w92.cell? ⟨gb145, 2, none⟩ = some (.int .i64 0) := (blk_cell BK145.out 2).trans rfl; have hfz93_0 := blk_frozen BK145.out 0; have hfz93_1 := blk_frozen BK145.out 1; have hfz93_2 := blk_frozen BK145.out 2))
                                    have n0_ : Aside0 ((((w92.setCell ⟨gb145, 0, none⟩ (.int .i64 ((rd_T38 l0 x15_2).f0))).setCell ⟨gb145, 1, none⟩ (.int .i64 ((rd_T38 l0 x15_2).f1))).setCell ⟨gb145, 2, none⟩ (.int .i64 ((rd_T38 l0 x15_2).f2))).heap[gb145]? = some (.cells #[.int .i64 ((rd_T38 l0 x15_2).f0), .int .i64 ((rd_T38 l0 x15_2).f1), .int .i64 ((rd_T38 l0 x15_2).f2)] 38 (0, 0))) := ⟨by (with_reducible repeat (first | refine blk_drewN ?_ _ | refine blk_drew ?_ | refine blk_alloc ?_ _)); refine blk_put (cs := #[.int .i64 ((rd_T38 l0 x15_2).f0), .int .i64 ((rd_T38 l0 x15_2).f1), .int .i64 0]) ?_ 2 _ rfl; (with_reducible repeat (first | refine blk_drewN ?_ _ | refine blk_drew ?_ | refine blk_alloc ?_ _)); refine blk_put (cs := #[.int .i64 ((rd_T38 l0 x15_2).f0), .int .i64 0, .int .i64 0]) ?_ 1 _ rfl; (with_reducible repeat (first | refine blk_drewN ?_ _ | refine blk_drew ?_ | refine blk_alloc ?_ _)); refine blk_put (cs := #[.int .i64 0, .int .i64 0, .int .i64 0]) ?_ 0 _ rfl; (with_reducible repeat (first | refine blk_drewN ?_ _ | refine blk_drew ?_ | refine blk_alloc ?_ _)); exact BK145.out⟩
                                    have n1_ : Aside0 (Below w.heap.size w (((w92.setCell ⟨gb145, 0, none⟩ (.int .i64 ((rd_T38 l0 x15_2).f0))).setCell ⟨gb145, 1, none⟩ (.int .i64 ((rd_T38 l0 x15_2).f1))).setCell ⟨gb145, 2, none⟩ (.int .i64 ((rd_T38 l0 x15_2).f2)))) := ⟨by repeat (first | (with_reducible first | exact HB.out | apply below_alloc | apply pw_below_drewN | apply below_drew1 | refine below_set ?_ GE145.out) | exact HB.out)⟩
                                    (try clear BK145)
                                    (try clear HB)
                                    generalize (((w92.setCell ⟨gb145, 0, none⟩ (.int .i64 ((rd_T38 l0 x15_2).f0))).setCell ⟨gb145, 1, none⟩ (.int .i64 ((rd_T38 l0 x15_2).f1))).setCell ⟨gb145, 2, none⟩ (.int .i64 ((rd_T38 l0 x15_2).f2))) = w94 at n0_ n1_ ⊢
                                    have BK145 := n0_
                                    have HB := n1_
                                    clear n0_ n1_
                                    have p153 : 0 ≤ ((ji84) : Int) := of_decide_eq_true (by first | (with_reducible assumption) | assumption)
                                    have q153 : (ji84) < (l0.length : Int) := of_decide_eq_true (by first | (with_reducible assumption) | assumption)
                                    obtain ⟨ad153, e153, hx153_0, hx153_1, hx153_2⟩ := at_T38 HR0.out (ji84) p153 q153
                                    have hw153_2 := hx153_2
                                    have hw153_1 := hx153_1
                                    have hw153_0 := hx153_0
                                    obtain rfl : ad144 = ad153 := (by injection e153)
                                    replace hx153_0 := (HB.out.cell (World.block_lt_of_cell? w _ hx153_0)).trans hx153_0
                                    replace hx153_1 := (HB.out.cell (World.block_lt_of_cell? w _ hx153_1)).trans hx153_1
                                    replace hx153_2 := (HB.out.cell (World.block_lt_of_cell? w _ hx153_2)).trans hx153_2
                                    replace p153 := eq_true p153
                                    replace q153 := eq_true q153
                                    have hq0_ : w94.cell? ⟨gb145, 0, none⟩ = some (.int .i64 ((rd_T38 l0 x15_2).f0)) := (blk_cell BK145.out 0).trans rfl
                                    have hq1_ : w94.cell? ⟨gb145, 1, none⟩ = some (.int .i64 ((rd_T38 l0 x15_2).f1)) := (blk_cell BK145.out 1).trans rfl
                                    have hq2_ : w94.cell? ⟨gb145, 2, none⟩ = some (.int .i64 ((rd_T38 l0 x15_2).f2)) := (blk_cell BK145.out 2).trans rfl
                                    go_quiet (first | (go_at_call 34; exact quiet_drawn (impl_isPitch.calls ((rd_T38 l0 x15_2).f0) true _ A8.out)) | (go_at_call 35; exact quiet_drawn (impl_isCents.calls ((rd_T38 l0 x15_2).f1) true _ A10.out)))
                                    try go_wp2
                                    go_roundg k2
                                    case measure => have := HJ1.out; have := HK2.out; omega
                                    case rel => exact ⟨(wrap64 (x15_2 + 1)), (by first | rfl | (simp; done) | (simp [*]; done)), H', ⟨by have := HJ1.out; have := HK2.out; omega⟩, ⟨by repeat (first | (with_reducible first | exact HB.out | apply below_alloc | apply pw_below_drewN | apply below_drew1 | refine below_set ?_ GE145.out) | exact HB.out)⟩⟩
                                · rw [if_neg c86] at H
                                  exact absurd H (by simp)
                              · rw [if_neg c85] at H
                                exact absurd H (by simp)
                            · rw [if_neg c83] at H
                              have c83b0 : decide (4 ≤ x15_2) = false := decide_eq_false c83
                              clear c83
                              have H' := Aside0.mk H
                              clear H
                              have p144 : 0 ≤ (x15_2 : Int) := of_decide_eq_true (by first | (with_reducible assumption) | assumption)
                              have q144 : x15_2 < (l0.length : Int) := of_decide_eq_true (by first | (with_reducible assumption) | assumption)
                              obtain ⟨ad144, e144, hx144_0, hx144_1, hx144_2⟩ := at_T38 HR0.out x15_2 p144 q144
                              cases e144
                              replace hx144_0 := (HB.out.cell (World.block_lt_of_cell? w _ hx144_0)).trans hx144_0
                              replace hx144_1 := (HB.out.cell (World.block_lt_of_cell? w _ hx144_1)).trans hx144_1
                              replace hx144_2 := (HB.out.cell (World.block_lt_of_cell? w _ hx144_2)).trans hx144_2
                              replace p144 := eq_true p144
                              replace q144 := eq_true q144
                              try go_wp2_with (first | ((with_reducible refine gate_dst (N := 4) rfl ?_); (try (refine gate_guard (by rfl) ?_; dsimp only)); refine box_event ?hg (N := 4) ?hd (cs := #[.int .i64 0, .int .i64 0, .int .i64 0]) (t := 38) ?hr ?_; (case hd => rfl); (case hg => rfl); (case hr => first | (go_simp; done) | (go_simp; rfl)); intro gb145 hg w96 hbox hb; have n0_ := Aside0.mk (below_step (by repeat (first | (with_reducible first | exact HB.out | apply below_alloc | apply pw_below_drewN | apply below_drew1) | exact HB.out)) hb); have n1_ := Aside0.mk (hbox); have n2_ := Aside0.mk ((by rw [hg]; exact (below_size (by repeat (first | (with_reducible first | exact HB.out | apply below_alloc | apply pw_below_drewN | apply below_drew1) | exact HB.out))) : w.heap.size ≤ gb145)); have n3_ := Aside0.mk ((by rw [hg]; exact (below_size (by repeat (first | (with_reducible first | exact HB.out | apply below_alloc | apply pw_below_drewN | apply below_drew1) | exact HB.out))) : w.heap.size ≤ gb145)); clear HB; have HB := n0_; have BK145 := n1_; have GW145 := n2_; have GE145 := n3_; clear n0_ n1_ n2_ n3_; clear hb hbox hg; have hcz97_0 : w96.cell? ⟨gb145, 0, none⟩ = some (.int .i64 0) := (blk_cell BK145.out 0).trans rfl; have hcz97_1 : w96.cell? ⟨gb145, 1, none⟩ = some (.int .i64 0) := (blk_cell BK145.out 1).trans rfl; have hcz97_2 : w96.cell? ⟨gb145, 2, none⟩ = some (.int .i64 0) := (blk_cell BK145.out 2).trans rfl; have hfz97_0 := blk_frozen BK145.out 0; have hfz97_1 := blk_frozen BK145.out 1; have hfz97_2 := blk_frozen BK145.out 2))
                              have n0_ : Aside0 ((((w96.setCell ⟨gb145, 0, none⟩ (.int .i64 ((rd_T38 l0 x15_2).f0))).setCell ⟨gb145, 1, none⟩ (.int .i64 ((rd_T38 l0 x15_2).f1))).setCell ⟨gb145, 2, none⟩ (.int .i64 ((rd_T38 l0 x15_2).f2))).heap[gb145]? = some (.cells #[.int .i64 ((rd_T38 l0 x15_2).f0), .int .i64 ((rd_T38 l0 x15_2).f1), .int .i64 ((rd_T38 l0 x15_2).f2)] 38 (0, 0))) := ⟨by (with_reducible repeat (first | refine blk_drewN ?_ _ | refine blk_drew ?_ | refine blk_alloc ?_ _)); refine blk_put (cs := #[.int .i64 ((rd_T38 l0 x15_2).f0), .int .i64 ((rd_T38 l0 x15_2).f1), .int .i64 0]) ?_ 2 _ rfl; (with_reducible repeat (first | refine blk_drewN ?_ _ | refine blk_drew ?_ | refine blk_alloc ?_ _)); refine blk_put (cs := #[.int .i64 ((rd_T38 l0 x15_2).f0), .int .i64 0, .int .i64 0]) ?_ 1 _ rfl; (with_reducible repeat (first | refine blk_drewN ?_ _ | refine blk_drew ?_ | refine blk_alloc ?_ _)); refine blk_put (cs := #[.int .i64 0, .int .i64 0, .int .i64 0]) ?_ 0 _ rfl; (with_reducible repeat (first | refine blk_drewN ?_ _ | refine blk_drew ?_ | refine blk_alloc ?_ _)); exact BK145.out⟩
                              have n1_ : Aside0 (Below w.heap.size w (((w96.setCell ⟨gb145, 0, none⟩ (.int .i64 ((rd_T38 l0 x15_2).f0))).setCell ⟨gb145, 1, none⟩ (.int .i64 ((rd_T38 l0 x15_2).f1))).setCell ⟨gb145, 2, none⟩ (.int .i64 ((rd_T38 l0 x15_2).f2)))) := ⟨by repeat (first | (with_reducible first | exact HB.out | apply below_alloc | apply pw_below_drewN | apply below_drew1 | refine below_set ?_ GE145.out) | exact HB.out)⟩
                              (try clear BK145)
                              (try clear HB)
                              generalize (((w96.setCell ⟨gb145, 0, none⟩ (.int .i64 ((rd_T38 l0 x15_2).f0))).setCell ⟨gb145, 1, none⟩ (.int .i64 ((rd_T38 l0 x15_2).f1))).setCell ⟨gb145, 2, none⟩ (.int .i64 ((rd_T38 l0 x15_2).f2))) = w98 at n0_ n1_ ⊢
                              have BK145 := n0_
                              have HB := n1_
                              clear n0_ n1_
                              have hq0_ : w98.cell? ⟨gb145, 0, none⟩ = some (.int .i64 ((rd_T38 l0 x15_2).f0)) := (blk_cell BK145.out 0).trans rfl
                              have hq1_ : w98.cell? ⟨gb145, 1, none⟩ = some (.int .i64 ((rd_T38 l0 x15_2).f1)) := (blk_cell BK145.out 1).trans rfl
                              have hq2_ : w98.cell? ⟨gb145, 2, none⟩ = some (.int .i64 ((rd_T38 l0 x15_2).f2)) := (blk_cell BK145.out 2).trans rfl
                              go_quiet (first | (go_at_call 34; exact quiet_drawn (impl_isPitch.calls ((rd_T38 l0 x15_2).f0) true _ A8.out)) | (go_at_call 35; exact quiet_drawn (impl_isCents.calls ((rd_T38 l0 x15_2).f1) true _ A10.out)))
                              try go_wp2
                              go_roundg k2
                              case measure => have := HJ1.out; have := HK2.out; omega
                              case rel => exact ⟨(wrap64 (x15_2 + 1)), (by first | rfl | (simp; done) | (simp [*]; done)), H', ⟨by have := HJ1.out; have := HK2.out; omega⟩, ⟨by repeat (first | (with_reducible first | exact HB.out | apply below_alloc | apply pw_below_drewN | apply below_drew1 | refine below_set ?_ GE145.out) | exact HB.out)⟩⟩
                        · rw [if_neg c56] at H
                          have c56b0 : (((rd_T38 l0 x15_2).f2) == 1) = false := beq_eq_false_iff_ne.mpr c56
                          have c56b1 : (((rd_T38 l0 x15_2).f2) != 1) = true := bne_iff_ne.mpr c56
                          obtain rfl := Option.some.inj H
                          have p144 : 0 ≤ (x15_2 : Int) := of_decide_eq_true (by first | (with_reducible assumption) | assumption)
                          have q144 : x15_2 < (l0.length : Int) := of_decide_eq_true (by first | (with_reducible assumption) | assumption)
                          obtain ⟨ad144, e144, hx144_0, hx144_1, hx144_2⟩ := at_T38 HR0.out x15_2 p144 q144
                          cases e144
                          replace hx144_0 := (HB.out.cell (World.block_lt_of_cell? w _ hx144_0)).trans hx144_0
                          replace hx144_1 := (HB.out.cell (World.block_lt_of_cell? w _ hx144_1)).trans hx144_1
                          replace hx144_2 := (HB.out.cell (World.block_lt_of_cell? w _ hx144_2)).trans hx144_2
                          replace p144 := eq_true p144
                          replace q144 := eq_true q144
                          try go_wp2_with (first | ((with_reducible refine gate_dst (N := 4) rfl ?_); (try (refine gate_guard (by rfl) ?_; dsimp only)); refine box_event ?hg (N := 4) ?hd (cs := #[.int .i64 0, .int .i64 0, .int .i64 0]) (t := 38) ?hr ?_; (case hd => rfl); (case hg => rfl); (case hr => first | (go_simp; done) | (go_simp; rfl)); intro gb145 hg w100 hbox hb; have n0_ := Aside0.mk (below_step (by repeat (first | (with_reducible first | exact HB.out | apply below_alloc | apply pw_below_drewN | apply below_drew1) | exact HB.out)) hb); have n1_ := Aside0.mk (hbox); have n2_ := Aside0.mk ((by rw [hg]; exact (below_size (by repeat (first | (with_reducible first | exact HB.out | apply below_alloc | apply pw_below_drewN | apply below_drew1) | exact HB.out))) : w.heap.size ≤ gb145)); have n3_ := Aside0.mk ((by rw [hg]; exact (below_size (by repeat (first | (with_reducible first | exact HB.out | apply below_alloc | apply pw_below_drewN | apply below_drew1) | exact HB.out))) : w.heap.size ≤ gb145)); clear HB; have HB := n0_; have BK145 := n1_; have GW145 := n2_; have GE145 := n3_; clear n0_ n1_ n2_ n3_; clear hb hbox hg; have hcz101_0 : w100.cell? ⟨gb145, 0, none⟩ = some (.int .i64 0) := (blk_cell BK145.out 0).trans rfl; have hcz101_1 : w100.cell? ⟨gb145, 1, none⟩ = some (.int .i64 0) := (blk_cell BK145.out 1).trans rfl; have hcz101_2 : w100.cell? ⟨gb145, 2, none⟩ = some (.int .i64 0) := (blk_cell BK145.out 2).trans rfl; have hfz101_0 := blk_frozen BK145.out 0; have hfz101_1 := blk_frozen BK145.out 1; have hfz101_2 := blk_frozen BK145.out 2))
                          have n0_ : Aside0 ((((w100.setCell ⟨gb145, 0, none⟩ (.int .i64 ((rd_T38 l0 x15_2).f0))).setCell ⟨gb145, 1, none⟩ (.int .i64 ((rd_T38 l0 x15_2).f1))).setCell ⟨gb145, 2, none⟩ (.int .i64 ((rd_T38 l0 x15_2).f2))).heap[gb145]? = some (.cells #[.int .i64 ((rd_T38 l0 x15_2).f0), .int .i64 ((rd_T38 l0 x15_2).f1), .int .i64 ((rd_T38 l0 x15_2).f2)] 38 (0, 0))) := ⟨by (with_reducible repeat (first | refine blk_drewN ?_ _ | refine blk_drew ?_ | refine blk_alloc ?_ _)); refine blk_put (cs := #[.int .i64 ((rd_T38 l0 x15_2).f0), .int .i64 ((rd_T38 l0 x15_2).f1), .int .i64 0]) ?_ 2 _ rfl; (with_reducible repeat (first | refine blk_drewN ?_ _ | refine blk_drew ?_ | refine blk_alloc ?_ _)); refine blk_put (cs := #[.int .i64 ((rd_T38 l0 x15_2).f0), .int .i64 0, .int .i64 0]) ?_ 1 _ rfl; (with_reducible repeat (first | refine blk_drewN ?_ _ | refine blk_drew ?_ | refine blk_alloc ?_ _)); refine blk_put (cs := #[.int .i64 0, .int .i64 0, .int .i64 0]) ?_ 0 _ rfl; (with_reducible repeat (first | refine blk_drewN ?_ _ | refine blk_drew ?_ | refine blk_alloc ?_ _)); exact BK145.out⟩
                          have n1_ : Aside0 (Below w.heap.size w (((w100.setCell ⟨gb145, 0, none⟩ (.int .i64 ((rd_T38 l0 x15_2).f0))).setCell ⟨gb145, 1, none⟩ (.int .i64 ((rd_T38 l0 x15_2).f1))).setCell ⟨gb145, 2, none⟩ (.int .i64 ((rd_T38 l0 x15_2).f2)))) := ⟨by repeat (first | (with_reducible first | exact HB.out | apply below_alloc | apply pw_below_drewN | apply below_drew1 | refine below_set ?_ GE145.out) | exact HB.out)⟩
                          (try clear BK145)
                          (try clear HB)
                          generalize (((w100.setCell ⟨gb145, 0, none⟩ (.int .i64 ((rd_T38 l0 x15_2).f0))).setCell ⟨gb145, 1, none⟩ (.int .i64 ((rd_T38 l0 x15_2).f1))).setCell ⟨gb145, 2, none⟩ (.int .i64 ((rd_T38 l0 x15_2).f2))) = w102 at n0_ n1_ ⊢
                          have BK145 := n0_
                          have HB := n1_
                          clear n0_ n1_
                          have hq0_ : w102.cell? ⟨gb145, 0, none⟩ = some (.int .i64 ((rd_T38 l0 x15_2).f0)) := (blk_cell BK145.out 0).trans rfl
                          have hq1_ : w102.cell? ⟨gb145, 1, none⟩ = some (.int .i64 ((rd_T38 l0 x15_2).f1)) := (blk_cell BK145.out 1).trans rfl
                          have hq2_ : w102.cell? ⟨gb145, 2, none⟩ = some (.int .i64 ((rd_T38 l0 x15_2).f2)) := (blk_cell BK145.out 2).trans rfl
                          go_quiet (first | (go_at_call 34; exact quiet_drawn (impl_isPitch.calls ((rd_T38 l0 x15_2).f0) true _ A8.out)) | (go_at_call 35; exact quiet_drawn (impl_isCents.calls ((rd_T38 l0 x15_2).f1) true _ A10.out)))
                          try go_wp2
                          go_ret
                          exact ⟨by first | rfl | (simp [errW_none, errW_some] <;> rfl) | (simp [*, errW_none, errW_some] <;> rfl), by repeat (first | (with_reducible first | exact HB.out | apply below_alloc | apply pw_below_drewN | apply below_drew1 | refine below_set ?_ GE145.out) | exact HB.out)⟩
                    · replace c11 := Bool.eq_false_iff.mpr c11
                      subst c11
                      have H1 : (some false) = some r := by rw [if_neg (show ¬ (false = true) by decide)] at H; exact H
                      clear H
                      have H := H1
                      clear H1
                      obtain rfl := Option.some.inj H
                      have p144 : 0 ≤ (x15_2 : Int) := of_decide_eq_true (by first | (with_reducible assumption) | assumption)
                      have q144 : x15_2 < (l0.length : Int) := of_decide_eq_true (by first | (with_reducible assumption) | assumption)
                      obtain ⟨ad144, e144, hx144_0, hx144_1, hx144_2⟩ := at_T38 HR0.out x15_2 p144 q144
                      cases e144
                      replace hx144_0 := (HB.out.cell (World.block_lt_of_cell? w _ hx144_0)).trans hx144_0
                      replace hx144_1 := (HB.out.cell (World.block_lt_of_cell? w _ hx144_1)).trans hx144_1
                      replace hx144_2 := (HB.out.cell (World.block_lt_of_cell? w _ hx144_2)).trans hx144_2
                      replace p144 := eq_true p144
                      replace q144 := eq_true q144
                      try go_wp2_with (first | ((with_reducible refine gate_dst (N := 4) rfl ?_); (try (refine gate_guard (by rfl) ?_; dsimp only)); refine box_event ?hg (N := 4) ?hd (cs := #[.int .i64 0, .int .i64 0, .int .i64 0]) (t := 38) ?hr ?_; (case hd => rfl); (case hg => rfl); (case hr => first | (go_simp; done) | (go_simp; rfl)); intro gb145 hg w104 hbox hb; have n0_ := Aside0.mk (below_step (by repeat (first | (with_reducible first | exact HB.out | apply below_alloc | apply pw_below_drewN | apply below_drew1) | exact HB.out)) hb); have n1_ := Aside0.mk (hbox); have n2_ := Aside0.mk ((by rw [hg]; exact (below_size (by repeat (first | (with_reducible first | exact HB.out | apply below_alloc | apply pw_below_drewN | apply below_drew1) | exact HB.out))) : w.heap.size ≤ gb145)); have n3_ := Aside0.mk ((by rw [hg]; exact (below_size (by repeat (first | (with_reducible first | exact HB.out | apply below_alloc | apply pw_below_drewN | apply below_drew1) | exact HB.out))) : w.heap.size ≤ gb145)); clear HB; have HB := n0_; have BK145 := n1_; have GW145 := n2_; have GE145 := n3_; clear n0_ n1_ n2_ n3_; clear hb hbox hg; have hcz105_0 : w104.cell? ⟨gb145, 0, none⟩ = some (.int .i64 0) := (blk_cell BK145.out 0).trans rfl; have hcz105_1 : w104.cell? ⟨gb145, 1, none⟩ = some (.int .i64 0) := (blk_cell BK145.out 1).trans rfl; have hcz105_2 : w104.cell? ⟨gb145, 2, none⟩ = some (.int .i64 0) := (blk_cell BK145.out 2).trans rfl; have hfz105_0 := blk_frozen BK145.out 0; have hfz105_1 := blk_frozen BK145.out 1; have hfz105_2 := blk_frozen BK145.out 2))
                      have n0_ : Aside0 ((((w104.setCell ⟨gb145, 0, none⟩ (.int .i64 ((rd_T38 l0 x15_2).f0))).setCell ⟨gb145, 1, none⟩ (.int .i64 ((rd_T38 l0 x15_2).f1))).setCell ⟨gb145, 2, none⟩ (.int .i64 ((rd_T38 l0 x15_2).f2))).heap[gb145]? = some (.cells #[.int .i64 ((rd_T38 l0 x15_2).f0), .int .i64 ((rd_T38 l0 x15_2).f1), .int .i64 ((rd_T38 l0 x15_2).f2)] 38 (0, 0))) := ⟨by (with_reducible repeat (first | refine blk_drewN ?_ _ | refine blk_drew ?_ | refine blk_alloc ?_ _)); refine blk_put (cs := #[.int .i64 ((rd_T38 l0 x15_2).f0), .int .i64 ((rd_T38 l0 x15_2).f1), .int .i64 0]) ?_ 2 _ rfl; (with_reducible repeat (first | refine blk_drewN ?_ _ | refine blk_drew ?_ | refine blk_alloc ?_ _)); refine blk_put (cs := #[.int .i64 ((rd_T38 l0 x15_2).f0), .int .i64 0, .int .i64 0]) ?_ 1 _ rfl; (with_reducible repeat (first | refine blk_drewN ?_ _ | refine blk_drew ?_ | refine blk_alloc ?_ _)); refine blk_put (cs := #[.int .i64 0, .int .i64 0, .int .i64 0]) ?_ 0 _ rfl; (with_reducible repeat (first | refine blk_drewN ?_ _ | refine blk_drew ?_ | refine blk_alloc ?_ _)); exact BK145.out⟩
                      have n1_ : Aside0 (Below w.heap.size w (((w104.setCell ⟨gb145, 0, none⟩ (.int .i64 ((rd_T38 l0 x15_2).f0))).setCell ⟨gb145, 1, none⟩ (.int .i64 ((rd_T38 l0 x15_2).f1))).setCell ⟨gb145, 2, none⟩ (.int .i64 ((rd_T38 l0 x15_2).f2)))) := ⟨by repeat (first | (with_reducible first | exact HB.out | apply below_alloc | apply pw_below_drewN | apply below_drew1 | refine below_set ?_ GE145.out) | exact HB.out)⟩
                      (try clear BK145)
                      (try clear HB)
                      generalize (((w104.setCell ⟨gb145, 0, none⟩ (.int .i64 ((rd_T38 l0 x15_2).f0))).setCell ⟨gb145, 1, none⟩ (.int .i64 ((rd_T38 l0 x15_2).f1))).setCell ⟨gb145, 2, none⟩ (.int .i64 ((rd_T38 l0 x15_2).f2))) = w106 at n0_ n1_ ⊢
                      have BK145 := n0_
                      have HB := n1_
                      clear n0_ n1_
                      have hq0_ : w106.cell? ⟨gb145, 0, none⟩ = some (.int .i64 ((rd_T38 l0 x15_2).f0)) := (blk_cell BK145.out 0).trans rfl
                      have hq1_ : w106.cell? ⟨gb145, 1, none⟩ = some (.int .i64 ((rd_T38 l0 x15_2).f1)) := (blk_cell BK145.out 1).trans rfl
                      have hq2_ : w106.cell? ⟨gb145, 2, none⟩ = some (.int .i64 ((rd_T38 l0 x15_2).f2)) := (blk_cell BK145.out 2).trans rfl
                      go_quiet (first | (go_at_call 34; exact quiet_drawn (impl_isPitch.calls ((rd_T38 l0 x15_2).f0) true _ A8.out)) | (go_at_call 35; exact quiet_drawn (impl_isCents.calls ((rd_T38 l0 x15_2).f1) false _ A10.out)))
                      try go_wp2
                      go_ret
                      exact ⟨by first | rfl | (simp [errW_none, errW_some] <;> rfl) | (simp [*, errW_none, errW_some] <;> rfl), by repeat (first | (with_reducible first | exact HB.out | apply below_alloc | apply pw_below_drewN | apply below_drew1 | refine below_set ?_ GE145.out) | exact HB.out)⟩
                  · replace c9 := Bool.eq_false_iff.mpr c9
                    subst c9
                    have H1 : (some false) = some r := by rw [if_neg (show ¬ (false = true) by decide)] at H; exact H
                    clear H
                    have H := H1
                    clear H1
                    obtain rfl := Option.some.inj H
                    have p144 : 0 ≤ (x15_2 : Int) := of_decide_eq_true (by first | (with_reducible assumption) | assumption)
                    have q144 : x15_2 < (l0.length : Int) := of_decide_eq_true (by first | (with_reducible assumption) | assumption)
                    obtain ⟨ad144, e144, hx144_0, hx144_1, hx144_2⟩ := at_T38 HR0.out x15_2 p144 q144
                    cases e144
                    replace hx144_0 := (HB.out.cell (World.block_lt_of_cell? w _ hx144_0)).trans hx144_0
                    replace hx144_1 := (HB.out.cell (World.block_lt_of_cell? w _ hx144_1)).trans hx144_1
                    replace hx144_2 := (HB.out.cell (World.block_lt_of_cell? w _ hx144_2)).trans hx144_2
                    replace p144 := eq_true p144
                    replace q144 := eq_true q144
                    try go_wp2_with (first | ((with_reducible refine gate_dst (N := 4) rfl ?_); (try (refine gate_guard (by rfl) ?_; dsimp only)); refine box_event ?hg (N := 4) ?hd (cs := #[.int .i64 0, .int .i64 0, .int .i64 0]) (t := 38) ?hr ?_; (case hd => rfl); (case hg => rfl); (case hr => first | (go_simp; done) | (go_simp; rfl)); intro gb145 hg w108 hbox hb; have n0_ := Aside0.mk (below_step (by repeat (first | (with_reducible first | exact HB.out | apply below_alloc | apply pw_below_drewN | apply below_drew1) | exact HB.out)) hb); have n1_ := Aside0.mk (hbox); have n2_ := Aside0.mk ((by rw [hg]; exact (below_size (by repeat (first | (with_reducible first | exact HB.out | apply below_alloc | apply pw_below_drewN | apply below_drew1) | exact HB.out))) : w.heap.size ≤ gb145)); have n3_ := Aside0.mk ((by rw [hg]; exact (below_size (by repeat (first | (with_reducible first | exact HB.out | apply below_alloc | apply pw_below_drewN | apply below_drew1) | exact HB.out))) : w.heap.size ≤ gb145)); clear HB; have HB := n0_; have BK145 := n1_; have GW145 := n2_; have GE145 := n3_; clear n0_ n1_ n2_ n3_; clear hb hbox hg; have hcz109_0 : w108.cell? ⟨gb145, 0, none⟩ = some (.int .i64 0) := (blk_cell BK145.out 0).trans rfl; have hcz109_1 : w108.cell? ⟨gb145, 1, none⟩ = some (.int .i64 0) := (blk_cell BK145.out 1).trans rfl; have hcz109_2 : w108.cell? ⟨gb145, 2, none⟩ = some (.int .i64 0) := (blk_cell BK145.out 2).trans rfl; have hfz109_0 := blk_frozen BK145.out 0; have hfz109_1 := blk_frozen BK145.out 1; have hfz109_2 := blk_frozen BK145.out 2))
                    have n0_ : Aside0 ((((w108.setCell ⟨gb145, 0, none⟩ (.int .i64 ((rd_T38 l0 x15_2).f0))).setCell ⟨gb145, 1, none⟩ (.int .i64 ((rd_T38 l0 x15_2).f1))).setCell ⟨gb145, 2, none⟩ (.int .i64 ((rd_T38 l0 x15_2).f2))).heap[gb145]? = some (.cells #[.int .i64 ((rd_T38 l0 x15_2).f0), .int .i64 ((rd_T38 l0 x15_2).f1), .int .i64 ((rd_T38 l0 x15_2).f2)] 38 (0, 0))) := ⟨by (with_reducible repeat (first | refine blk_drewN ?_ _ | refine blk_drew ?_ | refine blk_alloc ?_ _)); refine blk_put (cs := #[.int .i64 ((rd_T38 l0 x15_2).f0), .int .i64 ((rd_T38 l0 x15_2).f1), .int .i64 0]) ?_ 2 _ rfl; (with_reducible repeat (first | refine blk_drewN ?_ _ | refine blk_drew ?_ | refine blk_alloc ?_ _)); refine blk_put (cs := #[.int .i64 ((rd_T38 l0 x15_2).f0), .int .i64 0, .int .i64 0]) ?_ 1 _ rfl; (with_reducible repeat (first | refine blk_drewN ?_ _ | refine blk_drew ?_ | refine blk_alloc ?_ _)); refine blk_put (cs := #[.int .i64 0, .int .i64 0, .int .i64 0]) ?_ 0 _ rfl; (with_reducible repeat (first | refine blk_drewN ?_ _ | refine blk_drew ?_ | refine blk_alloc ?_ _)); exact BK145.out⟩
                    have n1_ : Aside0 (Below w.heap.size w (((w108.setCell ⟨gb145, 0, none⟩ (.int .i64 ((rd_T38 l0 x15_2).f0))).setCell ⟨gb145, 1, none⟩ (.int .i64 ((rd_T38 l0 x15_2).f1))).setCell ⟨gb145, 2, none⟩ (.int .i64 ((rd_T38 l0 x15_2).f2)))) := ⟨by repeat (first | (with_reducible first | exact HB.out | apply below_alloc | apply pw_below_drewN | apply below_drew1 | refine below_set ?_ GE145.out) | exact HB.out)⟩
                    (try clear BK145)
                    (try clear HB)
                    generalize (((w108.setCell ⟨gb145, 0, none⟩ (.int .i64 ((rd_T38 l0 x15_2).f0))).setCell ⟨gb145, 1, none⟩ (.int .i64 ((rd_T38 l0 x15_2).f1))).setCell ⟨gb145, 2, none⟩ (.int .i64 ((rd_T38 l0 x15_2).f2))) = w110 at n0_ n1_ ⊢
                    have BK145 := n0_
                    have HB := n1_
                    clear n0_ n1_
                    have hq0_ : w110.cell? ⟨gb145, 0, none⟩ = some (.int .i64 ((rd_T38 l0 x15_2).f0)) := (blk_cell BK145.out 0).trans rfl
                    have hq1_ : w110.cell? ⟨gb145, 1, none⟩ = some (.int .i64 ((rd_T38 l0 x15_2).f1)) := (blk_cell BK145.out 1).trans rfl
                    have hq2_ : w110.cell? ⟨gb145, 2, none⟩ = some (.int .i64 ((rd_T38 l0 x15_2).f2)) := (blk_cell BK145.out 2).trans rfl
                    go_quiet ((go_at_call 34; exact quiet_drawn (impl_isPitch.calls ((rd_T38 l0 x15_2).f0) false _ A8.out)))
                    try go_wp2
                    go_ret
                    exact ⟨by first | rfl | (simp [errW_none, errW_some] <;> rfl) | (simp [*, errW_none, errW_some] <;> rfl), by repeat (first | (with_reducible first | exact HB.out | apply below_alloc | apply pw_below_drewN | apply below_drew1 | refine below_set ?_ GE145.out) | exact HB.out)⟩
                · rw [if_neg c7] at H
                  exact absurd H (by simp)
              · rw [if_neg c6] at H
                exact absurd H (by simp)
            · rw [if_neg c5] at H
              have c5b0 : decide (x15_2 < (l0.length : Int)) = false := decide_eq_false c5
              clear c5
              obtain rfl := Option.some.inj H
              go_wp2
              go_ret
              exact ⟨by first | rfl | (simp [errW_none, errW_some] <;> rfl) | (simp [*, errW_none, errW_some] <;> rfl), by repeat (first | (with_reducible first | exact HB.out | apply below_alloc | apply pw_below_drewN | apply below_drew1) | exact HB.out)⟩

end Go.Proofs.YtiekokdlcgpcdaaDoor.PFnExactCombText
