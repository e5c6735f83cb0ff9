/- The walks of functions that FnExactRepairCost reaches: what they return is what the plain functions of the same names say. Laid by a program of this session after the kit's print. No conditions beyond the arguments' being read. -/
import Derived.Test.YtjniaiobnbdhhaaRRepairCost0
import Derived.Test.YtjniaiobnbdhhaaRRepairCost6
namespace Go.Proofs.Ytjniaiobnbdhhaa.PFnExactRepairCost
open Go.RowKit Go.Proofs.YtjniaiobnbdhhaaW.PrintWords Go.Proofs.YtjniaiobnbdhhaaW.PrintLast Go.Proofs.YtjniaiobnbdhhaaW.PrintMore
attribute [local go_sem] max2_int min2_int max_two min_two max_three min_three max_four min_four   -- for this text's walks alone
set_option linter.unusedVariables false
set_option linter.unusedSimpArgs false

/-! ### impl_isCost: function 130 -/
def impl_isCost.f (a0 : Int) : Option (Bool) := if a0 ≥ 0 then (some (decide (a0 ≤ 100))) else (some false)
set_option maxHeartbeats 8000000 in
set_option maxRecDepth 100000 in
theorem impl_isCost.calls (a0 : Int) (r : Bool) (w : World) (h : impl_isCost.f a0 = some r) :
    Calls Try.prog 130 #[.int .i64 a0] w fun e w' => e = .returned (.bool r) ∧ Drawn0 w w' := by
  have H : (if a0 ≥ 0 then (some (decide (a0 ≤ 100))) else (some false)) = some r := h
  clear h
  by_cases c2 : a0 ≥ 0
  · rw [if_pos c2] at H
    have c2b0 : decide (0 ≤ a0) = true := decide_eq_true c2
    clear c2
    obtain rfl := Option.some.inj H
    go_enter Try.func130, Try.ntmps130
    go_wp2
    go_ret
    exact ⟨by first | rfl | (simp; done) | (simp [*]; done), by repeat (first | exact Drawn0.refl _ | apply Drawn0.step)⟩
  · rw [if_neg c2] at H
    have c2b0 : decide (0 ≤ a0) = false := decide_eq_false c2
    clear c2
    obtain rfl := Option.some.inj H
    go_enter Try.func130, Try.ntmps130
    go_wp2
    go_ret
    exact ⟨by first | rfl | (simp; done) | (simp [*]; done), by repeat (first | exact Drawn0.refl _ | apply Drawn0.step)⟩

/-! ### impl_canRepair: function 96 -/
def impl_canRepair.f (k : Nat) (l0 : List (S117)) (l1 : List (S117)) (a2 : Int) (a3 : Int) : Option (Bool) := (impl_IsSheet.f k l0).bind fun t231 => (if t231 = true then ((impl_IsSheet.f k l1).bind fun t232 => (if t232 = true then ((impl_isCost.f a2).bind fun t233 => (if t233 = true then ((impl_isCost.f a3).bind fun t234 => (some t234)) else (some false))) else (some false))) else (some false))
theorem impl_canRepair.mono : ∀ a0 a1 a2 a3 k, LeO (impl_canRepair.f k a0 a1 a2 a3) (impl_canRepair.f (k + 1) a0 a1 a2 a3) := by
  intro a0 a1 a2 a3 k
  unfold impl_canRepair.f
  repeat' first
      | (with_reducible exact impl_IsSheet.mono _ _)
      | (with_reducible exact LeO.refl _)
      | (with_reducible exact LeO.none _)
      | (with_reducible refine LeO.ite ?_ ?_)
      | (with_reducible refine LeO.bind ?_ (fun _ => ?_))
      | exact impl_IsSheet.mono _ _
      | exact LeO.none _
      | refine LeO.ite ?_ ?_
      | refine LeO.bind ?_ (fun _ => ?_)
set_option maxHeartbeats 8000000 in
set_option maxRecDepth 100000 in
theorem impl_canRepair.calls (k : Nat) (A0 : Option Addr) (c0 : Nat) (l0 : List (S117)) (A1 : Option Addr) (c1 : Nat) (l1 : List (S117)) (a2 : Int) (a3 : Int) (r : Bool) (w : World) (hr0 : Kd.C k117 w A0 l0.length l0) (hc0 : l0.length ≤ c0) (hr1 : Kd.C k117 w A1 l1.length l1) (hc1 : l1.length ≤ c1) (h : impl_canRepair.f k l0 l1 a2 a3 = some r) :
    Calls Try.prog 96 #[.slice A0 l0.length c0, .slice A1 l1.length c1, .int .i64 a2, .int .i64 a3] w fun e w' => e = .returned (.bool r) ∧ Below w.heap.size w w' := by
  have HR0 := Aside0.mk hr0
  have HC0 := Aside0.mk hc0
  clear hr0 hc0
  have HR1 := Aside0.mk hr1
  have HC1 := Aside0.mk hc1
  clear hr1 hc1
  have HB := Aside0.mk (Below.refl w.heap.size w)
  have H : ((impl_IsSheet.f k l0).bind fun t231 => (if t231 = true then ((impl_IsSheet.f k l1).bind fun t232 => (if t232 = true then ((impl_isCost.f a2).bind fun t233 => (if t233 = true then ((impl_isCost.f a3).bind fun t234 => (some t234)) else (some false))) else (some false))) else (some false))) = some r := h
  clear h
  replace H := Option.bind_eq_some_iff.mp H
  obtain ⟨t231, A50, H⟩ := H
  replace H : (if t231 = true then ((impl_IsSheet.f k l1).bind fun t232 => (if t232 = true then ((impl_isCost.f a2).bind fun t233 => (if t233 = true then ((impl_isCost.f a3).bind fun t234 => (some t234)) else (some false))) else (some false))) else (some false)) = some r := H
  have A5 := Aside0.mk A50
  clear A50
  by_cases c6 : t231 = true
  · subst c6
    have H1 : ((impl_IsSheet.f k l1).bind fun t232 => (if t232 = true then ((impl_isCost.f a2).bind fun t233 => (if t233 = true then ((impl_isCost.f a3).bind fun t234 => (some t234)) else (some false))) else (some false))) = some r := by rw [if_pos rfl] at H; exact H
    clear H
    have H := H1
    clear H1
    replace H := Option.bind_eq_some_iff.mp H
    obtain ⟨t232, A70, H⟩ := H
    replace H : (if t232 = true then ((impl_isCost.f a2).bind fun t233 => (if t233 = true then ((impl_isCost.f a3).bind fun t234 => (some t234)) else (some false))) else (some false)) = some r := H
    have A7 := Aside0.mk A70
    clear A70
    by_cases c8 : t232 = true
    · subst c8
      have H1 : ((impl_isCost.f a2).bind fun t233 => (if t233 = true then ((impl_isCost.f a3).bind fun t234 => (some t234)) else (some false))) = some r := by rw [if_pos rfl] at H; exact H
      clear H
      have H := H1
      clear H1
      replace H := Option.bind_eq_some_iff.mp H
      obtain ⟨t233, A90, H⟩ := H
      replace H : (if t233 = true then ((impl_isCost.f a3).bind fun t234 => (some t234)) else (some false)) = some r := H
      have A9 := Aside0.mk A90
      clear A90
      by_cases c10 : t233 = true
      · subst c10
        have H1 : ((impl_isCost.f a3).bind fun t234 => (some t234)) = some r := by rw [if_pos rfl] at H; exact H
        clear H
        have H := H1
        clear H1
        replace H := Option.bind_eq_some_iff.mp H
        obtain ⟨t234, A110, H⟩ := H
        replace H : (some t234) = some r := H
        have A11 := Aside0.mk A110
        clear A110
        obtain rfl := Option.some.inj H
        go_enter Try.func96, Try.ntmps96
        go_wp2_with (first | ((with_reducible refine gate_callee (f := 91) rfl ?_); refine goesL_ (some 10) rfl rfl Try.func91 (by kernel_rfl) rfl #[.slice A0 l0.length c0] rfl (by (try simp only [List.map_toArray, List.map_cons, List.map_nil]); first | done | rfl | (simp only [List.length_drop, List.length_take]; rfl)) ?_; (with_reducible refine (impl_IsSheet.calls k _ _ l0 true _ ?side1 ?side2 A5.out).mono ?_); (case side1 => repeat (first | exact HR0.out | (with_reducible refine Kd.C_alloc ?_ _) | (with_reducible refine Kd.C_drewN ?_ _) | (with_reducible refine Kd.C_drew ?_))); (case side2 => exact HC0.out); rintro e w12 ⟨rfl, hb⟩; refine ⟨_, rfl, ?_⟩; have n0_ := Aside0.mk (below_step (by repeat (first | (with_reducible first | exact HB.out | apply below_alloc | apply pw_below_drewN | apply below_drew1) | exact HB.out)) hb); clear HB; have HB := n0_; clear n0_; (try clear hb); (try clear hb2); (try clear hk); (try clear hi)) | (go_at_call 91; (with_reducible refine (impl_IsSheet.calls k _ _ l1 true _ ?side1 ?side2 A7.out).mono ?_); (case side1 => repeat (first | exact (Kd.C_below HR1.out HB.out) | (with_reducible refine Kd.C_alloc ?_ _) | (with_reducible refine Kd.C_drewN ?_ _) | (with_reducible refine Kd.C_drew ?_))); (case side2 => exact HC1.out); rintro e w13 ⟨rfl, hb⟩; have n0_ := Aside0.mk (below_step (by repeat (first | (with_reducible first | exact HB.out | apply below_alloc | apply pw_below_drewN | apply below_drew1) | exact HB.out)) hb); clear HB; have HB := n0_; clear n0_; (try clear hb); (try clear hb2); (try clear hk); (try clear hi)) | (go_at_call 130; (with_reducible refine (impl_isCost.calls a2 true _ A9.out).mono ?_); rintro e w' ⟨rfl, ⟨nd, rfl⟩⟩) | (go_at_call 130; (with_reducible refine (impl_isCost.calls a3 t234 _ A11.out).mono ?_); rintro e w' ⟨rfl, ⟨nd, rfl⟩⟩))
        go_ret
        exact ⟨by first | rfl | (simp [errW_none, errW_some] <;> rfl) | (simp [*, errW_none, errW_some] <;> rfl), by repeat (first | (with_reducible first | exact HB.out | apply below_alloc | apply pw_below_drewN | apply below_drew1) | exact HB.out)⟩
      · replace c10 := Bool.eq_false_iff.mpr c10
        subst c10
        have H1 : (some false) = some r := by rw [if_neg (show ¬ (false = true) by decide)] at H; exact H
        clear H
        have H := H1
        clear H1
        obtain rfl := Option.some.inj H
        go_enter Try.func96, Try.ntmps96
        go_wp2_with (first | ((with_reducible refine gate_callee (f := 91) rfl ?_); refine goesL_ (some 10) rfl rfl Try.func91 (by kernel_rfl) rfl #[.slice A0 l0.length c0] rfl (by (try simp only [List.map_toArray, List.map_cons, List.map_nil]); first | done | rfl | (simp only [List.length_drop, List.length_take]; rfl)) ?_; (with_reducible refine (impl_IsSheet.calls k _ _ l0 true _ ?side1 ?side2 A5.out).mono ?_); (case side1 => repeat (first | exact HR0.out | (with_reducible refine Kd.C_alloc ?_ _) | (with_reducible refine Kd.C_drewN ?_ _) | (with_reducible refine Kd.C_drew ?_))); (case side2 => exact HC0.out); rintro e w14 ⟨rfl, hb⟩; refine ⟨_, rfl, ?_⟩; have n0_ := Aside0.mk (below_step (by repeat (first | (with_reducible first | exact HB.out | apply below_alloc | apply pw_below_drewN | apply below_drew1) | exact HB.out)) hb); clear HB; have HB := n0_; clear n0_; (try clear hb); (try clear hb2); (try clear hk); (try clear hi)) | (go_at_call 91; (with_reducible refine (impl_IsSheet.calls k _ _ l1 true _ ?side1 ?side2 A7.out).mono ?_); (case side1 => repeat (first | exact (Kd.C_below HR1.out HB.out) | (with_reducible refine Kd.C_alloc ?_ _) | (with_reducible refine Kd.C_drewN ?_ _) | (with_reducible refine Kd.C_drew ?_))); (case side2 => exact HC1.out); rintro e w15 ⟨rfl, hb⟩; have n0_ := Aside0.mk (below_step (by repeat (first | (with_reducible first | exact HB.out | apply below_alloc | apply pw_below_drewN | apply below_drew1) | exact HB.out)) hb); clear HB; have HB := n0_; clear n0_; (try clear hb); (try clear hb2); (try clear hk); (try clear hi)) | (go_at_call 130; (with_reducible refine (impl_isCost.calls a2 false _ A9.out).mono ?_); rintro e w' ⟨rfl, ⟨nd, rfl⟩⟩))
        go_ret
        exact ⟨by first | rfl | (simp [errW_none, errW_some] <;> rfl) | (simp [*, errW_none, errW_some] <;> rfl), by repeat (first | (with_reducible first | exact HB.out | apply below_alloc | apply pw_below_drewN | apply below_drew1) | exact HB.out)⟩
    · replace c8 := Bool.eq_false_iff.mpr c8
      subst c8
      have H1 : (some false) = some r := by rw [if_neg (show ¬ (false = true) by decide)] at H; exact H
      clear H
      have H := H1
      clear H1
      obtain rfl := Option.some.inj H
      go_enter Try.func96, Try.ntmps96
      go_wp2_with (first | ((with_reducible refine gate_callee (f := 91) rfl ?_); refine goesL_ (some 10) rfl rfl Try.func91 (by kernel_rfl) rfl #[.slice A0 l0.length c0] rfl (by (try simp only [List.map_toArray, List.map_cons, List.map_nil]); first | done | rfl | (simp only [List.length_drop, List.length_take]; rfl)) ?_; (with_reducible refine (impl_IsSheet.calls k _ _ l0 true _ ?side1 ?side2 A5.out).mono ?_); (case side1 => repeat (first | exact HR0.out | (with_reducible refine Kd.C_alloc ?_ _) | (with_reducible refine Kd.C_drewN ?_ _) | (with_reducible refine Kd.C_drew ?_))); (case side2 => exact HC0.out); rintro e w16 ⟨rfl, hb⟩; refine ⟨_, rfl, ?_⟩; have n0_ := Aside0.mk (below_step (by repeat (first | (with_reducible first | exact HB.out | apply below_alloc | apply pw_below_drewN | apply below_drew1) | exact HB.out)) hb); clear HB; have HB := n0_; clear n0_; (try clear hb); (try clear hb2); (try clear hk); (try clear hi)) | (go_at_call 91; (with_reducible refine (impl_IsSheet.calls k _ _ l1 false _ ?side1 ?side2 A7.out).mono ?_); (case side1 => repeat (first | exact (Kd.C_below HR1.out HB.out) | (with_reducible refine Kd.C_alloc ?_ _) | (with_reducible refine Kd.C_drewN ?_ _) | (with_reducible refine Kd.C_drew ?_))); (case side2 => exact HC1.out); rintro e w17 ⟨rfl, hb⟩; have n0_ := Aside0.mk (below_step (by repeat (first | (with_reducible first | exact HB.out | apply below_alloc | apply pw_below_drewN | apply below_drew1) | exact HB.out)) hb); clear HB; have HB := n0_; clear n0_; (try clear hb); (try clear hb2); (try clear hk); (try clear hi)))
      go_ret
      exact ⟨by first | rfl | (simp [errW_none, errW_some] <;> rfl) | (simp [*, errW_none, errW_some] <;> rfl), by repeat (first | (with_reducible first | exact HB.out | apply below_alloc | apply pw_below_drewN | apply below_drew1) | exact HB.out)⟩
  · replace c6 := Bool.eq_false_iff.mpr c6
    subst c6
    have H1 : (some false) = some r := by rw [if_neg (show ¬ (false = true) by decide)] at H; exact H
    clear H
    have H := H1
    clear H1
    obtain rfl := Option.some.inj H
    go_enter Try.func96, Try.ntmps96
    go_wp2_with (first | ((with_reducible refine gate_callee (f := 91) rfl ?_); refine goesL_ (some 10) rfl rfl Try.func91 (by kernel_rfl) rfl #[.slice A0 l0.length c0] rfl (by (try simp only [List.map_toArray, List.map_cons, List.map_nil]); first | done | rfl | (simp only [List.length_drop, List.length_take]; rfl)) ?_; (with_reducible refine (impl_IsSheet.calls k _ _ l0 false _ ?side1 ?side2 A5.out).mono ?_); (case side1 => repeat (first | exact HR0.out | (with_reducible refine Kd.C_alloc ?_ _) | (with_reducible refine Kd.C_drewN ?_ _) | (with_reducible refine Kd.C_drew ?_))); (case side2 => exact HC0.out); rintro e w18 ⟨rfl, hb⟩; refine ⟨_, rfl, ?_⟩; have n0_ := Aside0.mk (below_step (by repeat (first | (with_reducible first | exact HB.out | apply below_alloc | apply pw_below_drewN | apply below_drew1) | exact HB.out)) hb); clear HB; have HB := n0_; clear n0_; (try clear hb); (try clear hb2); (try clear hk); (try clear hi)))
    go_ret
    exact ⟨by first | rfl | (simp [errW_none, errW_some] <;> rfl) | (simp [*, errW_none, errW_some] <;> rfl), by repeat (first | (with_reducible first | exact HB.out | apply below_alloc | apply pw_below_drewN | apply below_drew1) | exact HB.out)⟩

/-! ### the grid: an array of 20 rows of 2000 truth values -/
namespace grid
def allFalse : Value → Bool
  | .bool b => !b
  | _ => false
theorem zchk : (Try.zeroCells139.size == 40000 && Try.zeroCells139.toList.all allFalse) = true := by kernel_rfl
theorem Zc_spec : Try.zeroCells139.size = 40000 ∧ ∀ j, j < 40000 → Try.zeroCells139[j]? = some (.bool false) := by
  have h := zchk
  generalize Try.zeroCells139 = cs at h ⊢
  simp only [Bool.and_eq_true, beq_iff_eq, List.all_eq_true] at h
  obtain ⟨h1, h2⟩ := h
  refine ⟨h1, fun j hj => ?_⟩
  have hj' : j < cs.size := by omega
  have h4 := h2 cs[j] (by rw [Array.mem_toList_iff]; exact Array.getElem_mem hj')
  rw [Array.getElem?_eq_getElem hj']
  cases hv : cs[j] with
  | bool b =>
    rw [hv] at h4
    cases b with
    | false => rfl
    | true => simp [allFalse] at h4
  | _ => rw [hv] at h4; simp [allFalse] at h4
/-- Block g is a grid: at t, s it holds G t s. -/
def Grid (w : World) (g : Nat) (G : Int → Int → Bool) : Prop :=
  ∃ cs : Array Value, w.heap[g]? = some (.cells cs 139 (0, 0)) ∧ cs.size = 40000 ∧ ∀ t s : Nat, t < 20 → s < 2000 → cs[t * 2000 + s]? = some (.bool (G t s))
theorem Grid.lt {w : World} {g : Nat} {G : Int → Int → Bool} (h : Grid w g G) : g < w.heap.size := by
  obtain ⟨cs, h, _⟩ := h
  exact blk_lt h
theorem Grid.block {w : World} {g : Nat} {G : Int → Int → Bool} (h : Grid w g G) : ∃ cs, w.heap[g]? = some (.cells cs 139 (0, 0)) := by
  obtain ⟨cs, h, _⟩ := h
  exact ⟨cs, h⟩
theorem Grid.move {w w1 : World} {g : Nat} {G : Int → Int → Bool} (h : Grid w g G) (hm : w1.heap[g]? = w.heap[g]?) : Grid w1 g G := by
  obtain ⟨cs, h, r⟩ := h
  exact ⟨cs, hm.trans h, r⟩
theorem Grid.below {w w1 : World} {g : Nat} {G : Int → Int → Bool} (h : Grid w g G) (hb : Below w.heap.size w w1) : Grid w1 g G := h.move (hb.block g h.lt)
theorem Grid.cell {w : World} {g : Nat} {G : Int → Int → Bool} (h : Grid w g G) {t s : Int} (h0 : 0 ≤ t) (h1 : t < 20) (h2 : 0 ≤ s) (h3 : s < 2000) : w.cell? ⟨g, t.toNat * 2000 + s.toNat, none⟩ = some (.bool (G t s)) ∧ w.frozen? ⟨g, t.toNat * 2000 + s.toNat, none⟩ = false := by
  obtain ⟨cs, h, hs, hc⟩ := h
  obtain ⟨a, rfl⟩ := Int.eq_ofNat_of_zero_le h0
  obtain ⟨b, rfl⟩ := Int.eq_ofNat_of_zero_le h2
  exact ⟨(blk_cell h _).trans (hc a b (by omega) (by omega)), blk_frozen h _⟩
def upd (G : Int → Int → Bool) (t s : Int) (b : Bool) : Int → Int → Bool := fun t' s' => if t' = t ∧ s' = s then b else G t' s'
theorem Grid.set {w : World} {g : Nat} {G : Int → Int → Bool} (h : Grid w g G) {t s : Int} (h0 : 0 ≤ t) (h1 : t < 20) (h2 : 0 ≤ s) (h3 : s < 2000) (b : Bool) : Grid (w.setCell ⟨g, t.toNat * 2000 + s.toNat, none⟩ (.bool b)) g (upd G t s b) := by
  obtain ⟨cs, h, hs, hc⟩ := h
  obtain ⟨a, rfl⟩ := Int.eq_ofNat_of_zero_le h0
  obtain ⟨d, rfl⟩ := Int.eq_ofNat_of_zero_le h2
  simp only [Int.toNat_natCast]
  refine ⟨_, blk_set h (a * 2000 + d) (.bool b), by simpa using hs, fun t s ht hs' => ?_⟩
  rw [Array.getElem?_setIfInBounds]
  unfold upd
  by_cases e : (t : Int) = a ∧ (s : Int) = d
  · obtain ⟨e1, e2⟩ := e
    have e1' : t = a := by omega
    have e2' : s = d := by omega
    subst e1'; subst e2'
    rw [if_pos rfl, if_pos (by omega), if_pos ⟨rfl, rfl⟩]
  · rw [if_neg e, if_neg (by omega)]
    exact hc t s ht hs'
theorem Grid.zero {w : World} {g : Nat} (h : w.heap[g]? = some (.cells Try.zeroCells139 139 (0, 0))) : Grid w g (fun _ _ => false) := by
  obtain ⟨hs, hz⟩ := Zc_spec
  exact ⟨_, h, hs, fun t s ht hs' => hz _ (by omega)⟩
theorem Grid.congr {w : World} {g : Nat} {G G' : Int → Int → Bool} (h : Grid w g G) (e : ∀ t s : Nat, t < 20 → s < 2000 → G t s = G' t s) : Grid w g G' := by
  obtain ⟨cs, h, hs, hc⟩ := h
  exact ⟨cs, h, hs, fun t s ht hs' => by rw [← e t s ht hs']; exact hc t s ht hs'⟩
end grid
/-! ### impl.gridOf: function 106 -/
namespace grid
def okH (h : S117) : Prop := 0 ≤ h.f0 ∧ h.f0 < 20 ∧ 0 ≤ h.f1 ∧ h.f2 ≤ 2000
/-- Which steps of which tracks the holes open. -/
def openAt (l : List S117) : Int → Int → Bool := fun t s => l.any fun h => decide (h.f0 = t ∧ h.f1 ≤ s ∧ s < h.f2)
theorem openAt_snoc (l : List S117) (h : S117) (t s : Int) : openAt (l ++ [h]) t s = (openAt l t s || decide (h.f0 = t ∧ h.f1 ≤ s ∧ s < h.f2)) := by
  unfold openAt
  rw [List.any_append, List.any_cons, List.any_nil, Bool.or_false]
/-- .. and the steps of one hole more, up to a step. -/
def upTo (G : Int → Int → Bool) (h : S117) (m : Int) : Int → Int → Bool := fun t s => G t s || decide (h.f0 = t ∧ h.f1 ≤ s ∧ s < m)
theorem upTo_step (G : Int → Int → Bool) (h : S117) (m : Int) (hm : h.f1 ≤ m) (t s : Int) : upd (upTo G h m) h.f0 m true t s = upTo G h (m + 1) t s := by
  unfold upd upTo
  by_cases e : t = h.f0 ∧ s = m
  · rw [if_pos e]
    have : decide (h.f0 = t ∧ h.f1 ≤ s ∧ s < m + 1) = true := decide_eq_true ⟨e.1.symm, by omega, by omega⟩
    rw [this, Bool.or_true]
  · rw [if_neg e]
    congr 1
    exact decide_eq_decide.2 ⟨fun h => ⟨h.1, h.2.1, by omega⟩, fun h' => ⟨h'.1, h'.2.1, by have : s ≠ m := fun e2 => e ⟨h'.1.symm, e2⟩; omega⟩⟩
theorem upTo_zero (G : Int → Int → Bool) (h : S117) (t s : Int) : upTo G h h.f1 t s = G t s := by
  unfold upTo
  rw [decide_eq_false (fun h => by omega), Bool.or_false]
set_option maxHeartbeats 8000000 in
set_option maxRecDepth 100000 in
theorem gridOf.calls (A0 : Option Addr) (c0 : Nat) (l0 : List S117) (w : World) (hr0 : Kd.C k117 w A0 l0.length l0) (hc0 : l0.length ≤ c0) (hv : ∀ h ∈ l0, okH h) :
    Calls Try.prog 106 #[.slice A0 l0.length c0] w fun e w' => ∃ g, e = .returned (.pointer (some ⟨g, 0, none⟩)) ∧ Grid w' g (openAt l0) ∧ w.heap.size ≤ g ∧ Below w.heap.size w w' := by
  have hu := Try.underlying117
  have HR0 := Aside0.mk hr0
  have HC0 := Aside0.mk hc0
  have HV := Aside0.mk hv
  have HL := Aside0.mk hr0.2.1
  have HB := Aside0.mk (Below.refl w.heap.size w)
  clear hr0 hc0 hv
  go_enter Try.func106, Try.ntmps106
  go_wp2_with (first | ((with_reducible refine gate_dst (N := 8) rfl ?_); refine box_event ?hg (N := 8) ?hd (cs := Try.zeroCells139) (t := 139) ?hr ?_; (case hd => rfl); (case hg => rfl); (case hr => first | (go_simp; done) | (go_simp; rfl)); intro g hg w1 hbox hb; have HG := Aside0.mk (Grid.zero hbox); have HGE := Aside0.mk (by rw [hg]; exact below_size HB.out : w.heap.size ≤ g); have n0_ := Aside0.mk (below_step HB.out hb); clear HB; have HB := n0_; clear n0_ hbox hb hg))
  go_loopw [11] (fun v wr => ∃ i : Int, Aside0 (0 ≤ i ∧ i ≤ l0.length) ∧ v = .int .i64 i ∧ Aside0 (Grid wr g (openAt (l0.take i.toNat))) ∧ Aside0 (Below w.heap.size w wr)) (fun v _ => ((l0.length : Int) - intOf v).toNat)
  case atStart => exact ⟨0, ⟨by omega⟩, rfl, ⟨HG.out.congr (fun t s _ _ => rfl)⟩, HB⟩
  case round =>
    clear HG HB
    obtain ⟨i, hi, rfl, HG, HB⟩ := hrel
    by_cases q : i < (l0.length : Int)
    · have p : 0 ≤ i := hi.out.1
      have hlt : i.toNat < l0.length := by omega
      obtain ⟨ad, e, hx0, hx1, hx2⟩ := at_T117 HR0.out i p q
      cases e
      replace hx0 := (HB.out.cell (World.block_lt_of_cell? w _ hx0)).trans hx0
      replace hx1 := (HB.out.cell (World.block_lt_of_cell? w _ hx1)).trans hx1
      replace hx2 := (HB.out.cell (World.block_lt_of_cell? w _ hx2)).trans hx2
      obtain ⟨x, hx⟩ : ∃ x, x = rd_T117 l0 i := ⟨_, rfl⟩
      rw [← hx] at hx0 hx1 hx2
      have hxl : l0[i.toNat] = x := by
        rw [hx]
        show _ = l0.getD i.toNat _
        rw [List.getD_eq_getElem?_getD, List.getElem?_eq_getElem hlt]
        rfl
      have HX := Aside0.mk (show l0[i.toNat]? = some x from by rw [List.getElem?_eq_getElem hlt, hxl])
      have HXV := Aside0.mk (show okH x from by rw [← hxl]; exact HV.out _ (List.getElem_mem hlt))
      clear hx hxl
      replace p := eq_true p
      replace q := eq_true q
      have HLT := Aside0.mk hlt
      clear hlt
      go_wp2_with (first | ((with_reducible refine gate_dst (N := 5) rfl ?_); refine box_event ?hg (N := 5) ?hd (cs := #[.int .i64 0, .int .i64 0, .int .i64 0]) (t := 117) ?hr ?_; (case hd => rfl); (case hg => rfl); (case hr => first | (go_simp; done) | (go_simp; rfl)); intro gx hgx w2 hbox hb; have n0_ := Aside0.mk (HG.out.below hb); have n1_ := Aside0.mk (below_step HB.out hb); have HNE := Aside0.mk (by rw [hgx]; exact Nat.ne_of_lt HG.out.lt : g ≠ gx); have HGX := Aside0.mk (by rw [hgx]; exact below_size HB.out : w.heap.size ≤ gx); have BX := Aside0.mk hbox; clear HG HB hb hbox hgx; have HG := n0_; have HB := n1_; clear n0_ n1_; have hc0_ : w2.cell? ⟨gx, 0, none⟩ = some (.int .i64 0) := (blk_cell BX.out 0).trans rfl; have hc1_ : w2.cell? ⟨gx, 1, none⟩ = some (.int .i64 0) := (blk_cell BX.out 1).trans rfl; have hc2_ : w2.cell? ⟨gx, 2, none⟩ = some (.int .i64 0) := (blk_cell BX.out 2).trans rfl; have hf0_ := blk_frozen BX.out 0; have hf1_ := blk_frozen BX.out 1; have hf2_ := blk_frozen BX.out 2))
      obtain ⟨w3, hw3⟩ : ∃ w3, w3 = ((w2.setCell ⟨gx, 0, none⟩ (.int .i64 x.f0)).setCell ⟨gx, 1, none⟩ (.int .i64 x.f1)).setCell ⟨gx, 2, none⟩ (.int .i64 x.f2) := ⟨_, rfl⟩
      rw [← hw3]
      have HK := Aside0.mk (show Kept w2 w3 (fun k => k = gx) from by rw [hw3]; exact (((Kept.refl w2 (fun k => k = gx)).setCell (p := ⟨gx, 0, none⟩) (.inl rfl) _).setCell (p := ⟨gx, 1, none⟩) (.inl rfl) _).setCell (p := ⟨gx, 2, none⟩) (.inl rfl) _)
      have n0_ := Aside0.mk (show w3.heap[gx]? = some (.cells #[.int .i64 x.f0, .int .i64 x.f1, .int .i64 x.f2] 117 (0, 0)) from by
        rw [hw3]
        refine blk_put (cs := #[.int .i64 x.f0, .int .i64 x.f1, .int .i64 0]) ?_ 2 _ rfl
        refine blk_put (cs := #[.int .i64 x.f0, .int .i64 0, .int .i64 0]) ?_ 1 _ rfl
        exact blk_put (cs := #[.int .i64 0, .int .i64 0, .int .i64 0]) BX.out 0 _ rfl)
      have n1_ := Aside0.mk (show Below w.heap.size w w3 from by rw [hw3]; exact below_set (below_set (below_set HB.out HGX.out) HGX.out) HGX.out)
      have n2_ := Aside0.mk (HG.out.move (HK.out.2 g HG.out.lt HNE.out))
      clear BX HB HG HK hw3 hc0_ hc1_ hc2_ hf0_ hf1_ hf2_ hx0 hx1 hx2
      have BX := n0_
      have HB := n1_
      have HG := n2_
      clear n0_ n1_ n2_
      go_loopw [6] (fun v wi => ∃ m : Int, Aside0 (x.f1 ≤ m ∧ (m ≤ x.f2 ∨ m = x.f1)) ∧ v = .int .i64 m ∧ Aside0 (Grid wi g (upTo (openAt (l0.take i.toNat)) x m)) ∧ Aside0 (wi.heap[gx]? = some (.cells #[.int .i64 x.f0, .int .i64 x.f1, .int .i64 x.f2] 117 (0, 0))) ∧ Aside0 (Below w.heap.size w wi)) (fun v _ => (x.f2 - intOf v).toNat)
      case atStart => exact ⟨x.f1, ⟨Int.le_refl _, .inr rfl⟩, rfl, ⟨HG.out.congr (fun t s _ _ => (upTo_zero _ _ _ _).symm)⟩, BX, HB⟩
      case round =>
        clear HG BX HB p q
        obtain ⟨m, hm, rfl, HG, BX, HB⟩ := hrel
        have hc0_ : wr.cell? ⟨gx, 0, none⟩ = some (.int .i64 x.f0) := (blk_cell BX.out 0).trans rfl
        have hc2_ : wr.cell? ⟨gx, 2, none⟩ = some (.int .i64 x.f2) := (blk_cell BX.out 2).trans rfl
        by_cases hlt : m < x.f2
        · have hb : decide (m < x.f2) = true := decide_eq_true hlt
          have h0 : 0 ≤ x.f0 := HXV.out.1
          have h1 : x.f0 < 20 := HXV.out.2.1
          have h2 : 0 ≤ m := by have := HXV.out.2.2.1; have := hm.out; omega
          have h3 : m < 2000 := by have := HXV.out.2.2.2; omega
          obtain ⟨hgc, hgf⟩ := HG.out.cell h0 h1 h2 h3
          have HM := Aside0.mk (show 0 ≤ x.f0 ∧ x.f0 < 20 ∧ 0 ≤ m ∧ m < 2000 ∧ m < x.f2 from ⟨h0, h1, h2, h3, hlt⟩)
          replace h0 := eq_true h0
          replace h1 := eq_true h1
          replace h2 := eq_true h2
          replace h3 := eq_true h3
          clear hlt
          go_wp2
          go_region
          obtain ⟨w4, hw4⟩ : ∃ w4, w4 = (wr.setCell ⟨g, x.f0.toNat * 2000 + m.toNat, none⟩ (.bool true)).drew := ⟨_, rfl⟩
          rw [← hw4]
          have n0_ := Aside0.mk (show Grid w4 g (upTo (openAt (l0.take i.toNat)) x (m + 1)) from by
            rw [hw4]
            exact ((HG.out.set HM.out.1 HM.out.2.1 HM.out.2.2.1 HM.out.2.2.2.1 true).congr (fun t s _ _ => upTo_step _ x m hm.out.1 t s)).move rfl)
          have n1_ := Aside0.mk (show w4.heap[gx]? = some (.cells #[.int .i64 x.f0, .int .i64 x.f1, .int .i64 x.f2] 117 (0, 0)) from by rw [hw4]; exact (Below.heap_setCell wr ⟨g, x.f0.toNat * 2000 + m.toNat, none⟩ (.bool true) gx (Ne.symm HNE.out)).trans BX.out)
          have n2_ := Aside0.mk (show Below w.heap.size w w4 from by rw [hw4]; exact below_drew1 (below_set HB.out HGE.out))
          clear hgc hgf hw4 HG BX HB hc0_ hc2_
          have HG := n0_
          have BX := n1_
          have HB := n2_
          clear n0_ n1_ n2_
          go_wp2
          go_roundw
          case rel => exact ⟨m + 1, ⟨by have := HM.out; have := hm.out; omega⟩, (by first | rfl | (congr 1; have := HM.out; unfold wrap64; omega)), HG, BX, HB⟩
          case measure => have := HM.out; have hw : wrap64 (m + 1) = m + 1 := (by unfold wrap64; omega); simp [intOf, hw]; omega
        · have hb : decide (m < x.f2) = false := decide_eq_false hlt
          have HM := Aside0.mk hlt
          clear hlt
          go_wp2
          go_roundw
          case rel => exact ⟨i + 1, ⟨by have := HLT.out; have := hi.out; omega⟩, (by first | rfl | (congr 1; have := HLT.out; have := HL.out; have := hi.out; unfold wrap64; omega)), ⟨HG.out.congr (fun t s _ _ => by
            have hi0 := hi.out.1
            have e : l0.take (i + 1).toNat = l0.take i.toNat ++ [x] := by
              rw [show (i + 1).toNat = i.toNat + 1 by omega, List.take_add_one, HX.out]
              rfl
            rw [e, openAt_snoc]
            unfold upTo
            congr 1
            have h1 := HM.out
            have h2 := hm.out
            exact decide_eq_decide.2 ⟨fun h => ⟨h.1, h.2.1, by omega⟩, fun h => ⟨h.1, h.2.1, by omega⟩⟩)⟩, HB⟩
          case measure => have := HLT.out; have := hi.out; have := HL.out; have hw : wrap64 (i + 1) = i + 1 := (by unfold wrap64; omega); simp [intOf, hw]; omega
    · have hb : decide (i < (l0.length : Int)) = false := decide_eq_false q
      have HQ := Aside0.mk q
      clear q
      go_wp2
      go_ret
      refine ⟨g, rfl, HG.out.congr (fun t s _ _ => ?_), HGE.out, HB.out⟩
      have hi0 := hi.out
      have hq := HQ.out
      rw [show l0.take i.toNat = l0 from List.take_of_length_le (by omega)]
end grid
/-! ### the longest ranges of a grid, as the loops find them -/
namespace grid
def grStep (h : Int → Int → Bool) (t : Int) (st : List (List Int) × Int) (s : Int) : List (List Int) × Int :=
  if s < 2000 ∧ h t s = true then (st.1, if st.2 < 0 then s else st.2) else (if 0 ≤ st.2 then (st.1 ++ [[t, st.2, s]], -1) else st)
def grS (h : Int → Int → Bool) (t : Int) (o : List (List Int)) : Nat → List (List Int) × Int
  | 0 => (o, -1)
  | s + 1 => grStep h t (grS h t o s) s
def grT (h : Int → Int → Bool) : Nat → List (List Int)
  | 0 => []
  | t + 1 => (grS h t (grT h t) 2001).1
def gr (h : Int → Int → Bool) : List (List Int) := grT h 20
theorem grS_snd (h : Int → Int → Bool) (t : Int) (o : List (List Int)) (s : Nat) : (grS h t o s).2 = -1 ∨ 0 ≤ (grS h t o s).2 ∧ (grS h t o s).2 < s := by
  induction s with
  | zero => exact .inl rfl
  | succ s ih =>
    have e : grS h t o (s + 1) = grStep h t (grS h t o s) s := rfl
    rw [e]
    unfold grStep
    split
    · right
      by_cases hf : (grS h t o s).2 < 0
      · simp only [if_pos hf]; omega
      · simp only [if_neg hf]; omega
    · split
      · exact .inl rfl
      · rcases ih with h | h
        · exact .inl h
        · right; omega
theorem grS_len (h : Int → Int → Bool) (t : Int) (o : List (List Int)) (s : Nat) : (grS h t o s).1.length ≤ o.length + s := by
  induction s with
  | zero => exact Nat.le_refl _
  | succ s ih =>
    show (grStep h t (grS h t o s) s).1.length ≤ _
    unfold grStep
    split
    · show (grS h t o s).1.length ≤ _; omega
    · split
      · show ((grS h t o s).1 ++ [_]).length ≤ _
        rw [List.length_append, List.length_singleton]; omega
      · omega
theorem grT_len (h : Int → Int → Bool) (n : Nat) : (grT h n).length ≤ n * 2001 := by
  induction n with
  | zero => exact Nat.le_refl _
  | succ n ih =>
    show (grS h n (grT h n) 2001).1.length ≤ _
    have := grS_len h n (grT h n) 2001
    omega
theorem gr_len (h : Int → Int → Bool) : (gr h).length ≤ 40020 := grT_len h 20
end grid
/-! ### impl.gridRanges with a closure: function 127 -/
namespace grid
set_option maxHeartbeats 16000000 in
set_option maxRecDepth 100000 in
theorem gridRanges_change.calls (hold : Int → Int → Bool) (ba bb : Nat) (w : World)
    (hcl : ∀ W, Below w.heap.size w W → ∀ t s : Int, 0 ≤ t → t < 20 → 0 ≤ s → s < 2000 → Calls Try.prog 128 #[.int .i64 t, .int .i64 s, .pointer (some ⟨ba, 0, none⟩), .pointer (some ⟨bb, 0, none⟩)] W fun e w' => e = .returned (.bool (hold t s)) ∧ W = w') :
    Calls Try.prog 127 #[.func (.func 128) #[] #[.pointer (some ⟨ba, 0, none⟩), .pointer (some ⟨bb, 0, none⟩)]] w fun e w' => ∃ v0_ : Value, e = .returned v0_ ∧ Kd.S (Kd.slice 3 (Kd.int .i64)) 73 w' w.heap.size (fun _ => True) v0_ (gr hold) ∧ Below w.heap.size w w' := by
  have HCL := Aside0.mk hcl
  have HB := Aside0.mk (Below.refl w.heap.size w)
  clear hcl
  go_enter Try.func127, Try.ntmps127
  go_wp2_with (first | ((with_reducible refine gate_dst (N := 8) rfl ?_); refine Kd.S_lit (Kd.slice 3 (Kd.int .i64)) (w0 := w) w.heap.size 73 rfl (N := 8) rfl (xs := []) (inner := []) (ok := fun _ => True) (okp := fun _ => True) ?hr (Reps.none _ _) (fun _ hk => hk) trivial HB.out (below_size HB.out) (by simp) ?_; (case hr => first | (go_simp; done) | (go_simp; rfl)); intro v0_ w1 ho hb hg_ hnew_; have HO := Aside0.mk ho; clear HB; have HB := Aside0.mk hb; clear ho hb hg_ hnew_))
  go_loopw [3, 9] (fun v3 v9 wr => ∃ t : Int, Aside0 (0 ≤ t ∧ t ≤ 20) ∧ v9 = .int .i64 t ∧ Aside0 (Kd.S (Kd.slice 3 (Kd.int .i64)) 73 wr w.heap.size (fun _ => True) v3 (grT hold t.toNat)) ∧ Aside0 (Below w.heap.size w wr)) (fun _ v9 _ => (20 - intOf v9).toNat)
  case atStart => exact ⟨0, ⟨by omega⟩, rfl, HO, HB⟩
  case round =>
    clear HO HB
    obtain ⟨t, HT0, rfl, HO, HB⟩ := hrel
    by_cases q : t < 20
    · have hq : decide (t < 20) = true := decide_eq_true q
      have HT := Aside0.mk (show 0 ≤ t ∧ t < 20 from ⟨HT0.out.1, q⟩)
      clear q
      go_wp2
      go_loopw [3, 5, 6] (fun v3 v5 v6 wi => ∃ (s fr : Int) (o : List (List Int)), Aside0 (0 ≤ s ∧ s ≤ 2001) ∧ v5 = .int .i64 fr ∧ v6 = .int .i64 s ∧ Aside0 (grS hold t (grT hold t.toNat) s.toNat = (o, fr)) ∧ Aside0 (Kd.S (Kd.slice 3 (Kd.int .i64)) 73 wi w.heap.size (fun _ => True) v3 o) ∧ Aside0 (Below w.heap.size w wi)) (fun _ _ v6 _ => (2001 - intOf v6).toNat)
      case atStart => exact ⟨0, -1, grT hold t.toNat, ⟨by omega⟩, rfl, rfl, ⟨rfl⟩, HO, HB⟩
      case round =>
        clear HO HB hq
        obtain ⟨s, fr, o, HS0, rfl, rfl, HE, HO, HB⟩ := hrel
        have HLEN := Aside0.mk (show o.length ≤ 100000 from by
          have h1 := grS_len hold t (grT hold t.toNat) s.toNat
          have h2 := grT_len hold t.toNat
          rw [HE.out] at h1
          have h3 := HT.out
          have h4 := HS0.out
          simp only at h1
          have h5 : t.toNat * 2001 ≤ 19 * 2001 := Nat.mul_le_mul_right _ (by omega)
          omega)
        by_cases hs : s ≤ 2000
        · have hs1 : decide (s ≤ 2000) = true := decide_eq_true hs
          have HLE := Aside0.mk hs
          by_cases hs2 : s < 2000
          · have hs3 : decide (s < 2000) = true := decide_eq_true hs2
            have HS := Aside0.mk (show 0 ≤ s ∧ s < 2000 from ⟨HS0.out.1, hs2⟩)
            clear hs hs2
            cases hh : hold t s with
            | true =>
              have HH := Aside0.mk hh
              clear hh
              by_cases hf : fr < 0
              · have hf1 : decide (fr < 0) = true := decide_eq_true hf
                have HF := Aside0.mk hf
                clear hf
                go_wp2_with (first | (go_at_call 128; refine (HCL.out _ HB.out t s HT.out.1 HT.out.2 HS.out.1 HS.out.2 ).mono ?_; rintro e w_ ⟨rfl, rfl⟩; rw [HH.out]))
                go_roundw
                case rel => exact ⟨s + 1, s, o, ⟨by have := HS0.out; have := HLE.out; omega⟩, (by first | rfl | (simp; done) | (congr 1)), (by first | rfl | (congr 1; have := HS0.out; have := HLE.out; unfold wrap64; omega)), ⟨by have e := HS0.out.1; rw [show (s + 1).toNat = s.toNat + 1 by omega]; show grStep hold t (grS hold t (grT hold t.toNat) s.toNat) (s.toNat : Nat) = _; rw [HE.out, show ((s.toNat : Nat) : Int) = s by omega]; unfold grStep; rw [if_pos ⟨HS.out.2, HH.out⟩, if_pos HF.out]⟩, HO, HB⟩
                case measure => have := HS0.out; have := HLE.out; have hw : wrap64 (s + 1) = s + 1 := (by unfold wrap64; omega); simp [intOf, hw]; omega
              · have hf1 : decide (fr < 0) = false := decide_eq_false hf
                have HF := Aside0.mk hf
                clear hf
                go_wp2_with (first | (go_at_call 128; refine (HCL.out _ HB.out t s HT.out.1 HT.out.2 HS.out.1 HS.out.2 ).mono ?_; rintro e w_ ⟨rfl, rfl⟩; rw [HH.out]))
                go_roundw
                case rel => exact ⟨s + 1, fr, o, ⟨by have := HS0.out; have := HLE.out; omega⟩, (by first | rfl | (simp; done) | (congr 1)), (by first | rfl | (congr 1; have := HS0.out; have := HLE.out; unfold wrap64; omega)), ⟨by have e := HS0.out.1; rw [show (s + 1).toNat = s.toNat + 1 by omega]; show grStep hold t (grS hold t (grT hold t.toNat) s.toNat) (s.toNat : Nat) = _; rw [HE.out, show ((s.toNat : Nat) : Int) = s by omega]; unfold grStep; rw [if_pos ⟨HS.out.2, HH.out⟩]; have hF := HF.out; show (o, if fr < 0 then s else fr) = (o, fr); rw [if_neg (by omega)]⟩, HO, HB⟩
                case measure => have := HS0.out; have := HLE.out; have hw : wrap64 (s + 1) = s + 1 := (by unfold wrap64; omega); simp [intOf, hw]; omega
            | false =>
              have HH := Aside0.mk hh
              clear hh
              by_cases hf : 0 ≤ fr
              · have hf1 : decide (0 ≤ fr) = true := decide_eq_true hf
                have HF := Aside0.mk hf
                clear hf
                obtain ⟨Ao, co, eo⟩ := Kd.S_slice HO.out
                subst eo
                go_wp2_with (first | (go_at_call 128; refine (HCL.out _ HB.out t s HT.out.1 HT.out.2 HS.out.1 HS.out.2 ).mono ?_; rintro e w_ ⟨rfl, rfl⟩; rw [HH.out]) | ((with_reducible refine gate_dst (N := 40) rfl ?_); refine Kd.R_lit (Kd.int .i64) _ 3 ?hg (N := 40) ?hd (xs := ([t, fr, s] : List Int)) (inner := [.int .i64 t, .int .i64 fr, .int .i64 s]) (ok := fun _ => True) (okp := fun _ => True) ?hr ?hp (fun _ hk => hk) trivial (Below.refl _ _) (Nat.le_refl _) (by simp) ?_; (case hd => rfl); (case hg => rfl); (case hr => first | (go_simp; done) | (go_simp; rfl)); (case hp => exact (Reps.one (show Kd.M (Kd.int .i64) _ _ _ t [.int .i64 t] from rfl) (Reps.one (show Kd.M (Kd.int .i64) _ _ _ fr [.int .i64 fr] from rfl) (Reps.one (show Kd.M (Kd.int .i64) _ _ _ s [.int .i64 s] from rfl) (Reps.none _ _))))); intro v1_ w5 ho5 hb hg_ hnew_; clear hg_ hnew_; have n0_ := Aside0.mk (Kd.S_elder' HO.out (Kd.R_base ho5) hb); have n1_ := Aside0.mk (Kd.R_lower ho5 (below_size HB.out)); have n2_ := Aside0.mk (below_step HB.out hb); clear HO HB; have HO := n0_; have HI := n1_; have HB := n2_; clear n0_ n1_ n2_; clear hb ho5; obtain ⟨Ai, ci, ei⟩ := Kd.R_slice HI.out; subst ei) | ((with_reducible refine gate_builtin (b := .append) (xs := #[.tmp 36, .tmp 41]) rfl ?_); at_builtin; refine Kd.S_append (Kd.slice 3 (Kd.int .i64)) (w0 := w) w.heap.size rfl (.tmp 36) (.tmp 41) 61 73 (.slice none 0 0) 24 rfl Try.underlying61 info73 rfl (by decide) (by omega) (.slice Ao o.length co) o [t, fr, s] [.slice Ai ([t, fr, s] : List Int).length ci] (fun _ => True) (fun k_ => some k_ = (.slice Ai ([t, fr, s] : List Int).length ci : Value).ownBlock) rfl rfl ?aP (fun k_ hk_ => ((Kd.R_mono (ok' := fun k_ => ((fun _ => True)) k_ ∧ some k_ ≠ (.slice Ao o.length co : Value).ownBlock) (Kd.R_apart' (HI.out) (Kd.S_typed HO.out) (by decide)) (fun k_ hk => ⟨trivial, hk.2⟩))).1 k_ hk_.symm) ?aF ?aO ?aB ?aS ?aL ?_; (case aP => exact Kd.M_row (Kd.R_mono (Kd.R_tight rfl (Kd.R_mono (ok' := fun k_ => ((fun _ => True)) k_ ∧ some k_ ≠ (.slice Ao o.length co : Value).ownBlock) (Kd.R_apart' (HI.out) (Kd.S_typed HO.out) (by decide)) (fun k_ hk => ⟨trivial, hk.2⟩))) (fun _ h_ => h_))); (case aB => exact HB.out); (case aF => exact (fun _ _ => trivial)); (case aO => exact Kd.S_mono HO.out (fun k_ hk => ⟨trivial, fun e_ => hk.2 e_⟩)); (case aS => exact below_size HB.out); (case aL => have := HLEN.out; omega); intro v2_ w6 ho hb hg hat; have n0_ := Aside0.mk hb; have n1_ := Aside0.mk ho; clear HB HO HI ho hb hg hat; have HB := n0_; have HO := n1_; clear n0_ n1_))
                go_roundw
                case rel => exact ⟨s + 1, -1, o ++ [[t, fr, s]], ⟨by have := HS0.out; have := HLE.out; omega⟩, (by first | rfl | (simp; done) | (congr 1)), (by first | rfl | (congr 1; have := HS0.out; have := HLE.out; unfold wrap64; omega)), ⟨by have e := HS0.out.1; rw [show (s + 1).toNat = s.toNat + 1 by omega]; show grStep hold t (grS hold t (grT hold t.toNat) s.toNat) (s.toNat : Nat) = _; rw [HE.out, show ((s.toNat : Nat) : Int) = s by omega]; unfold grStep; rw [if_neg (fun h => by rw [HH.out] at h; cases h.2), if_pos HF.out]⟩, HO, HB⟩
                case measure => have := HS0.out; have := HLE.out; have hw : wrap64 (s + 1) = s + 1 := (by unfold wrap64; omega); simp [intOf, hw]; omega
              · have hf1 : decide (0 ≤ fr) = false := decide_eq_false hf
                have HF := Aside0.mk hf
                clear hf
                go_wp2_with (first | (go_at_call 128; refine (HCL.out _ HB.out t s HT.out.1 HT.out.2 HS.out.1 HS.out.2 ).mono ?_; rintro e w_ ⟨rfl, rfl⟩; rw [HH.out]))
                go_roundw
                case rel => exact ⟨s + 1, fr, o, ⟨by have := HS0.out; have := HLE.out; omega⟩, (by first | rfl | (simp; done) | (congr 1)), (by first | rfl | (congr 1; have := HS0.out; have := HLE.out; unfold wrap64; omega)), ⟨by have e := HS0.out.1; rw [show (s + 1).toNat = s.toNat + 1 by omega]; show grStep hold t (grS hold t (grT hold t.toNat) s.toNat) (s.toNat : Nat) = _; rw [HE.out, show ((s.toNat : Nat) : Int) = s by omega]; unfold grStep; rw [if_neg (fun h => by rw [HH.out] at h; cases h.2)]; have hF := HF.out; show (if 0 ≤ fr then _ else (o, fr)) = (o, fr); rw [if_neg (by omega)]⟩, HO, HB⟩
                case measure => have := HS0.out; have := HLE.out; have hw : wrap64 (s + 1) = s + 1 := (by unfold wrap64; omega); simp [intOf, hw]; omega
          · have hs3 : decide (s < 2000) = false := decide_eq_false hs2
            have HS := Aside0.mk hs2
            clear hs hs2
            by_cases hf : 0 ≤ fr
            · have hf1 : decide (0 ≤ fr) = true := decide_eq_true hf
              have HF := Aside0.mk hf
              clear hf
              obtain ⟨Ao, co, eo⟩ := Kd.S_slice HO.out
              subst eo
              go_wp2_with (first | ((with_reducible refine gate_dst (N := 40) rfl ?_); refine Kd.R_lit (Kd.int .i64) _ 3 ?hg (N := 40) ?hd (xs := ([t, fr, s] : List Int)) (inner := [.int .i64 t, .int .i64 fr, .int .i64 s]) (ok := fun _ => True) (okp := fun _ => True) ?hr ?hp (fun _ hk => hk) trivial (Below.refl _ _) (Nat.le_refl _) (by simp) ?_; (case hd => rfl); (case hg => rfl); (case hr => first | (go_simp; done) | (go_simp; rfl)); (case hp => exact (Reps.one (show Kd.M (Kd.int .i64) _ _ _ t [.int .i64 t] from rfl) (Reps.one (show Kd.M (Kd.int .i64) _ _ _ fr [.int .i64 fr] from rfl) (Reps.one (show Kd.M (Kd.int .i64) _ _ _ s [.int .i64 s] from rfl) (Reps.none _ _))))); intro v1_ w5 ho5 hb hg_ hnew_; clear hg_ hnew_; have n0_ := Aside0.mk (Kd.S_elder' HO.out (Kd.R_base ho5) hb); have n1_ := Aside0.mk (Kd.R_lower ho5 (below_size HB.out)); have n2_ := Aside0.mk (below_step HB.out hb); clear HO HB; have HO := n0_; have HI := n1_; have HB := n2_; clear n0_ n1_ n2_; clear hb ho5; obtain ⟨Ai, ci, ei⟩ := Kd.R_slice HI.out; subst ei) | ((with_reducible refine gate_builtin (b := .append) (xs := #[.tmp 36, .tmp 41]) rfl ?_); at_builtin; refine Kd.S_append (Kd.slice 3 (Kd.int .i64)) (w0 := w) w.heap.size rfl (.tmp 36) (.tmp 41) 61 73 (.slice none 0 0) 24 rfl Try.underlying61 info73 rfl (by decide) (by omega) (.slice Ao o.length co) o [t, fr, s] [.slice Ai ([t, fr, s] : List Int).length ci] (fun _ => True) (fun k_ => some k_ = (.slice Ai ([t, fr, s] : List Int).length ci : Value).ownBlock) rfl rfl ?aP (fun k_ hk_ => ((Kd.R_mono (ok' := fun k_ => ((fun _ => True)) k_ ∧ some k_ ≠ (.slice Ao o.length co : Value).ownBlock) (Kd.R_apart' (HI.out) (Kd.S_typed HO.out) (by decide)) (fun k_ hk => ⟨trivial, hk.2⟩))).1 k_ hk_.symm) ?aF ?aO ?aB ?aS ?aL ?_; (case aP => exact Kd.M_row (Kd.R_mono (Kd.R_tight rfl (Kd.R_mono (ok' := fun k_ => ((fun _ => True)) k_ ∧ some k_ ≠ (.slice Ao o.length co : Value).ownBlock) (Kd.R_apart' (HI.out) (Kd.S_typed HO.out) (by decide)) (fun k_ hk => ⟨trivial, hk.2⟩))) (fun _ h_ => h_))); (case aB => exact HB.out); (case aF => exact (fun _ _ => trivial)); (case aO => exact Kd.S_mono HO.out (fun k_ hk => ⟨trivial, fun e_ => hk.2 e_⟩)); (case aS => exact below_size HB.out); (case aL => have := HLEN.out; omega); intro v2_ w6 ho hb hg hat; have n0_ := Aside0.mk hb; have n1_ := Aside0.mk ho; clear HB HO HI ho hb hg hat; have HB := n0_; have HO := n1_; clear n0_ n1_))
              go_roundw
              case rel => exact ⟨s + 1, -1, o ++ [[t, fr, s]], ⟨by have := HS0.out; have := HLE.out; omega⟩, (by first | rfl | (simp; done) | (congr 1)), (by first | rfl | (congr 1; have := HS0.out; have := HLE.out; unfold wrap64; omega)), ⟨by have e := HS0.out.1; rw [show (s + 1).toNat = s.toNat + 1 by omega]; show grStep hold t (grS hold t (grT hold t.toNat) s.toNat) (s.toNat : Nat) = _; rw [HE.out, show ((s.toNat : Nat) : Int) = s by omega]; unfold grStep; rw [if_neg (fun h => by have := HS.out; have := h.1; omega), if_pos HF.out]⟩, HO, HB⟩
              case measure => have := HS0.out; have := HLE.out; have hw : wrap64 (s + 1) = s + 1 := (by unfold wrap64; omega); simp [intOf, hw]; omega
            · have hf1 : decide (0 ≤ fr) = false := decide_eq_false hf
              have HF := Aside0.mk hf
              clear hf
              go_wp2
              go_roundw
              case rel => exact ⟨s + 1, fr, o, ⟨by have := HS0.out; have := HLE.out; omega⟩, (by first | rfl | (simp; done) | (congr 1)), (by first | rfl | (congr 1; have := HS0.out; have := HLE.out; unfold wrap64; omega)), ⟨by have e := HS0.out.1; rw [show (s + 1).toNat = s.toNat + 1 by omega]; show grStep hold t (grS hold t (grT hold t.toNat) s.toNat) (s.toNat : Nat) = _; rw [HE.out, show ((s.toNat : Nat) : Int) = s by omega]; unfold grStep; rw [if_neg (fun h => by have := HS.out; have := h.1; omega)]; have hF := HF.out; show (if 0 ≤ fr then _ else (o, fr)) = (o, fr); rw [if_neg (by omega)]⟩, HO, HB⟩
              case measure => have := HS0.out; have := HLE.out; have hw : wrap64 (s + 1) = s + 1 := (by unfold wrap64; omega); simp [intOf, hw]; omega
        · have hs1 : decide (s ≤ 2000) = false := decide_eq_false hs
          have HLE := Aside0.mk hs
          clear hs
          go_wp2
          go_roundw
          case rel => exact ⟨t + 1, ⟨by have := HT.out; omega⟩, (by first | rfl | (congr 1; have := HT.out; unfold wrap64; omega)), ⟨by
            have h1 := HT.out
            have h2 := HS0.out
            have h3 := HLE.out
            rw [show (t + 1).toNat = t.toNat + 1 by omega]
            show Kd.S _ _ _ _ _ _ (grS hold (t.toNat : Nat) (grT hold t.toNat) 2001).1
            rw [show ((t.toNat : Nat) : Int) = t by omega, show 2001 = s.toNat by omega, HE.out]
            exact HO.out⟩, HB⟩
          case measure => have := HT.out; have hw : wrap64 (t + 1) = t + 1 := (by unfold wrap64; omega); simp [intOf, hw]; omega
    · have hq : decide (t < 20) = false := decide_eq_false q
      have HQ := Aside0.mk q
      clear q
      go_wp2
      go_ret
      exact ⟨_, rfl, by
        have h1 := HT0.out
        have h2 := HQ.out
        unfold gr
        rw [show 20 = t.toNat by omega]
        exact HO.out, HB.out⟩
end grid
/-! ### impl.mustChange: functions 128, 92 -/
namespace grid
set_option maxHeartbeats 8000000 in
set_option maxRecDepth 100000 in
theorem change1.calls (t s : Int) (ba bb ga gb : Nat) (G1 G2 : Int → Int → Bool) (w : World) (hba : w.cell? ⟨ba, 0, none⟩ = some (.pointer (some ⟨ga, 0, none⟩))) (hbb : w.cell? ⟨bb, 0, none⟩ = some (.pointer (some ⟨gb, 0, none⟩)))
    (h1 : Grid w ga G1) (h2 : Grid w gb G2) (t0 : 0 ≤ t) (t1 : t < 20) (s0 : 0 ≤ s) (s1 : s < 2000) :
    Calls Try.prog 128 #[.int .i64 t, .int .i64 s, .pointer (some ⟨ba, 0, none⟩), .pointer (some ⟨bb, 0, none⟩)] w fun e w' => e = .returned (.bool (G1 t s && !G2 t s)) ∧ w = w' := by
  obtain ⟨c1, _⟩ := h1.cell t0 t1 s0 s1
  obtain ⟨c2, _⟩ := h2.cell t0 t1 s0 s1
  clear h1 h2
  replace t0 := eq_true t0
  replace t1 := eq_true t1
  replace s0 := eq_true s0
  replace s1 := eq_true s1
  cases hg : G1 t s with
  | true =>
    rw [hg] at c1
    clear hg
    go_enter Try.func128, Try.ntmps128
    go_wp2
    go_ret
    exact ⟨by simp, rfl⟩
  | false =>
    rw [hg] at c1
    clear hg
    go_enter Try.func128, Try.ntmps128
    go_wp2
    go_ret
    exact ⟨by simp, rfl⟩
def okHB (h : S117) : Bool := decide (0 ≤ h.f0 ∧ h.f0 < 20 ∧ 0 ≤ h.f1 ∧ h.f2 ≤ 2000)
theorem okHB_all {l : List S117} (h : l.all okHB = true) : ∀ x ∈ l, okH x := fun x hx => by
  have := List.all_eq_true.1 h x hx
  simpa [okHB, okH] using this
end grid
def impl_mustChange.f (l0 : List (S117)) (l1 : List (S117)) : Option (List (List Int)) := if (l0.all grid.okHB && l1.all grid.okHB) = true then some (grid.gr (fun t s => grid.openAt l0 t s && !grid.openAt l1 t s)) else none
set_option maxHeartbeats 8000000 in
set_option maxRecDepth 100000 in
theorem impl_mustChange.calls (A0 : Option Addr) (c0 : Nat) (l0 : List (S117)) (A1 : Option Addr) (c1 : Nat) (l1 : List (S117)) (r : List (List Int)) (w : World) (hr0 : Kd.C k117 w A0 l0.length l0) (hc0 : l0.length ≤ c0) (hr1 : Kd.C k117 w A1 l1.length l1) (hc1 : l1.length ≤ c1) (h : impl_mustChange.f l0 l1 = some r) :
    Calls Try.prog 92 #[.slice A0 l0.length c0, .slice A1 l1.length c1] w fun e w' => ∃ v0_ : Value, e = .returned (v0_) ∧ Kd.S (Kd.slice 3 (Kd.int .i64)) 73 w' w.heap.size (fun _ => True) v0_ r ∧ Below w.heap.size w w' := by
  have hok : (l0.all grid.okHB && l1.all grid.okHB) = true := by
    by_cases c : (l0.all grid.okHB && l1.all grid.okHB) = true
    · exact c
    · rw [impl_mustChange.f, if_neg c] at h; cases h
  rw [impl_mustChange.f, if_pos hok] at h
  obtain rfl := Option.some.inj h
  clear h
  rw [Bool.and_eq_true] at hok
  have HV0 := Aside0.mk (grid.okHB_all hok.1)
  have HV1 := Aside0.mk (grid.okHB_all hok.2)
  have HR0 := Aside0.mk hr0
  have HR1 := Aside0.mk hr1
  have HC0 := Aside0.mk hc0
  have HC1 := Aside0.mk hc1
  have HB := Aside0.mk (Below.refl w.heap.size w)
  clear hr0 hr1 hc0 hc1 hok
  have hmf : ∀ (fn : Fn) (first cap : Array Value) (w : World), (Instr.makeFunc fn first cap).run Try.prog w = .ok (.func fn first cap) w := fun _ _ _ _ => rfl
  go_enter Try.func92, Try.ntmps92
  go_wp2_with (first | ((with_reducible refine gate_callee (f := 106) rfl ?_); refine goesL_ (some 8) rfl rfl Try.func106 (by kernel_rfl) rfl #[.slice A0 l0.length c0] rfl (by (try simp only [List.map_toArray, List.map_cons, List.map_nil]); first | done | rfl) ?_; (with_reducible refine (grid.gridOf.calls _ _ l0 _ ?s1 ?s2 HV0.out).mono ?_); (case s1 => exact Kd.C_below HR0.out HB.out); (case s2 => exact HC0.out); rintro e w1 ⟨ga, rfl, hg, hge, hb⟩; refine ⟨_, rfl, ?_⟩; have HG1 := Aside0.mk hg; have HA1 := Aside0.mk hge; have n0_ := Aside0.mk (below_step HB.out hb); clear HB hb hg hge; have HB := n0_; clear n0_) | ((with_reducible refine gate_callee (f := 106) rfl ?_); refine goesL_ (some 10) rfl rfl Try.func106 (by kernel_rfl) rfl #[.slice A1 l1.length c1] rfl (by (try simp only [List.map_toArray, List.map_cons, List.map_nil]); first | done | rfl) ?_; (with_reducible refine (grid.gridOf.calls _ _ l1 _ ?s1 ?s2 HV1.out).mono ?_); (case s1 => exact Kd.C_below HR1.out HB.out); (case s2 => exact HC1.out); rintro e w2 ⟨gb, rfl, hg, hge, hb⟩; refine ⟨_, rfl, ?_⟩; have HG2 := Aside0.mk hg; have n0_ := Aside0.mk (below_step HB.out hb); have n1_ := Aside0.mk (HG1.out.below hb); clear HB HG1 hb hg hge; have HB := n0_; have HG1 := n1_; clear n0_ n1_) | ((with_reducible refine gate_dst (N := 5) rfl ?_); refine box_event ?hg (N := 5) ?hd (cs := #[.pointer none]) (t := 133) ?hr ?_; (case hd => rfl); (case hg => rfl); (case hr => first | (go_simp; done) | (go_simp; rfl)); intro ba hg w3 hbox hb; have N1 := Aside0.mk (by rw [hg]; exact Nat.ne_of_lt HG1.out.lt : ga ≠ ba); have N2 := Aside0.mk (by rw [hg]; exact Nat.ne_of_lt HG2.out.lt : gb ≠ ba); have GA := Aside0.mk (by rw [hg]; exact below_size HB.out : w.heap.size ≤ ba); have BA := Aside0.mk hbox; have n0_ := Aside0.mk (below_step HB.out hb); have n1_ := Aside0.mk (HG1.out.below hb); have n2_ := Aside0.mk (HG2.out.below hb); clear HB HG1 HG2 hb hbox hg; have HB := n0_; have HG1 := n1_; have HG2 := n2_; clear n0_ n1_ n2_) | ((with_reducible refine gate_dst (N := 6) rfl ?_); refine box_event ?hg (N := 6) ?hd (cs := #[.pointer none]) (t := 133) ?hr ?_; (case hd => rfl); (case hg => rfl); (case hr => first | (go_simp; done) | (go_simp; rfl)); intro bb hg w4 hbox hb; have N3 := Aside0.mk (by rw [hg]; exact Nat.ne_of_lt HG1.out.lt : ga ≠ bb); have N4 := Aside0.mk (by rw [hg]; exact Nat.ne_of_lt HG2.out.lt : gb ≠ bb); have N5 := Aside0.mk (by rw [hg]; exact Nat.ne_of_lt (blk_lt BA.out) : ba ≠ bb); have GB := Aside0.mk (by rw [hg]; exact below_size HB.out : w.heap.size ≤ bb); have BB := Aside0.mk hbox; have n0_ := Aside0.mk (below_step HB.out hb); have n1_ := Aside0.mk (HG1.out.below hb); have n2_ := Aside0.mk (HG2.out.below hb); have n3_ := Aside0.mk (blk_below BA.out hb); clear HB HG1 HG2 BA hb hbox hg; have HB := n0_; have HG1 := n1_; have HG2 := n2_; have BA := n3_; clear n0_ n1_ n2_ n3_; have hca_ : w4.cell? ⟨ba, 0, none⟩ = some (.pointer none) := (blk_cell BA.out 0).trans rfl; have hcb_ : w4.cell? ⟨bb, 0, none⟩ = some (.pointer none) := (blk_cell BB.out 0).trans rfl; have hfa_ := blk_frozen BA.out 0; have hfb_ := blk_frozen BB.out 0) | ((with_reducible refine gate_store (t := 133) (p := 5) rfl ?_); refine store_event (t := 133) (p := 5) (v := ?v5) (w1 := (w4.setCell ⟨ba, 0, none⟩ (.pointer (some ⟨ga, 0, none⟩)))) ?hg ?ho ?hn ?hr ?_; (case ho => rfl); (case hg => rfl); (case hn => rfl); (case hr => first | (go_simp; done) | (go_simp; rfl)); intro w5 hw; have n0_ := Aside0.mk (by rw [hw]; exact below_set HB.out GA.out : Below w.heap.size w w5); have n1_ := Aside0.mk (HG1.out.move (w1 := w5) (by rw [hw]; exact Below.heap_setCell w4 ⟨ba, 0, none⟩ _ ga N1.out)); have n2_ := Aside0.mk (HG2.out.move (w1 := w5) (by rw [hw]; exact Below.heap_setCell w4 ⟨ba, 0, none⟩ _ gb N2.out)); have n3_ := Aside0.mk (by rw [hw]; exact blk_put (cs := #[.pointer none]) BA.out 0 _ rfl : w5.heap[ba]? = some (.cells #[.pointer (some ⟨ga, 0, none⟩)] 133 (0, 0))); have n4_ := Aside0.mk (by rw [hw]; exact (Below.heap_setCell w4 ⟨ba, 0, none⟩ _ bb (Ne.symm N5.out)).trans BB.out : w5.heap[bb]? = some (.cells #[.pointer none] 133 (0, 0))); clear HB HG1 HG2 BA BB hw; (try clear hca_); (try clear hcb_); (try clear hfa_); (try clear hfb_); have HB := n0_; have HG1 := n1_; have HG2 := n2_; have BA := n3_; have BB := n4_; clear n0_ n1_ n2_ n3_ n4_; have hca_ : w5.cell? ⟨ba, 0, none⟩ = some (.pointer (some ⟨ga, 0, none⟩)) := (blk_cell BA.out 0).trans rfl; have hcb_ : w5.cell? ⟨bb, 0, none⟩ = some (.pointer none) := (blk_cell BB.out 0).trans rfl; have hfb_ := blk_frozen BB.out 0) | ((with_reducible refine gate_store (t := 133) (p := 6) rfl ?_); refine store_event (t := 133) (p := 6) (v := ?v6) (w1 := (w5.setCell ⟨bb, 0, none⟩ (.pointer (some ⟨gb, 0, none⟩)))) ?hg ?ho ?hn ?hr ?_; (case ho => rfl); (case hg => rfl); (case hn => rfl); (case hr => first | (go_simp; done) | (go_simp; rfl)); intro w6 hw; have n0_ := Aside0.mk (by rw [hw]; exact below_set HB.out GB.out : Below w.heap.size w w6); have n1_ := Aside0.mk (HG1.out.move (w1 := w6) (by rw [hw]; exact Below.heap_setCell w5 ⟨bb, 0, none⟩ _ ga N3.out)); have n2_ := Aside0.mk (HG2.out.move (w1 := w6) (by rw [hw]; exact Below.heap_setCell w5 ⟨bb, 0, none⟩ _ gb N4.out)); have n3_ := Aside0.mk (by rw [hw]; exact blk_put (cs := #[.pointer none]) BB.out 0 _ rfl : w6.heap[bb]? = some (.cells #[.pointer (some ⟨gb, 0, none⟩)] 133 (0, 0))); have n4_ := Aside0.mk (by rw [hw]; exact (Below.heap_setCell w5 ⟨bb, 0, none⟩ _ ba N5.out).trans BA.out : w6.heap[ba]? = some (.cells #[.pointer (some ⟨ga, 0, none⟩)] 133 (0, 0))); clear HB HG1 HG2 BA BB hw; (try clear hca_); (try clear hcb_); (try clear hfa_); (try clear hfb_); have HB := n0_; have HG1 := n1_; have HG2 := n2_; have BB := n3_; have BA := n4_; clear n0_ n1_ n2_ n3_ n4_; have hca_ : w6.cell? ⟨ba, 0, none⟩ = some (.pointer (some ⟨ga, 0, none⟩)) := (blk_cell BA.out 0).trans rfl; have hcb_ : w6.cell? ⟨bb, 0, none⟩ = some (.pointer (some ⟨gb, 0, none⟩)) := (blk_cell BB.out 0).trans rfl; have hfb_ := blk_frozen BB.out 0) | (go_at_call 127; refine (grid.gridRanges_change.calls (fun t s => grid.openAt l0 t s && !grid.openAt l1 t s) ba bb _ ?hcl).mono ?_; (case hcl => intro W hbW t s t0 t1 s0 s1; exact grid.change1.calls t s ba bb ga gb _ _ W ((blk_cell (blk_below BA.out hbW) 0).trans rfl) ((blk_cell (blk_below BB.out hbW) 0).trans rfl) (HG1.out.below hbW) (HG2.out.below hbW) t0 t1 s0 s1); rintro e w7 ⟨v0_, rfl, ho, hb⟩; have HO := Aside0.mk (Kd.S_lower ho (below_size HB.out)); have HO2 := Aside0.mk ho; have HB2 := Aside0.mk (below_step HB.out hb); have HLE := Aside0.mk (below_size HB.out); clear ho hb))
  go_ret
  exact ⟨_, rfl, HO.out, HB2.out⟩

end Go.Proofs.Ytjniaiobnbdhhaa.PFnExactRepairCost
