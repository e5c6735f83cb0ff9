/- The walks of functions that FnExactRepairCost reaches: what they return is what the plain functions of the same names say. Laid by a program of this session after the kit's print. No conditions beyond the arguments' being read. -/
import Derived.Test.YtjniaiobnbdhhaaRRepairCost0
import Derived.Test.YtjniaiobnbdhhaaRRepairCost3
import Derived.Test.YtjniaiobnbdhhaaRRepairCost4
namespace Go.Proofs.Ytjniaiobnbdhhaa.PFnExactRepairCost
open Go.RowKit Go.Proofs.YtjniaiobnbdhhaaW.PrintWords Go.Proofs.YtjniaiobnbdhhaaW.PrintLast Go.Proofs.YtjniaiobnbdhhaaW.PrintMore
attribute [local go_sem] max2_int min2_int max_two min_two max_three min_three max_four min_four   -- for this text's walks alone
set_option linter.unusedVariables false
set_option linter.unusedSimpArgs false

/-! ### spec_rpAll: function 102 -/
def spec_rpAll.l0 : Nat → List (List Bool) → Int → Int → Bool → Int → Option (Bool)
  | 0, _, _, _, _, _ => none
  | k + 1, x0, x1, x3, x4, x11 => if x11 < x3 then (if 0 ≤ x1 then (if x1 < (x0.length : Int) then (if 0 ≤ x11 then (if x11 < ((rd_L4 x0 x1).length : Int) then (if ((rdOf false (rd_L4 x0 x1) x11) != x4) = true then (some false) else (spec_rpAll.l0 k x0 x1 x3 x4 (wrap64 (x11 + 1)))) else (none)) else (none)) else (none)) else (none)) else (some true)
def spec_rpAll.f (k : Nat) (l0 : List (List Bool)) (a1 : Int) (a2 : Int) (a3 : Int) (a4 : Bool) : Option (Bool) := spec_rpAll.l0 k l0 a1 a3 a4 a2
theorem spec_rpAll.mono_l : ∀ k, (∀ y0 y1 y2 y3 y4, LeO (spec_rpAll.l0 k y0 y1 y2 y3 y4) (spec_rpAll.l0 (k + 1) y0 y1 y2 y3 y4))
  | 0 => fun _ _ _ _ _ r h => by simp [spec_rpAll.l0] at h
  | k + 1 => by
    have ih0 := spec_rpAll.mono_l k
    · intro y0 y1 y2 y3 y4
      unfold spec_rpAll.l0
      repeat' first
      | (with_reducible exact ih0 _ _ _ _ _)
      | (with_reducible exact LeO.refl _)
      | (with_reducible exact LeO.none _)
      | (with_reducible refine LeO.ite ?_ ?_)
      | (with_reducible refine LeO.bind ?_ (fun _ => ?_))
      | exact ih0 _ _ _ _ _
      | exact LeO.none _
      | refine LeO.ite ?_ ?_
      | refine LeO.bind ?_ (fun _ => ?_)
theorem spec_rpAll.mono : ∀ a0 a1 a2 a3 a4 k, LeO (spec_rpAll.f k a0 a1 a2 a3 a4) (spec_rpAll.f (k + 1) a0 a1 a2 a3 a4) := by
  intro a0 a1 a2 a3 a4 k
  have ih0 := spec_rpAll.mono_l k
  unfold spec_rpAll.f
  repeat' first
      | (with_reducible exact ih0 _ _ _ _ _)
      | (with_reducible exact LeO.refl _)
      | (with_reducible exact LeO.none _)
      | (with_reducible refine LeO.ite ?_ ?_)
      | (with_reducible refine LeO.bind ?_ (fun _ => ?_))
      | exact ih0 _ _ _ _ _
      | exact LeO.none _
      | refine LeO.ite ?_ ?_
      | refine LeO.bind ?_ (fun _ => ?_)
set_option maxHeartbeats 8000000 in
set_option maxRecDepth 100000 in
theorem spec_rpAll.calls (k : Nat) (A0 : Option Addr) (c0 : Nat) (l0 : List (List Bool)) (a1 : Int) (a2 : Int) (a3 : Int) (a4 : Bool) (r : Bool) (w : World) (hr0 : Kd.C (Kd.slice 4 Kd.bool) w A0 l0.length l0) (hc0 : l0.length ≤ c0) (h : spec_rpAll.f k l0 a1 a2 a3 a4 = some r) :
    Calls Try.prog 102 #[.slice A0 l0.length c0, .int .i64 a1, .int .i64 a2, .int .i64 a3, .bool a4] w fun e w' => e = .returned (.bool r) ∧ Drawn0 w w' := by
  have HR0 := Aside0.mk hr0
  have HC0 := Aside0.mk hc0
  clear hr0 hc0
  have H : (spec_rpAll.l0 k l0 a1 a3 a4 a2) = some r := h
  clear h
  have H' := Aside0.mk H
  clear H
  go_enter Try.func102, Try.ntmps102
  go_wp2
  go_loopg [11] k (fun kq v11 w' => ∃ (x11_1 : Int), v11 = .int .i64 x11_1 ∧ Aside0 (spec_rpAll.l0 kq l0 a1 a3 a4 x11_1 = some r) ∧ Aside0 (kq ≤ k) ∧ Drawn0 w w')
  case atStart => exact ⟨(a2), (by first | rfl | (simp; done) | (simp [*]; done)), H', ⟨Nat.le_refl _⟩, by repeat (first | exact Drawn0.refl _ | apply Drawn0.step)⟩
  case round =>
    clear H'
    try clear c1
    try clear p2
    obtain ⟨x11_1, rfl, HA, HK1, ⟨m1, rfl⟩⟩ := hrel
    cases gk with
    | zero => exact absurd HA.out (by simp [spec_rpAll.l0])
    | succ k1 =>
      have H := HA.out
      clear HA
      simp only [spec_rpAll.l0] at H
      by_cases c6 : x11_1 < a3
      · rw [if_pos c6] at H
        have c6b0 : decide (x11_1 < a3) = true := decide_eq_true c6
        clear c6
        by_cases c7 : 0 ≤ a1
        · rw [if_pos c7] at H
          have c7b0 : decide (0 ≤ a1) = true := decide_eq_true c7
          clear c7
          by_cases c8 : a1 < (l0.length : Int)
          · rw [if_pos c8] at H
            have c8b0 : decide (a1 < (l0.length : Int)) = true := decide_eq_true c8
            clear c8
            by_cases c9 : 0 ≤ x11_1
            · rw [if_pos c9] at H
              have c9b0 : decide (0 ≤ x11_1) = true := decide_eq_true c9
              clear c9
              by_cases c10 : x11_1 < ((rd_L4 l0 a1).length : Int)
              · rw [if_pos c10] at H
                have c10b0 : decide (x11_1 < ((rd_L4 l0 a1).length : Int)) = true := decide_eq_true c10
                clear c10
                by_cases c11 : ((rdOf false (rd_L4 l0 a1) x11_1) != a4) = true
                · rw [if_pos c11] at H
                  have c11b0 : ((rdOf false (rd_L4 l0 a1) x11_1) != a4) = true := c11
                  (try (have c11b1 : decide ((rdOf false (rd_L4 l0 a1) x11_1) = a4) = false := by simpa using c11))
                  (try (have c11b2 : ((rdOf false (rd_L4 l0 a1) x11_1) == a4) = false := by simpa using c11))
                  (try (have c11b3 : ¬ ((rdOf false (rd_L4 l0 a1) x11_1) = a4) := by simpa using c11))
                  clear c11
                  obtain rfl := Option.some.inj H
                  have p191 : 0 ≤ (a1 : Int) := of_decide_eq_true (by first | (with_reducible assumption) | assumption)
                  have q191 : a1 < (l0.length : Int) := of_decide_eq_true (by first | (with_reducible assumption) | assumption)
                  obtain ⟨ad191, A191_0, c191_0, e191, hx191_0, hl191_0, hi191_0⟩ := at_L4 HR0.out a1 p191 q191
                  cases e191
                  have HR191_0 := Aside0.mk hi191_0
                  have HC191_0 := Aside0.mk hl191_0
                  clear hi191_0 hl191_0
                  replace p191 := eq_true p191
                  replace q191 := eq_true q191
                  have p192 : 0 ≤ (x11_1 : Int) := of_decide_eq_true (by first | (with_reducible assumption) | assumption)
                  have q192 : x11_1 < ((rd_L4 l0 a1).length : Int) := of_decide_eq_true (by first | (with_reducible assumption) | assumption)
                  obtain ⟨ad192, e192, hx192_0⟩ := Kd.at_bool HR191_0.out x11_1 p192 q192
                  cases e192
                  replace p192 := eq_true p192
                  replace q192 := eq_true q192
                  go_wp2
                  go_ret
                  exact ⟨by first | rfl | (simp; done) | (simp [*]; done), by repeat (first | exact Drawn0.refl _ | apply Drawn0.step)⟩
                · rw [if_neg c11] at H
                  have c11b0 : ((rdOf false (rd_L4 l0 a1) x11_1) != a4) = false := by simpa using c11
                  (try (have c11b1 : decide ((rdOf false (rd_L4 l0 a1) x11_1) = a4) = true := by simpa using c11))
                  (try (have c11b2 : ((rdOf false (rd_L4 l0 a1) x11_1) == a4) = true := by simpa using c11))
                  clear c11
                  have H' := Aside0.mk H
                  clear H
                  have p191 : 0 ≤ (a1 : Int) := of_decide_eq_true (by first | (with_reducible assumption) | assumption)
                  have q191 : a1 < (l0.length : Int) := of_decide_eq_true (by first | (with_reducible assumption) | assumption)
                  obtain ⟨ad191, A191_0, c191_0, e191, hx191_0, hl191_0, hi191_0⟩ := at_L4 HR0.out a1 p191 q191
                  cases e191
                  have HR191_0 := Aside0.mk hi191_0
                  have HC191_0 := Aside0.mk hl191_0
                  clear hi191_0 hl191_0
                  replace p191 := eq_true p191
                  replace q191 := eq_true q191
                  have p192 : 0 ≤ (x11_1 : Int) := of_decide_eq_true (by first | (with_reducible assumption) | assumption)
                  have q192 : x11_1 < ((rd_L4 l0 a1).length : Int) := of_decide_eq_true (by first | (with_reducible assumption) | assumption)
                  obtain ⟨ad192, e192, hx192_0⟩ := Kd.at_bool HR191_0.out x11_1 p192 q192
                  cases e192
                  replace p192 := eq_true p192
                  replace q192 := eq_true q192
                  go_wp2
                  go_roundg k1
                  case measure => have := HK1.out; omega
                  case rel => exact ⟨(wrap64 (x11_1 + 1)), (by first | rfl | (simp; done) | (simp [*]; done)), H', ⟨by have := HK1.out; omega⟩, by repeat (first | exact Drawn0.refl _ | apply Drawn0.step)⟩
              · rw [if_neg c10] at H
                exact absurd H (by simp)
            · rw [if_neg c9] at H
              exact absurd H (by simp)
          · rw [if_neg c8] at H
            exact absurd H (by simp)
        · rw [if_neg c7] at H
          exact absurd H (by simp)
      · rw [if_neg c6] at H
        have c6b0 : decide (x11_1 < a3) = false := decide_eq_false c6
        clear c6
        obtain rfl := Option.some.inj H
        go_wp2
        go_ret
        exact ⟨by first | rfl | (simp; done) | (simp [*]; done), by repeat (first | exact Drawn0.refl _ | apply Drawn0.step)⟩

/-! ### spec_l1Own: function 140 -/
def spec_l1Own.f (l0 : List Int) : Option (List Int) := (some (([] : List Int) : List Int)).bind fun y193 => (if y193.length + l0.length < 17592186044416 then (some (y193 ++ l0)) else (none))
set_option maxHeartbeats 8000000 in
set_option maxRecDepth 100000 in
theorem spec_l1Own.calls (A0 : Option Addr) (c0 : Nat) (l0 : List Int) (r : List Int) (w : World) (hr0 : Kd.C (Kd.int .i64) w A0 l0.length l0) (hc0 : l0.length ≤ c0) (h : spec_l1Own.f l0 = some r) :
    Calls Try.prog 140 #[.slice A0 l0.length c0] w fun e w' => ∃ v0_ : Value, e = .returned (v0_) ∧ Kd.R (Kd.int .i64) 3 w' w.heap.size (fun _ => True) v0_ r ∧ Below w.heap.size w w' := by
  have HR0 := Aside0.mk hr0
  have HC0 := Aside0.mk hc0
  clear hr0 hc0
  have HB := Aside0.mk (Below.refl w.heap.size w)
  have H : ((some (([] : List Int) : List Int)).bind fun y193 => (if y193.length + l0.length < 17592186044416 then (some (y193 ++ l0)) else (none))) = some r := h
  clear h
  obtain ⟨y193, hy193⟩ : ∃ y_ : List Int, y_ = (([] : List Int)) := ⟨_, rfl⟩
  replace H : (if y193.length + l0.length < 17592186044416 then (some (y193 ++ l0)) else (none)) = some r := by first | (rw [hy193]; with_reducible exact H) | (have H2_ := (Option.bind_some _ _).symm.trans H; rw [hy193]; with_reducible exact H2_) | (have H2_ := (Option.bind_some _ _).symm.trans H; with_reducible exact H2_) | with_reducible exact H | (rw [hy193]; exact H) | exact H
  have Ny193 := Aside0.mk hy193
  clear hy193
  by_cases c2 : y193.length + l0.length < 17592186044416
  · rw [if_pos c2] at H
    have LMc2 := Aside0.mk c2
    clear c2
    obtain ⟨y196, hy196⟩ : ∃ y_ : List Int, y_ = (y193 ++ l0) := ⟨_, rfl⟩
    replace H : (some y196) = some r := by first | (rw [hy196]; with_reducible exact H) | (have H2_ := (Option.bind_some _ _).symm.trans H; rw [hy196]; with_reducible exact H2_) | (have H2_ := (Option.bind_some _ _).symm.trans H; with_reducible exact H2_) | with_reducible exact H | (rw [hy196]; exact H) | exact H
    have Ny196 := Aside0.mk hy196
    clear hy196
    obtain rfl := Option.some.inj H
    go_enter Try.func140, Try.ntmps140
    go_wp2_with (first | ((with_reducible refine gate_dst (N := 3) rfl ?_); refine Kd.R_lit (Kd.int .i64) _ 3 ?hg (N := 3) ?hd (xs := ([] : List Int)) (inner := []) (ok := fun _ => True) (okp := fun _ => True) ?hr ?hp (fun _ hk => hk) trivial (Below.refl _ _) (Nat.le_refl _) (by simp) ?_; (case hd => rfl); (case hg => rfl); (case hr => first | (go_simp; done) | (go_simp; rfl)); (case hp => exact (Reps.none _ _)); intro v194 w3 ho4 hb hg_ hnew_; clear hg_ hnew_; (first | rw [← Ny193.out] at ho4 | (simp only [Int.reduceToNat] at ho4; rw [← Ny193.out] at ho4)); have n0_ := Aside0.mk (Kd.R_lower ho4 (below_size (by repeat (first | (with_reducible first | exact HB.out | apply below_alloc | apply pw_below_drewN | apply below_drew1) | exact HB.out)))); have n1_ := Aside0.mk (below_step (by repeat (first | (with_reducible first | exact HB.out | apply below_alloc | apply pw_below_drewN | apply below_drew1) | exact HB.out)) hb); clear HB; have HO195 := n0_; have HB := n1_; clear n0_ n1_; clear hb ho4) | ((with_reducible refine gate_builtin (b := .append) (xs := #[.tmp 3, .tmp 4]) rfl ?_); at_builtin; refine Kd.R_append_rows (Kd.int .i64) (w0 := w) w.heap.size rfl (.tmp 3) (.tmp 4) 73 3 (.int .i64 0) 8 rfl Try.underlying73 info3 rfl (by decide) (by omega) v194 y193 l0 _ _ _ (fun _ => True) (fun _ => False) rfl rfl ?aO ?aR (fun _ _ h => h) (fun _ h => h.elim) ?aF ?aB ?aS ?aL ?_; (case aR => repeat (first | exact (Kd.C_below HR0.out HB.out) | (with_reducible refine Kd.C_alloc ?_ _) | (with_reducible refine Kd.C_drewN ?_ _) | (with_reducible refine Kd.C_drew ?_))); (case aB => exact (by repeat (first | (with_reducible first | exact HB.out | apply below_alloc | apply pw_below_drewN | apply below_drew1) | exact HB.out))); (case aF => exact (fun _ _ => trivial)); (case aO => exact (by (with_reducible repeat (first | apply Kd.R_alloc | apply Kd.R_drewN | apply Kd.R_drew)); exact HO195.out)); (case aS => exact (below_size (by repeat (first | (with_reducible first | exact HB.out | apply below_alloc | apply pw_below_drewN | apply below_drew1) | exact HB.out)))); (case aL => have := LMc2.out; omega); intro v197 w5 ho hb hg hat; rw [← Ny196.out] at ho; have n0_ := Aside0.mk (hb); have n1_ := Aside0.mk (ho); clear HB; clear HO195; have HB := n0_; have HO198 := n1_; clear n0_ n1_; clear ho hb hg hat))
    go_ret
    exact ⟨_, by first | rfl | (simp [errW_none, errW_some] <;> rfl) | (simp [*, errW_none, errW_some] <;> rfl), by (with_reducible repeat (first | apply Kd.R_alloc | apply Kd.R_drewN | apply Kd.R_drew)); exact HO198.out, by repeat (first | (with_reducible first | exact HB.out | apply below_alloc | apply pw_below_drewN | apply below_drew1) | exact HB.out)⟩
  · rw [if_neg c2] at H
    exact absurd H (by simp)

/-! ### ranges joined: what impl.joinedRanges computes -/
namespace grid
def allB (G : Int → Int → Bool) (op : Bool) (t a b : Int) : Bool := (List.range (b - a).toNat).all fun j => G t (a + (j : Nat)) == op
theorem allB_stop {G : Int → Int → Bool} {op : Bool} {t a b : Int} (h : ¬ a < b) : allB G op t a b = true := by
  unfold allB
  rw [show (b - a).toNat = 0 by omega]
  rfl
theorem allB_step {G : Int → Int → Bool} {op : Bool} {t a b : Int} (h : a < b) : allB G op t a b = ((G t a == op) && allB G op t (a + 1) b) := by
  unfold allB
  rw [show (b - a).toNat = (b - (a + 1)).toNat + 1 by omega, List.range_succ_eq_map, List.all_cons, List.all_map]
  congr 1
  · simp
  · congr 1
    funext j
    show (G t (a + ((j + 1 : Nat) : Int)) == op) = (G t (a + 1 + (j : Int)) == op)
    rw [show a + ((j + 1 : Nat) : Int) = a + 1 + (j : Int) by omega]
def jrY (o : List (List Int)) : List Int := o.getD (o.length - 1) []
def jrJoins (G : Int → Int → Bool) (op : Bool) (fixed each : Int) (y r : List Int) : Prop :=
  rd y 0 = rd r 0 ∧ wrap64 (wrap64 (rd r 1 - rd y 2) * each) < fixed ∧ allB G op (rd r 0) (rd y 2) (rd r 1) = true
instance (G : Int → Int → Bool) (op : Bool) (fixed each : Int) (y r : List Int) : Decidable (jrJoins G op fixed each y r) := by unfold jrJoins; infer_instance
def jrStep (G : Int → Int → Bool) (op : Bool) (fixed each : Int) (o : List (List Int)) (r : List Int) : List (List Int) :=
  if 0 < o.length ∧ jrJoins G op fixed each (jrY o) r then o.set (o.length - 1) ((jrY o).set 2 (rd r 2)) else o ++ [r]
def jr (G : Int → Int → Bool) (op : Bool) (fixed each : Int) (xs : List (List Int)) : List (List Int) := xs.foldl (jrStep G op fixed each) []
def jrOne (fixed each : Int) (c : Int) (r : List Int) : Int := wrap64 (c + wrap64 (fixed + wrap64 (each * wrap64 (rd r 2 - rd r 1))))
def jrCost (fixed each : Int) (o : List (List Int)) : Int := o.foldl (jrOne fixed each) 0
def okR (r : List Int) : Prop := r.length = 3 ∧ 0 ≤ rd r 0 ∧ rd r 0 < 20 ∧ 0 ≤ rd r 1 ∧ rd r 1 ≤ 2000 ∧ 0 ≤ rd r 2 ∧ rd r 2 ≤ 2000
theorem jrStep_ok {G : Int → Int → Bool} {op : Bool} {fixed each : Int} {o : List (List Int)} {r : List Int} (ho : ∀ y ∈ o, okR y) (hr : okR r) : ∀ y ∈ jrStep G op fixed each o r, okR y := by
  intro y hy
  unfold jrStep at hy
  split at hy
  · rename_i h
    rcases List.mem_or_eq_of_mem_set hy with h1 | rfl
    · exact ho y h1
    · have hm : okR (jrY o) := by
        refine ho _ ?_
        unfold jrY
        rw [List.getD_eq_getElem?_getD, List.getElem?_eq_getElem (by omega)]
        exact List.getElem_mem _
      obtain ⟨h1, h2, h3, h4, h5, _, _⟩ := hm
      have hl : (jrY o).length = 3 := h1
      match hq : jrY o, hl with
      | [a, b, c], _ =>
        rw [hq] at h1 h2 h3 h4 h5
        exact ⟨rfl, h2, h3, h4, h5, hr.2.2.2.2.2.1, hr.2.2.2.2.2.2⟩
  · rcases List.mem_append.1 hy with h1 | h1
    · exact ho y h1
    · rw [List.mem_singleton.1 h1]; exact hr
theorem jrStep_len {G : Int → Int → Bool} {op : Bool} {fixed each : Int} {o : List (List Int)} {r : List Int} : (jrStep G op fixed each o r).length ≤ o.length + 1 := by
  unfold jrStep
  split
  · rw [List.length_set]; omega
  · rw [List.length_append, List.length_singleton]; exact Nat.le_refl _
theorem jr_snoc {G : Int → Int → Bool} {op : Bool} {fixed each : Int} (xs : List (List Int)) (r : List Int) : jr G op fixed each (xs ++ [r]) = jrStep G op fixed each (jr G op fixed each xs) r := by
  unfold jr
  rw [List.foldl_append]
  rfl
theorem jr_ok {G : Int → Int → Bool} {op : Bool} {fixed each : Int} (xs : List (List Int)) (h : ∀ x ∈ xs, okR x) : (∀ y ∈ jr G op fixed each xs, okR y) ∧ (jr G op fixed each xs).length ≤ xs.length := by
  unfold jr
  have key : ∀ (xs o : List (List Int)), (∀ x ∈ xs, okR x) → (∀ y ∈ o, okR y) → (∀ y ∈ xs.foldl (jrStep G op fixed each) o, okR y) ∧ (xs.foldl (jrStep G op fixed each) o).length ≤ o.length + xs.length := by
    intro xs
    induction xs with
    | nil => intro o _ ho; exact ⟨ho, Nat.le_refl _⟩
    | cons x xs ih =>
      intro o hx ho
      have := ih (jrStep G op fixed each o x) (fun z hz => hx z (List.mem_cons_of_mem _ hz)) (jrStep_ok ho (hx x List.mem_cons_self))
      refine ⟨this.1, Nat.le_trans this.2 ?_⟩
      have := jrStep_len (G := G) (op := op) (fixed := fixed) (each := each) (o := o) (r := x)
      rw [List.length_cons]
      omega
  have := key xs [] h (fun y hy => absurd hy List.not_mem_nil)
  exact ⟨this.1, by simpa using this.2⟩
end grid
/-! ### spec.rpJoin: function 129 -/
namespace grid
def rjStep (k : Nat) (t : List (List Bool)) (is : Bool) (fixed each : Int) (o : List (List Int)) (x : List Int) : Option (List (List Int)) :=
  if x.length = 3 then
    if 0 < o.length ∧ rd (jrY o) 0 = rd x 0 ∧ wrap64 (wrap64 (rd x 1 - rd (jrY o) 2) * each) < fixed then
      (spec_rpAll.f k t (rd x 0) (rd (jrY o) 2) (rd x 1) is).bind fun q => some (if q = true then o.set (o.length - 1) ((jrY o).set 2 (rd x 2)) else o ++ [x])
    else some (o ++ [x])
  else none
def rjFold (k : Nat) (t : List (List Bool)) (is : Bool) (fixed each : Int) : List (List Int) → List (List Int) → Option (List (List Int))
  | [], o => some o
  | x :: xs, o => (rjStep k t is fixed each o x).bind fun o => rjFold k t is fixed each xs o
theorem rjStep_inv {k : Nat} {t : List (List Bool)} {is : Bool} {fixed each : Int} {o o' : List (List Int)} {x : List Int} (h : rjStep k t is fixed each o x = some o') (ho : ∀ y ∈ o, y.length = 3) : (∀ y ∈ o', y.length = 3) ∧ o'.length ≤ o.length + 1 := by
  have app : x.length = 3 → (∀ y ∈ o ++ [x], y.length = 3) ∧ (o ++ [x]).length ≤ o.length + 1 := fun hx => ⟨fun y hy => by
    rcases List.mem_append.1 hy with h | h
    · exact ho y h
    · rw [List.mem_singleton.1 h]; exact hx, by rw [List.length_append, List.length_singleton]; exact Nat.le_refl _⟩
  unfold rjStep at h
  by_cases hx : x.length = 3
  · rw [if_pos hx] at h
    split at h
    · rename_i hj
      obtain ⟨q, _, h⟩ := Option.bind_eq_some_iff.1 h
      cases h
      split
      · refine ⟨fun y hy => ?_, by rw [List.length_set]; omega⟩
        rcases List.mem_or_eq_of_mem_set hy with h1 | rfl
        · exact ho y h1
        · rw [List.length_set]
          refine ho _ ?_
          unfold jrY
          rw [List.getD_eq_getElem?_getD, List.getElem?_eq_getElem (by omega)]
          exact List.getElem_mem _
      · exact app hx
    · cases h; exact app hx
  · rw [if_neg hx] at h; cases h
theorem atRow {w : World} {A : Option Addr} {n : Nat} {xs : List (List Int)} (h : Kd.C (Kd.slice 3 (Kd.int .i64)) w A n xs) (i : Int) (h0 : 0 ≤ i) (h1 : i < n) : ∃ ad A0 c0, A = some ad ∧ w.cell? (ad.add i.toNat) = some (.slice A0 (xs.getD i.toNat []).length c0) ∧ (xs.getD i.toNat []).length ≤ c0 ∧ (Kd.int .i64).C w A0 (xs.getD i.toNat []).length (xs.getD i.toNat []) := by
  obtain ⟨ad, c, e, _, hK, hc0⟩ := Kd.C_get h ([] : List Int) i h0 h1
  have hc : ∀ j u, c[j]? = some u → w.cell? (ad.add (i.toNat * 1 + j)) = some u := hc0
  obtain ⟨A0, c0, rfl, l0, g0⟩ := hK
  exact ⟨ad, A0, c0, e, by have hq := hc 0 _ rfl; rwa [Nat.mul_one, Nat.add_zero] at hq, l0, g0⟩
end grid
def spec_rpJoin.f (k : Nat) (l0 : List (List Int)) (l1 : List (S117)) (a2 : Bool) (a3 : Int) (a4 : Int) : Option (List (List Int) × Int) :=
  if l0.length ≤ 100000 then (spec_rpOpen.f k l1).bind fun t => (grid.rjFold k t a2 a3 a4 l0 []).bind fun o => some (o, grid.jrCost a3 a4 o) else none
namespace grid
theorem rjStep_mono (k : Nat) (t : List (List Bool)) (is : Bool) (f e : Int) (o : List (List Int)) (x : List Int) : LeO (rjStep k t is f e o x) (rjStep (k + 1) t is f e o x) := by
  unfold rjStep
  exact LeO.ite (LeO.ite (LeO.bind (spec_rpAll.mono _ _ _ _ _ _) (fun _ => LeO.refl _)) (LeO.refl _)) (LeO.none _)
theorem rjFold_mono (k : Nat) (t : List (List Bool)) (is : Bool) (f e : Int) : ∀ xs o, LeO (rjFold k t is f e xs o) (rjFold (k + 1) t is f e xs o)
  | [], _ => LeO.refl _
  | _ :: xs, _ => LeO.bind (rjStep_mono k t is f e _ _) (fun _ => rjFold_mono k t is f e xs _)
end grid
theorem spec_rpJoin.mono : ∀ a0 a1 a2 a3 a4 k, LeO (spec_rpJoin.f k a0 a1 a2 a3 a4) (spec_rpJoin.f (k + 1) a0 a1 a2 a3 a4) := by
  intro a0 a1 a2 a3 a4 k
  unfold spec_rpJoin.f
  exact LeO.ite (LeO.bind (spec_rpOpen.mono _ _) (fun _ => LeO.bind (grid.rjFold_mono _ _ _ _ _ _ _) (fun _ => LeO.refl _))) (LeO.none _)
open grid in
set_option maxHeartbeats 16000000 in
set_option maxRecDepth 100000 in
theorem spec_rpJoin.calls (k : Nat) (A0 : Option Addr) (c0 : Nat) (l0 : List (List Int)) (A1 : Option Addr) (c1 : Nat) (l1 : List (S117)) (a2 : Bool) (a3 : Int) (a4 : Int) (r1 : List (List Int)) (r2 : Int) (w : World) (hr0 : Kd.C (Kd.slice 3 (Kd.int .i64)) w A0 l0.length l0) (hc0 : l0.length ≤ c0) (hr1 : Kd.C k117 w A1 l1.length l1) (hc1 : l1.length ≤ c1) (h : spec_rpJoin.f k l0 l1 a2 a3 a4 = some (r1, r2)) :
    Calls Try.prog 129 #[.slice A0 l0.length c0, .slice A1 l1.length c1, .bool a2, .int .i64 a3, .int .i64 a4] w fun e w' => ∃ v0_ : Value, e = .returned (.tuple #[v0_, .int .i64 r2]) ∧ Kd.S (Kd.slice 3 (Kd.int .i64)) 73 w' w.heap.size (fun _ => True) v0_ r1 ∧ Below w.heap.size w w' := by
  unfold spec_rpJoin.f at h
  by_cases hl : l0.length ≤ 100000
  · rw [if_pos hl] at h
    obtain ⟨t, ht, h⟩ := Option.bind_eq_some_iff.1 h
    obtain ⟨res, hres, h⟩ := Option.bind_eq_some_iff.1 h
    obtain ⟨rfl, rfl⟩ : res = r1 ∧ grid.jrCost a3 a4 res = r2 := by cases h; exact ⟨rfl, rfl⟩
    clear h
    have HR0 := Aside0.mk hr0
    have HR1 := Aside0.mk hr1
    have HC1 := Aside0.mk hc1
    have HL := Aside0.mk hl
    have HT := Aside0.mk ht
    have HF := Aside0.mk hres
    clear hr0 hr1 hc0 hc1 hl ht hres
    go_enter Try.func129, Try.ntmps129
    go_wp2_with (first | ((with_reducible refine gate_callee (f := 101) rfl ?_); refine goesL_ (some 22) rfl rfl Try.func101 (by kernel_rfl) rfl #[.slice A1 l1.length c1] rfl (by (try simp only [List.map_toArray, List.map_cons, List.map_nil]); first | done | rfl) ?_; (with_reducible refine (spec_rpOpen.calls k _ _ l1 t _ ?side1 ?side2 HT.out).mono ?_); (case side1 => exact HR1.out); (case side2 => exact HC1.out); rintro e w1 ⟨vt, rfl, ho0, hb⟩; refine ⟨_, rfl, ?_⟩; have HTS := Aside0.mk ho0; have HBW := Aside0.mk hb; clear ho0 hb))
    obtain ⟨At, ct, et, htl, htc⟩ := Kd.S_reads HTS.out
    subst et
    have HTC := Aside0.mk htc
    have HTL := Aside0.mk htl
    have HX := Aside0.mk (Kd.C_below HR0.out HBW.out)
    have HB := Aside0.mk (Below.refl w1.heap.size w1)
    clear htc htl HR0 HR1 HC1 HTS
    have HO := Aside0.mk (show Kd.S (Kd.slice 3 (Kd.int .i64)) 73 w1 w1.heap.size (fun _ => True) (.slice none 0 0) ([] : List (List Int)) from Kd.S_nil _ _ _ _ _)
    go_loopw [13, 25] (fun v13 v25 wr => ∃ (i : Int) (o : List (List Int)), Aside0 (0 ≤ i ∧ i ≤ l0.length) ∧ v25 = .int .i64 i ∧ Aside0 (rjFold k t a2 a3 a4 (l0.drop i.toNat) o = some res) ∧ Aside0 (∀ y ∈ o, y.length = 3) ∧ Aside0 (o.length ≤ i.toNat) ∧ Aside0 (Kd.S (Kd.slice 3 (Kd.int .i64)) 73 wr w1.heap.size (fun _ => True) v13 o) ∧ Aside0 (Below w1.heap.size w1 wr)) (fun _ v25 _ => ((l0.length : Int) - intOf v25).toNat)
    case atStart => exact ⟨0, [], ⟨by omega⟩, rfl, ⟨by simpa using HF.out⟩, ⟨by simp⟩, ⟨Nat.zero_le _⟩, HO, HB⟩
    case round =>
      clear HO HB HF
      obtain ⟨i, o, HI, rfl, HF, HO3, HOI, HO, HB⟩ := hrel
      obtain ⟨Ao, co, eo⟩ := Kd.S_slice HO.out
      subst eo
      by_cases q : i < (l0.length : Int)
      · have p : 0 ≤ i := HI.out.1
        have hlt : i.toNat < l0.length := by omega
        have HIL := Aside0.mk (show 0 ≤ i ∧ i < l0.length from ⟨p, q⟩)
        have HOL := Aside0.mk (show o.length ≤ 100000 from by have := HOI.out; have := HL.out; omega)
        obtain ⟨ad, Ax, cx, eA, hxc, hxl, hxr⟩ := atRow (Kd.C_below HX.out HB.out) i p q
        subst eA
        have hf := HF.out
        rw [List.drop_eq_getElem_cons hlt] at hf
        have ex : l0[i.toNat] = l0.getD i.toNat [] := by rw [List.getD_eq_getElem?_getD, List.getElem?_eq_getElem hlt]; rfl
        rw [ex] at hf
        obtain ⟨x, hx⟩ : ∃ x, x = l0.getD i.toNat [] := ⟨_, rfl⟩
        rw [← hx] at hf hxc hxl hxr
        clear ex hx
        obtain ⟨o', hst, hf⟩ := Option.bind_eq_some_iff.1 (show (rjStep k t a2 a3 a4 o x).bind (fun o => rjFold k t a2 a3 a4 (l0.drop (i.toNat + 1)) o) = some res from hf)
        have HF' := Aside0.mk (show rjFold k t a2 a3 a4 (l0.drop (i + 1).toNat) o' = some res from by rw [show (i + 1).toNat = i.toNat + 1 by omega]; exact hf)
        have hinv := rjStep_inv hst HO3.out
        have HO3' := Aside0.mk hinv.1
        have HOI' := Aside0.mk (show o'.length ≤ (i + 1).toNat from by have := hinv.2; have := HOI.out; omega)
        have hx3 : x.length = 3 := by
          by_cases h3 : x.length = 3
          · exact h3
          · unfold rjStep at hst; rw [if_neg h3] at hst; cases hst
        have hst : (if 0 < o.length ∧ rd (jrY o) 0 = rd x 0 ∧ wrap64 (wrap64 (rd x 1 - rd (jrY o) 2) * a4) < a3 then (spec_rpAll.f k t (rd x 0) (rd (jrY o) 2) (rd x 1) a2).bind (fun q => some (if q = true then o.set (o.length - 1) ((jrY o).set 2 (rd x 2)) else o ++ [x])) else some (o ++ [x])) = some o' := by unfold rjStep at hst; rw [if_pos hx3] at hst; exact hst
        have HOWN := Aside0.mk (show spec_l1Own.f x = some x from by unfold spec_l1Own.f; simp [hx3])
        rw [hx3] at hxc hxl hxr
        obtain ⟨xd, exd, hxr0⟩ := Kd.at_int hxr 0 (by omega) (by omega)
        obtain ⟨xd1, exd1, hxr1⟩ := Kd.at_int hxr 1 (by omega) (by omega)
        obtain ⟨xd2, exd2, hxr2⟩ := Kd.at_int hxr 2 (by omega) (by omega)
        cases exd
        cases exd1
        cases exd2
        have HOC := Aside0.mk (show ∀ W : World, Kd.C (Kd.int .i64) W (some xd) 3 x → Calls Try.prog 140 #[.slice (some xd) 3 cx] W fun e w' => ∃ v0_ : Value, e = .returned (v0_) ∧ Kd.R (Kd.int .i64) 3 w' W.heap.size (fun _ => True) v0_ x ∧ Below W.heap.size W w' from fun W hW => by
          have h1 := spec_l1Own.calls (some xd) cx x x W (by rw [hx3]; exact hW) (by rw [hx3]; exact hxl) HOWN.out
          rw [hx3] at h1
          exact h1)
        rw [show ((0 : Int)).toNat = 0 from rfl, Addr.add_zero'] at hxr0
        simp only [show (1 : Int).toNat = 1 from rfl, Nat.reduceMul, Nat.reduceEqDiff, Go.Addr.add, ↓reduceIte] at hxr1
        simp only [show (2 : Int).toNat = 2 from rfl, Nat.reduceMul, Nat.reduceEqDiff, Go.Addr.add, ↓reduceIte] at hxr2
        have HXR := Aside0.mk hxr
        have HTW := Aside0.mk (Kd.C_below HTC.out HB.out)
        clear hinv hf hlt hxr hxl hx3
        have qb : decide (i < (l0.length : Int)) = true := decide_eq_true q
        replace p := eq_true p
        replace q := eq_true q
        by_cases ho0 : o.length = 0
        · have hg1 : decide (0 < o.length) = false := decide_eq_false (by omega)
          rw [if_neg (fun h => by omega)] at hst
          cases hst
          clear ho0
          iterate 2 ((try go_quiet (fail)); (try go_wp2_with (first | ((with_reducible refine gate_callee (f := 140) rfl ?_); refine goesL_ (some 79) rfl rfl Try.func140 (by kernel_rfl) rfl #[.slice (some xd) 3 cx] rfl (by (try simp only [List.map_toArray, List.map_cons, List.map_nil]); first | done | rfl) ?_; (with_reducible refine (HOC.out _ ?side1).mono ?_); (case side1 => repeat (first | exact HXR.out | (with_reducible refine Kd.C_alloc ?_ _) | (with_reducible refine Kd.C_drewN ?_ _) | (with_reducible refine Kd.C_drew ?_))); rintro e w6 ⟨v6, rfl, hr6, hb6⟩; obtain ⟨A6, c6, e6⟩ := Kd.R_slice hr6; subst e6; refine ⟨_, rfl, ?_⟩; have HR6 := Aside0.mk (show Kd.R (Kd.int .i64) 3 w6 wr.heap.size (fun _ => True) (.slice A6 x.length c6) x from hr6); have HO6 := Aside0.mk (show Kd.S (Kd.slice 3 (Kd.int .i64)) 73 w6 w1.heap.size (fun k => True ∧ ¬ (wr.heap.size ≤ k)) (.slice Ao o.length co) o from Kd.S_below (Kd.S_mono (Kd.S_bound HO.out) (fun k hk => ⟨trivial, fun h => by have := hk.2.2.1; omega⟩)) (show Below wr.heap.size wr w6 from below_step (by repeat (first | exact Below.refl _ _ | apply below_alloc | apply pw_below_drewN | apply below_drew1)) hb6)); have HB6 := Aside0.mk (show Below w1.heap.size w1 w6 from below_step (by repeat (first | exact HB.out | apply below_alloc | apply pw_below_drewN | apply below_drew1)) hb6); clear hr6 hb6) | ((with_reducible refine gate_builtin (b := .append) (xs := #[.tmp 77, .tmp 80]) rfl ?_); at_builtin; refine Kd.S_append (Kd.slice 3 (Kd.int .i64)) (w0 := w1) w1.heap.size rfl (.tmp 77) (.tmp 80) 61 73 (.slice none 0 0) 24 rfl Try.underlying61 info73 rfl (by decide) (by omega) (.slice Ao o.length co) o x [.slice A6 x.length c6] (fun _ => True) (fun k => wr.heap.size ≤ k) rfl rfl ?aP ?aK ?aF ?aO ?aB ?aS ?aL ?_; (case aF => exact fun _ _ => trivial); (case aO => exact HO6.out); (case aB => exact HB6.out); (case aS => exact below_size HB6.out); (case aP => exact Kd.M_row (Kd.R_lower (Kd.R_mono (Kd.R_bound HR6.out) (fun k hk => hk.2.1)) (below_size HB.out))); (case aK => exact fun k hk => ⟨trivial, fun e => ((Kd.S_R HO6.out).1 k e.symm).2 hk⟩); (case aL => have := HOL.out; omega); intro v7 w7 ho hb hg_ hat; have HO7 := Aside0.mk ho; have HB7 := Aside0.mk hb; clear ho hb hg_ hat))))
          go_roundw
          case rel => exact ⟨i + 1, o ++ [x], ⟨by have := HIL.out; omega⟩, (by first | rfl | (congr 1; have := HIL.out; have := HL.out; unfold wrap64; omega)), HF', HO3', HOI', HO7, HB7⟩
          case measure => have h1 := HIL.out; have h2 := HL.out; have hw : wrap64 (i + 1) = i + 1 := (by unfold wrap64; omega); simp [intOf, hw]; omega
        · have hL : wrap64 ((o.length : Int) - 1) = (o.length : Int) - 1 := by have := HOL.out; unfold wrap64; omega
          obtain ⟨go, co', eo, _⟩ := Kd.S_form HO.out (by omega)
          cases eo
          have p1 : 0 ≤ wrap64 ((o.length : Int) - 1) := by omega
          have q1 : wrap64 ((o.length : Int) - 1) < (o.length : Int) := by omega
          obtain ⟨oki, c, hcl, hM, hcc, hoki, hback⟩ := Kd.S_borrow HO.out [] (wrap64 ((o.length : Int) - 1)) p1 q1
          have hy : o.getD (wrap64 ((o.length : Int) - 1)).toNat [] = jrY o := by unfold jrY; congr 1; omega
          rw [hy] at hM
          have hyl : (jrY o).length = 3 := HO3.out _ (by
            unfold jrY
            rw [List.getD_eq_getElem?_getD, List.getElem?_eq_getElem (by omega)]
            exact List.getElem_mem _)
          obtain ⟨hv', ec, hrowy⟩ := hM
          have hcy := hcc 0 hv' (by rw [ec]; rfl)
          rw [add_plain, show (wrap64 ((o.length : Int) - 1)).toNat * (Kd.slice 3 (Kd.int .i64)).sz + 0 = (wrap64 ((o.length : Int) - 1)).toNat from by rw [show (Kd.slice 3 (Kd.int .i64)).sz = 1 from rfl]; omega] at hcy
          obtain ⟨gy, cy, ey, gyb, gyl, cyl⟩ := Kd.R_form hrowy (by omega)
          subst ey
          rw [hyl] at hrowy hcy ec
          have hy0 : wr.cell? ⟨gy, 0, none⟩ = some (.int .i64 (rd (jrY o) 0)) := (Kd.R_celln 0 hrowy 0 (by omega) (by omega)).1
          have hy1 : wr.cell? ⟨gy, 1, none⟩ = some (.int .i64 (rd (jrY o) 1)) := (Kd.R_celln 0 hrowy 1 (by omega) (by omega)).1
          have hy2 : wr.cell? ⟨gy, 2, none⟩ = some (.int .i64 (rd (jrY o) 2)) := (Kd.R_celln 0 hrowy 2 (by omega) (by omega)).1
          have hyf : wr.frozen? ⟨gy, 2, none⟩ = false := (Kd.R_celln 0 hrowy 2 (by omega) (by omega)).2
          have HYY := Aside0.mk hrowy
          have HGY := Aside0.mk gyb
          have HBK := Aside0.mk @hback
          have HLL := Aside0.mk (show (wrap64 ((o.length : Int) - 1)).toNat = o.length - 1 from by omega)
          have HGI := Aside0.mk (show oki gy from hrowy.1 gy (by simp [Value.ownBlock]))
          have HEC := Aside0.mk ec
          have hop : 0 < o.length := by omega
          have hg1 : decide (0 < o.length) = true := decide_eq_true hop
          replace p1 := eq_true p1
          replace q1 := eq_true q1
          clear ho0 hL hcl hcc hoki hback hy hyl hrowy gyb gyl cyl ec
          by_cases hc1 : rd (jrY o) 0 = rd x 0
          · have hd1 : decide (rd (jrY o) 0 = rd x 0) = true := decide_eq_true hc1
            have hd1' : (rd (jrY o) 0 == rd x 0) = true := beq_iff_eq.2 hc1
            by_cases hc2 : wrap64 (wrap64 (rd x 1 - rd (jrY o) 2) * a4) < a3
            · have hd2 : decide (wrap64 (wrap64 (rd x 1 - rd (jrY o) 2) * a4) < a3) = true := decide_eq_true hc2
              rw [if_pos ⟨hop, hc1, hc2⟩] at hst
              obtain ⟨qv, hal, hst⟩ := Option.bind_eq_some_iff.1 hst
              have HAL := Aside0.mk hal
              clear hc1 hc2 hal hop
              cases qv with
              | false =>
                cases hst
                iterate 2 ((try go_quiet (first | (go_at_call 102; (with_reducible refine (spec_rpAll.calls k _ _ t (rd x 0) (rd (jrY o) 2) (rd x 1) a2 false _ ?s1 ?s2 HAL.out).mono ?_); (case s1 => repeat (first | exact HTW.out | (with_reducible refine Kd.C_alloc ?_ _) | (with_reducible refine Kd.C_drewN ?_ _) | (with_reducible refine Kd.C_drew ?_))); (case s2 => exact HTL.out); rintro e w' ⟨rfl, ⟨nd, rfl⟩⟩; exact ⟨rfl, _, World.drewN_drewN _ _ _⟩))); (try go_wp2_with (first | ((with_reducible refine gate_callee (f := 140) rfl ?_); refine goesL_ (some 79) rfl rfl Try.func140 (by kernel_rfl) rfl #[.slice (some xd) 3 cx] rfl (by (try simp only [List.map_toArray, List.map_cons, List.map_nil]); first | done | rfl) ?_; (with_reducible refine (HOC.out _ ?side1).mono ?_); (case side1 => repeat (first | exact HXR.out | (with_reducible refine Kd.C_alloc ?_ _) | (with_reducible refine Kd.C_drewN ?_ _) | (with_reducible refine Kd.C_drew ?_))); rintro e w6 ⟨v6, rfl, hr6, hb6⟩; obtain ⟨A6, c6, e6⟩ := Kd.R_slice hr6; subst e6; refine ⟨_, rfl, ?_⟩; have HR6 := Aside0.mk (show Kd.R (Kd.int .i64) 3 w6 wr.heap.size (fun _ => True) (.slice A6 x.length c6) x from hr6); have HO6 := Aside0.mk (show Kd.S (Kd.slice 3 (Kd.int .i64)) 73 w6 w1.heap.size (fun k => True ∧ ¬ (wr.heap.size ≤ k)) (.slice (some ⟨go, 0, none⟩) o.length co) o from Kd.S_below (Kd.S_mono (Kd.S_bound HO.out) (fun k hk => ⟨trivial, fun h => by have := hk.2.2.1; omega⟩)) (show Below wr.heap.size wr w6 from below_step (by repeat (first | exact Below.refl _ _ | apply below_alloc | apply pw_below_drewN | apply below_drew1)) hb6)); have HB6 := Aside0.mk (show Below w1.heap.size w1 w6 from below_step (by repeat (first | exact HB.out | apply below_alloc | apply pw_below_drewN | apply below_drew1)) hb6); clear hr6 hb6) | ((with_reducible refine gate_builtin (b := .append) (xs := #[.tmp 77, .tmp 80]) rfl ?_); at_builtin; refine Kd.S_append (Kd.slice 3 (Kd.int .i64)) (w0 := w1) w1.heap.size rfl (.tmp 77) (.tmp 80) 61 73 (.slice none 0 0) 24 rfl Try.underlying61 info73 rfl (by decide) (by omega) (.slice (some ⟨go, 0, none⟩) o.length co) o x [.slice A6 x.length c6] (fun _ => True) (fun k => wr.heap.size ≤ k) rfl rfl ?aP ?aK ?aF ?aO ?aB ?aS ?aL ?_; (case aF => exact fun _ _ => trivial); (case aO => exact HO6.out); (case aB => exact HB6.out); (case aS => exact below_size HB6.out); (case aP => exact Kd.M_row (Kd.R_lower (Kd.R_mono (Kd.R_bound HR6.out) (fun k hk => hk.2.1)) (below_size HB.out))); (case aK => exact fun k hk => ⟨trivial, fun e => ((Kd.S_R HO6.out).1 k e.symm).2 hk⟩); (case aL => have := HOL.out; omega); intro v7 w7 ho hb hg_ hat; have HO7 := Aside0.mk ho; have HB7 := Aside0.mk hb; clear ho hb hg_ hat))))
                go_roundw
                case rel => exact ⟨i + 1, o ++ [x], ⟨by have := HIL.out; omega⟩, (by first | rfl | (congr 1; have := HIL.out; have := HL.out; unfold wrap64; omega)), HF', HO3', HOI', HO7, HB7⟩
                case measure => have h1 := HIL.out; have h2 := HL.out; have hw : wrap64 (i + 1) = i + 1 := (by unfold wrap64; omega); simp [intOf, hw]; omega
              | true =>
                cases hst
                go_wp2
                go_quiet (first | (go_at_call 102; (with_reducible refine (spec_rpAll.calls k _ _ t (rd x 0) (rd (jrY o) 2) (rd x 1) a2 true _ ?s1 ?s2 HAL.out).mono ?_); (case s1 => repeat (first | exact HTW.out | (with_reducible refine Kd.C_alloc ?_ _) | (with_reducible refine Kd.C_drewN ?_ _) | (with_reducible refine Kd.C_drew ?_))); (case s2 => exact HTL.out); rintro e w' ⟨rfl, ⟨nd, rfl⟩⟩; exact ⟨rfl, _, World.drewN_drewN _ _ _⟩))
                go_wp2
                have HPU := Aside0.mk (Kd.R_putg (Kd.R_drewN HYY.out (nq)) 2 (rd x 2))
                have HGW := Aside0.mk (show wr.grownBy ((wr.drewN (nq)).setCell ⟨gy, 2, none⟩ (.int .i64 (rd x 2))) (some gy) from ⟨HPU.out.2.os, HPU.out.2.tape, HPU.out.2.output, HPU.out.2.size, HPU.out.2.block⟩)
                have HO2 := Aside0.mk (HBK.out (w1 := ((wr.drewN (nq)).setCell ⟨gy, 2, none⟩ (.int .i64 (rd x 2)))) HGW.out (fun k hk => by cases hk; exact HGI.out) (x' := (jrY o).set 2 (rd x 2)) ⟨_, HEC.out, HPU.out.1⟩)
                have HB2 := Aside0.mk (show Below w1.heap.size w1 ((wr.drewN (nq)).setCell ⟨gy, 2, none⟩ (.int .i64 (rd x 2))) from below_set (pw_below_drewN HB.out (nq)) HGY.out)
                rw [HLL.out] at HO2
                clear HPU HGW
                go_roundw
                case rel => exact ⟨i + 1, o.set (o.length - 1) ((jrY o).set 2 (rd x 2)), ⟨by have := HIL.out; omega⟩, (by first | rfl | (congr 1; have := HIL.out; have := HL.out; unfold wrap64; omega)), HF', HO3', HOI', HO2, HB2⟩
                case measure => have h1 := HIL.out; have h2 := HL.out; have hw : wrap64 (i + 1) = i + 1 := (by unfold wrap64; omega); simp [intOf, hw]; omega
            · have hd2 : decide (wrap64 (wrap64 (rd x 1 - rd (jrY o) 2) * a4) < a3) = false := decide_eq_false hc2
              rw [if_neg (fun h => hc2 h.2.2)] at hst
              cases hst
              clear hc1 hc2 hop
              iterate 2 ((try go_quiet (fail)); (try go_wp2_with (first | ((with_reducible refine gate_callee (f := 140) rfl ?_); refine goesL_ (some 79) rfl rfl Try.func140 (by kernel_rfl) rfl #[.slice (some xd) 3 cx] rfl (by (try simp only [List.map_toArray, List.map_cons, List.map_nil]); first | done | rfl) ?_; (with_reducible refine (HOC.out _ ?side1).mono ?_); (case side1 => repeat (first | exact HXR.out | (with_reducible refine Kd.C_alloc ?_ _) | (with_reducible refine Kd.C_drewN ?_ _) | (with_reducible refine Kd.C_drew ?_))); rintro e w6 ⟨v6, rfl, hr6, hb6⟩; obtain ⟨A6, c6, e6⟩ := Kd.R_slice hr6; subst e6; refine ⟨_, rfl, ?_⟩; have HR6 := Aside0.mk (show Kd.R (Kd.int .i64) 3 w6 wr.heap.size (fun _ => True) (.slice A6 x.length c6) x from hr6); have HO6 := Aside0.mk (show Kd.S (Kd.slice 3 (Kd.int .i64)) 73 w6 w1.heap.size (fun k => True ∧ ¬ (wr.heap.size ≤ k)) (.slice (some ⟨go, 0, none⟩) o.length co) o from Kd.S_below (Kd.S_mono (Kd.S_bound HO.out) (fun k hk => ⟨trivial, fun h => by have := hk.2.2.1; omega⟩)) (show Below wr.heap.size wr w6 from below_step (by repeat (first | exact Below.refl _ _ | apply below_alloc | apply pw_below_drewN | apply below_drew1)) hb6)); have HB6 := Aside0.mk (show Below w1.heap.size w1 w6 from below_step (by repeat (first | exact HB.out | apply below_alloc | apply pw_below_drewN | apply below_drew1)) hb6); clear hr6 hb6) | ((with_reducible refine gate_builtin (b := .append) (xs := #[.tmp 77, .tmp 80]) rfl ?_); at_builtin; refine Kd.S_append (Kd.slice 3 (Kd.int .i64)) (w0 := w1) w1.heap.size rfl (.tmp 77) (.tmp 80) 61 73 (.slice none 0 0) 24 rfl Try.underlying61 info73 rfl (by decide) (by omega) (.slice (some ⟨go, 0, none⟩) o.length co) o x [.slice A6 x.length c6] (fun _ => True) (fun k => wr.heap.size ≤ k) rfl rfl ?aP ?aK ?aF ?aO ?aB ?aS ?aL ?_; (case aF => exact fun _ _ => trivial); (case aO => exact HO6.out); (case aB => exact HB6.out); (case aS => exact below_size HB6.out); (case aP => exact Kd.M_row (Kd.R_lower (Kd.R_mono (Kd.R_bound HR6.out) (fun k hk => hk.2.1)) (below_size HB.out))); (case aK => exact fun k hk => ⟨trivial, fun e => ((Kd.S_R HO6.out).1 k e.symm).2 hk⟩); (case aL => have := HOL.out; omega); intro v7 w7 ho hb hg_ hat; have HO7 := Aside0.mk ho; have HB7 := Aside0.mk hb; clear ho hb hg_ hat))))
              go_roundw
              case rel => exact ⟨i + 1, o ++ [x], ⟨by have := HIL.out; omega⟩, (by first | rfl | (congr 1; have := HIL.out; have := HL.out; unfold wrap64; omega)), HF', HO3', HOI', HO7, HB7⟩
              case measure => have h1 := HIL.out; have h2 := HL.out; have hw : wrap64 (i + 1) = i + 1 := (by unfold wrap64; omega); simp [intOf, hw]; omega
          · have hd1 : decide (rd (jrY o) 0 = rd x 0) = false := decide_eq_false hc1
            have hd1' : (rd (jrY o) 0 == rd x 0) = false := beq_eq_false_iff_ne.2 hc1
            rw [if_neg (fun h => hc1 h.2.1)] at hst
            cases hst
            clear hc1 hop
            iterate 2 ((try go_quiet (fail)); (try go_wp2_with (first | ((with_reducible refine gate_callee (f := 140) rfl ?_); refine goesL_ (some 79) rfl rfl Try.func140 (by kernel_rfl) rfl #[.slice (some xd) 3 cx] rfl (by (try simp only [List.map_toArray, List.map_cons, List.map_nil]); first | done | rfl) ?_; (with_reducible refine (HOC.out _ ?side1).mono ?_); (case side1 => repeat (first | exact HXR.out | (with_reducible refine Kd.C_alloc ?_ _) | (with_reducible refine Kd.C_drewN ?_ _) | (with_reducible refine Kd.C_drew ?_))); rintro e w6 ⟨v6, rfl, hr6, hb6⟩; obtain ⟨A6, c6, e6⟩ := Kd.R_slice hr6; subst e6; refine ⟨_, rfl, ?_⟩; have HR6 := Aside0.mk (show Kd.R (Kd.int .i64) 3 w6 wr.heap.size (fun _ => True) (.slice A6 x.length c6) x from hr6); have HO6 := Aside0.mk (show Kd.S (Kd.slice 3 (Kd.int .i64)) 73 w6 w1.heap.size (fun k => True ∧ ¬ (wr.heap.size ≤ k)) (.slice (some ⟨go, 0, none⟩) o.length co) o from Kd.S_below (Kd.S_mono (Kd.S_bound HO.out) (fun k hk => ⟨trivial, fun h => by have := hk.2.2.1; omega⟩)) (show Below wr.heap.size wr w6 from below_step (by repeat (first | exact Below.refl _ _ | apply below_alloc | apply pw_below_drewN | apply below_drew1)) hb6)); have HB6 := Aside0.mk (show Below w1.heap.size w1 w6 from below_step (by repeat (first | exact HB.out | apply below_alloc | apply pw_below_drewN | apply below_drew1)) hb6); clear hr6 hb6) | ((with_reducible refine gate_builtin (b := .append) (xs := #[.tmp 77, .tmp 80]) rfl ?_); at_builtin; refine Kd.S_append (Kd.slice 3 (Kd.int .i64)) (w0 := w1) w1.heap.size rfl (.tmp 77) (.tmp 80) 61 73 (.slice none 0 0) 24 rfl Try.underlying61 info73 rfl (by decide) (by omega) (.slice (some ⟨go, 0, none⟩) o.length co) o x [.slice A6 x.length c6] (fun _ => True) (fun k => wr.heap.size ≤ k) rfl rfl ?aP ?aK ?aF ?aO ?aB ?aS ?aL ?_; (case aF => exact fun _ _ => trivial); (case aO => exact HO6.out); (case aB => exact HB6.out); (case aS => exact below_size HB6.out); (case aP => exact Kd.M_row (Kd.R_lower (Kd.R_mono (Kd.R_bound HR6.out) (fun k hk => hk.2.1)) (below_size HB.out))); (case aK => exact fun k hk => ⟨trivial, fun e => ((Kd.S_R HO6.out).1 k e.symm).2 hk⟩); (case aL => have := HOL.out; omega); intro v7 w7 ho hb hg_ hat; have HO7 := Aside0.mk ho; have HB7 := Aside0.mk hb; clear ho hb hg_ hat))))
            go_roundw
            case rel => exact ⟨i + 1, o ++ [x], ⟨by have := HIL.out; omega⟩, (by first | rfl | (congr 1; have := HIL.out; have := HL.out; unfold wrap64; omega)), HF', HO3', HOI', HO7, HB7⟩
            case measure => have h1 := HIL.out; have h2 := HL.out; have hw : wrap64 (i + 1) = i + 1 := (by unfold wrap64; omega); simp [intOf, hw]; omega
      · have qb : decide (i < (l0.length : Int)) = false := decide_eq_false q
        have hJ : o = res := by
          have h1 := HI.out
          have h2 := HF.out
          rw [List.drop_eq_nil_of_le (by omega)] at h2
          exact Option.some.inj h2
        have HOL := Aside0.mk (show o.length ≤ 100000 from by have := HOI.out; have := HL.out; have := HI.out; omega)
        subst hJ
        clear q HF HX HI HOI
        go_wp2
        go_loopw [18, 85] (fun v18 v85 wq => ∃ m c : Int, Aside0 (0 ≤ m ∧ m ≤ o.length) ∧ v18 = .int .i64 c ∧ v85 = .int .i64 m ∧ Aside0 (c = jrCost a3 a4 (o.take m.toNat)) ∧ Aside0 (Kd.S (Kd.slice 3 (Kd.int .i64)) 73 wq w1.heap.size (fun _ => True) (.slice Ao o.length co) o) ∧ Aside0 (Below w1.heap.size w1 wq)) (fun _ v85 _ => ((o.length : Int) - intOf v85).toNat)
        case atStart => exact ⟨0, 0, ⟨by omega⟩, rfl, rfl, ⟨rfl⟩, HO, HB⟩
        case round =>
          clear HO HB
          obtain ⟨m, c, HM, rfl, rfl, HC, HO, HB⟩ := hrel
          by_cases q : m < (o.length : Int)
          · have p : 0 ≤ m := HM.out.1
            have HML := Aside0.mk (show 0 ≤ m ∧ m < o.length from ⟨p, q⟩)
            have hlt : m.toNat < o.length := by omega
            obtain ⟨go, co', eo, _⟩ := Kd.S_form HO.out (by omega)
            cases eo
            obtain ⟨oki, c1, hcl, hM, hcc, hoki, hback⟩ := Kd.S_borrow HO.out [] m p q
            have hy : o[m.toNat]? = some (o.getD m.toNat []) := by rw [List.getD_eq_getElem?_getD, List.getElem?_eq_getElem hlt]; rfl
            obtain ⟨y, ey⟩ : ∃ y, y = o.getD m.toNat [] := ⟨_, rfl⟩
            rw [← ey] at hM hy
            have HY := Aside0.mk hy
            have hyl := HO3.out y (List.mem_of_getElem? hy)
            obtain ⟨hv', ec, hrowy⟩ := hM
            have hcy := hcc 0 hv' (by rw [ec]; rfl)
            rw [add_plain, show m.toNat * (Kd.slice 3 (Kd.int .i64)).sz + 0 = m.toNat from by rw [show (Kd.slice 3 (Kd.int .i64)).sz = 1 from rfl]; omega] at hcy
            obtain ⟨gy, cy, ey', gyb, gyl, cyl⟩ := Kd.R_form hrowy (by omega)
            subst ey'
            rw [hyl] at hrowy hcy
            have hy1 : wr.cell? ⟨gy, 1, none⟩ = some (.int .i64 (rd y 1)) := (Kd.R_celln 0 hrowy 1 (by omega) (by omega)).1
            have hy2 : wr.cell? ⟨gy, 2, none⟩ = some (.int .i64 (rd y 2)) := (Kd.R_celln 0 hrowy 2 (by omega) (by omega)).1
            have qb : decide (m < (o.length : Int)) = true := decide_eq_true q
            replace p := eq_true p
            replace q := eq_true q
            clear hcl hcc hoki hback hy hyl hrowy gyb gyl cyl ec hlt ey
            go_wp2
            go_quiet (fail)
            go_wp2
            go_roundw
            case rel => exact ⟨m + 1, jrOne a3 a4 c y, ⟨by have := HML.out; omega⟩, rfl, (by first | rfl | (congr 1; have := HML.out; have := HOL.out; unfold wrap64; omega)), ⟨by have h0 := HML.out.1; rw [show (m + 1).toNat = m.toNat + 1 by omega, List.take_add_one, HY.out]; show _ = jrCost a3 a4 (o.take m.toNat ++ [y]); unfold jrCost; rw [List.foldl_append]; show _ = jrOne a3 a4 (jrCost a3 a4 (o.take m.toNat)) y; rw [← HC.out]⟩, ⟨by first | exact HO.out | exact Kd.S_drewN HO.out _⟩, ⟨by first | exact HB.out | exact pw_below_drewN HB.out _⟩⟩
            case measure => have h1 := HML.out; have h2 := HOL.out; have hw : wrap64 (m + 1) = m + 1 := (by unfold wrap64; omega); simp [intOf, hw]; omega
          · have qb : decide (m < (o.length : Int)) = false := decide_eq_false q
            have HE := Aside0.mk (show jrCost a3 a4 o = c from by
              have h1 := HM.out
              rw [HC.out, show m.toNat = o.length by omega, List.take_length])
            clear q
            go_wp2
            go_ret2
            rw [HE.out]
            exact ⟨_, rfl, Kd.S_lower HO.out (below_size HBW.out), below_step HBW.out HB.out⟩
  · rw [if_neg hl] at h; cases h

/-! ### spec_rpCost: function 95 -/
def spec_rpCost.f (k : Nat) (l0 : List (S117)) (l1 : List (S117)) (a2 : Int) (a3 : Int) : Option (Int) := (spec_rpRanges.f k l0 l1).bind fun t199 => ((spec_rpJoin.f k t199 l1 false a2 a3).bind fun bt202 => ((spec_rpRanges.f k l1 l0).bind fun t206 => ((spec_rpJoin.f k t206 l1 true a2 a3).bind fun bt209 => (some (wrap64 (bt202.2 + bt209.2))))))
theorem spec_rpCost.mono : ∀ a0 a1 a2 a3 k, LeO (spec_rpCost.f k a0 a1 a2 a3) (spec_rpCost.f (k + 1) a0 a1 a2 a3) := by
  intro a0 a1 a2 a3 k
  unfold spec_rpCost.f
  repeat' first
      | (with_reducible exact spec_rpJoin.mono _ _ _ _ _ _)
      | (with_reducible exact spec_rpRanges.mono _ _ _)
      | (with_reducible exact LeO.refl _)
      | (with_reducible exact LeO.none _)
      | (with_reducible refine LeO.ite ?_ ?_)
      | (with_reducible refine LeO.bind ?_ (fun _ => ?_))
      | exact spec_rpJoin.mono _ _ _ _ _ _
      | exact spec_rpRanges.mono _ _ _
      | exact LeO.none _
      | refine LeO.ite ?_ ?_
      | refine LeO.bind ?_ (fun _ => ?_)
set_option maxHeartbeats 8000000 in
set_option maxRecDepth 100000 in
theorem spec_rpCost.calls (k : Nat) (A0 : Option Addr) (c0 : Nat) (l0 : List (S117)) (A1 : Option Addr) (c1 : Nat) (l1 : List (S117)) (a2 : Int) (a3 : Int) (r : Int) (w : World) (hr0 : Kd.C k117 w A0 l0.length l0) (hc0 : l0.length ≤ c0) (hr1 : Kd.C k117 w A1 l1.length l1) (hc1 : l1.length ≤ c1) (h : spec_rpCost.f k l0 l1 a2 a3 = some r) :
    Calls Try.prog 95 #[.slice A0 l0.length c0, .slice A1 l1.length c1, .int .i64 a2, .int .i64 a3] w fun e w' => e = .returned (.int .i64 r) ∧ Below w.heap.size w w' := by
  have HR0 := Aside0.mk hr0
  have HC0 := Aside0.mk hc0
  clear hr0 hc0
  have HR1 := Aside0.mk hr1
  have HC1 := Aside0.mk hc1
  clear hr1 hc1
  have HB := Aside0.mk (Below.refl w.heap.size w)
  have H : ((spec_rpRanges.f k l0 l1).bind fun t199 => ((spec_rpJoin.f k t199 l1 false a2 a3).bind fun bt202 => ((spec_rpRanges.f k l1 l0).bind fun t206 => ((spec_rpJoin.f k t206 l1 true a2 a3).bind fun bt209 => (some (wrap64 (bt202.2 + bt209.2))))))) = some r := h
  clear h
  replace H := Option.bind_eq_some_iff.mp H
  obtain ⟨t199, A50, H⟩ := H
  replace H : ((spec_rpJoin.f k t199 l1 false a2 a3).bind fun bt202 => ((spec_rpRanges.f k l1 l0).bind fun t206 => ((spec_rpJoin.f k t206 l1 true a2 a3).bind fun bt209 => (some (wrap64 (bt202.2 + bt209.2)))))) = some r := H
  have A5 := Aside0.mk A50
  clear A50
  replace H := Option.bind_eq_some_iff.mp H
  obtain ⟨⟨t202, t203⟩, A60, H⟩ := H
  replace H : ((spec_rpRanges.f k l1 l0).bind fun t206 => ((spec_rpJoin.f k t206 l1 true a2 a3).bind fun bt209 => (some (wrap64 (t203 + bt209.2))))) = some r := H
  have A6 := Aside0.mk A60
  clear A60
  replace H := Option.bind_eq_some_iff.mp H
  obtain ⟨t206, A70, H⟩ := H
  replace H : ((spec_rpJoin.f k t206 l1 true a2 a3).bind fun bt209 => (some (wrap64 (t203 + bt209.2)))) = some r := H
  have A7 := Aside0.mk A70
  clear A70
  replace H := Option.bind_eq_some_iff.mp H
  obtain ⟨⟨t209, t210⟩, A80, H⟩ := H
  replace H : (some (wrap64 (t203 + t210))) = some r := H
  have A8 := Aside0.mk A80
  clear A80
  obtain rfl := Option.some.inj H
  go_enter Try.func95, Try.ntmps95
  go_wp2_with (first | ((with_reducible refine gate_callee (f := 89) rfl ?_); refine goesL_ (some 16) rfl rfl Try.func89 (by kernel_rfl) rfl #[.slice A0 l0.length c0, .slice A1 l1.length c1] rfl (by (try simp only [List.map_toArray, List.map_cons, List.map_nil]); first | done | rfl | (simp only [List.length_drop, List.length_take]; rfl)) ?_; (with_reducible refine (spec_rpRanges.calls k _ _ l0 _ _ l1 t199 _ ?side1 ?side2 ?side3 ?side4 A5.out).mono ?_); (case side1 => repeat (first | exact HR0.out | (with_reducible refine Kd.C_alloc ?_ _) | (with_reducible refine Kd.C_drewN ?_ _) | (with_reducible refine Kd.C_drew ?_))); (case side2 => exact HC0.out); (case side3 => repeat (first | exact HR1.out | (with_reducible refine Kd.C_alloc ?_ _) | (with_reducible refine Kd.C_drewN ?_ _) | (with_reducible refine Kd.C_drew ?_))); (case side4 => exact HC1.out); rintro e w9 ⟨v200, rfl, ho0, hb⟩; refine ⟨_, rfl, ?_⟩; have n0_ := Aside0.mk (Kd.S_lower ho0 (below_size (by repeat (first | (with_reducible first | exact HB.out | apply below_alloc | apply pw_below_drewN | apply below_drew1) | exact HB.out)))); have n1_ := Aside0.mk (below_step (by repeat (first | (with_reducible first | exact HB.out | apply below_alloc | apply pw_below_drewN | apply below_drew1) | exact HB.out)) hb); clear HB; have HO201 := n0_; have HB := n1_; clear n0_ n1_; (try clear hb); (try clear hb2); (try clear hk); (try clear hi); (try clear ho0); obtain ⟨Ao10, co10, eo10⟩ := Kd.S_slice HO201.out; subst eo10) | ((with_reducible refine gate_callee (f := 129) rfl ?_); refine goesL_ (some 20) rfl rfl Try.func129 (by kernel_rfl) rfl #[.slice Ao10 t199.length co10, .slice A1 l1.length c1, .bool false, .int .i64 a2, .int .i64 a3] rfl (by (try simp only [List.map_toArray, List.map_cons, List.map_nil]); first | done | rfl | (simp only [List.length_drop, List.length_take]; rfl)) ?_; (with_reducible refine (spec_rpJoin.calls k _ _ t199 _ _ l1 false a2 a3 t202 t203 _ ?side1 ?side2 ?side3 ?side4 A6.out).mono ?_); (case side1 => repeat (first | exact (Kd.S_reads' HO201.out).2.2 | (with_reducible refine Kd.C_alloc ?_ _) | (with_reducible refine Kd.C_drewN ?_ _) | (with_reducible refine Kd.C_drew ?_))); (case side2 => exact (Kd.S_reads' HO201.out).2.1); (case side3 => repeat (first | exact (Kd.C_below HR1.out HB.out) | (with_reducible refine Kd.C_alloc ?_ _) | (with_reducible refine Kd.C_drewN ?_ _) | (with_reducible refine Kd.C_drew ?_))); (case side4 => exact HC1.out); rintro e w11 ⟨v204, rfl, ho0, hb⟩; refine ⟨_, rfl, ?_⟩; have n0_ := Aside0.mk (Kd.S_elder' (by (with_reducible repeat (first | apply Kd.S_alloc | apply Kd.S_drewN | apply Kd.S_drew)); exact HO201.out) (Kd.S_base ho0) hb); have n1_ := Aside0.mk (Kd.S_lower (Kd.S_new' ho0 (Kd.S_lt (by (with_reducible repeat (first | apply Kd.S_alloc | apply Kd.S_drewN | apply Kd.S_drew)); exact HO201.out))) (below_size (by repeat (first | (with_reducible first | exact HB.out | apply below_alloc | apply pw_below_drewN | apply below_drew1) | exact HB.out)))); have n2_ := Aside0.mk (below_step (by repeat (first | (with_reducible first | exact HB.out | apply below_alloc | apply pw_below_drewN | apply below_drew1) | exact HB.out)) hb); clear HO201; clear HB; have HO201 := n0_; have HO205 := n1_; have HB := n2_; clear n0_ n1_ n2_; (try clear hb); (try clear hb2); (try clear hk); (try clear hi); (try clear ho0)) | ((with_reducible refine gate_callee (f := 89) rfl ?_); refine goesL_ (some 26) rfl rfl Try.func89 (by kernel_rfl) rfl #[.slice A1 l1.length c1, .slice A0 l0.length c0] rfl (by (try simp only [List.map_toArray, List.map_cons, List.map_nil]); first | done | rfl | (simp only [List.length_drop, List.length_take]; rfl)) ?_; (with_reducible refine (spec_rpRanges.calls k _ _ l1 _ _ l0 t206 _ ?side1 ?side2 ?side3 ?side4 A7.out).mono ?_); (case side1 => repeat (first | exact (Kd.C_below HR1.out HB.out) | (with_reducible refine Kd.C_alloc ?_ _) | (with_reducible refine Kd.C_drewN ?_ _) | (with_reducible refine Kd.C_drew ?_))); (case side2 => exact HC1.out); (case side3 => repeat (first | exact (Kd.C_below HR0.out HB.out) | (with_reducible refine Kd.C_alloc ?_ _) | (with_reducible refine Kd.C_drewN ?_ _) | (with_reducible refine Kd.C_drew ?_))); (case side4 => exact HC0.out); rintro e w12 ⟨v207, rfl, ho0, hb⟩; refine ⟨_, rfl, ?_⟩; have n0_ := Aside0.mk (Kd.S_elder' (by (with_reducible repeat (first | apply Kd.S_alloc | apply Kd.S_drewN | apply Kd.S_drew)); exact HO201.out) (Kd.S_base ho0) hb); have n1_ := Aside0.mk (Kd.S_elder' (by (with_reducible repeat (first | apply Kd.S_alloc | apply Kd.S_drewN | apply Kd.S_drew)); exact HO205.out) (Kd.S_base ho0) hb); have n2_ := Aside0.mk (Kd.S_lower (Kd.S_new' (Kd.S_new' ho0 (Kd.S_lt (by (with_reducible repeat (first | apply Kd.S_alloc | apply Kd.S_drewN | apply Kd.S_drew)); exact HO201.out))) (Kd.S_lt (by (with_reducible repeat (first | apply Kd.S_alloc | apply Kd.S_drewN | apply Kd.S_drew)); exact HO205.out))) (below_size (by repeat (first | (with_reducible first | exact HB.out | apply below_alloc | apply pw_below_drewN | apply below_drew1) | exact HB.out)))); have n3_ := Aside0.mk (below_step (by repeat (first | (with_reducible first | exact HB.out | apply below_alloc | apply pw_below_drewN | apply below_drew1) | exact HB.out)) hb); clear HO201; clear HO205; clear HB; have HO201 := n0_; have HO205 := n1_; have HO208 := n2_; have HB := n3_; clear n0_ n1_ n2_ n3_; (try clear hb); (try clear hb2); (try clear hk); (try clear hi); (try clear ho0); obtain ⟨Ao13, co13, eo13⟩ := Kd.S_slice HO208.out; subst eo13) | ((with_reducible refine gate_callee (f := 129) rfl ?_); refine goesL_ (some 30) rfl rfl Try.func129 (by kernel_rfl) rfl #[.slice Ao13 t206.length co13, .slice A1 l1.length c1, .bool true, .int .i64 a2, .int .i64 a3] rfl (by (try simp only [List.map_toArray, List.map_cons, List.map_nil]); first | done | rfl | (simp only [List.length_drop, List.length_take]; rfl)) ?_; (with_reducible refine (spec_rpJoin.calls k _ _ t206 _ _ l1 true a2 a3 t209 t210 _ ?side1 ?side2 ?side3 ?side4 A8.out).mono ?_); (case side1 => repeat (first | exact (Kd.S_reads' HO208.out).2.2 | (with_reducible refine Kd.C_alloc ?_ _) | (with_reducible refine Kd.C_drewN ?_ _) | (with_reducible refine Kd.C_drew ?_))); (case side2 => exact (Kd.S_reads' HO208.out).2.1); (case side3 => repeat (first | exact (Kd.C_below HR1.out HB.out) | (with_reducible refine Kd.C_alloc ?_ _) | (with_reducible refine Kd.C_drewN ?_ _) | (with_reducible refine Kd.C_drew ?_))); (case side4 => exact HC1.out); rintro e w14 ⟨v211, rfl, ho0, hb⟩; refine ⟨_, rfl, ?_⟩; have n0_ := Aside0.mk (Kd.S_elder' (by (with_reducible repeat (first | apply Kd.S_alloc | apply Kd.S_drewN | apply Kd.S_drew)); exact HO201.out) (Kd.S_base ho0) hb); have n1_ := Aside0.mk (Kd.S_elder' (by (with_reducible repeat (first | apply Kd.S_alloc | apply Kd.S_drewN | apply Kd.S_drew)); exact HO205.out) (Kd.S_base ho0) hb); have n2_ := Aside0.mk (Kd.S_elder' (by (with_reducible repeat (first | apply Kd.S_alloc | apply Kd.S_drewN | apply Kd.S_drew)); exact HO208.out) (Kd.S_base ho0) hb); have n3_ := Aside0.mk (Kd.S_lower (Kd.S_new' (Kd.S_new' (Kd.S_new' ho0 (Kd.S_lt (by (with_reducible repeat (first | apply Kd.S_alloc | apply Kd.S_drewN | apply Kd.S_drew)); exact HO201.out))) (Kd.S_lt (by (with_reducible repeat (first | apply Kd.S_alloc | apply Kd.S_drewN | apply Kd.S_drew)); exact HO205.out))) (Kd.S_lt (by (with_reducible repeat (first | apply Kd.S_alloc | apply Kd.S_drewN | apply Kd.S_drew)); exact HO208.out))) (below_size (by repeat (first | (with_reducible first | exact HB.out | apply below_alloc | apply pw_below_drewN | apply below_drew1) | exact HB.out)))); have n4_ := Aside0.mk (below_step (by repeat (first | (with_reducible first | exact HB.out | apply below_alloc | apply pw_below_drewN | apply below_drew1) | exact HB.out)) hb); clear HO201; clear HO205; clear HO208; clear HB; have HO201 := n0_; have HO205 := n1_; have HO208 := n2_; have HO212 := n3_; have HB := n4_; clear n0_ n1_ n2_ n3_ n4_; (try clear hb); (try clear hb2); (try clear hk); (try clear hi); (try clear ho0)))
  go_ret
  exact ⟨by first | rfl | (simp [errW_none, errW_some] <;> rfl) | (simp [*, errW_none, errW_some] <;> rfl), by repeat (first | (with_reducible first | exact HB.out | apply below_alloc | apply pw_below_drewN | apply below_drew1) | exact HB.out)⟩

/-! ### spec_RepairCost: function 49 -/
def spec_RepairCost.f (k : Nat) (l0 : List (S117)) (l1 : List (S117)) (a2 : Int) (a3 : Int) : Option (Int × Bool) := (spec_rpTwo.f k l0 l1).bind fun t213 => (if t213 = true then ((spec_rpCosts.f a2 a3).bind fun t214 => (if t214 = true then ((spec_rpCost.f k l0 l1 a2 a3).bind fun t215 => (some (t215, true))) else (some (0, false)))) else (some (0, false)))
theorem spec_RepairCost.mono : ∀ a0 a1 a2 a3 k, LeO (spec_RepairCost.f k a0 a1 a2 a3) (spec_RepairCost.f (k + 1) a0 a1 a2 a3) := by
  intro a0 a1 a2 a3 k
  unfold spec_RepairCost.f
  repeat' first
      | (with_reducible exact spec_rpCost.mono _ _ _ _ _)
      | (with_reducible exact spec_rpTwo.mono _ _ _)
      | (with_reducible exact LeO.refl _)
      | (with_reducible exact LeO.none _)
      | (with_reducible refine LeO.ite ?_ ?_)
      | (with_reducible refine LeO.bind ?_ (fun _ => ?_))
      | exact spec_rpCost.mono _ _ _ _ _
      | exact spec_rpTwo.mono _ _ _
      | exact LeO.none _
      | refine LeO.ite ?_ ?_
      | refine LeO.bind ?_ (fun _ => ?_)
set_option maxHeartbeats 8000000 in
set_option maxRecDepth 100000 in
theorem spec_RepairCost.calls (k : Nat) (A0 : Option Addr) (c0 : Nat) (l0 : List (S117)) (A1 : Option Addr) (c1 : Nat) (l1 : List (S117)) (a2 : Int) (a3 : Int) (r1 : Int) (r2 : Bool) (w : World) (hr0 : Kd.C k117 w A0 l0.length l0) (hc0 : l0.length ≤ c0) (hr1 : Kd.C k117 w A1 l1.length l1) (hc1 : l1.length ≤ c1) (h : spec_RepairCost.f k l0 l1 a2 a3 = some (r1, r2)) :
    Calls Try.prog 49 #[.slice A0 l0.length c0, .slice A1 l1.length c1, .int .i64 a2, .int .i64 a3] w fun e w' => e = .returned (.tuple #[.int .i64 r1, .bool r2]) ∧ Below w.heap.size w w' := by
  have HR0 := Aside0.mk hr0
  have HC0 := Aside0.mk hc0
  clear hr0 hc0
  have HR1 := Aside0.mk hr1
  have HC1 := Aside0.mk hc1
  clear hr1 hc1
  have HB := Aside0.mk (Below.refl w.heap.size w)
  have H : ((spec_rpTwo.f k l0 l1).bind fun t213 => (if t213 = true then ((spec_rpCosts.f a2 a3).bind fun t214 => (if t214 = true then ((spec_rpCost.f k l0 l1 a2 a3).bind fun t215 => (some (t215, true))) else (some (0, false)))) else (some (0, false)))) = some (r1, r2) := h
  clear h
  replace H := Option.bind_eq_some_iff.mp H
  obtain ⟨t213, A50, H⟩ := H
  replace H : (if t213 = true then ((spec_rpCosts.f a2 a3).bind fun t214 => (if t214 = true then ((spec_rpCost.f k l0 l1 a2 a3).bind fun t215 => (some (t215, true))) else (some (0, false)))) else (some (0, false))) = some (r1, r2) := H
  have A5 := Aside0.mk A50
  clear A50
  by_cases c6 : t213 = true
  · subst c6
    have H1 : ((spec_rpCosts.f a2 a3).bind fun t214 => (if t214 = true then ((spec_rpCost.f k l0 l1 a2 a3).bind fun t215 => (some (t215, true))) else (some (0, false)))) = some (r1, r2) := by rw [if_pos rfl] at H; exact H
    clear H
    have H := H1
    clear H1
    replace H := Option.bind_eq_some_iff.mp H
    obtain ⟨t214, A70, H⟩ := H
    replace H : (if t214 = true then ((spec_rpCost.f k l0 l1 a2 a3).bind fun t215 => (some (t215, true))) else (some (0, false))) = some (r1, r2) := H
    have A7 := Aside0.mk A70
    clear A70
    by_cases c8 : t214 = true
    · subst c8
      have H1 : ((spec_rpCost.f k l0 l1 a2 a3).bind fun t215 => (some (t215, true))) = some (r1, r2) := by rw [if_pos rfl] at H; exact H
      clear H
      have H := H1
      clear H1
      replace H := Option.bind_eq_some_iff.mp H
      obtain ⟨t215, A90, H⟩ := H
      replace H : (some (t215, true)) = some (r1, r2) := H
      have A9 := Aside0.mk A90
      clear A90
      simp only [Option.some.injEq, Prod.mk.injEq] at H
      obtain ⟨rfl, rfl⟩ := H
      go_enter Try.func49, Try.ntmps49
      go_wp2_with (first | ((with_reducible refine gate_callee (f := 88) rfl ?_); refine goesL_ (some 12) rfl rfl Try.func88 (by kernel_rfl) rfl #[.slice A0 l0.length c0, .slice A1 l1.length c1] rfl (by (try simp only [List.map_toArray, List.map_cons, List.map_nil]); first | done | rfl | (simp only [List.length_drop, List.length_take]; rfl)) ?_; (with_reducible refine (spec_rpTwo.calls k _ _ l0 _ _ l1 true _ ?side1 ?side2 ?side3 ?side4 A5.out).mono ?_); (case side1 => repeat (first | exact HR0.out | (with_reducible refine Kd.C_alloc ?_ _) | (with_reducible refine Kd.C_drewN ?_ _) | (with_reducible refine Kd.C_drew ?_))); (case side2 => exact HC0.out); (case side3 => repeat (first | exact HR1.out | (with_reducible refine Kd.C_alloc ?_ _) | (with_reducible refine Kd.C_drewN ?_ _) | (with_reducible refine Kd.C_drew ?_))); (case side4 => exact HC1.out); rintro e w10 ⟨rfl, hb⟩; refine ⟨_, rfl, ?_⟩; have n0_ := Aside0.mk (below_step (by repeat (first | (with_reducible first | exact HB.out | apply below_alloc | apply pw_below_drewN | apply below_drew1) | exact HB.out)) hb); clear HB; have HB := n0_; clear n0_; (try clear hb); (try clear hb2); (try clear hk); (try clear hi)) | (go_at_call 94; (with_reducible refine (spec_rpCosts.calls a2 a3 true _ A7.out).mono ?_); rintro e w' ⟨rfl, ⟨nd, rfl⟩⟩) | ((with_reducible refine gate_callee (f := 95) rfl ?_); refine goesL_ (some 24) rfl rfl Try.func95 (by kernel_rfl) rfl #[.slice A0 l0.length c0, .slice A1 l1.length c1, .int .i64 a2, .int .i64 a3] rfl (by (try simp only [List.map_toArray, List.map_cons, List.map_nil]); first | done | rfl | (simp only [List.length_drop, List.length_take]; rfl)) ?_; (with_reducible refine (spec_rpCost.calls k _ _ l0 _ _ l1 a2 a3 t215 _ ?side1 ?side2 ?side3 ?side4 A9.out).mono ?_); (case side1 => repeat (first | exact (Kd.C_below HR0.out (by repeat (first | (with_reducible first | exact HB.out | apply below_alloc | apply pw_below_drewN | apply below_drew1) | exact HB.out))) | (with_reducible refine Kd.C_alloc ?_ _) | (with_reducible refine Kd.C_drewN ?_ _) | (with_reducible refine Kd.C_drew ?_))); (case side2 => exact HC0.out); (case side3 => repeat (first | exact (Kd.C_below HR1.out (by repeat (first | (with_reducible first | exact HB.out | apply below_alloc | apply pw_below_drewN | apply below_drew1) | exact HB.out))) | (with_reducible refine Kd.C_alloc ?_ _) | (with_reducible refine Kd.C_drewN ?_ _) | (with_reducible refine Kd.C_drew ?_))); (case side4 => exact HC1.out); rintro e w11 ⟨rfl, hb⟩; refine ⟨_, rfl, ?_⟩; have n0_ := Aside0.mk (below_step (by repeat (first | (with_reducible first | exact HB.out | apply below_alloc | apply pw_below_drewN | apply below_drew1) | exact HB.out)) hb); clear HB; have HB := n0_; clear n0_; (try clear hb); (try clear hb2); (try clear hk); (try clear hi)))
      go_ret2
      exact ⟨by first | rfl | (simp [errW_none, errW_some] <;> rfl) | (simp [*, errW_none, errW_some] <;> rfl), by repeat (first | (with_reducible first | exact HB.out | apply below_alloc | apply pw_below_drewN | apply below_drew1) | exact HB.out)⟩
    · replace c8 := Bool.eq_false_iff.mpr c8
      subst c8
      have H1 : (some (0, false)) = some (r1, r2) := by rw [if_neg (show ¬ (false = true) by decide)] at H; exact H
      clear H
      have H := H1
      clear H1
      simp only [Option.some.injEq, Prod.mk.injEq] at H
      obtain ⟨rfl, rfl⟩ := H
      go_enter Try.func49, Try.ntmps49
      go_wp2_with (first | ((with_reducible refine gate_callee (f := 88) rfl ?_); refine goesL_ (some 12) rfl rfl Try.func88 (by kernel_rfl) rfl #[.slice A0 l0.length c0, .slice A1 l1.length c1] rfl (by (try simp only [List.map_toArray, List.map_cons, List.map_nil]); first | done | rfl | (simp only [List.length_drop, List.length_take]; rfl)) ?_; (with_reducible refine (spec_rpTwo.calls k _ _ l0 _ _ l1 true _ ?side1 ?side2 ?side3 ?side4 A5.out).mono ?_); (case side1 => repeat (first | exact HR0.out | (with_reducible refine Kd.C_alloc ?_ _) | (with_reducible refine Kd.C_drewN ?_ _) | (with_reducible refine Kd.C_drew ?_))); (case side2 => exact HC0.out); (case side3 => repeat (first | exact HR1.out | (with_reducible refine Kd.C_alloc ?_ _) | (with_reducible refine Kd.C_drewN ?_ _) | (with_reducible refine Kd.C_drew ?_))); (case side4 => exact HC1.out); rintro e w12 ⟨rfl, hb⟩; refine ⟨_, rfl, ?_⟩; have n0_ := Aside0.mk (below_step (by repeat (first | (with_reducible first | exact HB.out | apply below_alloc | apply pw_below_drewN | apply below_drew1) | exact HB.out)) hb); clear HB; have HB := n0_; clear n0_; (try clear hb); (try clear hb2); (try clear hk); (try clear hi)) | (go_at_call 94; (with_reducible refine (spec_rpCosts.calls a2 a3 false _ A7.out).mono ?_); rintro e w' ⟨rfl, ⟨nd, rfl⟩⟩))
      go_ret2
      exact ⟨by first | rfl | (simp [errW_none, errW_some] <;> rfl) | (simp [*, errW_none, errW_some] <;> rfl), by repeat (first | (with_reducible first | exact HB.out | apply below_alloc | apply pw_below_drewN | apply below_drew1) | exact HB.out)⟩
  · replace c6 := Bool.eq_false_iff.mpr c6
    subst c6
    have H1 : (some (0, false)) = some (r1, r2) := by rw [if_neg (show ¬ (false = true) by decide)] at H; exact H
    clear H
    have H := H1
    clear H1
    simp only [Option.some.injEq, Prod.mk.injEq] at H
    obtain ⟨rfl, rfl⟩ := H
    go_enter Try.func49, Try.ntmps49
    go_wp2_with (first | ((with_reducible refine gate_callee (f := 88) rfl ?_); refine goesL_ (some 12) rfl rfl Try.func88 (by kernel_rfl) rfl #[.slice A0 l0.length c0, .slice A1 l1.length c1] rfl (by (try simp only [List.map_toArray, List.map_cons, List.map_nil]); first | done | rfl | (simp only [List.length_drop, List.length_take]; rfl)) ?_; (with_reducible refine (spec_rpTwo.calls k _ _ l0 _ _ l1 false _ ?side1 ?side2 ?side3 ?side4 A5.out).mono ?_); (case side1 => repeat (first | exact HR0.out | (with_reducible refine Kd.C_alloc ?_ _) | (with_reducible refine Kd.C_drewN ?_ _) | (with_reducible refine Kd.C_drew ?_))); (case side2 => exact HC0.out); (case side3 => repeat (first | exact HR1.out | (with_reducible refine Kd.C_alloc ?_ _) | (with_reducible refine Kd.C_drewN ?_ _) | (with_reducible refine Kd.C_drew ?_))); (case side4 => exact HC1.out); rintro e w13 ⟨rfl, hb⟩; refine ⟨_, rfl, ?_⟩; have n0_ := Aside0.mk (below_step (by repeat (first | (with_reducible first | exact HB.out | apply below_alloc | apply pw_below_drewN | apply below_drew1) | exact HB.out)) hb); clear HB; have HB := n0_; clear n0_; (try clear hb); (try clear hb2); (try clear hk); (try clear hi)))
    go_ret2
    exact ⟨by first | rfl | (simp [errW_none, errW_some] <;> rfl) | (simp [*, errW_none, errW_some] <;> rfl), by repeat (first | (with_reducible first | exact HB.out | apply below_alloc | apply pw_below_drewN | apply below_drew1) | exact HB.out)⟩

/-! ### impl_isTrack: function 139 -/
def impl_isTrack.f (a0 : Int) : Option (Bool) := if a0 ≥ 0 then (some (decide (a0 < 20))) else (some false)
set_option maxHeartbeats 8000000 in
set_option maxRecDepth 100000 in
theorem impl_isTrack.calls (a0 : Int) (r : Bool) (w : World) (h : impl_isTrack.f a0 = some r) :
    Calls Try.prog 139 #[.int .i64 a0] w fun e w' => e = .returned (.bool r) ∧ Drawn0 w w' := by
  have H : (if a0 ≥ 0 then (some (decide (a0 < 20))) else (some false)) = some r := h
  clear h
  by_cases c2 : a0 ≥ 0
  · rw [if_pos c2] at H
    have c2b0 : decide (0 ≤ a0) = true := decide_eq_true c2
    clear c2
    obtain rfl := Option.some.inj H
    go_enter Try.func139, Try.ntmps139
    go_wp2
    go_ret
    exact ⟨by first | rfl | (simp; done) | (simp [*]; done), by repeat (first | exact Drawn0.refl _ | apply Drawn0.step)⟩
  · rw [if_neg c2] at H
    have c2b0 : decide (0 ≤ a0) = false := decide_eq_false c2
    clear c2
    obtain rfl := Option.some.inj H
    go_enter Try.func139, Try.ntmps139
    go_wp2
    go_ret
    exact ⟨by first | rfl | (simp; done) | (simp [*]; done), by repeat (first | exact Drawn0.refl _ | apply Drawn0.step)⟩

/-! ### impl_IsHole: function 125 -/
def impl_IsHole.f (a0_0 : Int) (a0_1 : Int) (a0_2 : Int) : Option (Bool) := (impl_isTrack.f a0_0).bind fun t217 => (if t217 = true then (if a0_1 ≥ 0 then (if a0_1 < a0_2 then (some (decide (a0_2 ≤ 2000))) else (some false)) else (some false)) else (some false))
set_option maxHeartbeats 8000000 in
set_option maxRecDepth 100000 in
theorem impl_IsHole.calls (a0_0 : Int) (a0_1 : Int) (a0_2 : Int) (r : Bool) (w : World) (h : impl_IsHole.f a0_0 a0_1 a0_2 = some r) :
    Calls Try.prog 125 #[.agg #[.int .i64 a0_0, .int .i64 a0_1, .int .i64 a0_2]] w fun e w' => e = .returned (.bool r) ∧ Below w.heap.size w w' := by
  have hu117 := Try.underlying117
  have HB := Aside0.mk (Below.refl w.heap.size w)
  have H : ((impl_isTrack.f a0_0).bind fun t217 => (if t217 = true then (if a0_1 ≥ 0 then (if a0_1 < a0_2 then (some (decide (a0_2 ≤ 2000))) else (some false)) else (some false)) else (some false))) = some r := h
  clear h
  replace H := Option.bind_eq_some_iff.mp H
  obtain ⟨t217, A20, H⟩ := H
  replace H : (if t217 = true then (if a0_1 ≥ 0 then (if a0_1 < a0_2 then (some (decide (a0_2 ≤ 2000))) else (some false)) else (some false)) else (some false)) = some r := H
  have A2 := Aside0.mk A20
  clear A20
  by_cases c3 : t217 = true
  · subst c3
    have H1 : (if a0_1 ≥ 0 then (if a0_1 < a0_2 then (some (decide (a0_2 ≤ 2000))) else (some false)) else (some false)) = some r := by rw [if_pos rfl] at H; exact H
    clear H
    have H := H1
    clear H1
    by_cases c4 : a0_1 ≥ 0
    · rw [if_pos c4] at H
      have c4b0 : decide (0 ≤ a0_1) = true := decide_eq_true c4
      clear c4
      by_cases c5 : a0_1 < a0_2
      · rw [if_pos c5] at H
        have c5b0 : decide (a0_1 < a0_2) = true := decide_eq_true c5
        clear c5
        obtain rfl := Option.some.inj H
        go_enter Try.func125, Try.ntmps125
        go_wp2_with (first | ((with_reducible refine gate_dst (N := 1) rfl ?_); refine box_event ?hg (N := 1) ?hd (cs := #[.int .i64 a0_0, .int .i64 a0_1, .int .i64 a0_2]) (t := 117) ?hr ?_; (case hd => rfl); (case hg => rfl); (case hr => first | (go_simp; done) | (go_simp; rfl)); intro gb216 hg w6 hbox hb; have n0_ := Aside0.mk (below_step (by repeat (first | (with_reducible first | exact HB.out | apply below_alloc | apply pw_below_drewN | apply below_drew1) | exact HB.out)) hb); have n1_ := Aside0.mk (hbox); have n2_ := Aside0.mk ((by rw [hg]; exact (below_size (by repeat (first | (with_reducible first | exact HB.out | apply below_alloc | apply pw_below_drewN | apply below_drew1) | exact HB.out))) : w.heap.size ≤ gb216)); have n3_ := Aside0.mk ((by rw [hg]; exact (below_size (by repeat (first | (with_reducible first | exact HB.out | apply below_alloc | apply pw_below_drewN | apply below_drew1) | exact HB.out))) : w.heap.size ≤ gb216)); clear HB; have HB := n0_; have BK216 := n1_; have GW216 := n2_; have GE216 := n3_; clear n0_ n1_ n2_ n3_; clear hb hbox hg; have hcz7_0 : w6.cell? ⟨gb216, 0, none⟩ = some (.int .i64 a0_0) := (blk_cell BK216.out 0).trans rfl; have hcz7_1 : w6.cell? ⟨gb216, 1, none⟩ = some (.int .i64 a0_1) := (blk_cell BK216.out 1).trans rfl; have hcz7_2 : w6.cell? ⟨gb216, 2, none⟩ = some (.int .i64 a0_2) := (blk_cell BK216.out 2).trans rfl; have hfz7_0 := blk_frozen BK216.out 0; have hfz7_1 := blk_frozen BK216.out 1; have hfz7_2 := blk_frozen BK216.out 2) | ((with_reducible refine gate_callee (f := 139) rfl ?_); refine goesL_ (some 5) rfl rfl Try.func139 (by kernel_rfl) rfl #[.int .i64 a0_0] rfl (by (try simp only [List.map_toArray, List.map_cons, List.map_nil]); first | done | rfl | (simp only [List.length_drop, List.length_take]; rfl)) ?_; (with_reducible refine (impl_isTrack.calls a0_0 true _ A2.out).mono ?_); rintro e w' ⟨rfl, ⟨nd, rfl⟩⟩; refine ⟨_, rfl, ?_⟩))
        go_ret
        exact ⟨by first | rfl | (simp [errW_none, errW_some] <;> rfl) | (simp [*, errW_none, errW_some] <;> rfl), by repeat (first | (with_reducible first | exact HB.out | apply below_alloc | apply pw_below_drewN | apply below_drew1 | refine below_set ?_ GE216.out) | exact HB.out)⟩
      · rw [if_neg c5] at H
        have c5b0 : decide (a0_1 < a0_2) = false := decide_eq_false c5
        clear c5
        obtain rfl := Option.some.inj H
        go_enter Try.func125, Try.ntmps125
        go_wp2_with (first | ((with_reducible refine gate_dst (N := 1) rfl ?_); refine box_event ?hg (N := 1) ?hd (cs := #[.int .i64 a0_0, .int .i64 a0_1, .int .i64 a0_2]) (t := 117) ?hr ?_; (case hd => rfl); (case hg => rfl); (case hr => first | (go_simp; done) | (go_simp; rfl)); intro gb216 hg w8 hbox hb; have n0_ := Aside0.mk (below_step (by repeat (first | (with_reducible first | exact HB.out | apply below_alloc | apply pw_below_drewN | apply below_drew1) | exact HB.out)) hb); have n1_ := Aside0.mk (hbox); have n2_ := Aside0.mk ((by rw [hg]; exact (below_size (by repeat (first | (with_reducible first | exact HB.out | apply below_alloc | apply pw_below_drewN | apply below_drew1) | exact HB.out))) : w.heap.size ≤ gb216)); have n3_ := Aside0.mk ((by rw [hg]; exact (below_size (by repeat (first | (with_reducible first | exact HB.out | apply below_alloc | apply pw_below_drewN | apply below_drew1) | exact HB.out))) : w.heap.size ≤ gb216)); clear HB; have HB := n0_; have BK216 := n1_; have GW216 := n2_; have GE216 := n3_; clear n0_ n1_ n2_ n3_; clear hb hbox hg; have hcz9_0 : w8.cell? ⟨gb216, 0, none⟩ = some (.int .i64 a0_0) := (blk_cell BK216.out 0).trans rfl; have hcz9_1 : w8.cell? ⟨gb216, 1, none⟩ = some (.int .i64 a0_1) := (blk_cell BK216.out 1).trans rfl; have hcz9_2 : w8.cell? ⟨gb216, 2, none⟩ = some (.int .i64 a0_2) := (blk_cell BK216.out 2).trans rfl; have hfz9_0 := blk_frozen BK216.out 0; have hfz9_1 := blk_frozen BK216.out 1; have hfz9_2 := blk_frozen BK216.out 2) | ((with_reducible refine gate_callee (f := 139) rfl ?_); refine goesL_ (some 5) rfl rfl Try.func139 (by kernel_rfl) rfl #[.int .i64 a0_0] rfl (by (try simp only [List.map_toArray, List.map_cons, List.map_nil]); first | done | rfl | (simp only [List.length_drop, List.length_take]; rfl)) ?_; (with_reducible refine (impl_isTrack.calls a0_0 true _ A2.out).mono ?_); rintro e w' ⟨rfl, ⟨nd, rfl⟩⟩; refine ⟨_, rfl, ?_⟩))
        go_ret
        exact ⟨by first | rfl | (simp [errW_none, errW_some] <;> rfl) | (simp [*, errW_none, errW_some] <;> rfl), by repeat (first | (with_reducible first | exact HB.out | apply below_alloc | apply pw_below_drewN | apply below_drew1 | refine below_set ?_ GE216.out) | exact HB.out)⟩
    · rw [if_neg c4] at H
      have c4b0 : decide (0 ≤ a0_1) = false := decide_eq_false c4
      clear c4
      obtain rfl := Option.some.inj H
      go_enter Try.func125, Try.ntmps125
      go_wp2_with (first | ((with_reducible refine gate_dst (N := 1) rfl ?_); refine box_event ?hg (N := 1) ?hd (cs := #[.int .i64 a0_0, .int .i64 a0_1, .int .i64 a0_2]) (t := 117) ?hr ?_; (case hd => rfl); (case hg => rfl); (case hr => first | (go_simp; done) | (go_simp; rfl)); intro gb216 hg w10 hbox hb; have n0_ := Aside0.mk (below_step (by repeat (first | (with_reducible first | exact HB.out | apply below_alloc | apply pw_below_drewN | apply below_drew1) | exact HB.out)) hb); have n1_ := Aside0.mk (hbox); have n2_ := Aside0.mk ((by rw [hg]; exact (below_size (by repeat (first | (with_reducible first | exact HB.out | apply below_alloc | apply pw_below_drewN | apply below_drew1) | exact HB.out))) : w.heap.size ≤ gb216)); have n3_ := Aside0.mk ((by rw [hg]; exact (below_size (by repeat (first | (with_reducible first | exact HB.out | apply below_alloc | apply pw_below_drewN | apply below_drew1) | exact HB.out))) : w.heap.size ≤ gb216)); clear HB; have HB := n0_; have BK216 := n1_; have GW216 := n2_; have GE216 := n3_; clear n0_ n1_ n2_ n3_; clear hb hbox hg; have hcz11_0 : w10.cell? ⟨gb216, 0, none⟩ = some (.int .i64 a0_0) := (blk_cell BK216.out 0).trans rfl; have hcz11_1 : w10.cell? ⟨gb216, 1, none⟩ = some (.int .i64 a0_1) := (blk_cell BK216.out 1).trans rfl; have hcz11_2 : w10.cell? ⟨gb216, 2, none⟩ = some (.int .i64 a0_2) := (blk_cell BK216.out 2).trans rfl; have hfz11_0 := blk_frozen BK216.out 0; have hfz11_1 := blk_frozen BK216.out 1; have hfz11_2 := blk_frozen BK216.out 2) | ((with_reducible refine gate_callee (f := 139) rfl ?_); refine goesL_ (some 5) rfl rfl Try.func139 (by kernel_rfl) rfl #[.int .i64 a0_0] rfl (by (try simp only [List.map_toArray, List.map_cons, List.map_nil]); first | done | rfl | (simp only [List.length_drop, List.length_take]; rfl)) ?_; (with_reducible refine (impl_isTrack.calls a0_0 true _ A2.out).mono ?_); rintro e w' ⟨rfl, ⟨nd, rfl⟩⟩; refine ⟨_, rfl, ?_⟩))
      go_ret
      exact ⟨by first | rfl | (simp [errW_none, errW_some] <;> rfl) | (simp [*, errW_none, errW_some] <;> rfl), by repeat (first | (with_reducible first | exact HB.out | apply below_alloc | apply pw_below_drewN | apply below_drew1 | refine below_set ?_ GE216.out) | exact HB.out)⟩
  · replace c3 := Bool.eq_false_iff.mpr c3
    subst c3
    have H1 : (some false) = some r := by rw [if_neg (show ¬ (false = true) by decide)] at H; exact H
    clear H
    have H := H1
    clear H1
    obtain rfl := Option.some.inj H
    go_enter Try.func125, Try.ntmps125
    go_wp2_with (first | ((with_reducible refine gate_dst (N := 1) rfl ?_); refine box_event ?hg (N := 1) ?hd (cs := #[.int .i64 a0_0, .int .i64 a0_1, .int .i64 a0_2]) (t := 117) ?hr ?_; (case hd => rfl); (case hg => rfl); (case hr => first | (go_simp; done) | (go_simp; rfl)); intro gb216 hg w12 hbox hb; have n0_ := Aside0.mk (below_step (by repeat (first | (with_reducible first | exact HB.out | apply below_alloc | apply pw_below_drewN | apply below_drew1) | exact HB.out)) hb); have n1_ := Aside0.mk (hbox); have n2_ := Aside0.mk ((by rw [hg]; exact (below_size (by repeat (first | (with_reducible first | exact HB.out | apply below_alloc | apply pw_below_drewN | apply below_drew1) | exact HB.out))) : w.heap.size ≤ gb216)); have n3_ := Aside0.mk ((by rw [hg]; exact (below_size (by repeat (first | (with_reducible first | exact HB.out | apply below_alloc | apply pw_below_drewN | apply below_drew1) | exact HB.out))) : w.heap.size ≤ gb216)); clear HB; have HB := n0_; have BK216 := n1_; have GW216 := n2_; have GE216 := n3_; clear n0_ n1_ n2_ n3_; clear hb hbox hg; have hcz13_0 : w12.cell? ⟨gb216, 0, none⟩ = some (.int .i64 a0_0) := (blk_cell BK216.out 0).trans rfl; have hcz13_1 : w12.cell? ⟨gb216, 1, none⟩ = some (.int .i64 a0_1) := (blk_cell BK216.out 1).trans rfl; have hcz13_2 : w12.cell? ⟨gb216, 2, none⟩ = some (.int .i64 a0_2) := (blk_cell BK216.out 2).trans rfl; have hfz13_0 := blk_frozen BK216.out 0; have hfz13_1 := blk_frozen BK216.out 1; have hfz13_2 := blk_frozen BK216.out 2) | ((with_reducible refine gate_callee (f := 139) rfl ?_); refine goesL_ (some 5) rfl rfl Try.func139 (by kernel_rfl) rfl #[.int .i64 a0_0] rfl (by (try simp only [List.map_toArray, List.map_cons, List.map_nil]); first | done | rfl | (simp only [List.length_drop, List.length_take]; rfl)) ?_; (with_reducible refine (impl_isTrack.calls a0_0 false _ A2.out).mono ?_); rintro e w' ⟨rfl, ⟨nd, rfl⟩⟩; refine ⟨_, rfl, ?_⟩))
    go_ret
    exact ⟨by first | rfl | (simp [errW_none, errW_some] <;> rfl) | (simp [*, errW_none, errW_some] <;> rfl), by repeat (first | (with_reducible first | exact HB.out | apply below_alloc | apply pw_below_drewN | apply below_drew1 | refine below_set ?_ GE216.out) | exact HB.out)⟩

/-! ### impl_holeLess: function 126 -/
def impl_holeLess.f (a0_0 : Int) (a0_1 : Int) (a0_2 : Int) (a1_0 : Int) (a1_1 : Int) (a1_2 : Int) : Option (Bool) := if a0_1 = a1_1 then (some (decide (a0_0 < a1_0))) else (some (decide (a0_1 < a1_1)))
set_option maxHeartbeats 8000000 in
set_option maxRecDepth 100000 in
theorem impl_holeLess.calls (a0_0 : Int) (a0_1 : Int) (a0_2 : Int) (a1_0 : Int) (a1_1 : Int) (a1_2 : Int) (r : Bool) (w : World) (h : impl_holeLess.f a0_0 a0_1 a0_2 a1_0 a1_1 a1_2 = some r) :
    Calls Try.prog 126 #[.agg #[.int .i64 a0_0, .int .i64 a0_1, .int .i64 a0_2], .agg #[.int .i64 a1_0, .int .i64 a1_1, .int .i64 a1_2]] w fun e w' => e = .returned (.bool r) ∧ Below w.heap.size w w' := by
  have hu117 := Try.underlying117
  have HB := Aside0.mk (Below.refl w.heap.size w)
  have H : (if a0_1 = a1_1 then (some (decide (a0_0 < a1_0))) else (some (decide (a0_1 < a1_1)))) = some r := h
  clear h
  by_cases c3 : a0_1 = a1_1
  · rw [if_pos c3] at H
    have c3b0 : (a0_1 == a1_1) = true := beq_iff_eq.mpr c3
    have c3b1 : (a0_1 != a1_1) = false := bne_eq_false_iff_eq.mpr c3
    clear c3
    obtain rfl := Option.some.inj H
    go_enter Try.func126, Try.ntmps126
    go_wp2_with (first | ((with_reducible refine gate_dst (N := 2) rfl ?_); refine box_event ?hg (N := 2) ?hd (cs := #[.int .i64 a0_0, .int .i64 a0_1, .int .i64 a0_2]) (t := 117) ?hr ?_; (case hd => rfl); (case hg => rfl); (case hr => first | (go_simp; done) | (go_simp; rfl)); intro gb218 hg w4 hbox hb; have n0_ := Aside0.mk (below_step (by repeat (first | (with_reducible first | exact HB.out | apply below_alloc | apply pw_below_drewN | apply below_drew1) | exact HB.out)) hb); have n1_ := Aside0.mk (hbox); have n2_ := Aside0.mk ((by rw [hg]; exact (below_size (by repeat (first | (with_reducible first | exact HB.out | apply below_alloc | apply pw_below_drewN | apply below_drew1) | exact HB.out))) : w.heap.size ≤ gb218)); have n3_ := Aside0.mk ((by rw [hg]; exact (below_size (by repeat (first | (with_reducible first | exact HB.out | apply below_alloc | apply pw_below_drewN | apply below_drew1) | exact HB.out))) : w.heap.size ≤ gb218)); clear HB; have HB := n0_; have BK218 := n1_; have GW218 := n2_; have GE218 := n3_; clear n0_ n1_ n2_ n3_; clear hb hbox hg) | ((with_reducible refine gate_dst (N := 3) rfl ?_); refine box_event ?hg (N := 3) ?hd (cs := #[.int .i64 a1_0, .int .i64 a1_1, .int .i64 a1_2]) (t := 117) ?hr ?_; (case hd => rfl); (case hg => rfl); (case hr => first | (go_simp; done) | (go_simp; rfl)); intro gb219 hg w5 hbox hb; have n0_ := Aside0.mk (blk_below (g := gb218) (o := .cells #[.int .i64 a0_0, .int .i64 a0_1, .int .i64 a0_2] 117 (0, 0)) (by (with_reducible repeat (first | refine blk_drewN ?_ _ | refine blk_drew ?_ | refine blk_alloc ?_ _)); exact BK218.out) hb); have n1_ := Aside0.mk (below_step (by repeat (first | (with_reducible first | exact HB.out | apply below_alloc | apply pw_below_drewN | apply below_drew1 | refine below_set ?_ GE218.out) | exact HB.out)) hb); have n2_ := Aside0.mk (hbox); have n3_ := Aside0.mk ((by rw [hg]; exact (below_size (by repeat (first | (with_reducible first | exact HB.out | apply below_alloc | apply pw_below_drewN | apply below_drew1 | refine below_set ?_ GE218.out) | exact HB.out))) : w.heap.size ≤ gb219)); have n4_ := Aside0.mk ((by rw [hg]; exact (below_size (by repeat (first | (with_reducible first | exact HB.out | apply below_alloc | apply pw_below_drewN | apply below_drew1 | refine below_set ?_ GE218.out) | exact HB.out))) : w.heap.size ≤ gb219)); have n5_ := Aside0.mk ((by rw [hg]; exact Nat.ne_of_lt (blk_lt (g := gb218) (o := .cells #[.int .i64 a0_0, .int .i64 a0_1, .int .i64 a0_2] 117 (0, 0)) (by (with_reducible repeat (first | refine blk_drewN ?_ _ | refine blk_drew ?_ | refine blk_alloc ?_ _)); exact BK218.out)) : gb218 ≠ gb219)); have n6_ := Aside0.mk ((by rw [hg]; exact Nat.ne_of_gt (blk_lt (g := gb218) (o := .cells #[.int .i64 a0_0, .int .i64 a0_1, .int .i64 a0_2] 117 (0, 0)) (by (with_reducible repeat (first | refine blk_drewN ?_ _ | refine blk_drew ?_ | refine blk_alloc ?_ _)); exact BK218.out)) : gb219 ≠ gb218)); clear BK218; clear HB; have BK218 := n0_; have HB := n1_; have BK219 := n2_; have GW219 := n3_; have GE219 := n4_; have NB218_219 := n5_; have NB219_218 := n6_; clear n0_ n1_ n2_ n3_ n4_ n5_ n6_; clear hb hbox hg; have hnb6 := NB218_219.out; have hnc6 := NB219_218.out; have hcz7_0 : w5.cell? ⟨gb218, 0, none⟩ = some (.int .i64 a0_0) := (blk_cell BK218.out 0).trans rfl; have hcz7_1 : w5.cell? ⟨gb218, 1, none⟩ = some (.int .i64 a0_1) := (blk_cell BK218.out 1).trans rfl; have hcz7_2 : w5.cell? ⟨gb218, 2, none⟩ = some (.int .i64 a0_2) := (blk_cell BK218.out 2).trans rfl; have hfz7_0 := blk_frozen BK218.out 0; have hfz7_1 := blk_frozen BK218.out 1; have hfz7_2 := blk_frozen BK218.out 2; have hcz8_0 : w5.cell? ⟨gb219, 0, none⟩ = some (.int .i64 a1_0) := (blk_cell BK219.out 0).trans rfl; have hcz8_1 : w5.cell? ⟨gb219, 1, none⟩ = some (.int .i64 a1_1) := (blk_cell BK219.out 1).trans rfl; have hcz8_2 : w5.cell? ⟨gb219, 2, none⟩ = some (.int .i64 a1_2) := (blk_cell BK219.out 2).trans rfl; have hfz8_0 := blk_frozen BK219.out 0; have hfz8_1 := blk_frozen BK219.out 1; have hfz8_2 := blk_frozen BK219.out 2))
    go_ret
    exact ⟨by first | rfl | (simp [errW_none, errW_some] <;> rfl) | (simp [*, errW_none, errW_some] <;> rfl), by repeat (first | (with_reducible first | exact HB.out | apply below_alloc | apply pw_below_drewN | apply below_drew1 | refine below_set ?_ GE218.out | refine below_set ?_ GE219.out) | exact HB.out)⟩
  · rw [if_neg c3] at H
    have c3b0 : (a0_1 == a1_1) = false := beq_eq_false_iff_ne.mpr c3
    have c3b1 : (a0_1 != a1_1) = true := bne_iff_ne.mpr c3
    obtain rfl := Option.some.inj H
    go_enter Try.func126, Try.ntmps126
    go_wp2_with (first | ((with_reducible refine gate_dst (N := 2) rfl ?_); refine box_event ?hg (N := 2) ?hd (cs := #[.int .i64 a0_0, .int .i64 a0_1, .int .i64 a0_2]) (t := 117) ?hr ?_; (case hd => rfl); (case hg => rfl); (case hr => first | (go_simp; done) | (go_simp; rfl)); intro gb218 hg w9 hbox hb; have n0_ := Aside0.mk (below_step (by repeat (first | (with_reducible first | exact HB.out | apply below_alloc | apply pw_below_drewN | apply below_drew1) | exact HB.out)) hb); have n1_ := Aside0.mk (hbox); have n2_ := Aside0.mk ((by rw [hg]; exact (below_size (by repeat (first | (with_reducible first | exact HB.out | apply below_alloc | apply pw_below_drewN | apply below_drew1) | exact HB.out))) : w.heap.size ≤ gb218)); have n3_ := Aside0.mk ((by rw [hg]; exact (below_size (by repeat (first | (with_reducible first | exact HB.out | apply below_alloc | apply pw_below_drewN | apply below_drew1) | exact HB.out))) : w.heap.size ≤ gb218)); clear HB; have HB := n0_; have BK218 := n1_; have GW218 := n2_; have GE218 := n3_; clear n0_ n1_ n2_ n3_; clear hb hbox hg) | ((with_reducible refine gate_dst (N := 3) rfl ?_); refine box_event ?hg (N := 3) ?hd (cs := #[.int .i64 a1_0, .int .i64 a1_1, .int .i64 a1_2]) (t := 117) ?hr ?_; (case hd => rfl); (case hg => rfl); (case hr => first | (go_simp; done) | (go_simp; rfl)); intro gb219 hg w10 hbox hb; have n0_ := Aside0.mk (blk_below (g := gb218) (o := .cells #[.int .i64 a0_0, .int .i64 a0_1, .int .i64 a0_2] 117 (0, 0)) (by (with_reducible repeat (first | refine blk_drewN ?_ _ | refine blk_drew ?_ | refine blk_alloc ?_ _)); exact BK218.out) hb); have n1_ := Aside0.mk (below_step (by repeat (first | (with_reducible first | exact HB.out | apply below_alloc | apply pw_below_drewN | apply below_drew1 | refine below_set ?_ GE218.out) | exact HB.out)) hb); have n2_ := Aside0.mk (hbox); have n3_ := Aside0.mk ((by rw [hg]; exact (below_size (by repeat (first | (with_reducible first | exact HB.out | apply below_alloc | apply pw_below_drewN | apply below_drew1 | refine below_set ?_ GE218.out) | exact HB.out))) : w.heap.size ≤ gb219)); have n4_ := Aside0.mk ((by rw [hg]; exact (below_size (by repeat (first | (with_reducible first | exact HB.out | apply below_alloc | apply pw_below_drewN | apply below_drew1 | refine below_set ?_ GE218.out) | exact HB.out))) : w.heap.size ≤ gb219)); have n5_ := Aside0.mk ((by rw [hg]; exact Nat.ne_of_lt (blk_lt (g := gb218) (o := .cells #[.int .i64 a0_0, .int .i64 a0_1, .int .i64 a0_2] 117 (0, 0)) (by (with_reducible repeat (first | refine blk_drewN ?_ _ | refine blk_drew ?_ | refine blk_alloc ?_ _)); exact BK218.out)) : gb218 ≠ gb219)); have n6_ := Aside0.mk ((by rw [hg]; exact Nat.ne_of_gt (blk_lt (g := gb218) (o := .cells #[.int .i64 a0_0, .int .i64 a0_1, .int .i64 a0_2] 117 (0, 0)) (by (with_reducible repeat (first | refine blk_drewN ?_ _ | refine blk_drew ?_ | refine blk_alloc ?_ _)); exact BK218.out)) : gb219 ≠ gb218)); clear BK218; clear HB; have BK218 := n0_; have HB := n1_; have BK219 := n2_; have GW219 := n3_; have GE219 := n4_; have NB218_219 := n5_; have NB219_218 := n6_; clear n0_ n1_ n2_ n3_ n4_ n5_ n6_; clear hb hbox hg; have hnb11 := NB218_219.out; have hnc11 := NB219_218.out; have hcz12_0 : w10.cell? ⟨gb218, 0, none⟩ = some (.int .i64 a0_0) := (blk_cell BK218.out 0).trans rfl; have hcz12_1 : w10.cell? ⟨gb218, 1, none⟩ = some (.int .i64 a0_1) := (blk_cell BK218.out 1).trans rfl; have hcz12_2 : w10.cell? ⟨gb218, 2, none⟩ = some (.int .i64 a0_2) := (blk_cell BK218.out 2).trans rfl; have hfz12_0 := blk_frozen BK218.out 0; have hfz12_1 := blk_frozen BK218.out 1; have hfz12_2 := blk_frozen BK218.out 2; have hcz13_0 : w10.cell? ⟨gb219, 0, none⟩ = some (.int .i64 a1_0) := (blk_cell BK219.out 0).trans rfl; have hcz13_1 : w10.cell? ⟨gb219, 1, none⟩ = some (.int .i64 a1_1) := (blk_cell BK219.out 1).trans rfl; have hcz13_2 : w10.cell? ⟨gb219, 2, none⟩ = some (.int .i64 a1_2) := (blk_cell BK219.out 2).trans rfl; have hfz13_0 := blk_frozen BK219.out 0; have hfz13_1 := blk_frozen BK219.out 1; have hfz13_2 := blk_frozen BK219.out 2))
    go_ret
    exact ⟨by first | rfl | (simp [errW_none, errW_some] <;> rfl) | (simp [*, errW_none, errW_some] <;> rfl), by repeat (first | (with_reducible first | exact HB.out | apply below_alloc | apply pw_below_drewN | apply below_drew1 | refine below_set ?_ GE218.out | refine below_set ?_ GE219.out) | exact HB.out)⟩

end Go.Proofs.Ytjniaiobnbdhhaa.PFnExactRepairCost
