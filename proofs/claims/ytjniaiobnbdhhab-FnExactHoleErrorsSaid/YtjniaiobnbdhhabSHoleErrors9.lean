/- The walks of functions that FnExactHoleErrors reaches: what they return is what the plain functions of the same names say. Made by a program of this session after the kit's print. No conditions beyond the arguments' being read. -/
import Derived.Test.YtjniaiobnbdhhabSHoleErrors0
import Derived.Test.YtjniaiobnbdhhabSHoleErrors8
namespace Go.Proofs.Ytjniaiobnbdhhab.PFnExactHoleErrors
open Go.RowKit Go.Proofs.YtjniaiobnbdhhabW.PrintWords Go.Proofs.YtjniaiobnbdhhabW.PrintLast Go.Proofs.YtjniaiobnbdhhabW.PrintMore
attribute [local go_sem] max2_int min2_int max_two min_two max_three min_three max_four min_four   -- for this text's walks alone
set_option linter.unusedVariables false
set_option linter.unusedSimpArgs false

/-! ### spec_vfMatch: function 75 -/
mutual
def spec_vfMatch.l0 : Nat → List (S80) → List Bool → List Int → List (S95) → Int → Int → List Int → Int → Option (List Int × List Int)
 | 0, _, _, _, _, _, _, _, _ => none
 | k + 1, x2, x8, x9, x21, x22, x23, x222000, x222001 => if x23 < x22 then (if 0 ≤ x23 then (if x23 < (x21.length : Int) then (spec_vfMatch.l1 k x2 x8 x9 (-1) x21 x22 x23 x2 (x2.length : Int) 0 x222000 x222001 ((rd_T95 x21 x23).f0) ((rd_T95 x21 x23).f1) ((rd_T95 x21 x23).f2)) else (none)) else (none)) else (spec_vfMatch.l2 k x9 ([] : List Int) x8 (x8.length : Int) 0)
def spec_vfMatch.l1 : Nat → List (S80) → List Bool → List Int → Int → List (S95) → Int → Int → List (S80) → Int → Int → List Int → Int → Int → Int → Int → Option (List Int × List Int)
 | 0, _, _, _, _, _, _, _, _, _, _, _, _, _, _, _ => none
 | k + 1, x2, x8, x9, x12, x21, x22, x23, x27, x28, x29, x222000, x222001, x227000, x227001, x227002 => if x29 < x28 then (if 0 ≤ x29 then (if x29 < (x27.length : Int) then (if x12 < 0 then (if x29 < (x8.length : Int) then (if rdOf false x8 x29 = true then (spec_vfMatch.l1 k x2 x8 x9 x12 x21 x22 x23 x27 x28 (wrap64 (x29 + 1)) x222000 x222001 x227000 x227001 x227002) else ((spec_inTrack.f k x222000 x222001 x227000).bind fun t230 => (if ((rd_T80 x27 x29).f0) = t230 then (spec_vfMatch.l1 k x2 x8 x9 x29 x21 x22 x23 x27 x28 (wrap64 (x29 + 1)) x222000 x222001 x227000 x227001 x227002) else (spec_vfMatch.l1 k x2 x8 x9 x12 x21 x22 x23 x27 x28 (wrap64 (x29 + 1)) x222000 x222001 x227000 x227001 x227002)))) else (none)) else (spec_vfMatch.l1 k x2 x8 x9 x12 x21 x22 x23 x27 x28 (wrap64 (x29 + 1)) x222000 x222001 x227000 x227001 x227002)) else (none)) else (none)) else (if x12 ≥ 0 then (if 0 ≤ x12 then (if x12 < (x8.length : Int) then (if x9.length < 17592186044416 then (spec_vfMatch.l0 k x2 (x8.set (x12 : Int).toNat true) (x9 ++ [x12]) x21 x22 (wrap64 (x23 + 1)) x222000 x222001) else (none)) else (none)) else (none)) else (if x9.length < 17592186044416 then (spec_vfMatch.l0 k x2 x8 (x9 ++ [x12]) x21 x22 (wrap64 (x23 + 1)) x222000 x222001) else (none)))
def spec_vfMatch.l2 : Nat → List Int → List Int → List Bool → Int → Int → Option (List Int × List Int)
 | 0, _, _, _, _, _ => none
 | k + 1, x9, x15, x64, x65, x66 => if x66 < x65 then (if 0 ≤ x66 then (if x66 < (x64.length : Int) then (if rdOf false x64 x66 = true then (spec_vfMatch.l2 k x9 x15 x64 x65 (wrap64 (x66 + 1))) else (if x15.length < 17592186044416 then (spec_vfMatch.l2 k x9 (x15 ++ [x66]) x64 x65 (wrap64 (x66 + 1))) else (none))) else (none)) else (none)) else (some (x9, x15))
end
def spec_vfMatch.f (k : Nat) (l0_0 : List Int) (a0_1 : Int) (l1 : List (S95)) (l2 : List (S80)) : Option (List Int × List Int) := if 0 ≤ (l2.length : Int) then (if ((l2.length : Int) : Int).toNat ≤ 281474976710656 then (spec_vfMatch.l0 k l2 (List.replicate ((l2.length : Int) : Int).toNat false) ([] : List Int) l1 (l1.length : Int) 0 l0_0 a0_1) else (none)) else (none)
def spec_vfMatch.T10 : Bool × List (List Nat × List Nat) := (true, [([], []), ([0], [0]), ([1], [1]), ([2], [2]), ([2], [2]), ([3, 4, 2], [2, 3, 4]), ([5, 2], [2, 5]), ([6, 2], [2, 6]), ([2, 7], [2, 7]), ([8, 2], [8]), ([9], [9]), ([10, 9], [9, 10]), ([9], [9]), ([9], [9]), ([13, 9], [9, 13]), ([12, 14, 9, 9], [9, 12, 14]), ([11, 15, 9], [9, 11, 15]), ([9, 16], [9, 16])])
def spec_vfMatch.B10 : List Nat := [0, 1, 3, 7, 7, 31, 63, 127, 255, 511, 1023, 2047, 1023, 1023, 9215, 29695, 65535, 131071]
theorem spec_vfMatch.tab10 : rtab .any (opsOf Try.f75 10) = spec_vfMatch.T10 := by kernel_rfl
theorem spec_vfMatch.bits10 : waitsOk spec_vfMatch.T10.2 spec_vfMatch.B10 = true := by kernel_rfl
set_option maxHeartbeats 8000000 in
set_option maxRecDepth 100000 in
theorem spec_vfMatch.calls (k : Nat) (A0_0 : Option Addr) (c0_0 : Nat) (l0_0 : List Int) (a0_1 : Int) (A1 : Option Addr) (c1 : Nat) (l1 : List (S95)) (A2 : Option Addr) (c2 : Nat) (l2 : List (S80)) (r1 : List Int) (r2 : List Int) (w : World) (hr0_0 : Kd.C (Kd.int .i64) w A0_0 l0_0.length l0_0) (hc0_0 : l0_0.length ≤ c0_0) (hr1 : Kd.C k95 w A1 l1.length l1) (hc1 : l1.length ≤ c1) (hr2 : Kd.C k80 w A2 l2.length l2) (hc2 : l2.length ≤ c2) (h : spec_vfMatch.f k l0_0 a0_1 l1 l2 = some (r1, r2)) :
  Calls Try.prog 75 #[.agg #[.slice A0_0 l0_0.length c0_0, .int .i64 a0_1], .slice A1 l1.length c1, .slice A2 l2.length c2] w fun e w' => ∃ v0_ v1_ : Value, e = .returned (.tuple #[v0_, v1_]) ∧ Kd.R (Kd.int .i64) 3 w' w.heap.size (fun k_ => some k_ ≠ (v1_ : Value).ownBlock) v0_ r1 ∧ Kd.R (Kd.int .i64) 3 w' w.heap.size (fun k_ => some k_ ≠ (v0_ : Value).ownBlock) v1_ r2 ∧ Below w.heap.size w w' := by
 have hu44 := Try.underlying44
 have hu95 := Try.underlying95
 have hu80 := Try.underlying80
 have HR0_0 := Aside0.mk hr0_0
 have HC0_0 := Aside0.mk hc0_0
 clear hr0_0 hc0_0
 have HR1 := Aside0.mk hr1
 have HC1 := Aside0.mk hc1
 clear hr1 hc1
 have HR2 := Aside0.mk hr2
 have HC2 := Aside0.mk hc2
 clear hr2 hc2
 have HB := Aside0.mk (Below.refl w.heap.size w)
 have H : (if 0 ≤ (l2.length : Int) then (if ((l2.length : Int) : Int).toNat ≤ 281474976710656 then (spec_vfMatch.l0 k l2 (List.replicate ((l2.length : Int) : Int).toNat false) ([] : List Int) l1 (l1.length : Int) 0 l0_0 a0_1) else (none)) else (none)) = some (r1, r2) := h
 clear h
 by_cases c4 : 0 ≤ (l2.length : Int)
 ·rw [if_pos c4] at H
  have c4b0 := eq_true c4
  have c4b1 : decide (0 ≤ (l2.length : Int)) = true := decide_eq_true c4
  clear c4
  by_cases c5 : ((l2.length : Int) : Int).toNat ≤ 281474976710656
  ·rw [if_pos c5] at H
   have c5b0 := eq_true c5
   have c5b1 : decide (((l2.length : Int) : Int).toNat ≤ 281474976710656) = true := decide_eq_true c5
   clear c5
   obtain ⟨y222, hy222⟩ : ∃ y_ : List Bool, y_ = (List.replicate ((l2.length : Int) : Int).toNat false) := ⟨_, rfl⟩
   replace H : (spec_vfMatch.l0 k l2 y222 ([] : List Int) l1 (l1.length : Int) 0 l0_0 a0_1) = some (r1, r2) := by first | (rw [hy222]; with_reducible exact H) | (have H2_ := (Option.bind_some _ _).symm.trans H; rw [hy222]; with_reducible exact H2_) | (have H2_ := (Option.bind_some _ _).symm.trans H; with_reducible exact H2_) | with_reducible exact H | (rw [hy222]; exact H) | exact H
   have Ny222 := Aside0.mk hy222
   clear hy222
   have H' := Aside0.mk H
   clear H
   go_enter Try.func75, Try.ntmps75
   go_wp2_with (first | ((with_reducible refine gate_dst (N := 3) rfl ?_); refine box_event ?hg (N := 3) ?hd (cs := #[.slice A0_0 l0_0.length c0_0, .int .i64 a0_1]) (t := 44) ?hr ?_; (case hd => rfl); (case hg => rfl); (case hr => first | (go_simp; done) | (go_simp; rfl)); intro gb221 hg w6 hbox hb; have n0_ := Aside0.mk (below_step bl hb); have n1_ := Aside0.mk (hbox); have n2_ := Aside0.mk ((by rw [hg]; exact (below_size bl) : w.heap.size ≤ gb221)); have n3_ := Aside0.mk ((by rw [hg]; exact (below_size bl) : w.heap.size ≤ gb221)); clear HB; have HB := n0_; have BK221 := n1_; have GW221 := n2_; have GE221 := n3_; clear n0_ n1_ n2_ n3_; clear hb hbox hg) | ((with_reducible refine gate_dst (N := 20) rfl ?_); refine Kd.R_make Kd.bool _ 4 rfl (N := 20) rfl 93 _ _ rfl (l2.length : Int) rfl rfl Try.underlying93 (.bool false) 1 info4 rfl (by decide) (by omega) false (ok := fun _ => True) (okp := fun _ => True) rfl (fun _ hk => hk) trivial (od) (Nat.le_trans (Nat.mul_le_mul_right _ (od : (l2.length : Int).toNat ≤ 281474976710656)) (by omega)) (Below.refl _ _) (Nat.le_refl _) ?_; intro v223 w7 ho8 hb hg_ hnew_; clear hg_ hnew_; (first | rw [← Ny222.out] at ho8 | (simp only [Int.reduceToNat] at ho8; rw [← Ny222.out] at ho8)); have n0_ := Aside0.mk (Kd.R_lower ho8 (below_size bl)); have n1_ := Aside0.mk (blk_below (g := gb221) (o := .cells #[.slice A0_0 l0_0.length c0_0, .int .i64 a0_1] 44 (0, 0)) (bup BK221.out) hb); have n2_ := Aside0.mk (below_step bl hb); clear BK221; clear HB; have HO224 := n0_; have BK221 := n1_; have HB := n2_; clear n0_ n1_ n2_; clear hb ho8))
   go_loopg [9, 23] k (fun kq v9 v23 w' => ∃ (x8_1 : List Bool) (x9_1 : List Int) (x23_1 : Int), v23 = .int .i64 x23_1 ∧ Aside0 (spec_vfMatch.l0 kq l2 x8_1 x9_1 l1 (l1.length : Int) x23_1 l0_0 a0_1 = some (r1, r2)) ∧ Aside0 (kq ≤ k) ∧ Aside0 (Kd.R Kd.bool 4 w' w.heap.size (fun _ => True) v223 x8_1) ∧ Aside0 (Kd.R (Kd.int .i64) 3 w' w.heap.size (fun _ => True) v9 x9_1) ∧ Aside0 (w'.heap[gb221]? = some (.cells #[(.slice A0_0 l0_0.length c0_0), .int .i64 a0_1] 44 (0, 0))) ∧ Aside0 (Below w.heap.size w w'))
   case atStart => exact ⟨(y222), (([] : List Int)), (0), fin2, H', ⟨Nat.le_refl _⟩, ⟨rup HO224.out⟩, ⟨by first | exact Kd.R_nil _ _ _ _ _ | exact Kd.N_nil _ _ _ _ _ | exact Kd.V_nil _ _ _ _ _ | exact Kd.Q_nil _ _ _ _ _ | exact Kd.S_nil _ _ _ _ _⟩, ⟨bup BK221.out⟩, ⟨bl⟩⟩
   case round =>
    clear H'
    try clear c1
    try clear c2
    try clear p2
    try clear c4
    try clear c4b0
    try clear c4b1
    try clear c5
    try clear c5b0
    try clear c5b1
    try clear c7
    obtain ⟨x8_1, x9_1, x23_1, rfl, HA, HK1, HO_8, HO_9, BK221, HB⟩ := hrel
    cases gk with
    | zero => exact absurd HA.out (by simp [spec_vfMatch.l0])
    | succ k1 =>
     have H := HA.out
     clear HA
     simp only [spec_vfMatch.l0] at H
     by_cases c9 : x23_1 < (l1.length : Int)
     ·rw [if_pos c9] at H
      have c9b0 : decide (x23_1 < (l1.length : Int)) = true := decide_eq_true c9
      clear c9
      by_cases c10 : 0 ≤ x23_1
      ·rw [if_pos c10] at H
       have c10b0 : decide (0 ≤ x23_1) = true := decide_eq_true c10
       clear c10
       by_cases c11 : x23_1 < (l1.length : Int)
       ·rw [if_pos c11] at H
        have c11b0 : decide (x23_1 < (l1.length : Int)) = true := decide_eq_true c11
        clear c11
        have H' := Aside0.mk H
        clear H
        have p225 : 0 ≤ (x23_1 : Int) := od
        have q225 : x23_1 < (l1.length : Int) := od
        obtain ⟨ad225, e225, hx225_0, hx225_1, hx225_2⟩ := at_T95 HR1.out x23_1 p225 q225
        cases e225
        replace hx225_0 := (HB.out.cell (World.block_lt_of_cell? w _ hx225_0)).trans hx225_0
        replace hx225_1 := (HB.out.cell (World.block_lt_of_cell? w _ hx225_1)).trans hx225_1
        replace hx225_2 := (HB.out.cell (World.block_lt_of_cell? w _ hx225_2)).trans hx225_2
        replace p225 := eq_true p225
        replace q225 := eq_true q225
        go_wp2_with (first | ((with_reducible refine gate_dst (N := 11) rfl ?_); refine box_event ?hg (N := 11) ?hd (cs := #[.int .i64 0, .int .i64 0, .int .i64 0]) (t := 95) ?hr ?_; (case hd => rfl); (case hg => rfl); (case hr => first | (go_simp; done) | (go_simp; rfl)); intro gb226 hg w12 hbox hb; have n0_ := Aside0.mk (Kd.R_below (rup HO_8.out) hb); have n1_ := Aside0.mk (Kd.R_below (rup HO_9.out) hb); have n2_ := Aside0.mk (blk_below (g := gb221) (o := .cells #[.slice A0_0 l0_0.length c0_0, .int .i64 a0_1] 44 (0, 0)) (bup BK221.out) hb); have n3_ := Aside0.mk (below_step bl hb); have n4_ := Aside0.mk (hbox); have n5_ := Aside0.mk ((by rw [hg]; exact (below_size bl) : w.heap.size ≤ gb226)); have n6_ := Aside0.mk ((by rw [hg]; exact (below_size bl) : w.heap.size ≤ gb226)); have n7_ := Aside0.mk ((by rw [hg]; exact Nat.ne_of_lt (blk_lt (g := gb221) (o := .cells #[.slice A0_0 l0_0.length c0_0, .int .i64 a0_1] 44 (0, 0)) (bup BK221.out)) : gb221 ≠ gb226)); have n8_ := Aside0.mk ((by rw [hg]; exact Nat.ne_of_gt (blk_lt (g := gb221) (o := .cells #[.slice A0_0 l0_0.length c0_0, .int .i64 a0_1] 44 (0, 0)) (bup BK221.out)) : gb226 ≠ gb221)); clear HO_8; clear HO_9; clear BK221; clear HB; have HO_8 := n0_; have HO_9 := n1_; have BK221 := n2_; have HB := n3_; have BK226 := n4_; have GW226 := n5_; have GE226 := n6_; have NB221_226 := n7_; have NB226_221 := n8_; clear n0_ n1_ n2_ n3_ n4_ n5_ n6_ n7_ n8_; clear hb hbox hg; have hnb13 := NB226_221.out; have hnc13 := NB221_226.out; have hcz14_0 : w12.cell? ⟨gb226, 0, none⟩ = some (.int .i64 0) := (blk_cell BK226.out 0).trans rfl; have hcz14_1 : w12.cell? ⟨gb226, 1, none⟩ = some (.int .i64 0) := (blk_cell BK226.out 1).trans rfl; have hcz14_2 : w12.cell? ⟨gb226, 2, none⟩ = some (.int .i64 0) := (blk_cell BK226.out 2).trans rfl; have hfz14_0 := blk_frozen BK226.out 0; have hfz14_1 := blk_frozen BK226.out 1; have hfz14_2 := blk_frozen BK226.out 2))
        go_loopg [12, 29] k1 (fun kq v12 v29 w' => ∃ (x12_2 : Int) (x29_2 : Int), v12 = .int .i64 x12_2 ∧ v29 = .int .i64 x29_2 ∧ Aside0 (spec_vfMatch.l1 kq l2 x8_1 x9_1 x12_2 l1 (l1.length : Int) x23_1 l2 (l2.length : Int) x29_2 l0_0 a0_1 ((rd_T95 l1 x23_1).f0) ((rd_T95 l1 x23_1).f1) ((rd_T95 l1 x23_1).f2) = some (r1, r2)) ∧ Aside0 (kq ≤ k1) ∧ Aside0 (Kd.R Kd.bool 4 w' w.heap.size (fun _ => True) v223 x8_1) ∧ Aside0 (Kd.R (Kd.int .i64) 3 w' w.heap.size (fun _ => True) u9 x9_1) ∧ Aside0 (w'.heap[gb221]? = some (.cells #[(.slice A0_0 l0_0.length c0_0), .int .i64 a0_1] 44 (0, 0))) ∧ Aside0 (w'.heap[gb226]? = some (.cells #[.int .i64 ((rd_T95 l1 x23_1).f0), .int .i64 ((rd_T95 l1 x23_1).f1), .int .i64 ((rd_T95 l1 x23_1).f2)] 95 (0, 0))) ∧ Aside0 (Below w.heap.size w w'))
        case atStart => exact ⟨((-1)), (0), fin2, fin2, H', ⟨Nat.le_refl _⟩, ⟨by (with_reducible repeat (first | apply Kd.R_alloc | apply Kd.R_drewN | apply Kd.R_drew)); exact Kd.R_mono (Kd.R_far (p := ⟨gb226, 2, none⟩) (Kd.R_far (p := ⟨gb226, 1, none⟩) (Kd.R_far (p := ⟨gb226, 0, none⟩) (Kd.R_types HO_8.out BK226.out (by decide)) (fun _ hk => hk.2) (.int .i64 ((rd_T95 l1 x23_1).f0))) (fun _ hk => hk.2) (.int .i64 ((rd_T95 l1 x23_1).f1))) (fun _ hk => hk.2) (.int .i64 ((rd_T95 l1 x23_1).f2))) (fun _ hk => trivial)⟩, ⟨by (with_reducible repeat (first | apply Kd.R_alloc | apply Kd.R_drewN | apply Kd.R_drew)); exact Kd.R_mono (Kd.R_far (p := ⟨gb226, 2, none⟩) (Kd.R_far (p := ⟨gb226, 1, none⟩) (Kd.R_far (p := ⟨gb226, 0, none⟩) (Kd.R_types HO_9.out BK226.out (by decide)) (fun _ hk => hk.2) (.int .i64 ((rd_T95 l1 x23_1).f0))) (fun _ hk => hk.2) (.int .i64 ((rd_T95 l1 x23_1).f1))) (fun _ hk => hk.2) (.int .i64 ((rd_T95 l1 x23_1).f2))) (fun _ hk => trivial)⟩, ⟨by (with_reducible repeat (first | refine blk_drewN ?_ _ | refine blk_drew ?_ | refine blk_alloc ?_ _)); refine blk_far ?_ NB221_226.out _; (with_reducible repeat (first | refine blk_drewN ?_ _ | refine blk_drew ?_ | refine blk_alloc ?_ _)); refine blk_far ?_ NB221_226.out _; (with_reducible repeat (first | refine blk_drewN ?_ _ | refine blk_drew ?_ | refine blk_alloc ?_ _)); refine blk_far ?_ NB221_226.out _; (with_reducible repeat (first | refine blk_drewN ?_ _ | refine blk_drew ?_ | refine blk_alloc ?_ _)); exact BK221.out⟩, ⟨by (with_reducible repeat (first | refine blk_drewN ?_ _ | refine blk_drew ?_ | refine blk_alloc ?_ _)); refine blk_put (cs := #[.int .i64 ((rd_T95 l1 x23_1).f0), .int .i64 ((rd_T95 l1 x23_1).f1), .int .i64 0]) ?_ 2 _ rfl; (with_reducible repeat (first | refine blk_drewN ?_ _ | refine blk_drew ?_ | refine blk_alloc ?_ _)); refine blk_put (cs := #[.int .i64 ((rd_T95 l1 x23_1).f0), .int .i64 0, .int .i64 0]) ?_ 1 _ rfl; (with_reducible repeat (first | refine blk_drewN ?_ _ | refine blk_drew ?_ | refine blk_alloc ?_ _)); refine blk_put (cs := #[.int .i64 0, .int .i64 0, .int .i64 0]) ?_ 0 _ rfl; (with_reducible repeat (first | refine blk_drewN ?_ _ | refine blk_drew ?_ | refine blk_alloc ?_ _)); exact BK226.out⟩, ⟨bl⟩⟩
        case round =>
         clear H'
         try clear c1
         try clear c2
         try clear p2
         try clear q2
         try clear hx2
         try clear c4
         try clear c4b0
         try clear c4b1
         try clear c5
         try clear c5b0
         try clear c5b1
         try clear c7
         try clear c9
         try clear c9b0
         try clear c10
         try clear c10b0
         try clear c11
         try clear c11b0
         try clear c13
         try clear hcz14_0
         try clear hcz14_1
         try clear hcz14_2
         try clear hfz14_0
         try clear hfz14_1
         try clear hfz14_2
         try clear hx225_0
         try clear hx225_1
         try clear hx225_2
         try clear p2
         try clear p225
         try clear q225
         obtain ⟨x12_2, x29_2, rfl, rfl, HA, HK2, HO_8, HO_9, BK221, BK226, HB⟩ := hrel
         cases gk with
         | zero => exact absurd HA.out (by simp [spec_vfMatch.l1])
         | succ k2 =>
          have H := HA.out
          clear HA
          simp only [spec_vfMatch.l1] at H
          by_cases c15 : x29_2 < (l2.length : Int)
          ·rw [if_pos c15] at H
           have c15b0 : decide (x29_2 < (l2.length : Int)) = true := decide_eq_true c15
           clear c15
           by_cases c16 : 0 ≤ x29_2
           ·rw [if_pos c16] at H
            have c16b0 : decide (0 ≤ x29_2) = true := decide_eq_true c16
            clear c16
            by_cases c17 : x29_2 < (l2.length : Int)
            ·rw [if_pos c17] at H
             have c17b0 : decide (x29_2 < (l2.length : Int)) = true := decide_eq_true c17
             clear c17
             by_cases c18 : x12_2 < 0
             ·rw [if_pos c18] at H
              have c18b0 : decide (x12_2 < 0) = true := decide_eq_true c18
              clear c18
              by_cases c19 : x29_2 < (x8_1.length : Int)
              ·rw [if_pos c19] at H
               have c19b0 : decide (x29_2 < (x8_1.length : Int)) = true := decide_eq_true c19
               clear c19
               obtain ⟨bq20, hbq20⟩ : ∃ b_ : Bool, b_ = (rdOf false x8_1 x29_2) := ⟨_, rfl⟩
               replace H : (if bq20 = true then (spec_vfMatch.l1 k2 l2 x8_1 x9_1 x12_2 l1 (l1.length : Int) x23_1 l2 (l2.length : Int) (wrap64 (x29_2 + 1)) l0_0 a0_1 ((rd_T95 l1 x23_1).f0) ((rd_T95 l1 x23_1).f1) ((rd_T95 l1 x23_1).f2)) else ((spec_inTrack.f k2 l0_0 a0_1 ((rd_T95 l1 x23_1).f0)).bind fun t230 => (if ((rd_T80 l2 x29_2).f0) = t230 then (spec_vfMatch.l1 k2 l2 x8_1 x9_1 x29_2 l1 (l1.length : Int) x23_1 l2 (l2.length : Int) (wrap64 (x29_2 + 1)) l0_0 a0_1 ((rd_T95 l1 x23_1).f0) ((rd_T95 l1 x23_1).f1) ((rd_T95 l1 x23_1).f2)) else (spec_vfMatch.l1 k2 l2 x8_1 x9_1 x12_2 l1 (l1.length : Int) x23_1 l2 (l2.length : Int) (wrap64 (x29_2 + 1)) l0_0 a0_1 ((rd_T95 l1 x23_1).f0) ((rd_T95 l1 x23_1).f1) ((rd_T95 l1 x23_1).f2))))) = some (r1, r2) := by rw [← hbq20] at H; exact H
               have Nbq20 := Aside0.mk hbq20
               clear hbq20
               by_cases c21 : bq20 = true
               ·subst c21
                have H1 : (spec_vfMatch.l1 k2 l2 x8_1 x9_1 x12_2 l1 (l1.length : Int) x23_1 l2 (l2.length : Int) (wrap64 (x29_2 + 1)) l0_0 a0_1 ((rd_T95 l1 x23_1).f0) ((rd_T95 l1 x23_1).f1) ((rd_T95 l1 x23_1).f2)) = some (r1, r2) := by rw [if_pos rfl] at H; exact H
                clear H
                have H := H1
                clear H1
                have H' := Aside0.mk H
                clear H
                have p227 : 0 ≤ (x29_2 : Int) := od
                have q227 : x29_2 < (l2.length : Int) := od
                obtain ⟨ad227, e227, hx227_0, hx227_1, hx227_2⟩ := at_T80 HR2.out x29_2 p227 q227
                cases e227
                replace hx227_0 := (HB.out.cell (World.block_lt_of_cell? w _ hx227_0)).trans hx227_0
                replace hx227_1 := (HB.out.cell (World.block_lt_of_cell? w _ hx227_1)).trans hx227_1
                replace hx227_2 := (HB.out.cell (World.block_lt_of_cell? w _ hx227_2)).trans hx227_2
                replace p227 := eq_true p227
                replace q227 := eq_true q227
                try go_wp2_with (first | ((with_reducible refine gate_dst (N := 14) rfl ?_); refine box_event ?hg (N := 14) ?hd (cs := #[.int .i64 0, .int .i64 0, .int .i64 0]) (t := 80) ?hr ?_; (case hd => rfl); (case hg => rfl); (case hr => first | (go_simp; done) | (go_simp; rfl)); intro gb228 hg w22 hbox hb; have n0_ := Aside0.mk (Kd.R_below (rup HO_8.out) hb); have n1_ := Aside0.mk (Kd.R_below (rup HO_9.out) hb); have n2_ := Aside0.mk (blk_below (g := gb221) (o := .cells #[.slice A0_0 l0_0.length c0_0, .int .i64 a0_1] 44 (0, 0)) (bup BK221.out) hb); have n3_ := Aside0.mk (blk_below (g := gb226) (o := .cells #[.int .i64 ((rd_T95 l1 x23_1).f0), .int .i64 ((rd_T95 l1 x23_1).f1), .int .i64 ((rd_T95 l1 x23_1).f2)] 95 (0, 0)) (bup BK226.out) hb); have n4_ := Aside0.mk (below_step bl hb); have n5_ := Aside0.mk (hbox); have n6_ := Aside0.mk ((by rw [hg]; exact (below_size bl) : w.heap.size ≤ gb228)); have n7_ := Aside0.mk ((by rw [hg]; exact (below_size bl) : w.heap.size ≤ gb228)); have n8_ := Aside0.mk ((by rw [hg]; exact Nat.ne_of_lt (blk_lt (g := gb221) (o := .cells #[.slice A0_0 l0_0.length c0_0, .int .i64 a0_1] 44 (0, 0)) (bup BK221.out)) : gb221 ≠ gb228)); have n9_ := Aside0.mk ((by rw [hg]; exact Nat.ne_of_gt (blk_lt (g := gb221) (o := .cells #[.slice A0_0 l0_0.length c0_0, .int .i64 a0_1] 44 (0, 0)) (bup BK221.out)) : gb228 ≠ gb221)); have n10_ := Aside0.mk ((by rw [hg]; exact Nat.ne_of_lt (blk_lt (g := gb226) (o := .cells #[.int .i64 ((rd_T95 l1 x23_1).f0), .int .i64 ((rd_T95 l1 x23_1).f1), .int .i64 ((rd_T95 l1 x23_1).f2)] 95 (0, 0)) (bup BK226.out)) : gb226 ≠ gb228)); have n11_ := Aside0.mk ((by rw [hg]; exact Nat.ne_of_gt (blk_lt (g := gb226) (o := .cells #[.int .i64 ((rd_T95 l1 x23_1).f0), .int .i64 ((rd_T95 l1 x23_1).f1), .int .i64 ((rd_T95 l1 x23_1).f2)] 95 (0, 0)) (bup BK226.out)) : gb228 ≠ gb226)); clear HO_8; clear HO_9; clear BK221; clear BK226; clear HB; have HO_8 := n0_; have HO_9 := n1_; have BK221 := n2_; have BK226 := n3_; have HB := n4_; have BK228 := n5_; have GW228 := n6_; have GE228 := n7_; have NB221_228 := n8_; have NB228_221 := n9_; have NB226_228 := n10_; have NB228_226 := n11_; clear n0_ n1_ n2_ n3_ n4_ n5_ n6_ n7_ n8_ n9_ n10_ n11_; clear hb hbox hg; have hnb23 := NB228_221.out; have hnc23 := NB221_228.out; have hnb24 := NB228_226.out; have hnc24 := NB226_228.out; have hcz25_0 : w22.cell? ⟨gb228, 0, none⟩ = some (.int .i64 0) := (blk_cell BK228.out 0).trans rfl; have hcz25_1 : w22.cell? ⟨gb228, 1, none⟩ = some (.int .i64 0) := (blk_cell BK228.out 1).trans rfl; have hcz25_2 : w22.cell? ⟨gb228, 2, none⟩ = some (.int .i64 0) := (blk_cell BK228.out 2).trans rfl; have hfz25_0 := blk_frozen BK228.out 0; have hfz25_1 := blk_frozen BK228.out 1; have hfz25_2 := blk_frozen BK228.out 2))
                have n0_ : Aside0 (Kd.R Kd.bool 4 (((w22.setCell ⟨gb228, 0, none⟩ (.int .i64 ((rd_T80 l2 x29_2).f0))).setCell ⟨gb228, 1, none⟩ (.int .i64 ((rd_T80 l2 x29_2).f1))).setCell ⟨gb228, 2, none⟩ (.int .i64 ((rd_T80 l2 x29_2).f2))) w.heap.size (fun _ => True) v223 x8_1) := ⟨by (with_reducible repeat (first | apply Kd.R_alloc | apply Kd.R_drewN | apply Kd.R_drew)); exact Kd.R_mono (Kd.R_far (p := ⟨gb228, 2, none⟩) (Kd.R_far (p := ⟨gb228, 1, none⟩) (Kd.R_far (p := ⟨gb228, 0, none⟩) (Kd.R_types HO_8.out BK228.out (by decide)) (fun _ hk => hk.2) (.int .i64 ((rd_T80 l2 x29_2).f0))) (fun _ hk => hk.2) (.int .i64 ((rd_T80 l2 x29_2).f1))) (fun _ hk => hk.2) (.int .i64 ((rd_T80 l2 x29_2).f2))) (fun _ hk => trivial)⟩
                have n1_ : Aside0 (Kd.R (Kd.int .i64) 3 (((w22.setCell ⟨gb228, 0, none⟩ (.int .i64 ((rd_T80 l2 x29_2).f0))).setCell ⟨gb228, 1, none⟩ (.int .i64 ((rd_T80 l2 x29_2).f1))).setCell ⟨gb228, 2, none⟩ (.int .i64 ((rd_T80 l2 x29_2).f2))) w.heap.size (fun _ => True) u9 x9_1) := ⟨by (with_reducible repeat (first | apply Kd.R_alloc | apply Kd.R_drewN | apply Kd.R_drew)); exact Kd.R_mono (Kd.R_far (p := ⟨gb228, 2, none⟩) (Kd.R_far (p := ⟨gb228, 1, none⟩) (Kd.R_far (p := ⟨gb228, 0, none⟩) (Kd.R_types HO_9.out BK228.out (by decide)) (fun _ hk => hk.2) (.int .i64 ((rd_T80 l2 x29_2).f0))) (fun _ hk => hk.2) (.int .i64 ((rd_T80 l2 x29_2).f1))) (fun _ hk => hk.2) (.int .i64 ((rd_T80 l2 x29_2).f2))) (fun _ hk => trivial)⟩
                have n2_ : Aside0 ((((w22.setCell ⟨gb228, 0, none⟩ (.int .i64 ((rd_T80 l2 x29_2).f0))).setCell ⟨gb228, 1, none⟩ (.int .i64 ((rd_T80 l2 x29_2).f1))).setCell ⟨gb228, 2, none⟩ (.int .i64 ((rd_T80 l2 x29_2).f2))).heap[gb221]? = some (.cells #[.slice A0_0 l0_0.length c0_0, .int .i64 a0_1] 44 (0, 0))) := ⟨by (with_reducible repeat (first | refine blk_drewN ?_ _ | refine blk_drew ?_ | refine blk_alloc ?_ _)); refine blk_far ?_ NB221_228.out _; (with_reducible repeat (first | refine blk_drewN ?_ _ | refine blk_drew ?_ | refine blk_alloc ?_ _)); refine blk_far ?_ NB221_228.out _; (with_reducible repeat (first | refine blk_drewN ?_ _ | refine blk_drew ?_ | refine blk_alloc ?_ _)); refine blk_far ?_ NB221_228.out _; (with_reducible repeat (first | refine blk_drewN ?_ _ | refine blk_drew ?_ | refine blk_alloc ?_ _)); exact BK221.out⟩
                have n3_ : Aside0 ((((w22.setCell ⟨gb228, 0, none⟩ (.int .i64 ((rd_T80 l2 x29_2).f0))).setCell ⟨gb228, 1, none⟩ (.int .i64 ((rd_T80 l2 x29_2).f1))).setCell ⟨gb228, 2, none⟩ (.int .i64 ((rd_T80 l2 x29_2).f2))).heap[gb226]? = some (.cells #[.int .i64 ((rd_T95 l1 x23_1).f0), .int .i64 ((rd_T95 l1 x23_1).f1), .int .i64 ((rd_T95 l1 x23_1).f2)] 95 (0, 0))) := ⟨by (with_reducible repeat (first | refine blk_drewN ?_ _ | refine blk_drew ?_ | refine blk_alloc ?_ _)); refine blk_far ?_ NB226_228.out _; (with_reducible repeat (first | refine blk_drewN ?_ _ | refine blk_drew ?_ | refine blk_alloc ?_ _)); refine blk_far ?_ NB226_228.out _; (with_reducible repeat (first | refine blk_drewN ?_ _ | refine blk_drew ?_ | refine blk_alloc ?_ _)); refine blk_far ?_ NB226_228.out _; (with_reducible repeat (first | refine blk_drewN ?_ _ | refine blk_drew ?_ | refine blk_alloc ?_ _)); exact BK226.out⟩
                have n4_ : Aside0 ((((w22.setCell ⟨gb228, 0, none⟩ (.int .i64 ((rd_T80 l2 x29_2).f0))).setCell ⟨gb228, 1, none⟩ (.int .i64 ((rd_T80 l2 x29_2).f1))).setCell ⟨gb228, 2, none⟩ (.int .i64 ((rd_T80 l2 x29_2).f2))).heap[gb228]? = some (.cells #[.int .i64 ((rd_T80 l2 x29_2).f0), .int .i64 ((rd_T80 l2 x29_2).f1), .int .i64 ((rd_T80 l2 x29_2).f2)] 80 (0, 0))) := ⟨by (with_reducible repeat (first | refine blk_drewN ?_ _ | refine blk_drew ?_ | refine blk_alloc ?_ _)); refine blk_put (cs := #[.int .i64 ((rd_T80 l2 x29_2).f0), .int .i64 ((rd_T80 l2 x29_2).f1), .int .i64 0]) ?_ 2 _ rfl; (with_reducible repeat (first | refine blk_drewN ?_ _ | refine blk_drew ?_ | refine blk_alloc ?_ _)); refine blk_put (cs := #[.int .i64 ((rd_T80 l2 x29_2).f0), .int .i64 0, .int .i64 0]) ?_ 1 _ rfl; (with_reducible repeat (first | refine blk_drewN ?_ _ | refine blk_drew ?_ | refine blk_alloc ?_ _)); refine blk_put (cs := #[.int .i64 0, .int .i64 0, .int .i64 0]) ?_ 0 _ rfl; (with_reducible repeat (first | refine blk_drewN ?_ _ | refine blk_drew ?_ | refine blk_alloc ?_ _)); exact BK228.out⟩
                have n5_ : Aside0 (Below w.heap.size w (((w22.setCell ⟨gb228, 0, none⟩ (.int .i64 ((rd_T80 l2 x29_2).f0))).setCell ⟨gb228, 1, none⟩ (.int .i64 ((rd_T80 l2 x29_2).f1))).setCell ⟨gb228, 2, none⟩ (.int .i64 ((rd_T80 l2 x29_2).f2)))) := ⟨bl⟩
                (try clear HO_8)
                (try clear HO_9)
                (try clear BK221)
                (try clear BK226)
                (try clear BK228)
                (try clear HB)
                generalize (((w22.setCell ⟨gb228, 0, none⟩ (.int .i64 ((rd_T80 l2 x29_2).f0))).setCell ⟨gb228, 1, none⟩ (.int .i64 ((rd_T80 l2 x29_2).f1))).setCell ⟨gb228, 2, none⟩ (.int .i64 ((rd_T80 l2 x29_2).f2))) = w26 at n0_ n1_ n2_ n3_ n4_ n5_ ⊢
                have HO_8 := n0_
                have HO_9 := n1_
                have BK221 := n2_
                have BK226 := n3_
                have BK228 := n4_
                have HB := n5_
                clear n0_ n1_ n2_ n3_ n4_ n5_
                have n0_ := Aside0.mk (Kd.R_drew HO_8.out)
                have n1_ := Aside0.mk (Kd.R_drew HO_9.out)
                have n2_ := Aside0.mk (blk_drew BK221.out)
                have n3_ := Aside0.mk (blk_drew BK226.out)
                have n4_ := Aside0.mk (blk_drew BK228.out)
                have n5_ := Aside0.mk (below_drew1 HB.out)
                clear HO_8
                clear HO_9
                clear BK221
                clear BK226
                clear BK228
                clear HB
                have HO_8 := n0_
                have HO_9 := n1_
                have BK221 := n2_
                have BK226 := n3_
                have BK228 := n4_
                have HB := n5_
                clear n0_ n1_ n2_ n3_ n4_ n5_
                obtain ⟨Ao28, co28, eo28⟩ := Kd.R_slice HO_8.out
                (first | subst eo28 | (injection eo28 with f1_ f2_ f3_; have f4_ := f1_.symm; have f5_ := f3_.symm; clear f1_ f2_ f3_; subst f4_; subst f5_))
                have p229 : 0 ≤ (x29_2 : Int) := od
                have q229 : x29_2 < (x8_1.length : Int) := od
                obtain ⟨ad229, e229, hx229_0⟩ := Kd.at_bool (Kd.R_reads' HO_8.out).2.2 x29_2 p229 q229
                (try rw [← Nbq20.out] at hx229_0)
                cases e229
                replace p229 := eq_true p229
                replace q229 := eq_true q229
                refine start_ (n := 18) (S := fun w' => w'.cell? (ad229.add (x29_2).toNat) = some (.bool true)) (ds := []) #[false, false, false, false, false, false, false, false, false, false, false, false, false, false, false, false, false, false] (by kernel_rfl) rfl rfl (hx229_0) (fun hHeld => ?_); refine with_tabW spec_vfMatch.tab10 spec_vfMatch.bits10 (fun HT_ HW_ => ?_)
                generalize w26.drew = w27 at HO_8 HO_9 BK221 BK226 BK228 HB hx229_0 hHeld ⊢
                refine pure_ (i := 0) (N := some 34) (v := ?_) (a' := ?_) #[true, false, false, false, false, false, false, false, false, false, false, false, false, false, false, false, false, false] rfl rfl (any_of HT_.out (by kernel_rfl)) (fun _ _ _ h => h) (Or.inl ⟨by rfl, ?_⟩) ?_ ?_
                rotate_left
                ·intro w'
                 go_simp
                 with_reducible rfl
                rotate_left
                ·simp only [Act.put, List.setIfInBounds_toArray, List.set_cons_zero, List.set_cons_succ, i64_w, i32_w]
                 rfl
                refine pure_ (i := 1) (N := some 35) (v := ?_) (a' := ?_) #[true, true, false, false, false, false, false, false, false, false, false, false, false, false, false, false, false, false] rfl rfl (any_of HT_.out (by kernel_rfl)) (fun _ _ _ h => h) (Or.inl ⟨by rfl, ?_⟩) ?_ ?_
                rotate_left
                ·intro w'
                 go_simp
                 with_reducible rfl
                rotate_left
                ·simp only [Act.put, List.setIfInBounds_toArray, List.set_cons_zero, List.set_cons_succ, i64_w, i32_w]
                 rfl
                refine pure_ (i := 2) (N := some 36) (v := ?_) (a' := ?_) #[true, true, true, false, false, false, false, false, false, false, false, false, false, false, false, false, false, false] rfl rfl (any_of HT_.out (by kernel_rfl)) (fun _ _ _ h => h) (Or.inl ⟨by rfl, ?_⟩) ?_ ?_
                rotate_left
                ·intro w'
                 go_simp
                 with_reducible rfl
                rotate_left
                ·simp only [Act.put, List.setIfInBounds_toArray, List.set_cons_zero, List.set_cons_succ, i64_w, i32_w]
                 rfl
                refine pure_ (i := 3) (N := some 37) (v := ?_) (a' := ?_) #[true, true, true, true, false, false, false, false, false, false, false, false, false, false, false, false, false, false] rfl rfl (any_of HT_.out (by kernel_rfl)) (fun _ _ _ h => h) (Or.inl ⟨by rfl, ?_⟩) ?_ ?_
                rotate_left
                ·intro w'
                 go_simp
                 with_reducible rfl
                rotate_left
                ·simp only [Act.put, List.setIfInBounds_toArray, List.set_cons_zero, List.set_cons_succ, i64_w, i32_w]
                 rfl
                refine pure_ (i := 4) (N := some 38) (v := ?_) (a' := ?_) #[true, true, true, true, true, false, false, false, false, false, false, false, false, false, false, false, false, false] rfl rfl (any_of HT_.out (by kernel_rfl)) (fun _ _ _ h => h) (Or.inl ⟨by rfl, ?_⟩) ?_ ?_
                rotate_left
                ·intro w'
                 go_simp
                 with_reducible rfl
                rotate_left
                ·simp only [Act.put, List.setIfInBounds_toArray, List.set_cons_zero, List.set_cons_succ, i64_w, i32_w]
                 rfl
                refine pure_ (i := 5) (N := some 39) (v := ?_) (a' := ?_) #[true, true, true, true, true, true, false, false, false, false, false, false, false, false, false, false, false, false] rfl rfl (any_of HT_.out (by kernel_rfl)) (fun _ _ _ h => h) (Or.inl ⟨by rfl, ?_⟩) ?_ ?_
                rotate_left
                ·intro w'
                 go_simp
                 with_reducible rfl
                rotate_left
                ·simp only [Act.put, List.setIfInBounds_toArray, List.set_cons_zero, List.set_cons_succ, i64_w, i32_w]
                 rfl
                refine take_ (i := 6) (N := some 40) (v := ?_) (a' := ?_) #[true, true, true, true, true, true, true, false, false, false, false, false, false, false, false, false, false, false] rfl rfl (take_ofW HT_.out HW_.out (by kernel_rfl)) (fun _ _ _ h => h) (Or.inl ⟨by rfl, ?_⟩) hHeld ?_ ?_
                rotate_left
                ·intro w' s0
                 go_simp
                 with_reducible rfl
                rotate_left
                ·simp only [Act.put, List.setIfInBounds_toArray, List.set_cons_zero, List.set_cons_succ, i64_w, i32_w]
                 rfl
                refine pure_ (i := 7) (N := some 41) (v := ?_) (a' := ?_) #[true, true, true, true, true, true, true, true, false, false, false, false, false, false, false, false, false, false] rfl rfl (any_of HT_.out (by kernel_rfl)) (fun _ _ _ h => h) (Or.inl ⟨by rfl, ?_⟩) ?_ ?_
                rotate_left
                ·intro w'
                 go_simp
                 with_reducible rfl
                rotate_left
                ·simp only [Act.put, List.setIfInBounds_toArray, List.set_cons_zero, List.set_cons_succ, i64_w, i32_w]
                 rfl
                refine pure_ (i := 8) (N := some 42) (v := ?_) (a' := ?_) #[true, true, true, true, true, true, true, true, true, false, false, false, false, false, false, false, false, false] rfl rfl (any_of HT_.out (by kernel_rfl)) (fun _ _ _ h => h) (Or.inl ⟨by rfl, ?_⟩) ?_ ?_
                rotate_left
                ·intro w'
                 go_simp
                 with_reducible rfl
                rotate_left
                ·simp only [Act.put, List.setIfInBounds_toArray, List.set_cons_zero, List.set_cons_succ, i64_w, i32_w]
                 rfl
                refine pure_ (i := 9) (N := some 43) (v := ?_) (a' := ?_) #[true, true, true, true, true, true, true, true, true, true, false, false, false, false, false, false, false, false] rfl rfl (any_of HT_.out (by kernel_rfl)) (fun _ _ _ h => h) (Or.inl ⟨by rfl, ?_⟩) ?_ ?_
                rotate_left
                ·intro w'
                 go_simp
                 with_reducible rfl
                rotate_left
                ·simp only [Act.put, List.setIfInBounds_toArray, List.set_cons_zero, List.set_cons_succ, i64_w, i32_w]
                 rfl
                refine pure_ (i := 10) (N := some 44) (v := undef) (a' := ?_) #[true, true, true, true, true, true, true, true, true, true, true, false, false, false, false, false, false, false] rfl rfl (any_of HT_.out (by kernel_rfl)) (fun _ _ _ h => h) (Or.inr ⟨by rfl, rfl⟩) ?_ ?_
                rotate_left
                ·simp only [Act.put, List.setIfInBounds_toArray, List.set_cons_zero, List.set_cons_succ, i64_w, i32_w]
                 rfl
                refine pure_ (i := 11) (N := some 45) (v := undef) (a' := ?_) #[true, true, true, true, true, true, true, true, true, true, true, true, false, false, false, false, false, false] rfl rfl (any_of HT_.out (by kernel_rfl)) (fun _ _ _ h => h) (Or.inr ⟨by rfl, rfl⟩) ?_ ?_
                rotate_left
                ·simp only [Act.put, List.setIfInBounds_toArray, List.set_cons_zero, List.set_cons_succ, i64_w, i32_w]
                 rfl
                refine pure_ (i := 12) (N := some 46) (v := undef) (a' := ?_) #[true, true, true, true, true, true, true, true, true, true, true, true, true, false, false, false, false, false] rfl rfl (any_of HT_.out (by kernel_rfl)) (fun _ _ _ h => h) (Or.inr ⟨by rfl, rfl⟩) ?_ ?_
                rotate_left
                ·simp only [Act.put, List.setIfInBounds_toArray, List.set_cons_zero, List.set_cons_succ, i64_w, i32_w]
                 rfl
                refine pure_ (i := 13) (N := some 47) (v := undef) (a' := ?_) #[true, true, true, true, true, true, true, true, true, true, true, true, true, true, false, false, false, false] rfl rfl (any_of HT_.out (by kernel_rfl)) (fun _ _ _ h => h) (Or.inr ⟨by rfl, rfl⟩) ?_ ?_
                rotate_left
                ·simp only [Act.put, List.setIfInBounds_toArray, List.set_cons_zero, List.set_cons_succ, i64_w, i32_w]
                 rfl
                refine pure_ (i := 14) (N := some 48) (v := undef) (a' := ?_) #[true, true, true, true, true, true, true, true, true, true, true, true, true, true, true, false, false, false] rfl rfl (any_of HT_.out (by kernel_rfl)) (fun _ _ _ h => h) (Or.inr ⟨by rfl, rfl⟩) ?_ ?_
                rotate_left
                ·simp only [Act.put, List.setIfInBounds_toArray, List.set_cons_zero, List.set_cons_succ, i64_w, i32_w]
                 rfl
                refine pure_ (i := 15) (N := some 49) (v := undef) (a' := ?_) #[true, true, true, true, true, true, true, true, true, true, true, true, true, true, true, true, false, false] rfl rfl (any_of HT_.out (by kernel_rfl)) (fun _ _ _ h => h) (Or.inr ⟨by rfl, rfl⟩) ?_ ?_
                rotate_left
                ·simp only [Act.put, List.setIfInBounds_toArray, List.set_cons_zero, List.set_cons_succ, i64_w, i32_w]
                 rfl
                refine pure_ (i := 16) (N := some 50) (v := undef) (a' := ?_) #[true, true, true, true, true, true, true, true, true, true, true, true, true, true, true, true, true, false] rfl rfl (any_of HT_.out (by kernel_rfl)) (fun _ _ _ h => h) (Or.inr ⟨by rfl, rfl⟩) ?_ ?_
                rotate_left
                ·simp only [Act.put, List.setIfInBounds_toArray, List.set_cons_zero, List.set_cons_succ, i64_w, i32_w]
                 rfl
                refine pure_ (i := 17) (N := some 51) (v := ?_) (a' := ?_) #[true, true, true, true, true, true, true, true, true, true, true, true, true, true, true, true, true, true] rfl rfl (any_of HT_.out (by kernel_rfl)) (fun _ _ _ h => h) (Or.inl ⟨by rfl, ?_⟩) ?_ ?_
                rotate_left
                ·intro w'
                 go_simp
                 with_reducible rfl
                rotate_left
                ·simp only [Act.put, List.setIfInBounds_toArray, List.set_cons_zero, List.set_cons_succ, i64_w, i32_w]
                 rfl
                refine done_ (done_of HT_.out (by kernel_rfl)) ?_
                try go_wp2
                go_roundg k2
                case measure => have := HK1.out; have := HK2.out; omega
                case rel => exact ⟨(x12_2), (wrap64 (x29_2 + 1)), fin2, fin2, H', ⟨by have := HK1.out; have := HK2.out; omega⟩, ⟨rup HO_8.out⟩, ⟨rup HO_9.out⟩, ⟨bup BK221.out⟩, ⟨bup BK226.out⟩, ⟨bl⟩⟩
               ·replace c21 := Bool.eq_false_iff.mpr c21
                subst c21
                have H1 : ((spec_inTrack.f k2 l0_0 a0_1 ((rd_T95 l1 x23_1).f0)).bind fun t230 => (if ((rd_T80 l2 x29_2).f0) = t230 then (spec_vfMatch.l1 k2 l2 x8_1 x9_1 x29_2 l1 (l1.length : Int) x23_1 l2 (l2.length : Int) (wrap64 (x29_2 + 1)) l0_0 a0_1 ((rd_T95 l1 x23_1).f0) ((rd_T95 l1 x23_1).f1) ((rd_T95 l1 x23_1).f2)) else (spec_vfMatch.l1 k2 l2 x8_1 x9_1 x12_2 l1 (l1.length : Int) x23_1 l2 (l2.length : Int) (wrap64 (x29_2 + 1)) l0_0 a0_1 ((rd_T95 l1 x23_1).f0) ((rd_T95 l1 x23_1).f1) ((rd_T95 l1 x23_1).f2)))) = some (r1, r2) := by rw [if_neg (show ¬ (false = true) by decide)] at H; exact H
                clear H
                have H := H1
                clear H1
                replace H := Option.bind_eq_some_iff.mp H
                obtain ⟨t230, A290, H⟩ := H
                replace H : (if ((rd_T80 l2 x29_2).f0) = t230 then (spec_vfMatch.l1 k2 l2 x8_1 x9_1 x29_2 l1 (l1.length : Int) x23_1 l2 (l2.length : Int) (wrap64 (x29_2 + 1)) l0_0 a0_1 ((rd_T95 l1 x23_1).f0) ((rd_T95 l1 x23_1).f1) ((rd_T95 l1 x23_1).f2)) else (spec_vfMatch.l1 k2 l2 x8_1 x9_1 x12_2 l1 (l1.length : Int) x23_1 l2 (l2.length : Int) (wrap64 (x29_2 + 1)) l0_0 a0_1 ((rd_T95 l1 x23_1).f0) ((rd_T95 l1 x23_1).f1) ((rd_T95 l1 x23_1).f2))) = some (r1, r2) := H
                have A29 := Aside0.mk A290
                clear A290
                by_cases c30 : ((rd_T80 l2 x29_2).f0) = t230
                ·rw [if_pos c30] at H
                 have c30b0 : (((rd_T80 l2 x29_2).f0) == t230) = true := beq_iff_eq.mpr c30
                 have c30b1 : (((rd_T80 l2 x29_2).f0) != t230) = false := bne_eq_false_iff_eq.mpr c30
                 clear c30
                 have H' := Aside0.mk H
                 clear H
                 have p227 : 0 ≤ (x29_2 : Int) := od
                 have q227 : x29_2 < (l2.length : Int) := od
                 obtain ⟨ad227, e227, hx227_0, hx227_1, hx227_2⟩ := at_T80 HR2.out x29_2 p227 q227
                 cases e227
                 replace hx227_0 := (HB.out.cell (World.block_lt_of_cell? w _ hx227_0)).trans hx227_0
                 replace hx227_1 := (HB.out.cell (World.block_lt_of_cell? w _ hx227_1)).trans hx227_1
                 replace hx227_2 := (HB.out.cell (World.block_lt_of_cell? w _ hx227_2)).trans hx227_2
                 replace p227 := eq_true p227
                 replace q227 := eq_true q227
                 try go_wp2_with (first | ((with_reducible refine gate_dst (N := 14) rfl ?_); refine box_event ?hg (N := 14) ?hd (cs := #[.int .i64 0, .int .i64 0, .int .i64 0]) (t := 80) ?hr ?_; (case hd => rfl); (case hg => rfl); (case hr => first | (go_simp; done) | (go_simp; rfl)); intro gb228 hg w31 hbox hb; have n0_ := Aside0.mk (Kd.R_below (rup HO_8.out) hb); have n1_ := Aside0.mk (Kd.R_below (rup HO_9.out) hb); have n2_ := Aside0.mk (blk_below (g := gb221) (o := .cells #[.slice A0_0 l0_0.length c0_0, .int .i64 a0_1] 44 (0, 0)) (bup BK221.out) hb); have n3_ := Aside0.mk (blk_below (g := gb226) (o := .cells #[.int .i64 ((rd_T95 l1 x23_1).f0), .int .i64 ((rd_T95 l1 x23_1).f1), .int .i64 ((rd_T95 l1 x23_1).f2)] 95 (0, 0)) (bup BK226.out) hb); have n4_ := Aside0.mk (below_step bl hb); have n5_ := Aside0.mk (hbox); have n6_ := Aside0.mk ((by rw [hg]; exact (below_size bl) : w.heap.size ≤ gb228)); have n7_ := Aside0.mk ((by rw [hg]; exact (below_size bl) : w.heap.size ≤ gb228)); have n8_ := Aside0.mk ((by rw [hg]; exact Nat.ne_of_lt (blk_lt (g := gb221) (o := .cells #[.slice A0_0 l0_0.length c0_0, .int .i64 a0_1] 44 (0, 0)) (bup BK221.out)) : gb221 ≠ gb228)); have n9_ := Aside0.mk ((by rw [hg]; exact Nat.ne_of_gt (blk_lt (g := gb221) (o := .cells #[.slice A0_0 l0_0.length c0_0, .int .i64 a0_1] 44 (0, 0)) (bup BK221.out)) : gb228 ≠ gb221)); have n10_ := Aside0.mk ((by rw [hg]; exact Nat.ne_of_lt (blk_lt (g := gb226) (o := .cells #[.int .i64 ((rd_T95 l1 x23_1).f0), .int .i64 ((rd_T95 l1 x23_1).f1), .int .i64 ((rd_T95 l1 x23_1).f2)] 95 (0, 0)) (bup BK226.out)) : gb226 ≠ gb228)); have n11_ := Aside0.mk ((by rw [hg]; exact Nat.ne_of_gt (blk_lt (g := gb226) (o := .cells #[.int .i64 ((rd_T95 l1 x23_1).f0), .int .i64 ((rd_T95 l1 x23_1).f1), .int .i64 ((rd_T95 l1 x23_1).f2)] 95 (0, 0)) (bup BK226.out)) : gb228 ≠ gb226)); clear HO_8; clear HO_9; clear BK221; clear BK226; clear HB; have HO_8 := n0_; have HO_9 := n1_; have BK221 := n2_; have BK226 := n3_; have HB := n4_; have BK228 := n5_; have GW228 := n6_; have GE228 := n7_; have NB221_228 := n8_; have NB228_221 := n9_; have NB226_228 := n10_; have NB228_226 := n11_; clear n0_ n1_ n2_ n3_ n4_ n5_ n6_ n7_ n8_ n9_ n10_ n11_; clear hb hbox hg; have hnb32 := NB228_221.out; have hnc32 := NB221_228.out; have hnb33 := NB228_226.out; have hnc33 := NB226_228.out; have hcz34_0 : w31.cell? ⟨gb228, 0, none⟩ = some (.int .i64 0) := (blk_cell BK228.out 0).trans rfl; have hcz34_1 : w31.cell? ⟨gb228, 1, none⟩ = some (.int .i64 0) := (blk_cell BK228.out 1).trans rfl; have hcz34_2 : w31.cell? ⟨gb228, 2, none⟩ = some (.int .i64 0) := (blk_cell BK228.out 2).trans rfl; have hfz34_0 := blk_frozen BK228.out 0; have hfz34_1 := blk_frozen BK228.out 1; have hfz34_2 := blk_frozen BK228.out 2))
                 have n0_ : Aside0 (Kd.R Kd.bool 4 (((w31.setCell ⟨gb228, 0, none⟩ (.int .i64 ((rd_T80 l2 x29_2).f0))).setCell ⟨gb228, 1, none⟩ (.int .i64 ((rd_T80 l2 x29_2).f1))).setCell ⟨gb228, 2, none⟩ (.int .i64 ((rd_T80 l2 x29_2).f2))) w.heap.size (fun _ => True) v223 x8_1) := ⟨by (with_reducible repeat (first | apply Kd.R_alloc | apply Kd.R_drewN | apply Kd.R_drew)); exact Kd.R_mono (Kd.R_far (p := ⟨gb228, 2, none⟩) (Kd.R_far (p := ⟨gb228, 1, none⟩) (Kd.R_far (p := ⟨gb228, 0, none⟩) (Kd.R_types HO_8.out BK228.out (by decide)) (fun _ hk => hk.2) (.int .i64 ((rd_T80 l2 x29_2).f0))) (fun _ hk => hk.2) (.int .i64 ((rd_T80 l2 x29_2).f1))) (fun _ hk => hk.2) (.int .i64 ((rd_T80 l2 x29_2).f2))) (fun _ hk => trivial)⟩
                 have n1_ : Aside0 (Kd.R (Kd.int .i64) 3 (((w31.setCell ⟨gb228, 0, none⟩ (.int .i64 ((rd_T80 l2 x29_2).f0))).setCell ⟨gb228, 1, none⟩ (.int .i64 ((rd_T80 l2 x29_2).f1))).setCell ⟨gb228, 2, none⟩ (.int .i64 ((rd_T80 l2 x29_2).f2))) w.heap.size (fun _ => True) u9 x9_1) := ⟨by (with_reducible repeat (first | apply Kd.R_alloc | apply Kd.R_drewN | apply Kd.R_drew)); exact Kd.R_mono (Kd.R_far (p := ⟨gb228, 2, none⟩) (Kd.R_far (p := ⟨gb228, 1, none⟩) (Kd.R_far (p := ⟨gb228, 0, none⟩) (Kd.R_types HO_9.out BK228.out (by decide)) (fun _ hk => hk.2) (.int .i64 ((rd_T80 l2 x29_2).f0))) (fun _ hk => hk.2) (.int .i64 ((rd_T80 l2 x29_2).f1))) (fun _ hk => hk.2) (.int .i64 ((rd_T80 l2 x29_2).f2))) (fun _ hk => trivial)⟩
                 have n2_ : Aside0 ((((w31.setCell ⟨gb228, 0, none⟩ (.int .i64 ((rd_T80 l2 x29_2).f0))).setCell ⟨gb228, 1, none⟩ (.int .i64 ((rd_T80 l2 x29_2).f1))).setCell ⟨gb228, 2, none⟩ (.int .i64 ((rd_T80 l2 x29_2).f2))).heap[gb221]? = some (.cells #[.slice A0_0 l0_0.length c0_0, .int .i64 a0_1] 44 (0, 0))) := ⟨by (with_reducible repeat (first | refine blk_drewN ?_ _ | refine blk_drew ?_ | refine blk_alloc ?_ _)); refine blk_far ?_ NB221_228.out _; (with_reducible repeat (first | refine blk_drewN ?_ _ | refine blk_drew ?_ | refine blk_alloc ?_ _)); refine blk_far ?_ NB221_228.out _; (with_reducible repeat (first | refine blk_drewN ?_ _ | refine blk_drew ?_ | refine blk_alloc ?_ _)); refine blk_far ?_ NB221_228.out _; (with_reducible repeat (first | refine blk_drewN ?_ _ | refine blk_drew ?_ | refine blk_alloc ?_ _)); exact BK221.out⟩
                 have n3_ : Aside0 ((((w31.setCell ⟨gb228, 0, none⟩ (.int .i64 ((rd_T80 l2 x29_2).f0))).setCell ⟨gb228, 1, none⟩ (.int .i64 ((rd_T80 l2 x29_2).f1))).setCell ⟨gb228, 2, none⟩ (.int .i64 ((rd_T80 l2 x29_2).f2))).heap[gb226]? = some (.cells #[.int .i64 ((rd_T95 l1 x23_1).f0), .int .i64 ((rd_T95 l1 x23_1).f1), .int .i64 ((rd_T95 l1 x23_1).f2)] 95 (0, 0))) := ⟨by (with_reducible repeat (first | refine blk_drewN ?_ _ | refine blk_drew ?_ | refine blk_alloc ?_ _)); refine blk_far ?_ NB226_228.out _; (with_reducible repeat (first | refine blk_drewN ?_ _ | refine blk_drew ?_ | refine blk_alloc ?_ _)); refine blk_far ?_ NB226_228.out _; (with_reducible repeat (first | refine blk_drewN ?_ _ | refine blk_drew ?_ | refine blk_alloc ?_ _)); refine blk_far ?_ NB226_228.out _; (with_reducible repeat (first | refine blk_drewN ?_ _ | refine blk_drew ?_ | refine blk_alloc ?_ _)); exact BK226.out⟩
                 have n4_ : Aside0 ((((w31.setCell ⟨gb228, 0, none⟩ (.int .i64 ((rd_T80 l2 x29_2).f0))).setCell ⟨gb228, 1, none⟩ (.int .i64 ((rd_T80 l2 x29_2).f1))).setCell ⟨gb228, 2, none⟩ (.int .i64 ((rd_T80 l2 x29_2).f2))).heap[gb228]? = some (.cells #[.int .i64 ((rd_T80 l2 x29_2).f0), .int .i64 ((rd_T80 l2 x29_2).f1), .int .i64 ((rd_T80 l2 x29_2).f2)] 80 (0, 0))) := ⟨by (with_reducible repeat (first | refine blk_drewN ?_ _ | refine blk_drew ?_ | refine blk_alloc ?_ _)); refine blk_put (cs := #[.int .i64 ((rd_T80 l2 x29_2).f0), .int .i64 ((rd_T80 l2 x29_2).f1), .int .i64 0]) ?_ 2 _ rfl; (with_reducible repeat (first | refine blk_drewN ?_ _ | refine blk_drew ?_ | refine blk_alloc ?_ _)); refine blk_put (cs := #[.int .i64 ((rd_T80 l2 x29_2).f0), .int .i64 0, .int .i64 0]) ?_ 1 _ rfl; (with_reducible repeat (first | refine blk_drewN ?_ _ | refine blk_drew ?_ | refine blk_alloc ?_ _)); refine blk_put (cs := #[.int .i64 0, .int .i64 0, .int .i64 0]) ?_ 0 _ rfl; (with_reducible repeat (first | refine blk_drewN ?_ _ | refine blk_drew ?_ | refine blk_alloc ?_ _)); exact BK228.out⟩
                 have n5_ : Aside0 (Below w.heap.size w (((w31.setCell ⟨gb228, 0, none⟩ (.int .i64 ((rd_T80 l2 x29_2).f0))).setCell ⟨gb228, 1, none⟩ (.int .i64 ((rd_T80 l2 x29_2).f1))).setCell ⟨gb228, 2, none⟩ (.int .i64 ((rd_T80 l2 x29_2).f2)))) := ⟨bl⟩
                 (try clear HO_8)
                 (try clear HO_9)
                 (try clear BK221)
                 (try clear BK226)
                 (try clear BK228)
                 (try clear HB)
                 generalize (((w31.setCell ⟨gb228, 0, none⟩ (.int .i64 ((rd_T80 l2 x29_2).f0))).setCell ⟨gb228, 1, none⟩ (.int .i64 ((rd_T80 l2 x29_2).f1))).setCell ⟨gb228, 2, none⟩ (.int .i64 ((rd_T80 l2 x29_2).f2))) = w35 at n0_ n1_ n2_ n3_ n4_ n5_ ⊢
                 have HO_8 := n0_
                 have HO_9 := n1_
                 have BK221 := n2_
                 have BK226 := n3_
                 have BK228 := n4_
                 have HB := n5_
                 clear n0_ n1_ n2_ n3_ n4_ n5_
                 have n0_ := Aside0.mk (Kd.R_drew HO_8.out)
                 have n1_ := Aside0.mk (Kd.R_drew HO_9.out)
                 have n2_ := Aside0.mk (blk_drew BK221.out)
                 have n3_ := Aside0.mk (blk_drew BK226.out)
                 have n4_ := Aside0.mk (blk_drew BK228.out)
                 have n5_ := Aside0.mk (below_drew1 HB.out)
                 clear HO_8
                 clear HO_9
                 clear BK221
                 clear BK226
                 clear BK228
                 clear HB
                 have HO_8 := n0_
                 have HO_9 := n1_
                 have BK221 := n2_
                 have BK226 := n3_
                 have BK228 := n4_
                 have HB := n5_
                 clear n0_ n1_ n2_ n3_ n4_ n5_
                 obtain ⟨Ao37, co37, eo37⟩ := Kd.R_slice HO_8.out
                 (first | subst eo37 | (injection eo37 with f1_ f2_ f3_; have f4_ := f1_.symm; have f5_ := f3_.symm; clear f1_ f2_ f3_; subst f4_; subst f5_))
                 have p229 : 0 ≤ (x29_2 : Int) := od
                 have q229 : x29_2 < (x8_1.length : Int) := od
                 obtain ⟨ad229, e229, hx229_0⟩ := Kd.at_bool (Kd.R_reads' HO_8.out).2.2 x29_2 p229 q229
                 (try rw [← Nbq20.out] at hx229_0)
                 cases e229
                 replace p229 := eq_true p229
                 replace q229 := eq_true q229
                 refine start_ (n := 18) (S := fun w' => w'.cell? ⟨gb228, 0, none⟩ = some (.int .i64 ((rd_T80 l2 x29_2).f0)) ∧ w'.cell? ⟨gb228, 1, none⟩ = some (.int .i64 ((rd_T80 l2 x29_2).f1)) ∧ w'.cell? ⟨gb228, 2, none⟩ = some (.int .i64 ((rd_T80 l2 x29_2).f2)) ∧ w'.cell? ⟨gb221, 0, none⟩ = some (.slice A0_0 l0_0.length c0_0) ∧ w'.cell? ⟨gb221, 1, none⟩ = some (.int .i64 a0_1) ∧ w'.cell? ⟨gb226, 0, none⟩ = some (.int .i64 ((rd_T95 l1 x23_1).f0)) ∧ w'.cell? ⟨gb226, 1, none⟩ = some (.int .i64 ((rd_T95 l1 x23_1).f1)) ∧ w'.cell? ⟨gb226, 2, none⟩ = some (.int .i64 ((rd_T95 l1 x23_1).f2)) ∧ w'.cell? (ad229.add (x29_2).toNat) = some (.bool false)) (ds := []) #[false, false, false, false, false, false, false, false, false, false, false, false, false, false, false, false, false, false] (by kernel_rfl) rfl rfl ⟨(blk_cell BK228.out 0).trans rfl, (blk_cell BK228.out 1).trans rfl, (blk_cell BK228.out 2).trans rfl, (blk_cell BK221.out 0).trans rfl, (blk_cell BK221.out 1).trans rfl, (blk_cell BK226.out 0).trans rfl, (blk_cell BK226.out 1).trans rfl, (blk_cell BK226.out 2).trans rfl, hx229_0⟩ (fun hHeld => ?_); refine with_tabW spec_vfMatch.tab10 spec_vfMatch.bits10 (fun HT_ HW_ => ?_)
                 generalize w35.drew = w36 at HO_8 HO_9 BK221 BK226 BK228 HB hx229_0 hHeld ⊢
                 refine pure_ (i := 0) (N := some 34) (v := ?_) (a' := ?_) #[true, false, false, false, false, false, false, false, false, false, false, false, false, false, false, false, false, false] rfl rfl (any_of HT_.out (by kernel_rfl)) (fun _ _ _ h => h) (Or.inl ⟨by rfl, ?_⟩) ?_ ?_
                 rotate_left
                 ·intro w'
                  go_simp
                  with_reducible rfl
                 rotate_left
                 ·simp only [Act.put, List.setIfInBounds_toArray, List.set_cons_zero, List.set_cons_succ, i64_w, i32_w]
                  rfl
                 refine pure_ (i := 1) (N := some 35) (v := ?_) (a' := ?_) #[true, true, false, false, false, false, false, false, false, false, false, false, false, false, false, false, false, false] rfl rfl (any_of HT_.out (by kernel_rfl)) (fun _ _ _ h => h) (Or.inl ⟨by rfl, ?_⟩) ?_ ?_
                 rotate_left
                 ·intro w'
                  go_simp
                  with_reducible rfl
                 rotate_left
                 ·simp only [Act.put, List.setIfInBounds_toArray, List.set_cons_zero, List.set_cons_succ, i64_w, i32_w]
                  rfl
                 refine pure_ (i := 2) (N := some 36) (v := ?_) (a' := ?_) #[true, true, true, false, false, false, false, false, false, false, false, false, false, false, false, false, false, false] rfl rfl (any_of HT_.out (by kernel_rfl)) (fun _ _ _ h => h) (Or.inl ⟨by rfl, ?_⟩) ?_ ?_
                 rotate_left
                 ·intro w'
                  go_simp
                  with_reducible rfl
                 rotate_left
                 ·simp only [Act.put, List.setIfInBounds_toArray, List.set_cons_zero, List.set_cons_succ, i64_w, i32_w]
                  rfl
                 refine pure_ (i := 3) (N := some 37) (v := ?_) (a' := ?_) #[true, true, true, true, false, false, false, false, false, false, false, false, false, false, false, false, false, false] rfl rfl (any_of HT_.out (by kernel_rfl)) (fun _ _ _ h => h) (Or.inl ⟨by rfl, ?_⟩) ?_ ?_
                 rotate_left
                 ·intro w'
                  go_simp
                  with_reducible rfl
                 rotate_left
                 ·simp only [Act.put, List.setIfInBounds_toArray, List.set_cons_zero, List.set_cons_succ, i64_w, i32_w]
                  rfl
                 refine pure_ (i := 4) (N := some 38) (v := ?_) (a' := ?_) #[true, true, true, true, true, false, false, false, false, false, false, false, false, false, false, false, false, false] rfl rfl (any_of HT_.out (by kernel_rfl)) (fun _ _ _ h => h) (Or.inl ⟨by rfl, ?_⟩) ?_ ?_
                 rotate_left
                 ·intro w'
                  go_simp
                  with_reducible rfl
                 rotate_left
                 ·simp only [Act.put, List.setIfInBounds_toArray, List.set_cons_zero, List.set_cons_succ, i64_w, i32_w]
                  rfl
                 refine pure_ (i := 5) (N := some 39) (v := ?_) (a' := ?_) #[true, true, true, true, true, true, false, false, false, false, false, false, false, false, false, false, false, false] rfl rfl (any_of HT_.out (by kernel_rfl)) (fun _ _ _ h => h) (Or.inl ⟨by rfl, ?_⟩) ?_ ?_
                 rotate_left
                 ·intro w'
                  go_simp
                  with_reducible rfl
                 rotate_left
                 ·simp only [Act.put, List.setIfInBounds_toArray, List.set_cons_zero, List.set_cons_succ, i64_w, i32_w]
                  rfl
                 refine take_ (i := 6) (N := some 40) (v := ?_) (a' := ?_) #[true, true, true, true, true, true, true, false, false, false, false, false, false, false, false, false, false, false] rfl rfl (take_ofW HT_.out HW_.out (by kernel_rfl)) (fun _ _ _ h => h) (Or.inl ⟨by rfl, ?_⟩) hHeld ?_ ?_
                 rotate_left
                 ·rintro w' ⟨s0, s1, s2, s3, s4, s5, s6, s7, s8⟩
                  go_simp
                  with_reducible rfl
                 rotate_left
                 ·simp only [Act.put, List.setIfInBounds_toArray, List.set_cons_zero, List.set_cons_succ, i64_w, i32_w]
                  rfl
                 refine pure_ (i := 7) (N := some 41) (v := ?_) (a' := ?_) #[true, true, true, true, true, true, true, true, false, false, false, false, false, false, false, false, false, false] rfl rfl (any_of HT_.out (by kernel_rfl)) (fun _ _ _ h => h) (Or.inl ⟨by rfl, ?_⟩) ?_ ?_
                 rotate_left
                 ·intro w'
                  go_simp
                  with_reducible rfl
                 rotate_left
                 ·simp only [Act.put, List.setIfInBounds_toArray, List.set_cons_zero, List.set_cons_succ, i64_w, i32_w]
                  rfl
                 refine pure_ (i := 8) (N := some 42) (v := ?_) (a' := ?_) #[true, true, true, true, true, true, true, true, true, false, false, false, false, false, false, false, false, false] rfl rfl (any_of HT_.out (by kernel_rfl)) (fun _ _ _ h => h) (Or.inl ⟨by rfl, ?_⟩) ?_ ?_
                 rotate_left
                 ·intro w'
                  go_simp
                  with_reducible rfl
                 rotate_left
                 ·simp only [Act.put, List.setIfInBounds_toArray, List.set_cons_zero, List.set_cons_succ, i64_w, i32_w]
                  rfl
                 refine pure_ (i := 9) (N := some 43) (v := ?_) (a' := ?_) #[true, true, true, true, true, true, true, true, true, true, false, false, false, false, false, false, false, false] rfl rfl (any_of HT_.out (by kernel_rfl)) (fun _ _ _ h => h) (Or.inl ⟨by rfl, ?_⟩) ?_ ?_
                 rotate_left
                 ·intro w'
                  go_simp
                  with_reducible rfl
                 rotate_left
                 ·simp only [Act.put, List.setIfInBounds_toArray, List.set_cons_zero, List.set_cons_succ, i64_w, i32_w]
                  rfl
                 refine pure_ (i := 10) (N := some 44) (v := ?_) (a' := ?_) #[true, true, true, true, true, true, true, true, true, true, true, false, false, false, false, false, false, false] rfl rfl (any_of HT_.out (by kernel_rfl)) (fun _ _ _ h => h) (Or.inl ⟨by rfl, ?_⟩) ?_ ?_
                 rotate_left
                 ·intro w'
                  go_simp
                  with_reducible rfl
                 rotate_left
                 ·simp only [Act.put, List.setIfInBounds_toArray, List.set_cons_zero, List.set_cons_succ, i64_w, i32_w]
                  rfl
                 refine pure_ (i := 13) (N := some 47) (v := ?_) (a' := ?_) #[true, true, true, true, true, true, true, true, true, true, true, false, false, true, false, false, false, false] rfl rfl (any_of HT_.out (by kernel_rfl)) (fun _ _ _ h => h) (Or.inl ⟨by rfl, ?_⟩) ?_ ?_
                 rotate_left
                 ·intro w'
                  go_simp
                  with_reducible rfl
                 rotate_left
                 ·simp only [Act.put, List.setIfInBounds_toArray, List.set_cons_zero, List.set_cons_succ, i64_w, i32_w]
                  rfl
                 refine take_ (i := 11) (N := some 45) (v := ?_) (a' := ?_) #[true, true, true, true, true, true, true, true, true, true, true, true, false, true, false, false, false, false] rfl rfl (take_ofW HT_.out HW_.out (by kernel_rfl)) (fun _ _ _ h => h) (Or.inl ⟨by rfl, ?_⟩) hHeld ?_ ?_
                 rotate_left
                 ·rintro w' ⟨s0, s1, s2, s3, s4, s5, s6, s7, s8⟩
                  go_simp
                  with_reducible rfl
                 rotate_left
                 ·simp only [Act.put, List.setIfInBounds_toArray, List.set_cons_zero, List.set_cons_succ, i64_w, i32_w]
                  rfl
                 refine take_ (i := 12) (N := some 46) (v := ?_) (a' := ?_) #[true, true, true, true, true, true, true, true, true, true, true, true, true, true, false, false, false, false] rfl rfl (take_ofW HT_.out HW_.out (by kernel_rfl)) (fun _ _ _ h => h) (Or.inl ⟨by rfl, ?_⟩) hHeld ?_ ?_
                 rotate_left
                 ·rintro w' ⟨s0, s1, s2, s3, s4, s5, s6, s7, s8⟩
                  go_simp
                  with_reducible rfl
                 rotate_left
                 ·simp only [Act.put, List.setIfInBounds_toArray, List.set_cons_zero, List.set_cons_succ, i64_w, i32_w]
                  rfl
                 refine take_ (i := 14) (N := some 48) (v := ?_) (a' := ?_) #[true, true, true, true, true, true, true, true, true, true, true, true, true, true, true, false, false, false] rfl rfl (take_ofW HT_.out HW_.out (by kernel_rfl)) (fun _ _ _ h => h) (Or.inl ⟨by rfl, ?_⟩) hHeld ?_ ?_
                 rotate_left
                 ·rintro w' ⟨s0, s1, s2, s3, s4, s5, s6, s7, s8⟩
                  go_simp
                  with_reducible rfl
                 rotate_left
                 ·simp only [Act.put, List.setIfInBounds_toArray, List.set_cons_zero, List.set_cons_succ, i64_w, i32_w]
                  rfl
                 refine one_ (i := 15) (N := some 49) #[true, true, true, true, true, true, true, true, true, true, true, true, true, true, true, true, false, false] rfl rfl (one_of HT_.out (by kernel_rfl)) (by decide) (fun K hK => ?_)
                 refine goes_ Try.func99 (by kernel_rfl) rfl #[.agg #[.slice A0_0 l0_0.length c0_0, .int .i64 a0_1], .int .i64 ((rd_T95 l1 x23_1).f0)] (by rfl) rfl rfl (by (try simp only [List.map_toArray, List.map_cons, List.map_nil]); first | done | rfl | (simp only [List.length_drop, List.length_take]; rfl)) ?_
                 with_reducible refine (spec_inTrack.calls k2 _ _ l0_0 a0_1 ((rd_T95 l1 x23_1).f0) t230 _ ?side1 ?side2 A29.out).mono ?_
                 (case side1 => repeat (first | exact (Kd.C_below HR0_0.out HB.out) | (with_reducible refine Kd.C_alloc ?_ _) | (with_reducible refine Kd.C_drewN ?_ _) | (with_reducible refine Kd.C_drew ?_)))
                 (case side2 => exact HC0_0.out)
                 rintro e w38 ⟨rfl, hb⟩
                 have HS8_ := (hb.cell (World.block_lt_of_cell? _ _ (hHeld.2.2.2.2.2.2.2.2))).trans (hHeld.2.2.2.2.2.2.2.2)
                 refine ⟨_, rfl, ?_⟩
                 have n0_ := Aside0.mk (Kd.R_below (rup HO_8.out) hb)
                 have n1_ := Aside0.mk (Kd.R_below (rup HO_9.out) hb)
                 have n2_ := Aside0.mk (blk_below (g := gb221) (o := .cells #[.slice A0_0 l0_0.length c0_0, .int .i64 a0_1] 44 (0, 0)) (bup BK221.out) hb)
                 have n3_ := Aside0.mk (blk_below (g := gb226) (o := .cells #[.int .i64 ((rd_T95 l1 x23_1).f0), .int .i64 ((rd_T95 l1 x23_1).f1), .int .i64 ((rd_T95 l1 x23_1).f2)] 95 (0, 0)) (bup BK226.out) hb)
                 have n4_ := Aside0.mk (blk_below (g := gb228) (o := .cells #[.int .i64 ((rd_T80 l2 x29_2).f0), .int .i64 ((rd_T80 l2 x29_2).f1), .int .i64 ((rd_T80 l2 x29_2).f2)] 80 (0, 0)) (bup BK228.out) hb)
                 have n5_ := Aside0.mk (below_step bl hb)
                 clear HO_8
                 clear HO_9
                 clear BK221
                 clear BK226
                 clear BK228
                 clear HB
                 have HO_8 := n0_
                 have HO_9 := n1_
                 have BK221 := n2_
                 have BK226 := n3_
                 have BK228 := n4_
                 have HB := n5_
                 clear n0_ n1_ n2_ n3_ n4_ n5_
                 (try clear hb)
                 (try clear hb2)
                 (try clear hk)
                 (try clear hi)
                 refine hK.out _ _ ⟨(blk_cell BK228.out 0).trans rfl, (blk_cell BK228.out 1).trans rfl, (blk_cell BK228.out 2).trans rfl, (blk_cell BK221.out 0).trans rfl, (blk_cell BK221.out 1).trans rfl, (blk_cell BK226.out 0).trans rfl, (blk_cell BK226.out 1).trans rfl, (blk_cell BK226.out 2).trans rfl, HS8_⟩ (fun hHeld => ?_)
                 clear hK K
                 refine norm_ (a' := ?_) ?_ ?_
                 rotate_left
                 ·show Act.put _ (some 49) _ = _
                  simp only [Act.put, List.setIfInBounds_toArray, List.set_cons_zero, List.set_cons_succ, i64_w, i32_w]
                  rfl
                 refine pure_ (i := 16) (N := some 50) (v := ?_) (a' := ?_) #[true, true, true, true, true, true, true, true, true, true, true, true, true, true, true, true, true, false] rfl rfl (any_of HT_.out (by kernel_rfl)) (fun _ _ _ h => h) (Or.inl ⟨by rfl, ?_⟩) ?_ ?_
                 rotate_left
                 ·intro w'
                  go_simp
                  with_reducible rfl
                 rotate_left
                 ·simp only [Act.put, List.setIfInBounds_toArray, List.set_cons_zero, List.set_cons_succ, i64_w, i32_w]
                  rfl
                 refine pure_ (i := 17) (N := some 51) (v := ?_) (a' := ?_) #[true, true, true, true, true, true, true, true, true, true, true, true, true, true, true, true, true, true] rfl rfl (any_of HT_.out (by kernel_rfl)) (fun _ _ _ h => h) (Or.inl ⟨by rfl, ?_⟩) ?_ ?_
                 rotate_left
                 ·intro w'
                  go_simp
                  with_reducible rfl
                 rotate_left
                 ·simp only [Act.put, List.setIfInBounds_toArray, List.set_cons_zero, List.set_cons_succ, i64_w, i32_w]
                  rfl
                 refine done_ (done_of HT_.out (by kernel_rfl)) ?_
                 try go_wp2
                 go_roundg k2
                 case measure => have := HK1.out; have := HK2.out; omega
                 case rel => exact ⟨(x29_2), (wrap64 (x29_2 + 1)), fin2, fin2, H', ⟨by have := HK1.out; have := HK2.out; omega⟩, ⟨rup HO_8.out⟩, ⟨rup HO_9.out⟩, ⟨bup BK221.out⟩, ⟨bup BK226.out⟩, ⟨bl⟩⟩
                ·rw [if_neg c30] at H
                 have c30b0 : (((rd_T80 l2 x29_2).f0) == t230) = false := beq_eq_false_iff_ne.mpr c30
                 have c30b1 : (((rd_T80 l2 x29_2).f0) != t230) = true := bne_iff_ne.mpr c30
                 have H' := Aside0.mk H
                 clear H
                 have p227 : 0 ≤ (x29_2 : Int) := od
                 have q227 : x29_2 < (l2.length : Int) := od
                 obtain ⟨ad227, e227, hx227_0, hx227_1, hx227_2⟩ := at_T80 HR2.out x29_2 p227 q227
                 cases e227
                 replace hx227_0 := (HB.out.cell (World.block_lt_of_cell? w _ hx227_0)).trans hx227_0
                 replace hx227_1 := (HB.out.cell (World.block_lt_of_cell? w _ hx227_1)).trans hx227_1
                 replace hx227_2 := (HB.out.cell (World.block_lt_of_cell? w _ hx227_2)).trans hx227_2
                 replace p227 := eq_true p227
                 replace q227 := eq_true q227
                 try go_wp2_with (first | ((with_reducible refine gate_dst (N := 14) rfl ?_); refine box_event ?hg (N := 14) ?hd (cs := #[.int .i64 0, .int .i64 0, .int .i64 0]) (t := 80) ?hr ?_; (case hd => rfl); (case hg => rfl); (case hr => first | (go_simp; done) | (go_simp; rfl)); intro gb228 hg w39 hbox hb; have n0_ := Aside0.mk (Kd.R_below (rup HO_8.out) hb); have n1_ := Aside0.mk (Kd.R_below (rup HO_9.out) hb); have n2_ := Aside0.mk (blk_below (g := gb221) (o := .cells #[.slice A0_0 l0_0.length c0_0, .int .i64 a0_1] 44 (0, 0)) (bup BK221.out) hb); have n3_ := Aside0.mk (blk_below (g := gb226) (o := .cells #[.int .i64 ((rd_T95 l1 x23_1).f0), .int .i64 ((rd_T95 l1 x23_1).f1), .int .i64 ((rd_T95 l1 x23_1).f2)] 95 (0, 0)) (bup BK226.out) hb); have n4_ := Aside0.mk (below_step bl hb); have n5_ := Aside0.mk (hbox); have n6_ := Aside0.mk ((by rw [hg]; exact (below_size bl) : w.heap.size ≤ gb228)); have n7_ := Aside0.mk ((by rw [hg]; exact (below_size bl) : w.heap.size ≤ gb228)); have n8_ := Aside0.mk ((by rw [hg]; exact Nat.ne_of_lt (blk_lt (g := gb221) (o := .cells #[.slice A0_0 l0_0.length c0_0, .int .i64 a0_1] 44 (0, 0)) (bup BK221.out)) : gb221 ≠ gb228)); have n9_ := Aside0.mk ((by rw [hg]; exact Nat.ne_of_gt (blk_lt (g := gb221) (o := .cells #[.slice A0_0 l0_0.length c0_0, .int .i64 a0_1] 44 (0, 0)) (bup BK221.out)) : gb228 ≠ gb221)); have n10_ := Aside0.mk ((by rw [hg]; exact Nat.ne_of_lt (blk_lt (g := gb226) (o := .cells #[.int .i64 ((rd_T95 l1 x23_1).f0), .int .i64 ((rd_T95 l1 x23_1).f1), .int .i64 ((rd_T95 l1 x23_1).f2)] 95 (0, 0)) (bup BK226.out)) : gb226 ≠ gb228)); have n11_ := Aside0.mk ((by rw [hg]; exact Nat.ne_of_gt (blk_lt (g := gb226) (o := .cells #[.int .i64 ((rd_T95 l1 x23_1).f0), .int .i64 ((rd_T95 l1 x23_1).f1), .int .i64 ((rd_T95 l1 x23_1).f2)] 95 (0, 0)) (bup BK226.out)) : gb228 ≠ gb226)); clear HO_8; clear HO_9; clear BK221; clear BK226; clear HB; have HO_8 := n0_; have HO_9 := n1_; have BK221 := n2_; have BK226 := n3_; have HB := n4_; have BK228 := n5_; have GW228 := n6_; have GE228 := n7_; have NB221_228 := n8_; have NB228_221 := n9_; have NB226_228 := n10_; have NB228_226 := n11_; clear n0_ n1_ n2_ n3_ n4_ n5_ n6_ n7_ n8_ n9_ n10_ n11_; clear hb hbox hg; have hnb40 := NB228_221.out; have hnc40 := NB221_228.out; have hnb41 := NB228_226.out; have hnc41 := NB226_228.out; have hcz42_0 : w39.cell? ⟨gb228, 0, none⟩ = some (.int .i64 0) := (blk_cell BK228.out 0).trans rfl; have hcz42_1 : w39.cell? ⟨gb228, 1, none⟩ = some (.int .i64 0) := (blk_cell BK228.out 1).trans rfl; have hcz42_2 : w39.cell? ⟨gb228, 2, none⟩ = some (.int .i64 0) := (blk_cell BK228.out 2).trans rfl; have hfz42_0 := blk_frozen BK228.out 0; have hfz42_1 := blk_frozen BK228.out 1; have hfz42_2 := blk_frozen BK228.out 2))
                 have n0_ : Aside0 (Kd.R Kd.bool 4 (((w39.setCell ⟨gb228, 0, none⟩ (.int .i64 ((rd_T80 l2 x29_2).f0))).setCell ⟨gb228, 1, none⟩ (.int .i64 ((rd_T80 l2 x29_2).f1))).setCell ⟨gb228, 2, none⟩ (.int .i64 ((rd_T80 l2 x29_2).f2))) w.heap.size (fun _ => True) v223 x8_1) := ⟨by (with_reducible repeat (first | apply Kd.R_alloc | apply Kd.R_drewN | apply Kd.R_drew)); exact Kd.R_mono (Kd.R_far (p := ⟨gb228, 2, none⟩) (Kd.R_far (p := ⟨gb228, 1, none⟩) (Kd.R_far (p := ⟨gb228, 0, none⟩) (Kd.R_types HO_8.out BK228.out (by decide)) (fun _ hk => hk.2) (.int .i64 ((rd_T80 l2 x29_2).f0))) (fun _ hk => hk.2) (.int .i64 ((rd_T80 l2 x29_2).f1))) (fun _ hk => hk.2) (.int .i64 ((rd_T80 l2 x29_2).f2))) (fun _ hk => trivial)⟩
                 have n1_ : Aside0 (Kd.R (Kd.int .i64) 3 (((w39.setCell ⟨gb228, 0, none⟩ (.int .i64 ((rd_T80 l2 x29_2).f0))).setCell ⟨gb228, 1, none⟩ (.int .i64 ((rd_T80 l2 x29_2).f1))).setCell ⟨gb228, 2, none⟩ (.int .i64 ((rd_T80 l2 x29_2).f2))) w.heap.size (fun _ => True) u9 x9_1) := ⟨by (with_reducible repeat (first | apply Kd.R_alloc | apply Kd.R_drewN | apply Kd.R_drew)); exact Kd.R_mono (Kd.R_far (p := ⟨gb228, 2, none⟩) (Kd.R_far (p := ⟨gb228, 1, none⟩) (Kd.R_far (p := ⟨gb228, 0, none⟩) (Kd.R_types HO_9.out BK228.out (by decide)) (fun _ hk => hk.2) (.int .i64 ((rd_T80 l2 x29_2).f0))) (fun _ hk => hk.2) (.int .i64 ((rd_T80 l2 x29_2).f1))) (fun _ hk => hk.2) (.int .i64 ((rd_T80 l2 x29_2).f2))) (fun _ hk => trivial)⟩
                 have n2_ : Aside0 ((((w39.setCell ⟨gb228, 0, none⟩ (.int .i64 ((rd_T80 l2 x29_2).f0))).setCell ⟨gb228, 1, none⟩ (.int .i64 ((rd_T80 l2 x29_2).f1))).setCell ⟨gb228, 2, none⟩ (.int .i64 ((rd_T80 l2 x29_2).f2))).heap[gb221]? = some (.cells #[.slice A0_0 l0_0.length c0_0, .int .i64 a0_1] 44 (0, 0))) := ⟨by (with_reducible repeat (first | refine blk_drewN ?_ _ | refine blk_drew ?_ | refine blk_alloc ?_ _)); refine blk_far ?_ NB221_228.out _; (with_reducible repeat (first | refine blk_drewN ?_ _ | refine blk_drew ?_ | refine blk_alloc ?_ _)); refine blk_far ?_ NB221_228.out _; (with_reducible repeat (first | refine blk_drewN ?_ _ | refine blk_drew ?_ | refine blk_alloc ?_ _)); refine blk_far ?_ NB221_228.out _; (with_reducible repeat (first | refine blk_drewN ?_ _ | refine blk_drew ?_ | refine blk_alloc ?_ _)); exact BK221.out⟩
                 have n3_ : Aside0 ((((w39.setCell ⟨gb228, 0, none⟩ (.int .i64 ((rd_T80 l2 x29_2).f0))).setCell ⟨gb228, 1, none⟩ (.int .i64 ((rd_T80 l2 x29_2).f1))).setCell ⟨gb228, 2, none⟩ (.int .i64 ((rd_T80 l2 x29_2).f2))).heap[gb226]? = some (.cells #[.int .i64 ((rd_T95 l1 x23_1).f0), .int .i64 ((rd_T95 l1 x23_1).f1), .int .i64 ((rd_T95 l1 x23_1).f2)] 95 (0, 0))) := ⟨by (with_reducible repeat (first | refine blk_drewN ?_ _ | refine blk_drew ?_ | refine blk_alloc ?_ _)); refine blk_far ?_ NB226_228.out _; (with_reducible repeat (first | refine blk_drewN ?_ _ | refine blk_drew ?_ | refine blk_alloc ?_ _)); refine blk_far ?_ NB226_228.out _; (with_reducible repeat (first | refine blk_drewN ?_ _ | refine blk_drew ?_ | refine blk_alloc ?_ _)); refine blk_far ?_ NB226_228.out _; (with_reducible repeat (first | refine blk_drewN ?_ _ | refine blk_drew ?_ | refine blk_alloc ?_ _)); exact BK226.out⟩
                 have n4_ : Aside0 ((((w39.setCell ⟨gb228, 0, none⟩ (.int .i64 ((rd_T80 l2 x29_2).f0))).setCell ⟨gb228, 1, none⟩ (.int .i64 ((rd_T80 l2 x29_2).f1))).setCell ⟨gb228, 2, none⟩ (.int .i64 ((rd_T80 l2 x29_2).f2))).heap[gb228]? = some (.cells #[.int .i64 ((rd_T80 l2 x29_2).f0), .int .i64 ((rd_T80 l2 x29_2).f1), .int .i64 ((rd_T80 l2 x29_2).f2)] 80 (0, 0))) := ⟨by (with_reducible repeat (first | refine blk_drewN ?_ _ | refine blk_drew ?_ | refine blk_alloc ?_ _)); refine blk_put (cs := #[.int .i64 ((rd_T80 l2 x29_2).f0), .int .i64 ((rd_T80 l2 x29_2).f1), .int .i64 0]) ?_ 2 _ rfl; (with_reducible repeat (first | refine blk_drewN ?_ _ | refine blk_drew ?_ | refine blk_alloc ?_ _)); refine blk_put (cs := #[.int .i64 ((rd_T80 l2 x29_2).f0), .int .i64 0, .int .i64 0]) ?_ 1 _ rfl; (with_reducible repeat (first | refine blk_drewN ?_ _ | refine blk_drew ?_ | refine blk_alloc ?_ _)); refine blk_put (cs := #[.int .i64 0, .int .i64 0, .int .i64 0]) ?_ 0 _ rfl; (with_reducible repeat (first | refine blk_drewN ?_ _ | refine blk_drew ?_ | refine blk_alloc ?_ _)); exact BK228.out⟩
                 have n5_ : Aside0 (Below w.heap.size w (((w39.setCell ⟨gb228, 0, none⟩ (.int .i64 ((rd_T80 l2 x29_2).f0))).setCell ⟨gb228, 1, none⟩ (.int .i64 ((rd_T80 l2 x29_2).f1))).setCell ⟨gb228, 2, none⟩ (.int .i64 ((rd_T80 l2 x29_2).f2)))) := ⟨bl⟩
                 (try clear HO_8)
                 (try clear HO_9)
                 (try clear BK221)
                 (try clear BK226)
                 (try clear BK228)
                 (try clear HB)
                 generalize (((w39.setCell ⟨gb228, 0, none⟩ (.int .i64 ((rd_T80 l2 x29_2).f0))).setCell ⟨gb228, 1, none⟩ (.int .i64 ((rd_T80 l2 x29_2).f1))).setCell ⟨gb228, 2, none⟩ (.int .i64 ((rd_T80 l2 x29_2).f2))) = w43 at n0_ n1_ n2_ n3_ n4_ n5_ ⊢
                 have HO_8 := n0_
                 have HO_9 := n1_
                 have BK221 := n2_
                 have BK226 := n3_
                 have BK228 := n4_
                 have HB := n5_
                 clear n0_ n1_ n2_ n3_ n4_ n5_
                 have n0_ := Aside0.mk (Kd.R_drew HO_8.out)
                 have n1_ := Aside0.mk (Kd.R_drew HO_9.out)
                 have n2_ := Aside0.mk (blk_drew BK221.out)
                 have n3_ := Aside0.mk (blk_drew BK226.out)
                 have n4_ := Aside0.mk (blk_drew BK228.out)
                 have n5_ := Aside0.mk (below_drew1 HB.out)
                 clear HO_8
                 clear HO_9
                 clear BK221
                 clear BK226
                 clear BK228
                 clear HB
                 have HO_8 := n0_
                 have HO_9 := n1_
                 have BK221 := n2_
                 have BK226 := n3_
                 have BK228 := n4_
                 have HB := n5_
                 clear n0_ n1_ n2_ n3_ n4_ n5_
                 obtain ⟨Ao45, co45, eo45⟩ := Kd.R_slice HO_8.out
                 (first | subst eo45 | (injection eo45 with f1_ f2_ f3_; have f4_ := f1_.symm; have f5_ := f3_.symm; clear f1_ f2_ f3_; subst f4_; subst f5_))
                 have p229 : 0 ≤ (x29_2 : Int) := od
                 have q229 : x29_2 < (x8_1.length : Int) := od
                 obtain ⟨ad229, e229, hx229_0⟩ := Kd.at_bool (Kd.R_reads' HO_8.out).2.2 x29_2 p229 q229
                 (try rw [← Nbq20.out] at hx229_0)
                 cases e229
                 replace p229 := eq_true p229
                 replace q229 := eq_true q229
                 refine start_ (n := 18) (S := fun w' => w'.cell? ⟨gb228, 0, none⟩ = some (.int .i64 ((rd_T80 l2 x29_2).f0)) ∧ w'.cell? ⟨gb228, 1, none⟩ = some (.int .i64 ((rd_T80 l2 x29_2).f1)) ∧ w'.cell? ⟨gb228, 2, none⟩ = some (.int .i64 ((rd_T80 l2 x29_2).f2)) ∧ w'.cell? ⟨gb221, 0, none⟩ = some (.slice A0_0 l0_0.length c0_0) ∧ w'.cell? ⟨gb221, 1, none⟩ = some (.int .i64 a0_1) ∧ w'.cell? ⟨gb226, 0, none⟩ = some (.int .i64 ((rd_T95 l1 x23_1).f0)) ∧ w'.cell? ⟨gb226, 1, none⟩ = some (.int .i64 ((rd_T95 l1 x23_1).f1)) ∧ w'.cell? ⟨gb226, 2, none⟩ = some (.int .i64 ((rd_T95 l1 x23_1).f2)) ∧ w'.cell? (ad229.add (x29_2).toNat) = some (.bool false)) (ds := []) #[false, false, false, false, false, false, false, false, false, false, false, false, false, false, false, false, false, false] (by kernel_rfl) rfl rfl ⟨(blk_cell BK228.out 0).trans rfl, (blk_cell BK228.out 1).trans rfl, (blk_cell BK228.out 2).trans rfl, (blk_cell BK221.out 0).trans rfl, (blk_cell BK221.out 1).trans rfl, (blk_cell BK226.out 0).trans rfl, (blk_cell BK226.out 1).trans rfl, (blk_cell BK226.out 2).trans rfl, hx229_0⟩ (fun hHeld => ?_); refine with_tabW spec_vfMatch.tab10 spec_vfMatch.bits10 (fun HT_ HW_ => ?_)
                 generalize w43.drew = w44 at HO_8 HO_9 BK221 BK226 BK228 HB hx229_0 hHeld ⊢
                 refine pure_ (i := 0) (N := some 34) (v := ?_) (a' := ?_) #[true, false, false, false, false, false, false, false, false, false, false, false, false, false, false, false, false, false] rfl rfl (any_of HT_.out (by kernel_rfl)) (fun _ _ _ h => h) (Or.inl ⟨by rfl, ?_⟩) ?_ ?_
                 rotate_left
                 ·intro w'
                  go_simp
                  with_reducible rfl
                 rotate_left
                 ·simp only [Act.put, List.setIfInBounds_toArray, List.set_cons_zero, List.set_cons_succ, i64_w, i32_w]
                  rfl
                 refine pure_ (i := 1) (N := some 35) (v := ?_) (a' := ?_) #[true, true, false, false, false, false, false, false, false, false, false, false, false, false, false, false, false, false] rfl rfl (any_of HT_.out (by kernel_rfl)) (fun _ _ _ h => h) (Or.inl ⟨by rfl, ?_⟩) ?_ ?_
                 rotate_left
                 ·intro w'
                  go_simp
                  with_reducible rfl
                 rotate_left
                 ·simp only [Act.put, List.setIfInBounds_toArray, List.set_cons_zero, List.set_cons_succ, i64_w, i32_w]
                  rfl
                 refine pure_ (i := 2) (N := some 36) (v := ?_) (a' := ?_) #[true, true, true, false, false, false, false, false, false, false, false, false, false, false, false, false, false, false] rfl rfl (any_of HT_.out (by kernel_rfl)) (fun _ _ _ h => h) (Or.inl ⟨by rfl, ?_⟩) ?_ ?_
                 rotate_left
                 ·intro w'
                  go_simp
                  with_reducible rfl
                 rotate_left
                 ·simp only [Act.put, List.setIfInBounds_toArray, List.set_cons_zero, List.set_cons_succ, i64_w, i32_w]
                  rfl
                 refine pure_ (i := 3) (N := some 37) (v := ?_) (a' := ?_) #[true, true, true, true, false, false, false, false, false, false, false, false, false, false, false, false, false, false] rfl rfl (any_of HT_.out (by kernel_rfl)) (fun _ _ _ h => h) (Or.inl ⟨by rfl, ?_⟩) ?_ ?_
                 rotate_left
                 ·intro w'
                  go_simp
                  with_reducible rfl
                 rotate_left
                 ·simp only [Act.put, List.setIfInBounds_toArray, List.set_cons_zero, List.set_cons_succ, i64_w, i32_w]
                  rfl
                 refine pure_ (i := 4) (N := some 38) (v := ?_) (a' := ?_) #[true, true, true, true, true, false, false, false, false, false, false, false, false, false, false, false, false, false] rfl rfl (any_of HT_.out (by kernel_rfl)) (fun _ _ _ h => h) (Or.inl ⟨by rfl, ?_⟩) ?_ ?_
                 rotate_left
                 ·intro w'
                  go_simp
                  with_reducible rfl
                 rotate_left
                 ·simp only [Act.put, List.setIfInBounds_toArray, List.set_cons_zero, List.set_cons_succ, i64_w, i32_w]
                  rfl
                 refine pure_ (i := 5) (N := some 39) (v := ?_) (a' := ?_) #[true, true, true, true, true, true, false, false, false, false, false, false, false, false, false, false, false, false] rfl rfl (any_of HT_.out (by kernel_rfl)) (fun _ _ _ h => h) (Or.inl ⟨by rfl, ?_⟩) ?_ ?_
                 rotate_left
                 ·intro w'
                  go_simp
                  with_reducible rfl
                 rotate_left
                 ·simp only [Act.put, List.setIfInBounds_toArray, List.set_cons_zero, List.set_cons_succ, i64_w, i32_w]
                  rfl
                 refine take_ (i := 6) (N := some 40) (v := ?_) (a' := ?_) #[true, true, true, true, true, true, true, false, false, false, false, false, false, false, false, false, false, false] rfl rfl (take_ofW HT_.out HW_.out (by kernel_rfl)) (fun _ _ _ h => h) (Or.inl ⟨by rfl, ?_⟩) hHeld ?_ ?_
                 rotate_left
                 ·rintro w' ⟨s0, s1, s2, s3, s4, s5, s6, s7, s8⟩
                  go_simp
                  with_reducible rfl
                 rotate_left
                 ·simp only [Act.put, List.setIfInBounds_toArray, List.set_cons_zero, List.set_cons_succ, i64_w, i32_w]
                  rfl
                 refine pure_ (i := 7) (N := some 41) (v := ?_) (a' := ?_) #[true, true, true, true, true, true, true, true, false, false, false, false, false, false, false, false, false, false] rfl rfl (any_of HT_.out (by kernel_rfl)) (fun _ _ _ h => h) (Or.inl ⟨by rfl, ?_⟩) ?_ ?_
                 rotate_left
                 ·intro w'
                  go_simp
                  with_reducible rfl
                 rotate_left
                 ·simp only [Act.put, List.setIfInBounds_toArray, List.set_cons_zero, List.set_cons_succ, i64_w, i32_w]
                  rfl
                 refine pure_ (i := 8) (N := some 42) (v := ?_) (a' := ?_) #[true, true, true, true, true, true, true, true, true, false, false, false, false, false, false, false, false, false] rfl rfl (any_of HT_.out (by kernel_rfl)) (fun _ _ _ h => h) (Or.inl ⟨by rfl, ?_⟩) ?_ ?_
                 rotate_left
                 ·intro w'
                  go_simp
                  with_reducible rfl
                 rotate_left
                 ·simp only [Act.put, List.setIfInBounds_toArray, List.set_cons_zero, List.set_cons_succ, i64_w, i32_w]
                  rfl
                 refine pure_ (i := 9) (N := some 43) (v := ?_) (a' := ?_) #[true, true, true, true, true, true, true, true, true, true, false, false, false, false, false, false, false, false] rfl rfl (any_of HT_.out (by kernel_rfl)) (fun _ _ _ h => h) (Or.inl ⟨by rfl, ?_⟩) ?_ ?_
                 rotate_left
                 ·intro w'
                  go_simp
                  with_reducible rfl
                 rotate_left
                 ·simp only [Act.put, List.setIfInBounds_toArray, List.set_cons_zero, List.set_cons_succ, i64_w, i32_w]
                  rfl
                 refine pure_ (i := 10) (N := some 44) (v := ?_) (a' := ?_) #[true, true, true, true, true, true, true, true, true, true, true, false, false, false, false, false, false, false] rfl rfl (any_of HT_.out (by kernel_rfl)) (fun _ _ _ h => h) (Or.inl ⟨by rfl, ?_⟩) ?_ ?_
                 rotate_left
                 ·intro w'
                  go_simp
                  with_reducible rfl
                 rotate_left
                 ·simp only [Act.put, List.setIfInBounds_toArray, List.set_cons_zero, List.set_cons_succ, i64_w, i32_w]
                  rfl
                 refine pure_ (i := 13) (N := some 47) (v := ?_) (a' := ?_) #[true, true, true, true, true, true, true, true, true, true, true, false, false, true, false, false, false, false] rfl rfl (any_of HT_.out (by kernel_rfl)) (fun _ _ _ h => h) (Or.inl ⟨by rfl, ?_⟩) ?_ ?_
                 rotate_left
                 ·intro w'
                  go_simp
                  with_reducible rfl
                 rotate_left
                 ·simp only [Act.put, List.setIfInBounds_toArray, List.set_cons_zero, List.set_cons_succ, i64_w, i32_w]
                  rfl
                 refine take_ (i := 11) (N := some 45) (v := ?_) (a' := ?_) #[true, true, true, true, true, true, true, true, true, true, true, true, false, true, false, false, false, false] rfl rfl (take_ofW HT_.out HW_.out (by kernel_rfl)) (fun _ _ _ h => h) (Or.inl ⟨by rfl, ?_⟩) hHeld ?_ ?_
                 rotate_left
                 ·rintro w' ⟨s0, s1, s2, s3, s4, s5, s6, s7, s8⟩
                  go_simp
                  with_reducible rfl
                 rotate_left
                 ·simp only [Act.put, List.setIfInBounds_toArray, List.set_cons_zero, List.set_cons_succ, i64_w, i32_w]
                  rfl
                 refine take_ (i := 12) (N := some 46) (v := ?_) (a' := ?_) #[true, true, true, true, true, true, true, true, true, true, true, true, true, true, false, false, false, false] rfl rfl (take_ofW HT_.out HW_.out (by kernel_rfl)) (fun _ _ _ h => h) (Or.inl ⟨by rfl, ?_⟩) hHeld ?_ ?_
                 rotate_left
                 ·rintro w' ⟨s0, s1, s2, s3, s4, s5, s6, s7, s8⟩
                  go_simp
                  with_reducible rfl
                 rotate_left
                 ·simp only [Act.put, List.setIfInBounds_toArray, List.set_cons_zero, List.set_cons_succ, i64_w, i32_w]
                  rfl
                 refine take_ (i := 14) (N := some 48) (v := ?_) (a' := ?_) #[true, true, true, true, true, true, true, true, true, true, true, true, true, true, true, false, false, false] rfl rfl (take_ofW HT_.out HW_.out (by kernel_rfl)) (fun _ _ _ h => h) (Or.inl ⟨by rfl, ?_⟩) hHeld ?_ ?_
                 rotate_left
                 ·rintro w' ⟨s0, s1, s2, s3, s4, s5, s6, s7, s8⟩
                  go_simp
                  with_reducible rfl
                 rotate_left
                 ·simp only [Act.put, List.setIfInBounds_toArray, List.set_cons_zero, List.set_cons_succ, i64_w, i32_w]
                  rfl
                 refine one_ (i := 15) (N := some 49) #[true, true, true, true, true, true, true, true, true, true, true, true, true, true, true, true, false, false] rfl rfl (one_of HT_.out (by kernel_rfl)) (by decide) (fun K hK => ?_)
                 refine goes_ Try.func99 (by kernel_rfl) rfl #[.agg #[.slice A0_0 l0_0.length c0_0, .int .i64 a0_1], .int .i64 ((rd_T95 l1 x23_1).f0)] (by rfl) rfl rfl (by (try simp only [List.map_toArray, List.map_cons, List.map_nil]); first | done | rfl | (simp only [List.length_drop, List.length_take]; rfl)) ?_
                 with_reducible refine (spec_inTrack.calls k2 _ _ l0_0 a0_1 ((rd_T95 l1 x23_1).f0) t230 _ ?side1 ?side2 A29.out).mono ?_
                 (case side1 => repeat (first | exact (Kd.C_below HR0_0.out HB.out) | (with_reducible refine Kd.C_alloc ?_ _) | (with_reducible refine Kd.C_drewN ?_ _) | (with_reducible refine Kd.C_drew ?_)))
                 (case side2 => exact HC0_0.out)
                 rintro e w46 ⟨rfl, hb⟩
                 have HS8_ := (hb.cell (World.block_lt_of_cell? _ _ (hHeld.2.2.2.2.2.2.2.2))).trans (hHeld.2.2.2.2.2.2.2.2)
                 refine ⟨_, rfl, ?_⟩
                 have n0_ := Aside0.mk (Kd.R_below (rup HO_8.out) hb)
                 have n1_ := Aside0.mk (Kd.R_below (rup HO_9.out) hb)
                 have n2_ := Aside0.mk (blk_below (g := gb221) (o := .cells #[.slice A0_0 l0_0.length c0_0, .int .i64 a0_1] 44 (0, 0)) (bup BK221.out) hb)
                 have n3_ := Aside0.mk (blk_below (g := gb226) (o := .cells #[.int .i64 ((rd_T95 l1 x23_1).f0), .int .i64 ((rd_T95 l1 x23_1).f1), .int .i64 ((rd_T95 l1 x23_1).f2)] 95 (0, 0)) (bup BK226.out) hb)
                 have n4_ := Aside0.mk (blk_below (g := gb228) (o := .cells #[.int .i64 ((rd_T80 l2 x29_2).f0), .int .i64 ((rd_T80 l2 x29_2).f1), .int .i64 ((rd_T80 l2 x29_2).f2)] 80 (0, 0)) (bup BK228.out) hb)
                 have n5_ := Aside0.mk (below_step bl hb)
                 clear HO_8
                 clear HO_9
                 clear BK221
                 clear BK226
                 clear BK228
                 clear HB
                 have HO_8 := n0_
                 have HO_9 := n1_
                 have BK221 := n2_
                 have BK226 := n3_
                 have BK228 := n4_
                 have HB := n5_
                 clear n0_ n1_ n2_ n3_ n4_ n5_
                 (try clear hb)
                 (try clear hb2)
                 (try clear hk)
                 (try clear hi)
                 refine hK.out _ _ ⟨(blk_cell BK228.out 0).trans rfl, (blk_cell BK228.out 1).trans rfl, (blk_cell BK228.out 2).trans rfl, (blk_cell BK221.out 0).trans rfl, (blk_cell BK221.out 1).trans rfl, (blk_cell BK226.out 0).trans rfl, (blk_cell BK226.out 1).trans rfl, (blk_cell BK226.out 2).trans rfl, HS8_⟩ (fun hHeld => ?_)
                 clear hK K
                 refine norm_ (a' := ?_) ?_ ?_
                 rotate_left
                 ·show Act.put _ (some 49) _ = _
                  simp only [Act.put, List.setIfInBounds_toArray, List.set_cons_zero, List.set_cons_succ, i64_w, i32_w]
                  rfl
                 refine pure_ (i := 16) (N := some 50) (v := ?_) (a' := ?_) #[true, true, true, true, true, true, true, true, true, true, true, true, true, true, true, true, true, false] rfl rfl (any_of HT_.out (by kernel_rfl)) (fun _ _ _ h => h) (Or.inl ⟨by rfl, ?_⟩) ?_ ?_
                 rotate_left
                 ·intro w'
                  go_simp
                  with_reducible rfl
                 rotate_left
                 ·simp only [Act.put, List.setIfInBounds_toArray, List.set_cons_zero, List.set_cons_succ, i64_w, i32_w]
                  rfl
                 refine pure_ (i := 17) (N := some 51) (v := ?_) (a' := ?_) #[true, true, true, true, true, true, true, true, true, true, true, true, true, true, true, true, true, true] rfl rfl (any_of HT_.out (by kernel_rfl)) (fun _ _ _ h => h) (Or.inl ⟨by rfl, ?_⟩) ?_ ?_
                 rotate_left
                 ·intro w'
                  go_simp
                  with_reducible rfl
                 rotate_left
                 ·simp only [Act.put, List.setIfInBounds_toArray, List.set_cons_zero, List.set_cons_succ, i64_w, i32_w]
                  rfl
                 refine done_ (done_of HT_.out (by kernel_rfl)) ?_
                 try go_wp2
                 go_roundg k2
                 case measure => have := HK1.out; have := HK2.out; omega
                 case rel => exact ⟨(x12_2), (wrap64 (x29_2 + 1)), fin2, fin2, H', ⟨by have := HK1.out; have := HK2.out; omega⟩, ⟨rup HO_8.out⟩, ⟨rup HO_9.out⟩, ⟨bup BK221.out⟩, ⟨bup BK226.out⟩, ⟨bl⟩⟩
              ·rw [if_neg c19] at H
               exact absurd H (by simp)
             ·rw [if_neg c18] at H
              have c18b0 : decide (x12_2 < 0) = false := decide_eq_false c18
              clear c18
              have H' := Aside0.mk H
              clear H
              have p227 : 0 ≤ (x29_2 : Int) := od
              have q227 : x29_2 < (l2.length : Int) := od
              obtain ⟨ad227, e227, hx227_0, hx227_1, hx227_2⟩ := at_T80 HR2.out x29_2 p227 q227
              cases e227
              replace hx227_0 := (HB.out.cell (World.block_lt_of_cell? w _ hx227_0)).trans hx227_0
              replace hx227_1 := (HB.out.cell (World.block_lt_of_cell? w _ hx227_1)).trans hx227_1
              replace hx227_2 := (HB.out.cell (World.block_lt_of_cell? w _ hx227_2)).trans hx227_2
              replace p227 := eq_true p227
              replace q227 := eq_true q227
              try go_wp2_with (first | ((with_reducible refine gate_dst (N := 14) rfl ?_); refine box_event ?hg (N := 14) ?hd (cs := #[.int .i64 0, .int .i64 0, .int .i64 0]) (t := 80) ?hr ?_; (case hd => rfl); (case hg => rfl); (case hr => first | (go_simp; done) | (go_simp; rfl)); intro gb228 hg w47 hbox hb; have n0_ := Aside0.mk (Kd.R_below (rup HO_8.out) hb); have n1_ := Aside0.mk (Kd.R_below (rup HO_9.out) hb); have n2_ := Aside0.mk (blk_below (g := gb221) (o := .cells #[.slice A0_0 l0_0.length c0_0, .int .i64 a0_1] 44 (0, 0)) (bup BK221.out) hb); have n3_ := Aside0.mk (blk_below (g := gb226) (o := .cells #[.int .i64 ((rd_T95 l1 x23_1).f0), .int .i64 ((rd_T95 l1 x23_1).f1), .int .i64 ((rd_T95 l1 x23_1).f2)] 95 (0, 0)) (bup BK226.out) hb); have n4_ := Aside0.mk (below_step bl hb); have n5_ := Aside0.mk (hbox); have n6_ := Aside0.mk ((by rw [hg]; exact (below_size bl) : w.heap.size ≤ gb228)); have n7_ := Aside0.mk ((by rw [hg]; exact (below_size bl) : w.heap.size ≤ gb228)); have n8_ := Aside0.mk ((by rw [hg]; exact Nat.ne_of_lt (blk_lt (g := gb221) (o := .cells #[.slice A0_0 l0_0.length c0_0, .int .i64 a0_1] 44 (0, 0)) (bup BK221.out)) : gb221 ≠ gb228)); have n9_ := Aside0.mk ((by rw [hg]; exact Nat.ne_of_gt (blk_lt (g := gb221) (o := .cells #[.slice A0_0 l0_0.length c0_0, .int .i64 a0_1] 44 (0, 0)) (bup BK221.out)) : gb228 ≠ gb221)); have n10_ := Aside0.mk ((by rw [hg]; exact Nat.ne_of_lt (blk_lt (g := gb226) (o := .cells #[.int .i64 ((rd_T95 l1 x23_1).f0), .int .i64 ((rd_T95 l1 x23_1).f1), .int .i64 ((rd_T95 l1 x23_1).f2)] 95 (0, 0)) (bup BK226.out)) : gb226 ≠ gb228)); have n11_ := Aside0.mk ((by rw [hg]; exact Nat.ne_of_gt (blk_lt (g := gb226) (o := .cells #[.int .i64 ((rd_T95 l1 x23_1).f0), .int .i64 ((rd_T95 l1 x23_1).f1), .int .i64 ((rd_T95 l1 x23_1).f2)] 95 (0, 0)) (bup BK226.out)) : gb228 ≠ gb226)); clear HO_8; clear HO_9; clear BK221; clear BK226; clear HB; have HO_8 := n0_; have HO_9 := n1_; have BK221 := n2_; have BK226 := n3_; have HB := n4_; have BK228 := n5_; have GW228 := n6_; have GE228 := n7_; have NB221_228 := n8_; have NB228_221 := n9_; have NB226_228 := n10_; have NB228_226 := n11_; clear n0_ n1_ n2_ n3_ n4_ n5_ n6_ n7_ n8_ n9_ n10_ n11_; clear hb hbox hg; have hnb48 := NB228_221.out; have hnc48 := NB221_228.out; have hnb49 := NB228_226.out; have hnc49 := NB226_228.out; have hcz50_0 : w47.cell? ⟨gb228, 0, none⟩ = some (.int .i64 0) := (blk_cell BK228.out 0).trans rfl; have hcz50_1 : w47.cell? ⟨gb228, 1, none⟩ = some (.int .i64 0) := (blk_cell BK228.out 1).trans rfl; have hcz50_2 : w47.cell? ⟨gb228, 2, none⟩ = some (.int .i64 0) := (blk_cell BK228.out 2).trans rfl; have hfz50_0 := blk_frozen BK228.out 0; have hfz50_1 := blk_frozen BK228.out 1; have hfz50_2 := blk_frozen BK228.out 2))
              have n0_ : Aside0 (Kd.R Kd.bool 4 (((w47.setCell ⟨gb228, 0, none⟩ (.int .i64 ((rd_T80 l2 x29_2).f0))).setCell ⟨gb228, 1, none⟩ (.int .i64 ((rd_T80 l2 x29_2).f1))).setCell ⟨gb228, 2, none⟩ (.int .i64 ((rd_T80 l2 x29_2).f2))) w.heap.size (fun _ => True) v223 x8_1) := ⟨by (with_reducible repeat (first | apply Kd.R_alloc | apply Kd.R_drewN | apply Kd.R_drew)); exact Kd.R_mono (Kd.R_far (p := ⟨gb228, 2, none⟩) (Kd.R_far (p := ⟨gb228, 1, none⟩) (Kd.R_far (p := ⟨gb228, 0, none⟩) (Kd.R_types HO_8.out BK228.out (by decide)) (fun _ hk => hk.2) (.int .i64 ((rd_T80 l2 x29_2).f0))) (fun _ hk => hk.2) (.int .i64 ((rd_T80 l2 x29_2).f1))) (fun _ hk => hk.2) (.int .i64 ((rd_T80 l2 x29_2).f2))) (fun _ hk => trivial)⟩
              have n1_ : Aside0 (Kd.R (Kd.int .i64) 3 (((w47.setCell ⟨gb228, 0, none⟩ (.int .i64 ((rd_T80 l2 x29_2).f0))).setCell ⟨gb228, 1, none⟩ (.int .i64 ((rd_T80 l2 x29_2).f1))).setCell ⟨gb228, 2, none⟩ (.int .i64 ((rd_T80 l2 x29_2).f2))) w.heap.size (fun _ => True) u9 x9_1) := ⟨by (with_reducible repeat (first | apply Kd.R_alloc | apply Kd.R_drewN | apply Kd.R_drew)); exact Kd.R_mono (Kd.R_far (p := ⟨gb228, 2, none⟩) (Kd.R_far (p := ⟨gb228, 1, none⟩) (Kd.R_far (p := ⟨gb228, 0, none⟩) (Kd.R_types HO_9.out BK228.out (by decide)) (fun _ hk => hk.2) (.int .i64 ((rd_T80 l2 x29_2).f0))) (fun _ hk => hk.2) (.int .i64 ((rd_T80 l2 x29_2).f1))) (fun _ hk => hk.2) (.int .i64 ((rd_T80 l2 x29_2).f2))) (fun _ hk => trivial)⟩
              have n2_ : Aside0 ((((w47.setCell ⟨gb228, 0, none⟩ (.int .i64 ((rd_T80 l2 x29_2).f0))).setCell ⟨gb228, 1, none⟩ (.int .i64 ((rd_T80 l2 x29_2).f1))).setCell ⟨gb228, 2, none⟩ (.int .i64 ((rd_T80 l2 x29_2).f2))).heap[gb221]? = some (.cells #[.slice A0_0 l0_0.length c0_0, .int .i64 a0_1] 44 (0, 0))) := ⟨by (with_reducible repeat (first | refine blk_drewN ?_ _ | refine blk_drew ?_ | refine blk_alloc ?_ _)); refine blk_far ?_ NB221_228.out _; (with_reducible repeat (first | refine blk_drewN ?_ _ | refine blk_drew ?_ | refine blk_alloc ?_ _)); refine blk_far ?_ NB221_228.out _; (with_reducible repeat (first | refine blk_drewN ?_ _ | refine blk_drew ?_ | refine blk_alloc ?_ _)); refine blk_far ?_ NB221_228.out _; (with_reducible repeat (first | refine blk_drewN ?_ _ | refine blk_drew ?_ | refine blk_alloc ?_ _)); exact BK221.out⟩
              have n3_ : Aside0 ((((w47.setCell ⟨gb228, 0, none⟩ (.int .i64 ((rd_T80 l2 x29_2).f0))).setCell ⟨gb228, 1, none⟩ (.int .i64 ((rd_T80 l2 x29_2).f1))).setCell ⟨gb228, 2, none⟩ (.int .i64 ((rd_T80 l2 x29_2).f2))).heap[gb226]? = some (.cells #[.int .i64 ((rd_T95 l1 x23_1).f0), .int .i64 ((rd_T95 l1 x23_1).f1), .int .i64 ((rd_T95 l1 x23_1).f2)] 95 (0, 0))) := ⟨by (with_reducible repeat (first | refine blk_drewN ?_ _ | refine blk_drew ?_ | refine blk_alloc ?_ _)); refine blk_far ?_ NB226_228.out _; (with_reducible repeat (first | refine blk_drewN ?_ _ | refine blk_drew ?_ | refine blk_alloc ?_ _)); refine blk_far ?_ NB226_228.out _; (with_reducible repeat (first | refine blk_drewN ?_ _ | refine blk_drew ?_ | refine blk_alloc ?_ _)); refine blk_far ?_ NB226_228.out _; (with_reducible repeat (first | refine blk_drewN ?_ _ | refine blk_drew ?_ | refine blk_alloc ?_ _)); exact BK226.out⟩
              have n4_ : Aside0 ((((w47.setCell ⟨gb228, 0, none⟩ (.int .i64 ((rd_T80 l2 x29_2).f0))).setCell ⟨gb228, 1, none⟩ (.int .i64 ((rd_T80 l2 x29_2).f1))).setCell ⟨gb228, 2, none⟩ (.int .i64 ((rd_T80 l2 x29_2).f2))).heap[gb228]? = some (.cells #[.int .i64 ((rd_T80 l2 x29_2).f0), .int .i64 ((rd_T80 l2 x29_2).f1), .int .i64 ((rd_T80 l2 x29_2).f2)] 80 (0, 0))) := ⟨by (with_reducible repeat (first | refine blk_drewN ?_ _ | refine blk_drew ?_ | refine blk_alloc ?_ _)); refine blk_put (cs := #[.int .i64 ((rd_T80 l2 x29_2).f0), .int .i64 ((rd_T80 l2 x29_2).f1), .int .i64 0]) ?_ 2 _ rfl; (with_reducible repeat (first | refine blk_drewN ?_ _ | refine blk_drew ?_ | refine blk_alloc ?_ _)); refine blk_put (cs := #[.int .i64 ((rd_T80 l2 x29_2).f0), .int .i64 0, .int .i64 0]) ?_ 1 _ rfl; (with_reducible repeat (first | refine blk_drewN ?_ _ | refine blk_drew ?_ | refine blk_alloc ?_ _)); refine blk_put (cs := #[.int .i64 0, .int .i64 0, .int .i64 0]) ?_ 0 _ rfl; (with_reducible repeat (first | refine blk_drewN ?_ _ | refine blk_drew ?_ | refine blk_alloc ?_ _)); exact BK228.out⟩
              have n5_ : Aside0 (Below w.heap.size w (((w47.setCell ⟨gb228, 0, none⟩ (.int .i64 ((rd_T80 l2 x29_2).f0))).setCell ⟨gb228, 1, none⟩ (.int .i64 ((rd_T80 l2 x29_2).f1))).setCell ⟨gb228, 2, none⟩ (.int .i64 ((rd_T80 l2 x29_2).f2)))) := ⟨bl⟩
              (try clear HO_8)
              (try clear HO_9)
              (try clear BK221)
              (try clear BK226)
              (try clear BK228)
              (try clear HB)
              generalize (((w47.setCell ⟨gb228, 0, none⟩ (.int .i64 ((rd_T80 l2 x29_2).f0))).setCell ⟨gb228, 1, none⟩ (.int .i64 ((rd_T80 l2 x29_2).f1))).setCell ⟨gb228, 2, none⟩ (.int .i64 ((rd_T80 l2 x29_2).f2))) = w51 at n0_ n1_ n2_ n3_ n4_ n5_ ⊢
              have HO_8 := n0_
              have HO_9 := n1_
              have BK221 := n2_
              have BK226 := n3_
              have BK228 := n4_
              have HB := n5_
              clear n0_ n1_ n2_ n3_ n4_ n5_
              have n0_ := Aside0.mk (Kd.R_drew HO_8.out)
              have n1_ := Aside0.mk (Kd.R_drew HO_9.out)
              have n2_ := Aside0.mk (blk_drew BK221.out)
              have n3_ := Aside0.mk (blk_drew BK226.out)
              have n4_ := Aside0.mk (blk_drew BK228.out)
              have n5_ := Aside0.mk (below_drew1 HB.out)
              clear HO_8
              clear HO_9
              clear BK221
              clear BK226
              clear BK228
              clear HB
              have HO_8 := n0_
              have HO_9 := n1_
              have BK221 := n2_
              have BK226 := n3_
              have BK228 := n4_
              have HB := n5_
              clear n0_ n1_ n2_ n3_ n4_ n5_
              refine start_ (n := 18) (S := fun w' => True) (ds := []) #[false, false, false, false, false, false, false, false, false, false, false, false, false, false, false, false, false, false] (by kernel_rfl) rfl rfl trivial (fun hHeld => ?_); refine with_tabW spec_vfMatch.tab10 spec_vfMatch.bits10 (fun HT_ HW_ => ?_)
              generalize w51.drew = w52 at HO_8 HO_9 BK221 BK226 BK228 HB hHeld ⊢
              refine pure_ (i := 0) (N := some 34) (v := ?_) (a' := ?_) #[true, false, false, false, false, false, false, false, false, false, false, false, false, false, false, false, false, false] rfl rfl (any_of HT_.out (by kernel_rfl)) (fun _ _ _ h => h) (Or.inl ⟨by rfl, ?_⟩) ?_ ?_
              rotate_left
              ·intro w'
               go_simp
               with_reducible rfl
              rotate_left
              ·simp only [Act.put, List.setIfInBounds_toArray, List.set_cons_zero, List.set_cons_succ, i64_w, i32_w]
               rfl
              refine pure_ (i := 1) (N := some 35) (v := ?_) (a' := ?_) #[true, true, false, false, false, false, false, false, false, false, false, false, false, false, false, false, false, false] rfl rfl (any_of HT_.out (by kernel_rfl)) (fun _ _ _ h => h) (Or.inl ⟨by rfl, ?_⟩) ?_ ?_
              rotate_left
              ·intro w'
               go_simp
               with_reducible rfl
              rotate_left
              ·simp only [Act.put, List.setIfInBounds_toArray, List.set_cons_zero, List.set_cons_succ, i64_w, i32_w]
               rfl
              refine pure_ (i := 2) (N := some 36) (v := ?_) (a' := ?_) #[true, true, true, false, false, false, false, false, false, false, false, false, false, false, false, false, false, false] rfl rfl (any_of HT_.out (by kernel_rfl)) (fun _ _ _ h => h) (Or.inl ⟨by rfl, ?_⟩) ?_ ?_
              rotate_left
              ·intro w'
               go_simp
               with_reducible rfl
              rotate_left
              ·simp only [Act.put, List.setIfInBounds_toArray, List.set_cons_zero, List.set_cons_succ, i64_w, i32_w]
               rfl
              refine pure_ (i := 3) (N := some 37) (v := undef) (a' := ?_) #[true, true, true, true, false, false, false, false, false, false, false, false, false, false, false, false, false, false] rfl rfl (any_of HT_.out (by kernel_rfl)) (fun _ _ _ h => h) (Or.inr ⟨by rfl, rfl⟩) ?_ ?_
              rotate_left
              ·simp only [Act.put, List.setIfInBounds_toArray, List.set_cons_zero, List.set_cons_succ, i64_w, i32_w]
               rfl
              refine pure_ (i := 4) (N := some 38) (v := undef) (a' := ?_) #[true, true, true, true, true, false, false, false, false, false, false, false, false, false, false, false, false, false] rfl rfl (any_of HT_.out (by kernel_rfl)) (fun _ _ _ h => h) (Or.inr ⟨by rfl, rfl⟩) ?_ ?_
              rotate_left
              ·simp only [Act.put, List.setIfInBounds_toArray, List.set_cons_zero, List.set_cons_succ, i64_w, i32_w]
               rfl
              refine pure_ (i := 5) (N := some 39) (v := undef) (a' := ?_) #[true, true, true, true, true, true, false, false, false, false, false, false, false, false, false, false, false, false] rfl rfl (any_of HT_.out (by kernel_rfl)) (fun _ _ _ h => h) (Or.inr ⟨by rfl, rfl⟩) ?_ ?_
              rotate_left
              ·simp only [Act.put, List.setIfInBounds_toArray, List.set_cons_zero, List.set_cons_succ, i64_w, i32_w]
               rfl
              refine pure_ (i := 6) (N := some 40) (v := undef) (a' := ?_) #[true, true, true, true, true, true, true, false, false, false, false, false, false, false, false, false, false, false] rfl rfl (any_of HT_.out (by kernel_rfl)) (fun _ _ _ h => h) (Or.inr ⟨by rfl, rfl⟩) ?_ ?_
              rotate_left
              ·simp only [Act.put, List.setIfInBounds_toArray, List.set_cons_zero, List.set_cons_succ, i64_w, i32_w]
               rfl
              refine pure_ (i := 7) (N := some 41) (v := undef) (a' := ?_) #[true, true, true, true, true, true, true, true, false, false, false, false, false, false, false, false, false, false] rfl rfl (any_of HT_.out (by kernel_rfl)) (fun _ _ _ h => h) (Or.inr ⟨by rfl, rfl⟩) ?_ ?_
              rotate_left
              ·simp only [Act.put, List.setIfInBounds_toArray, List.set_cons_zero, List.set_cons_succ, i64_w, i32_w]
               rfl
              refine pure_ (i := 8) (N := some 42) (v := ?_) (a' := ?_) #[true, true, true, true, true, true, true, true, true, false, false, false, false, false, false, false, false, false] rfl rfl (any_of HT_.out (by kernel_rfl)) (fun _ _ _ h => h) (Or.inl ⟨by rfl, ?_⟩) ?_ ?_
              rotate_left
              ·intro w'
               go_simp
               with_reducible rfl
              rotate_left
              ·simp only [Act.put, List.setIfInBounds_toArray, List.set_cons_zero, List.set_cons_succ, i64_w, i32_w]
               rfl
              refine pure_ (i := 9) (N := some 43) (v := ?_) (a' := ?_) #[true, true, true, true, true, true, true, true, true, true, false, false, false, false, false, false, false, false] rfl rfl (any_of HT_.out (by kernel_rfl)) (fun _ _ _ h => h) (Or.inl ⟨by rfl, ?_⟩) ?_ ?_
              rotate_left
              ·intro w'
               go_simp
               with_reducible rfl
              rotate_left
              ·simp only [Act.put, List.setIfInBounds_toArray, List.set_cons_zero, List.set_cons_succ, i64_w, i32_w]
               rfl
              refine pure_ (i := 10) (N := some 44) (v := undef) (a' := ?_) #[true, true, true, true, true, true, true, true, true, true, true, false, false, false, false, false, false, false] rfl rfl (any_of HT_.out (by kernel_rfl)) (fun _ _ _ h => h) (Or.inr ⟨by rfl, rfl⟩) ?_ ?_
              rotate_left
              ·simp only [Act.put, List.setIfInBounds_toArray, List.set_cons_zero, List.set_cons_succ, i64_w, i32_w]
               rfl
              refine pure_ (i := 11) (N := some 45) (v := undef) (a' := ?_) #[true, true, true, true, true, true, true, true, true, true, true, true, false, false, false, false, false, false] rfl rfl (any_of HT_.out (by kernel_rfl)) (fun _ _ _ h => h) (Or.inr ⟨by rfl, rfl⟩) ?_ ?_
              rotate_left
              ·simp only [Act.put, List.setIfInBounds_toArray, List.set_cons_zero, List.set_cons_succ, i64_w, i32_w]
               rfl
              refine pure_ (i := 12) (N := some 46) (v := undef) (a' := ?_) #[true, true, true, true, true, true, true, true, true, true, true, true, true, false, false, false, false, false] rfl rfl (any_of HT_.out (by kernel_rfl)) (fun _ _ _ h => h) (Or.inr ⟨by rfl, rfl⟩) ?_ ?_
              rotate_left
              ·simp only [Act.put, List.setIfInBounds_toArray, List.set_cons_zero, List.set_cons_succ, i64_w, i32_w]
               rfl
              refine pure_ (i := 13) (N := some 47) (v := undef) (a' := ?_) #[true, true, true, true, true, true, true, true, true, true, true, true, true, true, false, false, false, false] rfl rfl (any_of HT_.out (by kernel_rfl)) (fun _ _ _ h => h) (Or.inr ⟨by rfl, rfl⟩) ?_ ?_
              rotate_left
              ·simp only [Act.put, List.setIfInBounds_toArray, List.set_cons_zero, List.set_cons_succ, i64_w, i32_w]
               rfl
              refine pure_ (i := 14) (N := some 48) (v := undef) (a' := ?_) #[true, true, true, true, true, true, true, true, true, true, true, true, true, true, true, false, false, false] rfl rfl (any_of HT_.out (by kernel_rfl)) (fun _ _ _ h => h) (Or.inr ⟨by rfl, rfl⟩) ?_ ?_
              rotate_left
              ·simp only [Act.put, List.setIfInBounds_toArray, List.set_cons_zero, List.set_cons_succ, i64_w, i32_w]
               rfl
              refine pure_ (i := 15) (N := some 49) (v := undef) (a' := ?_) #[true, true, true, true, true, true, true, true, true, true, true, true, true, true, true, true, false, false] rfl rfl (any_of HT_.out (by kernel_rfl)) (fun _ _ _ h => h) (Or.inr ⟨by rfl, rfl⟩) ?_ ?_
              rotate_left
              ·simp only [Act.put, List.setIfInBounds_toArray, List.set_cons_zero, List.set_cons_succ, i64_w, i32_w]
               rfl
              refine pure_ (i := 16) (N := some 50) (v := undef) (a' := ?_) #[true, true, true, true, true, true, true, true, true, true, true, true, true, true, true, true, true, false] rfl rfl (any_of HT_.out (by kernel_rfl)) (fun _ _ _ h => h) (Or.inr ⟨by rfl, rfl⟩) ?_ ?_
              rotate_left
              ·simp only [Act.put, List.setIfInBounds_toArray, List.set_cons_zero, List.set_cons_succ, i64_w, i32_w]
               rfl
              refine pure_ (i := 17) (N := some 51) (v := ?_) (a' := ?_) #[true, true, true, true, true, true, true, true, true, true, true, true, true, true, true, true, true, true] rfl rfl (any_of HT_.out (by kernel_rfl)) (fun _ _ _ h => h) (Or.inl ⟨by rfl, ?_⟩) ?_ ?_
              rotate_left
              ·intro w'
               go_simp
               with_reducible rfl
              rotate_left
              ·simp only [Act.put, List.setIfInBounds_toArray, List.set_cons_zero, List.set_cons_succ, i64_w, i32_w]
               rfl
              refine done_ (done_of HT_.out (by kernel_rfl)) ?_
              try go_wp2
              go_roundg k2
              case measure => have := HK1.out; have := HK2.out; omega
              case rel => exact ⟨(x12_2), (wrap64 (x29_2 + 1)), fin2, fin2, H', ⟨by have := HK1.out; have := HK2.out; omega⟩, ⟨rup HO_8.out⟩, ⟨rup HO_9.out⟩, ⟨bup BK221.out⟩, ⟨bup BK226.out⟩, ⟨bl⟩⟩
            ·rw [if_neg c17] at H
             exact absurd H (by simp)
           ·rw [if_neg c16] at H
            exact absurd H (by simp)
          ·rw [if_neg c15] at H
           have c15b0 : decide (x29_2 < (l2.length : Int)) = false := decide_eq_false c15
           clear c15
           by_cases c53 : x12_2 ≥ 0
           ·rw [if_pos c53] at H
            have c53b0 : decide (0 ≤ x12_2) = true := decide_eq_true c53
            clear c53
            by_cases c54 : 0 ≤ x12_2
            ·rw [if_pos c54] at H
             have c54b0 : decide (0 ≤ x12_2) = true := decide_eq_true c54
             clear c54
             by_cases c55 : x12_2 < (x8_1.length : Int)
             ·rw [if_pos c55] at H
              have c55b0 : decide (x12_2 < (x8_1.length : Int)) = true := decide_eq_true c55
              clear c55
              obtain ⟨y231, hy231⟩ : ∃ y_ : List Bool, y_ = (x8_1.set (x12_2 : Int).toNat true) := ⟨_, rfl⟩
              replace H : (if x9_1.length < 17592186044416 then (spec_vfMatch.l0 k2 l2 y231 (x9_1 ++ [x12_2]) l1 (l1.length : Int) (wrap64 (x23_1 + 1)) l0_0 a0_1) else (none)) = some (r1, r2) := by first | (rw [hy231]; with_reducible exact H) | (have H2_ := (Option.bind_some _ _).symm.trans H; rw [hy231]; with_reducible exact H2_) | (have H2_ := (Option.bind_some _ _).symm.trans H; with_reducible exact H2_) | with_reducible exact H | (rw [hy231]; exact H) | exact H
              have Ny231 := Aside0.mk hy231
              clear hy231
              by_cases c57 : x9_1.length < 17592186044416
              ·rw [if_pos c57] at H
               have LMc57 := Aside0.mk c57
               clear c57
               obtain ⟨y232, hy232⟩ : ∃ y_ : List Int, y_ = (x9_1 ++ [x12_2]) := ⟨_, rfl⟩
               replace H : (spec_vfMatch.l0 k2 l2 y231 y232 l1 (l1.length : Int) (wrap64 (x23_1 + 1)) l0_0 a0_1) = some (r1, r2) := by first | (rw [hy232]; with_reducible exact H) | (have H2_ := (Option.bind_some _ _).symm.trans H; rw [hy232]; with_reducible exact H2_) | (have H2_ := (Option.bind_some _ _).symm.trans H; with_reducible exact H2_) | with_reducible exact H | (rw [hy232]; exact H) | exact H
               have Ny232 := Aside0.mk hy232
               clear hy232
               have H' := Aside0.mk H
               clear H
               have p56 : 0 ≤ (x12_2 : Int) := od
               have q56 : (x12_2 : Int) < ((x8_1.length : Int) : Int) := od
               obtain ⟨go56, co56, eo56, gb56, gl56, cl56, HG56⟩ := Kd.R_form HO_8.out (by omega)
               (first | cases eo56 | (injection eo56 with ea_ en_ ec_; (first | subst ea_ | (injection ea_ with ea_; subst ea_)); subst ec_; clear en_))
               have GB56 := Aside0.mk gb56
               have GG56 := Aside0.mk HG56
               clear gb56 gl56 HG56
               obtain ⟨hx56_0, hf56_0⟩ := Kd.R_celln false HO_8.out (x12_2 : Int) p56 q56
               replace p56 := eq_true p56
               replace q56 := eq_true q56
               have HP58 := Kd.R_putg HO_8.out (x12_2 : Int) true
               go_wp2_with (first | ((with_reducible refine gate_store (t := 4) (p := 58) rfl ?_); refine store_event (t := 4) (p := 58) (v := ?vo_w59) (w1 := (wr.setCell ⟨go56, (x12_2 : Int).toNat, none⟩ (.bool true))) ?hg ?ho ?hn ?hr ?_; (case ho => rfl); (case hg => rfl); (case hn => rfl); (case hr => first | (go_simp; done) | (go_simp; rfl)); intro w59 hw; have hg : wr.grownBy w59 (some go56) := (by rw [hw]; exact HP58.2); have hp_ : Kd.R Kd.bool 4 w59 w.heap.size (fun _ => True) (.slice (some ⟨go56, 0, none⟩) x8_1.length co56) y231 := (by rw [hw, Ny231.out]; exact HP58.1); clear HP58; have n0_ := Aside0.mk (hp_); have n1_ := Aside0.mk (Kd.R_over' (v := (.slice (some ⟨go56, 0, none⟩) x8_1.length co56)) (rup HO_9.out) (Kd.R_typed HO_8.out) (by decide) hg); have n2_ := Aside0.mk (blk_grown (g := gb221) (o := .cells #[.slice A0_0 l0_0.length c0_0, .int .i64 a0_1] 44 (0, 0)) (bup BK221.out) hg (Kd.R_ne HO_8.out BK221.out (by decide))); have n3_ := Aside0.mk (blk_grown (g := gb226) (o := .cells #[.int .i64 ((rd_T95 l1 x23_1).f0), .int .i64 ((rd_T95 l1 x23_1).f1), .int .i64 ((rd_T95 l1 x23_1).f2)] 95 (0, 0)) (bup BK226.out) hg (Kd.R_ne HO_8.out BK226.out (by decide))); have n4_ := Aside0.mk ((by rw [hw]; exact below_set (HB.out) GB56.out : Below w.heap.size w w59)); clear HO_8; clear HO_9; clear BK221; clear BK226; clear HB; have HO_8 := n0_; have HO_9 := n1_; have BK221 := n2_; have BK226 := n3_; have HB := n4_; clear n0_ n1_ n2_ n3_ n4_; clear hg hw hp_) | ((with_reducible refine gate_builtin (b := .append) (xs := #[.tmp 59, .tmp 61]) rfl ?_); at_builtin; refine Kd.R_append (Kd.int .i64) (w0 := w) w.heap.size rfl (.tmp 59) (.tmp 61) 34 3 (.int .i64 0) 8 rfl Try.underlying34 info3 rfl (by decide) (by omega) u9 x9_1 x12_2 [.int .i64 x12_2] (fun _ => True) (fun _ => False) rfl rfl ?aP (fun _ hk => hk.elim) ?aF ?aO ?aB ?aS ?aL ?_; (case aP => exact rfl); (case aB => exact bl); (case aF => exact (fun _ _ => trivial)); (case aO => exact (rup HO_9.out)); (case aS => exact (below_size bl)); (case aL => have := LMc57.out; omega); intro v233 w60 ho hb hg hat; rw [← Ny232.out] at ho; have n0_ := Aside0.mk (Kd.R_over' (rup HO_8.out) (Kd.R_typed (rup HO_9.out)) (by decide) hg); have n1_ := Aside0.mk (blk_grown (g := gb221) (o := .cells #[.slice A0_0 l0_0.length c0_0, .int .i64 a0_1] 44 (0, 0)) (bup BK221.out) hg (Kd.R_ne HO_9.out BK221.out (by decide))); have n2_ := Aside0.mk (blk_grown (g := gb226) (o := .cells #[.int .i64 ((rd_T95 l1 x23_1).f0), .int .i64 ((rd_T95 l1 x23_1).f1), .int .i64 ((rd_T95 l1 x23_1).f2)] 95 (0, 0)) (bup BK226.out) hg (Kd.R_ne HO_9.out BK226.out (by decide))); have n3_ := Aside0.mk (hb); have n4_ := Aside0.mk (ho); clear HO_8; clear BK221; clear BK226; clear HB; clear HO_9; have HO_8 := n0_; have BK221 := n1_; have BK226 := n2_; have HB := n3_; have HO234 := n4_; clear n0_ n1_ n2_ n3_ n4_; clear ho hb hg hat))
               go_roundg k2
               case measure => have := HK1.out; have := HK2.out; omega
               case rel => exact ⟨(y231), (y232), (wrap64 (x23_1 + 1)), fin2, H', ⟨by have := HK1.out; have := HK2.out; omega⟩, ⟨rup HO_8.out⟩, ⟨rup HO234.out⟩, ⟨bup BK221.out⟩, ⟨bl⟩⟩
              ·rw [if_neg c57] at H
               exact absurd H (by simp)
             ·rw [if_neg c55] at H
              exact absurd H (by simp)
            ·rw [if_neg c54] at H
             exact absurd H (by simp)
           ·rw [if_neg c53] at H
            have c53b0 : decide (0 ≤ x12_2) = false := decide_eq_false c53
            clear c53
            by_cases c61 : x9_1.length < 17592186044416
            ·rw [if_pos c61] at H
             have LMc61 := Aside0.mk c61
             clear c61
             obtain ⟨y235, hy235⟩ : ∃ y_ : List Int, y_ = (x9_1 ++ [x12_2]) := ⟨_, rfl⟩
             replace H : (spec_vfMatch.l0 k2 l2 x8_1 y235 l1 (l1.length : Int) (wrap64 (x23_1 + 1)) l0_0 a0_1) = some (r1, r2) := by first | (rw [hy235]; with_reducible exact H) | (have H2_ := (Option.bind_some _ _).symm.trans H; rw [hy235]; with_reducible exact H2_) | (have H2_ := (Option.bind_some _ _).symm.trans H; with_reducible exact H2_) | with_reducible exact H | (rw [hy235]; exact H) | exact H
             have Ny235 := Aside0.mk hy235
             clear hy235
             have H' := Aside0.mk H
             clear H
             go_wp2_with (first | ((with_reducible refine gate_builtin (b := .append) (xs := #[.tmp 59, .tmp 61]) rfl ?_); at_builtin; refine Kd.R_append (Kd.int .i64) (w0 := w) w.heap.size rfl (.tmp 59) (.tmp 61) 34 3 (.int .i64 0) 8 rfl Try.underlying34 info3 rfl (by decide) (by omega) u9 x9_1 x12_2 [.int .i64 x12_2] (fun _ => True) (fun _ => False) rfl rfl ?aP (fun _ hk => hk.elim) ?aF ?aO ?aB ?aS ?aL ?_; (case aP => exact rfl); (case aB => exact bl); (case aF => exact (fun _ _ => trivial)); (case aO => exact (rup HO_9.out)); (case aS => exact (below_size bl)); (case aL => have := LMc61.out; omega); intro v236 w62 ho hb hg hat; rw [← Ny235.out] at ho; have n0_ := Aside0.mk (Kd.R_over' (rup HO_8.out) (Kd.R_typed (rup HO_9.out)) (by decide) hg); have n1_ := Aside0.mk (blk_grown (g := gb221) (o := .cells #[.slice A0_0 l0_0.length c0_0, .int .i64 a0_1] 44 (0, 0)) (bup BK221.out) hg (Kd.R_ne HO_9.out BK221.out (by decide))); have n2_ := Aside0.mk (blk_grown (g := gb226) (o := .cells #[.int .i64 ((rd_T95 l1 x23_1).f0), .int .i64 ((rd_T95 l1 x23_1).f1), .int .i64 ((rd_T95 l1 x23_1).f2)] 95 (0, 0)) (bup BK226.out) hg (Kd.R_ne HO_9.out BK226.out (by decide))); have n3_ := Aside0.mk (hb); have n4_ := Aside0.mk (ho); clear HO_8; clear BK221; clear BK226; clear HB; clear HO_9; have HO_8 := n0_; have BK221 := n1_; have BK226 := n2_; have HB := n3_; have HO237 := n4_; clear n0_ n1_ n2_ n3_ n4_; clear ho hb hg hat))
             go_roundg k2
             case measure => have := HK1.out; have := HK2.out; omega
             case rel => exact ⟨(x8_1), (y235), (wrap64 (x23_1 + 1)), fin2, H', ⟨by have := HK1.out; have := HK2.out; omega⟩, ⟨rup HO_8.out⟩, ⟨rup HO237.out⟩, ⟨bup BK221.out⟩, ⟨bl⟩⟩
            ·rw [if_neg c61] at H
             exact absurd H (by simp)
       ·rw [if_neg c11] at H
        exact absurd H (by simp)
      ·rw [if_neg c10] at H
       exact absurd H (by simp)
     ·rw [if_neg c9] at H
      have c9b0 : decide (x23_1 < (l1.length : Int)) = false := decide_eq_false c9
      clear c9
      have H' := Aside0.mk H
      clear H
      obtain ⟨Ao63, co63, eo63⟩ := Kd.R_slice HO_8.out
      subst eo63
      go_wp2
      go_loopg [15, 66] k1 (fun kq v15 v66 w' => ∃ (x15_2 : List Int) (x66_2 : Int), v66 = .int .i64 x66_2 ∧ Aside0 (spec_vfMatch.l2 kq x9_1 x15_2 x8_1 (x8_1.length : Int) x66_2 = some (r1, r2)) ∧ Aside0 (kq ≤ k1) ∧ Aside0 (Kd.R (Kd.int .i64) 3 w' w.heap.size (fun k_ => some k_ ≠ (v15 : Value).ownBlock) u9 x9_1) ∧ Aside0 (Kd.R (Kd.int .i64) 3 w' w.heap.size (fun k_ => some k_ ≠ (u9 : Value).ownBlock) v15 x15_2) ∧ Aside0 (Kd.R Kd.bool 4 w' w.heap.size (fun _ => True) (.slice Ao63 x8_1.length co63) x8_1) ∧ Aside0 (w'.heap[gb221]? = some (.cells #[(.slice A0_0 l0_0.length c0_0), .int .i64 a0_1] 44 (0, 0))) ∧ Aside0 (Below w.heap.size w w'))
      case atStart => exact ⟨(([] : List Int)), (0), fin2, H', ⟨Nat.le_refl _⟩, ⟨by (with_reducible repeat (first | apply Kd.R_alloc | apply Kd.R_drewN | apply Kd.R_drew)); exact Kd.R_mono HO_9.out (fun _ hk => (by simp [Value.ownBlock]))⟩, ⟨by first | exact Kd.R_nil _ _ _ _ _ | exact Kd.N_nil _ _ _ _ _ | exact Kd.V_nil _ _ _ _ _ | exact Kd.Q_nil _ _ _ _ _ | exact Kd.S_nil _ _ _ _ _⟩, ⟨rup HO_8.out⟩, ⟨bup BK221.out⟩, ⟨bl⟩⟩
      case round =>
       clear H'
       try clear c1
       try clear p2
       try clear q2
       try clear hx2
       try clear c3
       try clear c4
       try clear c5
       try clear p5
       try clear q5
       try clear hx5
       try clear hf5
       try clear c6
       try clear p6
       try clear c9
       try clear c9b0
       try clear c10
       try clear c11
       try clear c15
       try clear c15b0
       try clear c16
       try clear c17
       try clear c18
       try clear c18b0
       try clear c19
       try clear q20
       try clear p22
       try clear q22
       try clear hx22
       try clear c30
       try clear c30b0
       try clear c30b1
       try clear c40
       try clear c41
       try clear c48
       try clear c49
       try clear c53
       try clear c53b0
       try clear c54
       try clear c54b0
       try clear c55
       try clear c55b0
       try clear p56
       try clear q56
       try clear hx56
       try clear hf56
       try clear c57
       try clear c61
       try clear hcz42_0
       try clear hcz42_1
       try clear hcz42_2
       try clear hcz50_0
       try clear hcz50_1
       try clear hcz50_2
       try clear hfz42_0
       try clear hfz42_1
       try clear hfz42_2
       try clear hfz50_0
       try clear hfz50_1
       try clear hfz50_2
       try clear hx227_0
       try clear hx227_1
       try clear hx227_2
       try clear hx229_0
       try clear hx56_0
       try clear p227
       try clear p229
       try clear p56
       try clear q227
       try clear q229
       try clear q56
       obtain ⟨x15_2, x66_2, rfl, HA, HK2, HO_9, HO_15, HO_64, BK221, HB⟩ := hrel
       cases gk with
       | zero => exact absurd HA.out (by simp [spec_vfMatch.l2])
       | succ k2 =>
        have H := HA.out
        clear HA
        simp only [spec_vfMatch.l2] at H
        by_cases c64 : x66_2 < (x8_1.length : Int)
        ·rw [if_pos c64] at H
         have c64b0 : decide (x66_2 < (x8_1.length : Int)) = true := decide_eq_true c64
         clear c64
         by_cases c65 : 0 ≤ x66_2
         ·rw [if_pos c65] at H
          have c65b0 : decide (0 ≤ x66_2) = true := decide_eq_true c65
          clear c65
          by_cases c66 : x66_2 < (x8_1.length : Int)
          ·rw [if_pos c66] at H
           have c66b0 : decide (x66_2 < (x8_1.length : Int)) = true := decide_eq_true c66
           clear c66
           obtain ⟨bq67, hbq67⟩ : ∃ b_ : Bool, b_ = (rdOf false x8_1 x66_2) := ⟨_, rfl⟩
           replace H : (if bq67 = true then (spec_vfMatch.l2 k2 x9_1 x15_2 x8_1 (x8_1.length : Int) (wrap64 (x66_2 + 1))) else (if x15_2.length < 17592186044416 then (spec_vfMatch.l2 k2 x9_1 (x15_2 ++ [x66_2]) x8_1 (x8_1.length : Int) (wrap64 (x66_2 + 1))) else (none))) = some (r1, r2) := by rw [← hbq67] at H; exact H
           have Nbq67 := Aside0.mk hbq67
           clear hbq67
           by_cases c68 : bq67 = true
           ·subst c68
            have H1 : (spec_vfMatch.l2 k2 x9_1 x15_2 x8_1 (x8_1.length : Int) (wrap64 (x66_2 + 1))) = some (r1, r2) := by rw [if_pos rfl] at H; exact H
            clear H
            have H := H1
            clear H1
            have H' := Aside0.mk H
            clear H
            have p238 : 0 ≤ (x66_2 : Int) := od
            have q238 : x66_2 < (x8_1.length : Int) := od
            obtain ⟨ad238, e238, hx238_0⟩ := Kd.at_bool (Kd.R_reads' HO_64.out).2.2 x66_2 p238 q238
            (try rw [← Nbq67.out] at hx238_0)
            cases e238
            replace p238 := eq_true p238
            replace q238 := eq_true q238
            go_wp2
            go_roundg k2
            case measure => have := HK1.out; have := HK2.out; omega
            case rel => exact ⟨(x15_2), (wrap64 (x66_2 + 1)), fin2, H', ⟨by have := HK1.out; have := HK2.out; omega⟩, ⟨rup HO_9.out⟩, ⟨rup HO_15.out⟩, ⟨rup HO_64.out⟩, ⟨bup BK221.out⟩, ⟨bl⟩⟩
           ·replace c68 := Bool.eq_false_iff.mpr c68
            subst c68
            have H1 : (if x15_2.length < 17592186044416 then (spec_vfMatch.l2 k2 x9_1 (x15_2 ++ [x66_2]) x8_1 (x8_1.length : Int) (wrap64 (x66_2 + 1))) else (none)) = some (r1, r2) := by rw [if_neg (show ¬ (false = true) by decide)] at H; exact H
            clear H
            have H := H1
            clear H1
            by_cases c69 : x15_2.length < 17592186044416
            ·rw [if_pos c69] at H
             have LMc69 := Aside0.mk c69
             clear c69
             obtain ⟨y239, hy239⟩ : ∃ y_ : List Int, y_ = (x15_2 ++ [x66_2]) := ⟨_, rfl⟩
             replace H : (spec_vfMatch.l2 k2 x9_1 y239 x8_1 (x8_1.length : Int) (wrap64 (x66_2 + 1))) = some (r1, r2) := by first | (rw [hy239]; with_reducible exact H) | (have H2_ := (Option.bind_some _ _).symm.trans H; rw [hy239]; with_reducible exact H2_) | (have H2_ := (Option.bind_some _ _).symm.trans H; with_reducible exact H2_) | with_reducible exact H | (rw [hy239]; exact H) | exact H
             have Ny239 := Aside0.mk hy239
             clear hy239
             have H' := Aside0.mk H
             clear H
             have p238 : 0 ≤ (x66_2 : Int) := od
             have q238 : x66_2 < (x8_1.length : Int) := od
             obtain ⟨ad238, e238, hx238_0⟩ := Kd.at_bool (Kd.R_reads' HO_64.out).2.2 x66_2 p238 q238
             (try rw [← Nbq67.out] at hx238_0)
             cases e238
             replace p238 := eq_true p238
             replace q238 := eq_true q238
             go_wp2_with (first | ((with_reducible refine gate_builtin (b := .append) (xs := #[.tmp 73, .tmp 75]) rfl ?_); at_builtin; refine Kd.R_append (Kd.int .i64) (w0 := w) w.heap.size rfl (.tmp 73) (.tmp 75) 34 3 (.int .i64 0) 8 rfl Try.underlying34 info3 rfl (by decide) (by omega) u15 x15_2 x66_2 [.int .i64 x66_2] (fun k_ => some k_ ≠ (u9 : Value).ownBlock) (fun _ => False) rfl rfl ?aP (fun _ hk => hk.elim) ?aF ?aO ?aB ?aS ?aL ?_; (case aP => exact rfl); (case aB => exact bl); (case aF => exact (fun k_ hk => Kd.fresh' (Kd.R_lt (rup HO_9.out)) k_ hk)); (case aO => exact (rup HO_15.out)); (case aS => exact (below_size bl)); (case aL => have := LMc69.out; omega); intro v240 w70 ho hb hg hat; rw [← Ny239.out] at ho; have n0_ := Aside0.mk (Kd.R_after (ok := (fun _ => True)) (by (with_reducible repeat (first | apply Kd.R_alloc | apply Kd.R_drewN | apply Kd.R_drew)); exact Kd.R_mono HO_9.out (fun _ hk => ⟨trivial, hk⟩)) hg hat); have n1_ := Aside0.mk (Kd.R_over' (rup HO_64.out) (Kd.R_typed (rup HO_15.out)) (by decide) hg); have n2_ := Aside0.mk (blk_grown (g := gb221) (o := .cells #[.slice A0_0 l0_0.length c0_0, .int .i64 a0_1] 44 (0, 0)) (bup BK221.out) hg (Kd.R_ne HO_15.out BK221.out (by decide))); have n3_ := Aside0.mk (hb); have n4_ := Aside0.mk (ho); clear HO_9; clear HO_64; clear BK221; clear HB; clear HO_15; have HO_9 := n0_; have HO_64 := n1_; have BK221 := n2_; have HB := n3_; have HO241 := n4_; clear n0_ n1_ n2_ n3_ n4_; clear ho hb hg hat))
             go_roundg k2
             case measure => have := HK1.out; have := HK2.out; omega
             case rel => exact ⟨(y239), (wrap64 (x66_2 + 1)), fin2, H', ⟨by have := HK1.out; have := HK2.out; omega⟩, ⟨by (with_reducible repeat (first | apply Kd.R_alloc | apply Kd.R_drewN | apply Kd.R_drew)); exact Kd.R_mono HO_9.out (fun _ hk => hk.2)⟩, ⟨rup HO241.out⟩, ⟨rup HO_64.out⟩, ⟨bup BK221.out⟩, ⟨bl⟩⟩
            ·rw [if_neg c69] at H
             exact absurd H (by simp)
          ·rw [if_neg c66] at H
           exact absurd H (by simp)
         ·rw [if_neg c65] at H
          exact absurd H (by simp)
        ·rw [if_neg c64] at H
         have c64b0 : decide (x66_2 < (x8_1.length : Int)) = false := decide_eq_false c64
         clear c64
         simp only [Option.some.injEq, Prod.mk.injEq] at H
         obtain ⟨rfl, rfl⟩ := H
         go_wp2
         go_ret2
         exact ⟨_, _, fin1, by (with_reducible repeat (first | apply Kd.R_alloc | apply Kd.R_drewN | apply Kd.R_drew)); exact HO_9.out, by (with_reducible repeat (first | apply Kd.R_alloc | apply Kd.R_drewN | apply Kd.R_drew)); exact HO_15.out, bl⟩
  ·rw [if_neg c5] at H
   exact absurd H (by simp)
 ·rw [if_neg c4] at H
  exact absurd H (by simp)

end Go.Proofs.Ytjniaiobnbdhhab.PFnExactHoleErrors
