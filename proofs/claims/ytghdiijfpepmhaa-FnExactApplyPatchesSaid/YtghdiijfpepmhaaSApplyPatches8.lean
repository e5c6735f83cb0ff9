/- The walks of functions that FnExactApplyPatches reaches: what they return is what the plain functions of the same names say. Laid by a program of this session after the kit's print. No conditions beyond the arguments' being read. -/
import Derived.Test.YtghdiijfpepmhaaSApplyPatches0
import Derived.Test.YtghdiijfpepmhaaSApplyPatches4
import Derived.Test.YtghdiijfpepmhaaSApplyPatches5
import Derived.Test.YtghdiijfpepmhaaSApplyPatches6
import Derived.Test.YtghdiijfpepmhaaSApplyPatches7
namespace Go.Proofs.Ytghdiijfpepmhaa.PFnExactApplyPatches
open Go.RowKit Go.Proofs.YtghdiijfpepmhaaW.PrintWords Go.Proofs.YtghdiijfpepmhaaW.PrintLast Go.Proofs.YtghdiijfpepmhaaW.PrintMore
attribute [local go_sem] max2_int min2_int max_two min_two max_three min_three max_four min_four   -- for this text's walks alone
set_option linter.unusedVariables false
set_option linter.unusedSimpArgs false

mutual
def spec_rpSheet.l0 : Nat → List (S47) → List (List Bool) → Int → Int → Option ((List (S47)) × Bool)
 | 0, _, _, _, _ => none
 | k + 1, x4, x10, x11, x12 => if x12 < x11 then (if 0 ≤ x12 then (if x12 < (x10.length : Int) then (spec_rpSheet.l1 k x4 x12 x10 x11 x12 (rd_L5 x10 x12) ((rd_L5 x10 x12).length : Int) 0) else (none)) else (none)) else (if (x4.length : Int) > 60 then (some (([] : List (S47)), false)) else ((spec_shSorted.f k x4).bind fun bt181 => (some (bt181.1, bt181.2))))
def spec_rpSheet.l1 : Nat → List (S47) → Int → List (List Bool) → Int → Int → List Bool → Int → Int → Option ((List (S47)) × Bool)
 | 0, _, _, _, _, _, _, _, _ => none
 | k + 1, x4, x5, x10, x11, x12, x17, x18, x19 => if x19 < x18 then (if 0 ≤ x19 then (if x19 < (x17.length : Int) then (if rdOf false x17 x19 = true then (if (x4.length : Int) > 0 then (if 0 ≤ (wrap64 ((x4.length : Int) - 1)) then (if (wrap64 ((x4.length : Int) - 1)) < (x4.length : Int) then (if ((rd_T47 x4 (wrap64 ((x4.length : Int) - 1))).f0) = x5 then (if ((rd_T47 x4 (wrap64 ((x4.length : Int) - 1))).f2) = x19 then (spec_rpSheet.l1 k (x4.set ((wrap64 ((x4.length : Int) - 1)) : Int).toNat (⟨(rd_T47 x4 (wrap64 ((x4.length : Int) - 1))).f0, (rd_T47 x4 (wrap64 ((x4.length : Int) - 1))).f1, wrap64 (((rd_T47 x4 (wrap64 ((x4.length : Int) - 1))).f2) + 1)⟩ : S47)) x5 x10 x11 x12 x17 x18 (wrap64 (x19 + 1))) else (if x4.length < 5864062014805 then (spec_rpSheet.l1 k (x4 ++ [(⟨x5, x19, wrap64 (x19 + 1)⟩ : S47)]) x5 x10 x11 x12 x17 x18 (wrap64 (x19 + 1))) else (none))) else (if x4.length < 5864062014805 then (spec_rpSheet.l1 k (x4 ++ [(⟨x5, x19, wrap64 (x19 + 1)⟩ : S47)]) x5 x10 x11 x12 x17 x18 (wrap64 (x19 + 1))) else (none))) else (none)) else (none)) else (if x4.length < 5864062014805 then (spec_rpSheet.l1 k (x4 ++ [(⟨x5, x19, wrap64 (x19 + 1)⟩ : S47)]) x5 x10 x11 x12 x17 x18 (wrap64 (x19 + 1))) else (none))) else (spec_rpSheet.l1 k x4 x5 x10 x11 x12 x17 x18 (wrap64 (x19 + 1)))) else (none)) else (none)) else (spec_rpSheet.l0 k x4 x10 x11 (wrap64 (x12 + 1)))
end
def spec_rpSheet.f (k : Nat) (l0 : List (List Bool)) : Option ((List (S47)) × Bool) := spec_rpSheet.l0 k ([] : List (S47)) l0 (l0.length : Int) 0
set_option maxHeartbeats 8000000 in
set_option maxRecDepth 100000 in
theorem spec_rpSheet.calls (k : Nat) (A0 : Option Addr) (c0 : Nat) (l0 : List (List Bool)) (r1 : List (S47)) (r2 : Bool) (w : World) (hr0 : Kd.C (Kd.slice 4 Kd.bool) w A0 l0.length l0) (hc0 : l0.length ≤ c0) (h : spec_rpSheet.f k l0 = some (r1, r2)) :
  Calls Try.prog 37 #[.slice A0 l0.length c0] w fun e w' => ∃ v0_ : Value, e = .returned (.tuple #[v0_, .bool r2]) ∧ Kd.R k47 47 w' w.heap.size (fun _ => True) v0_ r1 ∧ Below w.heap.size w w' := by
 have hu47 := Try.underlying47
 have HR0 := Aside0.mk hr0
 have HC0 := Aside0.mk hc0
 clear hr0 hc0
 have HB := Aside0.mk (Below.refl w.heap.size w)
 have H : (spec_rpSheet.l0 k ([] : List (S47)) l0 (l0.length : Int) 0) = some (r1, r2) := h
 clear h
 have H' := Aside0.mk H
 clear H
 go_enter Try.func37, Try.ntmps37
 go_wp2
 go_loopg [4, 12] k (fun kq v4 v12 w' => ∃ (x4_1 : List (S47)) (x12_1 : Int), v12 = .int .i64 x12_1 ∧ Aside0 (spec_rpSheet.l0 kq x4_1 l0 (l0.length : Int) x12_1 = some (r1, r2)) ∧ Aside0 (kq ≤ k) ∧ Aside0 (Kd.R k47 47 w' w.heap.size (fun _ => True) v4 x4_1) ∧ Aside0 (Below w.heap.size w w'))
 case atStart => exact ⟨(([] : List (S47))), (0), fin2, H', ⟨Nat.le_refl _⟩, ⟨by first | exact Kd.R_nil _ _ _ _ _ | exact Kd.N_nil _ _ _ _ _ | exact Kd.V_nil _ _ _ _ _ | exact Kd.Q_nil _ _ _ _ _ | exact Kd.S_nil _ _ _ _ _⟩, ⟨bl⟩⟩
 case round =>
  clear H'
  obtain ⟨x4_1, x12_1, rfl, HA, HK1, HO_4, HB⟩ := hrel
  cases gk with
  | zero => exact absurd HA.out (by simp [spec_rpSheet.l0])
  | succ k1 =>
   have H := HA.out
   clear HA
   simp only [spec_rpSheet.l0] at H
   by_cases c2 : x12_1 < (l0.length : Int)
   ·rw [if_pos c2] at H
    have c2b0 : decide (x12_1 < (l0.length : Int)) = true := decide_eq_true c2
    clear c2
    by_cases c3 : 0 ≤ x12_1
    ·rw [if_pos c3] at H
     have c3b0 : decide (0 ≤ x12_1) = true := decide_eq_true c3
     clear c3
     by_cases c4 : x12_1 < (l0.length : Int)
     ·rw [if_pos c4] at H
      have c4b0 : decide (x12_1 < (l0.length : Int)) = true := decide_eq_true c4
      clear c4
      have H' := Aside0.mk H
      clear H
      have p185 : 0 ≤ (x12_1 : Int) := od
      have q185 : x12_1 < (l0.length : Int) := od
      obtain ⟨ad185, A185_0, c185_0, e185, hx185_0, hl185_0, hi185_0⟩ := at_L5 HR0.out x12_1 p185 q185
      cases e185
      replace hx185_0 := (HB.out.cell (World.block_lt_of_cell? w _ hx185_0)).trans hx185_0
      have HR185_0 := Aside0.mk hi185_0
      have HC185_0 := Aside0.mk hl185_0
      clear hi185_0 hl185_0
      replace p185 := eq_true p185
      replace q185 := eq_true q185
      go_wp2
      go_loopg [4, 19] k1 (fun kq v4 v19 w' => ∃ (x4_2 : List (S47)) (x19_2 : Int), v19 = .int .i64 x19_2 ∧ Aside0 (spec_rpSheet.l1 kq x4_2 x12_1 l0 (l0.length : Int) x12_1 (rd_L5 l0 x12_1) ((rd_L5 l0 x12_1).length : Int) x19_2 = some (r1, r2)) ∧ Aside0 (kq ≤ k1) ∧ Aside0 (Kd.R k47 47 w' w.heap.size (fun _ => True) v4 x4_2) ∧ Aside0 (Below w.heap.size w w'))
      case atStart => exact ⟨(x4_1), (0), fin2, H', ⟨Nat.le_refl _⟩, ⟨rup HO_4.out⟩, ⟨bl⟩⟩
      case round =>
       clear H'
       try clear c1
       try clear p1
       try clear q1
       try clear hx1
       try clear c2
       try clear c2b0
       try clear p2
       try clear c3
       try clear c3b0
       try clear c4
       try clear c4b0
       try clear hx185_0
       try clear p185
       try clear q185
       obtain ⟨x4_2, x19_2, rfl, HA, HK2, HO_4, HB⟩ := hrel
       cases gk with
       | zero => exact absurd HA.out (by simp [spec_rpSheet.l1])
       | succ k2 =>
        have H := HA.out
        clear HA
        simp only [spec_rpSheet.l1] at H
        by_cases c5 : x19_2 < ((rd_L5 l0 x12_1).length : Int)
        ·rw [if_pos c5] at H
         have c5b0 : decide (x19_2 < ((rd_L5 l0 x12_1).length : Int)) = true := decide_eq_true c5
         clear c5
         by_cases c6 : 0 ≤ x19_2
         ·rw [if_pos c6] at H
          have c6b0 : decide (0 ≤ x19_2) = true := decide_eq_true c6
          clear c6
          by_cases c7 : x19_2 < ((rd_L5 l0 x12_1).length : Int)
          ·rw [if_pos c7] at H
           have c7b0 : decide (x19_2 < ((rd_L5 l0 x12_1).length : Int)) = true := decide_eq_true c7
           clear c7
           obtain ⟨bq8, hbq8⟩ : ∃ b_ : Bool, b_ = (rdOf false (rd_L5 l0 x12_1) x19_2) := ⟨_, rfl⟩
           replace H : (if bq8 = true then (if (x4_2.length : Int) > 0 then (if 0 ≤ (wrap64 ((x4_2.length : Int) - 1)) then (if (wrap64 ((x4_2.length : Int) - 1)) < (x4_2.length : Int) then (if ((rd_T47 x4_2 (wrap64 ((x4_2.length : Int) - 1))).f0) = x12_1 then (if ((rd_T47 x4_2 (wrap64 ((x4_2.length : Int) - 1))).f2) = x19_2 then (spec_rpSheet.l1 k2 (x4_2.set ((wrap64 ((x4_2.length : Int) - 1)) : Int).toNat (⟨(rd_T47 x4_2 (wrap64 ((x4_2.length : Int) - 1))).f0, (rd_T47 x4_2 (wrap64 ((x4_2.length : Int) - 1))).f1, wrap64 (((rd_T47 x4_2 (wrap64 ((x4_2.length : Int) - 1))).f2) + 1)⟩ : S47)) x12_1 l0 (l0.length : Int) x12_1 (rd_L5 l0 x12_1) ((rd_L5 l0 x12_1).length : Int) (wrap64 (x19_2 + 1))) else (if x4_2.length < 5864062014805 then (spec_rpSheet.l1 k2 (x4_2 ++ [(⟨x12_1, x19_2, wrap64 (x19_2 + 1)⟩ : S47)]) x12_1 l0 (l0.length : Int) x12_1 (rd_L5 l0 x12_1) ((rd_L5 l0 x12_1).length : Int) (wrap64 (x19_2 + 1))) else (none))) else (if x4_2.length < 5864062014805 then (spec_rpSheet.l1 k2 (x4_2 ++ [(⟨x12_1, x19_2, wrap64 (x19_2 + 1)⟩ : S47)]) x12_1 l0 (l0.length : Int) x12_1 (rd_L5 l0 x12_1) ((rd_L5 l0 x12_1).length : Int) (wrap64 (x19_2 + 1))) else (none))) else (none)) else (none)) else (if x4_2.length < 5864062014805 then (spec_rpSheet.l1 k2 (x4_2 ++ [(⟨x12_1, x19_2, wrap64 (x19_2 + 1)⟩ : S47)]) x12_1 l0 (l0.length : Int) x12_1 (rd_L5 l0 x12_1) ((rd_L5 l0 x12_1).length : Int) (wrap64 (x19_2 + 1))) else (none))) else (spec_rpSheet.l1 k2 x4_2 x12_1 l0 (l0.length : Int) x12_1 (rd_L5 l0 x12_1) ((rd_L5 l0 x12_1).length : Int) (wrap64 (x19_2 + 1)))) = some (r1, r2) := by rw [← hbq8] at H; exact H
           have Nbq8 := Aside0.mk hbq8
           clear hbq8
           by_cases c9 : bq8 = true
           ·subst c9
            have H1 : (if (x4_2.length : Int) > 0 then (if 0 ≤ (wrap64 ((x4_2.length : Int) - 1)) then (if (wrap64 ((x4_2.length : Int) - 1)) < (x4_2.length : Int) then (if ((rd_T47 x4_2 (wrap64 ((x4_2.length : Int) - 1))).f0) = x12_1 then (if ((rd_T47 x4_2 (wrap64 ((x4_2.length : Int) - 1))).f2) = x19_2 then (spec_rpSheet.l1 k2 (x4_2.set ((wrap64 ((x4_2.length : Int) - 1)) : Int).toNat (⟨(rd_T47 x4_2 (wrap64 ((x4_2.length : Int) - 1))).f0, (rd_T47 x4_2 (wrap64 ((x4_2.length : Int) - 1))).f1, wrap64 (((rd_T47 x4_2 (wrap64 ((x4_2.length : Int) - 1))).f2) + 1)⟩ : S47)) x12_1 l0 (l0.length : Int) x12_1 (rd_L5 l0 x12_1) ((rd_L5 l0 x12_1).length : Int) (wrap64 (x19_2 + 1))) else (if x4_2.length < 5864062014805 then (spec_rpSheet.l1 k2 (x4_2 ++ [(⟨x12_1, x19_2, wrap64 (x19_2 + 1)⟩ : S47)]) x12_1 l0 (l0.length : Int) x12_1 (rd_L5 l0 x12_1) ((rd_L5 l0 x12_1).length : Int) (wrap64 (x19_2 + 1))) else (none))) else (if x4_2.length < 5864062014805 then (spec_rpSheet.l1 k2 (x4_2 ++ [(⟨x12_1, x19_2, wrap64 (x19_2 + 1)⟩ : S47)]) x12_1 l0 (l0.length : Int) x12_1 (rd_L5 l0 x12_1) ((rd_L5 l0 x12_1).length : Int) (wrap64 (x19_2 + 1))) else (none))) else (none)) else (none)) else (if x4_2.length < 5864062014805 then (spec_rpSheet.l1 k2 (x4_2 ++ [(⟨x12_1, x19_2, wrap64 (x19_2 + 1)⟩ : S47)]) x12_1 l0 (l0.length : Int) x12_1 (rd_L5 l0 x12_1) ((rd_L5 l0 x12_1).length : Int) (wrap64 (x19_2 + 1))) else (none))) = some (r1, r2) := by rw [if_pos rfl] at H; exact H
            clear H
            have H := H1
            clear H1
            by_cases c10 : (x4_2.length : Int) > 0
            ·rw [if_pos c10] at H
             have c10b0 : decide (0 < (x4_2.length : Int)) = true := decide_eq_true c10
             have c10b1 : decide (0 < x4_2.length) = true := decide_eq_true (by omega)
             clear c10
             obtain ⟨ji11, hji11⟩ : ∃ j_ : Int, (wrap64 ((x4_2.length : Int) - 1)) = j_ := ⟨_, rfl⟩
             replace H : (if 0 ≤ (ji11) then (if (ji11) < (x4_2.length : Int) then (if ((rd_T47 x4_2 (ji11)).f0) = x12_1 then (if ((rd_T47 x4_2 (ji11)).f2) = x19_2 then (spec_rpSheet.l1 k2 (x4_2.set ((ji11) : Int).toNat (⟨(rd_T47 x4_2 (ji11)).f0, (rd_T47 x4_2 (ji11)).f1, wrap64 (((rd_T47 x4_2 (ji11)).f2) + 1)⟩ : S47)) x12_1 l0 (l0.length : Int) x12_1 (rd_L5 l0 x12_1) ((rd_L5 l0 x12_1).length : Int) (wrap64 (x19_2 + 1))) else (if x4_2.length < 5864062014805 then (spec_rpSheet.l1 k2 (x4_2 ++ [(⟨x12_1, x19_2, wrap64 (x19_2 + 1)⟩ : S47)]) x12_1 l0 (l0.length : Int) x12_1 (rd_L5 l0 x12_1) ((rd_L5 l0 x12_1).length : Int) (wrap64 (x19_2 + 1))) else (none))) else (if x4_2.length < 5864062014805 then (spec_rpSheet.l1 k2 (x4_2 ++ [(⟨x12_1, x19_2, wrap64 (x19_2 + 1)⟩ : S47)]) x12_1 l0 (l0.length : Int) x12_1 (rd_L5 l0 x12_1) ((rd_L5 l0 x12_1).length : Int) (wrap64 (x19_2 + 1))) else (none))) else (none)) else (none)) = some (r1, r2) := by first | (rw [hji11] at H; exact H) | (simp only [hji11] at H ⊢; exact H)
             have hji11w : (IntKind.i64.wrap ((x4_2.length : Int) - 1)) = ji11 := (i64_w _).trans hji11
             by_cases c12 : 0 ≤ (ji11)
             ·rw [if_pos c12] at H
              have c12b0 : decide (0 ≤ (ji11)) = true := decide_eq_true c12
              clear c12
              by_cases c13 : (ji11) < (x4_2.length : Int)
              ·rw [if_pos c13] at H
               have c13b0 : decide ((ji11) < (x4_2.length : Int)) = true := decide_eq_true c13
               clear c13
               by_cases c14 : ((rd_T47 x4_2 (ji11)).f0) = x12_1
               ·rw [if_pos c14] at H
                have c14b0 : (((rd_T47 x4_2 (ji11)).f0) == x12_1) = true := beq_iff_eq.mpr c14
                have c14b1 : (((rd_T47 x4_2 (ji11)).f0) != x12_1) = false := bne_eq_false_iff_eq.mpr c14
                clear c14
                by_cases c15 : ((rd_T47 x4_2 (ji11)).f2) = x19_2
                ·rw [if_pos c15] at H
                 have c15b0 : (((rd_T47 x4_2 (ji11)).f2) == x19_2) = true := beq_iff_eq.mpr c15
                 have c15b1 : (((rd_T47 x4_2 (ji11)).f2) != x19_2) = false := bne_eq_false_iff_eq.mpr c15
                 clear c15
                 obtain ⟨y190, hy190⟩ : ∃ y_ : List (S47), y_ = (x4_2.set ((ji11) : Int).toNat (⟨(rd_T47 x4_2 (ji11)).f0, (rd_T47 x4_2 (ji11)).f1, wrap64 (((rd_T47 x4_2 (ji11)).f2) + 1)⟩ : S47)) := ⟨_, rfl⟩
                 replace H : (spec_rpSheet.l1 k2 y190 x12_1 l0 (l0.length : Int) x12_1 (rd_L5 l0 x12_1) ((rd_L5 l0 x12_1).length : Int) (wrap64 (x19_2 + 1))) = some (r1, r2) := by first | (rw [hy190]; with_reducible exact H) | (have H2_ := (Option.bind_some _ _).symm.trans H; rw [hy190]; with_reducible exact H2_) | (have H2_ := (Option.bind_some _ _).symm.trans H; with_reducible exact H2_) | with_reducible exact H | (rw [hy190]; exact H) | exact H
                 have Ny190 := Aside0.mk hy190
                 clear hy190
                 have H' := Aside0.mk H
                 clear H
                 have p186 : 0 ≤ (x19_2 : Int) := od
                 have q186 : x19_2 < ((rd_L5 l0 x12_1).length : Int) := od
                 obtain ⟨ad186, e186, hx186_0⟩ := Kd.at_bool HR185_0.out x19_2 p186 q186
                 (try rw [← Nbq8.out] at hx186_0)
                 cases e186
                 replace hx186_0 := (HB.out.cell (World.block_lt_of_cell? w _ hx186_0)).trans hx186_0
                 replace p186 := eq_true p186
                 replace q186 := eq_true q186
                 obtain ⟨Ao17, co17, eo17⟩ := Kd.R_slice HO_4.out
                 subst eo17
                 have p187 : 0 ≤ ((ji11) : Int) := od
                 have q187 : (ji11) < (x4_2.length : Int) := od
                 obtain ⟨ad187, e187, hx187_0, hx187_1, hx187_2⟩ := at_T47 (Kd.R_reads' HO_4.out).2.2 (ji11) p187 q187
                 cases e187
                 replace p187 := eq_true p187
                 replace q187 := eq_true q187
                 have p188 : 0 ≤ ((ji11) : Int) := od
                 have q188 : (ji11) < (x4_2.length : Int) := od
                 obtain ⟨ad188, e188, hx188_0, hx188_1, hx188_2⟩ := at_T47 (Kd.R_reads' HO_4.out).2.2 (ji11) p188 q188
                 obtain rfl : ad187 = ad188 := (by injection e188)
                 replace p188 := eq_true p188
                 replace q188 := eq_true q188
                 have p189 : 0 ≤ ((ji11) : Int) := od
                 have q189 : (ji11) < (x4_2.length : Int) := od
                 obtain ⟨ad189, e189, hx189_0, hx189_1, hx189_2⟩ := at_T47 (Kd.R_reads' HO_4.out).2.2 (ji11) p189 q189
                 obtain rfl : ad187 = ad189 := (by injection e189)
                 replace p189 := eq_true p189
                 replace q189 := eq_true q189
                 have p16 : 0 ≤ ((ji11) : Int) := od
                 have q16 : ((ji11) : Int) < ((x4_2.length : Int) : Int) := od
                 obtain ⟨go16, co16, eo16, gb16, gl16, cl16, HG16⟩ := Kd.R_form HO_4.out (by omega)
                 (first | cases eo16 | (injection eo16 with ea_ en_ ec_; (first | subst ea_ | (injection ea_ with ea_; subst ea_)); subst ec_; clear en_))
                 have GB16 := Aside0.mk gb16
                 have GG16 := Aside0.mk HG16
                 clear gb16 gl16 HG16
                 (first | simp only [add_plain] at hx187_0 | skip)
                 (first | simp only [add_plain] at hx187_1 | skip)
                 (first | simp only [add_plain] at hx187_2 | skip)
                 (first | simp only [add_plain] at hx188_0 | skip)
                 (first | simp only [add_plain] at hx188_1 | skip)
                 (first | simp only [add_plain] at hx188_2 | skip)
                 (first | simp only [add_plain] at hx189_0 | skip)
                 (first | simp only [add_plain] at hx189_1 | skip)
                 (first | simp only [add_plain] at hx189_2 | skip)
                 obtain ⟨ce16, hcl16, hM16, hcc16, hfr16⟩ := Kd.R_elem HO_4.out z47 ((ji11) : Int) p16 q16
                 obtain rfl := k47_openM hM16
                 have hx16_0 : wr.cell? ⟨go16, ((ji11) : Int).toNat * 3, none⟩ = some (.int .i64 ((rd_T47 x4_2 (ji11)).f0)) := hcc16 0 _ rfl
                 have hx16_1 : wr.cell? ⟨go16, ((ji11) : Int).toNat * 3 + 1, none⟩ = some (.int .i64 ((rd_T47 x4_2 (ji11)).f1)) := hcc16 1 _ rfl
                 have hx16_2 : wr.cell? ⟨go16, ((ji11) : Int).toNat * 3 + 2, none⟩ = some (.int .i64 ((rd_T47 x4_2 (ji11)).f2)) := hcc16 2 _ rfl
                 have hf16_0 : wr.frozen? ⟨go16, ((ji11) : Int).toNat * 3, none⟩ = false := hfr16 0
                 have hf16_1 : wr.frozen? ⟨go16, ((ji11) : Int).toNat * 3 + 1, none⟩ = false := hfr16 1
                 have hf16_2 : wr.frozen? ⟨go16, ((ji11) : Int).toNat * 3 + 2, none⟩ = false := hfr16 2
                 clear hcl16 hcc16 hfr16 hM16
                 replace p16 := eq_true p16
                 replace q16 := eq_true q16
                 have HX18 := Aside0.mk (show Kd.R k47 47 wr w.heap.size (fun _ => True) (.slice (some ⟨go16, 0, none⟩) x4_2.length co17) x4_2 from (rup HO_4.out))
                 obtain ⟨ce18, hcl18, hM18, hcc18, hfr18⟩ := Kd.R_elem HX18.out z47 ((ji11) : Int) (od) (by have h_ : ((ji11) : Int) < ((x4_2.length : Int) : Int) := od; first | exact h_ | (have e_ := (Kd.R_reads' HO_4.out).1; omega) | simpa using h_)
                 obtain rfl := k47_openM hM18
                 have HP18 := Kd.R_seg HX18.out ((ji11) : Int) (od) (by have h_ : ((ji11) : Int) < ((x4_2.length : Int) : Int) := od; first | exact h_ | (have e_ := (Kd.R_reads' HO_4.out).1; omega) | simpa using h_) (seg := [.int .i64 (wrap64 (((rd_T47 x4_2 (ji11)).f2) + 1))]) (j := 2) hcl18 hcc18 (show 3 ≤ 3 from by decide) (x' := (⟨(rd_T47 x4_2 (ji11)).f0, (rd_T47 x4_2 (ji11)).f1, wrap64 (((rd_T47 x4_2 (ji11)).f2) + 1)⟩ : S47)) (k47_mkM _ _ _ (⟨(rd_T47 x4_2 (ji11)).f0, (rd_T47 x4_2 (ji11)).f1, wrap64 (((rd_T47 x4_2 (ji11)).f2) + 1)⟩ : S47) ) (fun _ hk => hk)
                 have hx18_2 := hcc18 2 _ rfl
                 (try simp only [show (k47).sz = 3 from rfl, Nat.mul_one, Nat.add_zero] at hx18_2)
                 have hf18_2 := hfr18 2
                 (try simp only [show (k47).sz = 3 from rfl, Nat.mul_one, Nat.add_zero] at hf18_2)
                 clear hcl18 hcc18 hfr18 hM18
                 go_wp2_with (first | ((with_reducible refine gate_store (t := 3) (p := 58) rfl ?_); refine store_event (t := 3) (p := 58) (v := ?vo_w19) (w1 := (wr.setCell ⟨go16, ((ji11) : Int).toNat * 3 + 2, none⟩ (.int .i64 (wrap64 (((rd_T47 x4_2 (ji11)).f2) + 1))))) ?hg ?ho ?hn ?hr ?_; (case ho => rfl); (case hg => rfl); (case hn => rfl); (case hr => first | (go_simp; done) | (go_simp; rfl)); intro w19 hw; have hg : wr.grownBy w19 (some go16) := (by rw [hw]; exact HP18.2); have hp_ : Kd.R k47 47 w19 w.heap.size (fun _ => True) (.slice (some ⟨go16, 0, none⟩) x4_2.length co17) y190 := (by rw [hw, Ny190.out]; exact HP18.1); clear HP18; have n0_ := Aside0.mk (hp_); have n1_ := Aside0.mk ((by rw [hw]; exact below_set (HB.out) GB16.out : Below w.heap.size w w19)); clear HO_4; clear HB; have HO_4 := n0_; have HB := n1_; clear n0_ n1_; clear hg hw hp_))
                 go_roundg k2
                 case measure => have := HK1.out; have := HK2.out; omega
                 case rel => exact ⟨(y190), (wrap64 (x19_2 + 1)), fin2, H', ⟨by have := HK1.out; have := HK2.out; omega⟩, ⟨rup HO_4.out⟩, ⟨bl⟩⟩
                ·rw [if_neg c15] at H
                 have c15b0 : (((rd_T47 x4_2 (ji11)).f2) == x19_2) = false := beq_eq_false_iff_ne.mpr c15
                 have c15b1 : (((rd_T47 x4_2 (ji11)).f2) != x19_2) = true := bne_iff_ne.mpr c15
                 by_cases c20 : x4_2.length < 5864062014805
                 ·rw [if_pos c20] at H
                  have LMc20 := Aside0.mk c20
                  clear c20
                  obtain ⟨y191, hy191⟩ : ∃ y_ : List (S47), y_ = (x4_2 ++ [(⟨x12_1, x19_2, wrap64 (x19_2 + 1)⟩ : S47)]) := ⟨_, rfl⟩
                  replace H : (spec_rpSheet.l1 k2 y191 x12_1 l0 (l0.length : Int) x12_1 (rd_L5 l0 x12_1) ((rd_L5 l0 x12_1).length : Int) (wrap64 (x19_2 + 1))) = some (r1, r2) := by first | (rw [hy191]; with_reducible exact H) | (have H2_ := (Option.bind_some _ _).symm.trans H; rw [hy191]; with_reducible exact H2_) | (have H2_ := (Option.bind_some _ _).symm.trans H; with_reducible exact H2_) | with_reducible exact H | (rw [hy191]; exact H) | exact H
                  have Ny191 := Aside0.mk hy191
                  clear hy191
                  have H' := Aside0.mk H
                  clear H
                  have p186 : 0 ≤ (x19_2 : Int) := od
                  have q186 : x19_2 < ((rd_L5 l0 x12_1).length : Int) := od
                  obtain ⟨ad186, e186, hx186_0⟩ := Kd.at_bool HR185_0.out x19_2 p186 q186
                  (try rw [← Nbq8.out] at hx186_0)
                  cases e186
                  replace hx186_0 := (HB.out.cell (World.block_lt_of_cell? w _ hx186_0)).trans hx186_0
                  replace p186 := eq_true p186
                  replace q186 := eq_true q186
                  obtain ⟨Ao21, co21, eo21⟩ := Kd.R_slice HO_4.out
                  subst eo21
                  have p187 : 0 ≤ ((ji11) : Int) := od
                  have q187 : (ji11) < (x4_2.length : Int) := od
                  obtain ⟨ad187, e187, hx187_0, hx187_1, hx187_2⟩ := at_T47 (Kd.R_reads' HO_4.out).2.2 (ji11) p187 q187
                  cases e187
                  replace p187 := eq_true p187
                  replace q187 := eq_true q187
                  have p188 : 0 ≤ ((ji11) : Int) := od
                  have q188 : (ji11) < (x4_2.length : Int) := od
                  obtain ⟨ad188, e188, hx188_0, hx188_1, hx188_2⟩ := at_T47 (Kd.R_reads' HO_4.out).2.2 (ji11) p188 q188
                  obtain rfl : ad187 = ad188 := (by injection e188)
                  replace p188 := eq_true p188
                  replace q188 := eq_true q188
                  go_wp2_with (first | ((with_reducible refine gate_builtin (b := .append) (xs := #[.tmp 59, .tmp 65]) rfl ?_); at_builtin; refine Kd.R_append k47 (w0 := w) w.heap.size rfl (.tmp 59) (.tmp 65) 28 47 (.agg #[(.int .i64 0), (.int .i64 0), (.int .i64 0)]) 24 rfl Try.underlying28 info47 rfl (by decide) (by omega) (.slice (some ad187) x4_2.length co21) x4_2 (⟨x12_1, x19_2, wrap64 (x19_2 + 1)⟩ : S47) [.int .i64 x12_1, .int .i64 x19_2, .int .i64 (wrap64 (x19_2 + 1))] (fun _ => True) (fun _ => False) rfl rfl ?aP (fun _ hk => hk.elim) ?aF ?aO ?aB ?aS ?aL ?_; (case aP => exact k47_mkM _ _ _ (⟨x12_1, x19_2, wrap64 (x19_2 + 1)⟩ : S47)); (case aB => exact bl); (case aF => exact (fun _ _ => trivial)); (case aO => exact (rup HO_4.out)); (case aS => exact (below_size bl)); (case aL => have := LMc20.out; omega); intro v192 w22 ho hb hg hat; rw [← Ny191.out] at ho; have n0_ := Aside0.mk (hb); have n1_ := Aside0.mk (ho); clear HB; clear HO_4; have HB := n0_; have HO193 := n1_; clear n0_ n1_; clear ho hb hg hat))
                  go_roundg k2
                  case measure => have := HK1.out; have := HK2.out; omega
                  case rel => exact ⟨(y191), (wrap64 (x19_2 + 1)), fin2, H', ⟨by have := HK1.out; have := HK2.out; omega⟩, ⟨rup HO193.out⟩, ⟨bl⟩⟩
                 ·rw [if_neg c20] at H
                  exact absurd H (by simp)
               ·rw [if_neg c14] at H
                have c14b0 : (((rd_T47 x4_2 (ji11)).f0) == x12_1) = false := beq_eq_false_iff_ne.mpr c14
                have c14b1 : (((rd_T47 x4_2 (ji11)).f0) != x12_1) = true := bne_iff_ne.mpr c14
                by_cases c23 : x4_2.length < 5864062014805
                ·rw [if_pos c23] at H
                 have LMc23 := Aside0.mk c23
                 clear c23
                 obtain ⟨y194, hy194⟩ : ∃ y_ : List (S47), y_ = (x4_2 ++ [(⟨x12_1, x19_2, wrap64 (x19_2 + 1)⟩ : S47)]) := ⟨_, rfl⟩
                 replace H : (spec_rpSheet.l1 k2 y194 x12_1 l0 (l0.length : Int) x12_1 (rd_L5 l0 x12_1) ((rd_L5 l0 x12_1).length : Int) (wrap64 (x19_2 + 1))) = some (r1, r2) := by first | (rw [hy194]; with_reducible exact H) | (have H2_ := (Option.bind_some _ _).symm.trans H; rw [hy194]; with_reducible exact H2_) | (have H2_ := (Option.bind_some _ _).symm.trans H; with_reducible exact H2_) | with_reducible exact H | (rw [hy194]; exact H) | exact H
                 have Ny194 := Aside0.mk hy194
                 clear hy194
                 have H' := Aside0.mk H
                 clear H
                 have p186 : 0 ≤ (x19_2 : Int) := od
                 have q186 : x19_2 < ((rd_L5 l0 x12_1).length : Int) := od
                 obtain ⟨ad186, e186, hx186_0⟩ := Kd.at_bool HR185_0.out x19_2 p186 q186
                 (try rw [← Nbq8.out] at hx186_0)
                 cases e186
                 replace hx186_0 := (HB.out.cell (World.block_lt_of_cell? w _ hx186_0)).trans hx186_0
                 replace p186 := eq_true p186
                 replace q186 := eq_true q186
                 obtain ⟨Ao24, co24, eo24⟩ := Kd.R_slice HO_4.out
                 subst eo24
                 have p187 : 0 ≤ ((ji11) : Int) := od
                 have q187 : (ji11) < (x4_2.length : Int) := od
                 obtain ⟨ad187, e187, hx187_0, hx187_1, hx187_2⟩ := at_T47 (Kd.R_reads' HO_4.out).2.2 (ji11) p187 q187
                 cases e187
                 replace p187 := eq_true p187
                 replace q187 := eq_true q187
                 go_wp2_with (first | ((with_reducible refine gate_builtin (b := .append) (xs := #[.tmp 59, .tmp 65]) rfl ?_); at_builtin; refine Kd.R_append k47 (w0 := w) w.heap.size rfl (.tmp 59) (.tmp 65) 28 47 (.agg #[(.int .i64 0), (.int .i64 0), (.int .i64 0)]) 24 rfl Try.underlying28 info47 rfl (by decide) (by omega) (.slice (some ad187) x4_2.length co24) x4_2 (⟨x12_1, x19_2, wrap64 (x19_2 + 1)⟩ : S47) [.int .i64 x12_1, .int .i64 x19_2, .int .i64 (wrap64 (x19_2 + 1))] (fun _ => True) (fun _ => False) rfl rfl ?aP (fun _ hk => hk.elim) ?aF ?aO ?aB ?aS ?aL ?_; (case aP => exact k47_mkM _ _ _ (⟨x12_1, x19_2, wrap64 (x19_2 + 1)⟩ : S47)); (case aB => exact bl); (case aF => exact (fun _ _ => trivial)); (case aO => exact (rup HO_4.out)); (case aS => exact (below_size bl)); (case aL => have := LMc23.out; omega); intro v195 w25 ho hb hg hat; rw [← Ny194.out] at ho; have n0_ := Aside0.mk (hb); have n1_ := Aside0.mk (ho); clear HB; clear HO_4; have HB := n0_; have HO196 := n1_; clear n0_ n1_; clear ho hb hg hat))
                 go_roundg k2
                 case measure => have := HK1.out; have := HK2.out; omega
                 case rel => exact ⟨(y194), (wrap64 (x19_2 + 1)), fin2, H', ⟨by have := HK1.out; have := HK2.out; omega⟩, ⟨rup HO196.out⟩, ⟨bl⟩⟩
                ·rw [if_neg c23] at H
                 exact absurd H (by simp)
              ·rw [if_neg c13] at H
               exact absurd H (by simp)
             ·rw [if_neg c12] at H
              exact absurd H (by simp)
            ·rw [if_neg c10] at H
             have c10b0 : decide (0 < (x4_2.length : Int)) = false := decide_eq_false c10
             have c10b1 : decide (0 < x4_2.length) = false := decide_eq_false (by omega)
             clear c10
             by_cases c26 : x4_2.length < 5864062014805
             ·rw [if_pos c26] at H
              have LMc26 := Aside0.mk c26
              clear c26
              obtain ⟨y197, hy197⟩ : ∃ y_ : List (S47), y_ = (x4_2 ++ [(⟨x12_1, x19_2, wrap64 (x19_2 + 1)⟩ : S47)]) := ⟨_, rfl⟩
              replace H : (spec_rpSheet.l1 k2 y197 x12_1 l0 (l0.length : Int) x12_1 (rd_L5 l0 x12_1) ((rd_L5 l0 x12_1).length : Int) (wrap64 (x19_2 + 1))) = some (r1, r2) := by first | (rw [hy197]; with_reducible exact H) | (have H2_ := (Option.bind_some _ _).symm.trans H; rw [hy197]; with_reducible exact H2_) | (have H2_ := (Option.bind_some _ _).symm.trans H; with_reducible exact H2_) | with_reducible exact H | (rw [hy197]; exact H) | exact H
              have Ny197 := Aside0.mk hy197
              clear hy197
              have H' := Aside0.mk H
              clear H
              have p186 : 0 ≤ (x19_2 : Int) := od
              have q186 : x19_2 < ((rd_L5 l0 x12_1).length : Int) := od
              obtain ⟨ad186, e186, hx186_0⟩ := Kd.at_bool HR185_0.out x19_2 p186 q186
              (try rw [← Nbq8.out] at hx186_0)
              cases e186
              replace hx186_0 := (HB.out.cell (World.block_lt_of_cell? w _ hx186_0)).trans hx186_0
              replace p186 := eq_true p186
              replace q186 := eq_true q186
              obtain ⟨Ao27, co27, eo27⟩ := Kd.R_slice HO_4.out
              subst eo27
              go_wp2_with (first | ((with_reducible refine gate_builtin (b := .append) (xs := #[.tmp 59, .tmp 65]) rfl ?_); at_builtin; refine Kd.R_append k47 (w0 := w) w.heap.size rfl (.tmp 59) (.tmp 65) 28 47 (.agg #[(.int .i64 0), (.int .i64 0), (.int .i64 0)]) 24 rfl Try.underlying28 info47 rfl (by decide) (by omega) (.slice Ao27 x4_2.length co27) x4_2 (⟨x12_1, x19_2, wrap64 (x19_2 + 1)⟩ : S47) [.int .i64 x12_1, .int .i64 x19_2, .int .i64 (wrap64 (x19_2 + 1))] (fun _ => True) (fun _ => False) rfl rfl ?aP (fun _ hk => hk.elim) ?aF ?aO ?aB ?aS ?aL ?_; (case aP => exact k47_mkM _ _ _ (⟨x12_1, x19_2, wrap64 (x19_2 + 1)⟩ : S47)); (case aB => exact bl); (case aF => exact (fun _ _ => trivial)); (case aO => exact (rup HO_4.out)); (case aS => exact (below_size bl)); (case aL => have := LMc26.out; omega); intro v198 w28 ho hb hg hat; rw [← Ny197.out] at ho; have n0_ := Aside0.mk (hb); have n1_ := Aside0.mk (ho); clear HB; clear HO_4; have HB := n0_; have HO199 := n1_; clear n0_ n1_; clear ho hb hg hat))
              go_roundg k2
              case measure => have := HK1.out; have := HK2.out; omega
              case rel => exact ⟨(y197), (wrap64 (x19_2 + 1)), fin2, H', ⟨by have := HK1.out; have := HK2.out; omega⟩, ⟨rup HO199.out⟩, ⟨bl⟩⟩
             ·rw [if_neg c26] at H
              exact absurd H (by simp)
           ·replace c9 := Bool.eq_false_iff.mpr c9
            subst c9
            have H1 : (spec_rpSheet.l1 k2 x4_2 x12_1 l0 (l0.length : Int) x12_1 (rd_L5 l0 x12_1) ((rd_L5 l0 x12_1).length : Int) (wrap64 (x19_2 + 1))) = some (r1, r2) := by rw [if_neg (show ¬ (false = true) by decide)] at H; exact H
            clear H
            have H := H1
            clear H1
            have H' := Aside0.mk H
            clear H
            have p186 : 0 ≤ (x19_2 : Int) := od
            have q186 : x19_2 < ((rd_L5 l0 x12_1).length : Int) := od
            obtain ⟨ad186, e186, hx186_0⟩ := Kd.at_bool HR185_0.out x19_2 p186 q186
            (try rw [← Nbq8.out] at hx186_0)
            cases e186
            replace hx186_0 := (HB.out.cell (World.block_lt_of_cell? w _ hx186_0)).trans hx186_0
            replace p186 := eq_true p186
            replace q186 := eq_true q186
            go_wp2
            go_roundg k2
            case measure => have := HK1.out; have := HK2.out; omega
            case rel => exact ⟨(x4_2), (wrap64 (x19_2 + 1)), fin2, H', ⟨by have := HK1.out; have := HK2.out; omega⟩, ⟨rup HO_4.out⟩, ⟨bl⟩⟩
          ·rw [if_neg c7] at H
           exact absurd H (by simp)
         ·rw [if_neg c6] at H
          exact absurd H (by simp)
        ·rw [if_neg c5] at H
         have c5b0 : decide (x19_2 < ((rd_L5 l0 x12_1).length : Int)) = false := decide_eq_false c5
         clear c5
         have H' := Aside0.mk H
         clear H
         go_wp2
         go_roundg k2
         case measure => have := HK1.out; have := HK2.out; omega
         case rel => exact ⟨(x4_2), (wrap64 (x12_1 + 1)), fin2, H', ⟨by have := HK1.out; have := HK2.out; omega⟩, ⟨rup HO_4.out⟩, ⟨bl⟩⟩
     ·rw [if_neg c4] at H
      exact absurd H (by simp)
    ·rw [if_neg c3] at H
     exact absurd H (by simp)
   ·rw [if_neg c2] at H
    have c2b0 : decide (x12_1 < (l0.length : Int)) = false := decide_eq_false c2
    clear c2
    by_cases c29 : (x4_1.length : Int) > 60
    ·rw [if_pos c29] at H
     have c29b0 : decide (60 < (x4_1.length : Int)) = true := decide_eq_true c29
     have c29b1 : decide (60 < x4_1.length) = true := decide_eq_true (by omega)
     clear c29
     simp only [Option.some.injEq, Prod.mk.injEq] at H
     obtain ⟨rfl, rfl⟩ := H
     obtain ⟨Ao30, co30, eo30⟩ := Kd.R_slice HO_4.out
     subst eo30
     go_wp2
     go_ret2
     exact ⟨_, fin1, by first | exact Kd.R_nil _ _ _ _ _ | exact Kd.N_nil _ _ _ _ _ | exact Kd.V_nil _ _ _ _ _ | exact Kd.Q_nil _ _ _ _ _ | exact Kd.S_nil _ _ _ _ _, bl⟩
    ·rw [if_neg c29] at H
     have c29b0 : decide (60 < (x4_1.length : Int)) = false := decide_eq_false c29
     have c29b1 : decide (60 < x4_1.length) = false := decide_eq_false (by omega)
     clear c29
     replace H := Option.bind_eq_some_iff.mp H
     obtain ⟨⟨t181, t182⟩, A310, H⟩ := H
     replace H : (some (t181, t182)) = some (r1, r2) := H
     have A31 := Aside0.mk A310
     clear A310
     simp only [Option.some.injEq, Prod.mk.injEq] at H
     obtain ⟨rfl, rfl⟩ := H
     obtain ⟨Ao32, co32, eo32⟩ := Kd.R_slice HO_4.out
     subst eo32
     go_wp2_with (first | ((with_reducible refine gate_callee (f := 44) rfl ?_); refine goesL_ (some 73) rfl rfl Try.func44 (by kernel_rfl) rfl #[.slice Ao32 x4_1.length co32] rfl (by (try simp only [List.map_toArray, List.map_cons, List.map_nil]); first | done | rfl | (simp only [List.length_drop, List.length_take]; rfl)) ?_; (with_reducible refine (spec_shSorted.calls k1 _ _ x4_1 t181 t182 _ ?side1 ?side2 A31.out).mono ?_); (case side1 => repeat (first | exact (Kd.R_reads' HO_4.out).2.2 | (with_reducible refine Kd.C_alloc ?_ _) | (with_reducible refine Kd.C_drewN ?_ _) | (with_reducible refine Kd.C_drew ?_))); (case side2 => exact (Kd.R_reads' HO_4.out).2.1); rintro e w33 ⟨v183, rfl, ho0, hb⟩; refine ⟨_, rfl, ?_⟩; have n0_ := Aside0.mk (Kd.R_elder' (rup HO_4.out) (Kd.R_base ho0) hb); have n1_ := Aside0.mk (Kd.R_lower (Kd.R_new' ho0 (Kd.R_lt (rup HO_4.out))) (below_size bl)); have n2_ := Aside0.mk (below_step bl hb); clear HO_4; clear HB; have HO_4 := n0_; have HO184 := n1_; have HB := n2_; clear n0_ n1_ n2_; (try clear hb); (try clear hb2); (try clear hk); (try clear hi); (try clear ho0)))
     go_ret2
     exact ⟨_, fin1, by (with_reducible repeat (first | apply Kd.R_alloc | apply Kd.R_drewN | apply Kd.R_drew)); exact Kd.R_mono HO184.out (fun _ hk => trivial), bl⟩

namespace grid
theorem atRow {w : World} {A : Option Addr} {n : Nat} {xs : List (List Int)} (h : Kd.C (Kd.slice 3 (Kd.int .i64)) w A n xs) (i : Int) (h0 : 0 ≤ i) (h1 : i < n) : ∃ ad A0 c0, A = some ad ∧ w.cell? (ad.add i.toNat) = some (.slice A0 (xs.getD i.toNat []).length c0) ∧ (xs.getD i.toNat []).length ≤ c0 ∧ (Kd.int .i64).C w A0 (xs.getD i.toNat []).length (xs.getD i.toNat []) := by
 obtain ⟨ad, c, e, _, hK, hc0⟩ := Kd.C_get h ([] : List Int) i h0 h1
 have hc : ∀ j u, c[j]? = some u → w.cell? (ad.add (i.toNat * 1 + j)) = some u := hc0
 obtain ⟨A0, c0, rfl, l0, g0⟩ := hK
 exact ⟨ad, A0, c0, e, by have hq := hc 0 _ rfl; rwa [Nat.mul_one, Nat.add_zero] at hq, l0, g0⟩
end grid
namespace grid
/-- A row whose steps from a to m hold op. -/
def apRow (op : Bool) (a m : Int) (row : List Bool) : List Bool := row.mapIdx fun s b => if a ≤ (s : Int) ∧ (s : Int) < m then op else b
theorem apRow_length (op : Bool) (a m : Int) (row : List Bool) : (apRow op a m row).length = row.length := by simp [apRow]
theorem apRow_none (op : Bool) (a m : Int) (row : List Bool) (h : m ≤ a) : apRow op a m row = row := by
 refine List.ext_getElem (apRow_length _ _ _ _) (fun i h1 h2 => ?_)
 simp only [apRow, List.getElem_mapIdx]
 rw [if_neg (fun h => by omega)]
theorem apRow_set (op : Bool) (a m : Int) (row : List Bool) (h0 : 0 ≤ a) (h : a ≤ m) : (apRow op a m row).set m.toNat op = apRow op a (m + 1) row := by
 refine List.ext_getElem (by simp [apRow_length]) (fun i h1 h2 => ?_)
 rw [List.getElem_set]
 simp only [apRow, List.getElem_mapIdx]
 by_cases e : m.toNat = i
 ·rw [if_pos e, if_pos ⟨by omega, by omega⟩]
 ·rw [if_neg e]
  by_cases q : a ≤ (i : Int) ∧ (i : Int) < m
  ·rw [if_pos q, if_pos ⟨q.1, by omega⟩]
  ·rw [if_neg q, if_neg (fun q' => q ⟨q'.1, by omega⟩)]
def apOk (h : List (List Bool)) (x : List Int) : Prop := x.length = 3 ∧ 0 ≤ rd x 0 ∧ rd x 0 < h.length ∧ 0 ≤ rd x 1 ∧ rd x 1 ≤ 1000000 ∧ rd x 2 ≤ (h.getD (rd x 0).toNat []).length ∧ rd x 2 ≤ 1000000
instance (h : List (List Bool)) (x : List Int) : Decidable (apOk h x) := by unfold apOk; infer_instance
def apTo (op : Bool) (h : List (List Bool)) (x : List Int) (m : Int) : List (List Bool) := h.set (rd x 0).toNat (apRow op (rd x 1) m (h.getD (rd x 0).toNat []))
def apAll (op : Bool) : List (List Int) → List (List Bool) → Option (List (List Bool))
 | [], h => some h
 | x :: xs, h => if apOk h x then apAll op xs (apTo op h x (rd x 2)) else none
theorem apTo_length (op : Bool) (h : List (List Bool)) (x : List Int) (m : Int) : (apTo op h x m).length = h.length := by simp [apTo]
theorem apTo_none (op : Bool) (h : List (List Bool)) (x : List Int) (m : Int) (hm : m ≤ rd x 1) (h0 : 0 ≤ rd x 0) (h1 : rd x 0 < h.length) : apTo op h x m = h := by
 unfold apTo
 rw [apRow_none _ _ _ _ hm, List.getD_eq_getElem?_getD, List.getElem?_eq_getElem (by omega)]
 simp
theorem apTo_row (op : Bool) (h : List (List Bool)) (x : List Int) (m : Int) (h0 : 0 ≤ rd x 0) (h1 : rd x 0 < h.length) : (apTo op h x m).getD (rd x 0).toNat [] = apRow op (rd x 1) m (h.getD (rd x 0).toNat []) := by
 unfold apTo
 rw [List.getD_eq_getElem?_getD, List.getElem?_set]
 rw [if_pos rfl, if_pos (by omega)]
 rfl
theorem apTo_step (op : Bool) (h : List (List Bool)) (x : List Int) (m : Int) (h0 : 0 ≤ rd x 0) (h1 : rd x 0 < h.length) (ha : 0 ≤ rd x 1) (hm : rd x 1 ≤ m) :
  (apTo op h x m).set (rd x 0).toNat (((apTo op h x m).getD (rd x 0).toNat []).set m.toNat op) = apTo op h x (m + 1) := by
 rw [apTo_row _ _ _ _ h0 h1, apRow_set _ _ _ _ ha hm]
 unfold apTo
 rw [List.set_set]
set_option maxHeartbeats 8000000 in
set_option maxRecDepth 100000 in
theorem rpApply.calls (v : Value) (h : List (List Bool)) (op : Bool) (A1 : Option Addr) (c1 : Nat) (l1 : List (List Int)) (res : List (List Bool)) (w0 w : World) (hS : Kd.S (Kd.slice 4 Kd.bool) 45 w w0.heap.size (fun _ => True) v h) (hr1 : Kd.C (Kd.slice 3 (Kd.int .i64)) w0 A1 l1.length l1) (hB : Below w0.heap.size w0 w) (hf : apAll op l1 h = some res) :
  Calls Try.prog 26 #[v, .slice A1 l1.length c1, .bool op] w fun e w' => e = .returned v ∧ Kd.S (Kd.slice 4 Kd.bool) 45 w' w0.heap.size (fun _ => True) v res ∧ Below w0.heap.size w0 w' := by
 obtain ⟨Ao, co, eo⟩ := Kd.S_slice hS
 subst eo
 have HR := Aside0.mk hr1
 have HB := Aside0.mk hB
 have HO := Aside0.mk hS
 have HF := Aside0.mk hf
 have HL := Aside0.mk hr1.2.1
 clear hr1 hB hS hf
 go_enter Try.func26, Try.ntmps26
 go_wp2
 go_loopw [12] (fun v12 wr => ∃ (i : Int) (o : List (List Bool)), Aside0 (0 ≤ i ∧ i ≤ l1.length) ∧ v12 = .int .i64 i ∧ Aside0 (o.length = h.length) ∧ Aside0 (apAll op (l1.drop i.toNat) o = some res) ∧ Aside0 (Kd.S (Kd.slice 4 Kd.bool) 45 wr w0.heap.size (fun _ => True) (.slice Ao h.length co) o) ∧ Aside0 (Below w0.heap.size w0 wr)) (fun v _ => ((l1.length : Int) - intOf v).toNat)
 case atStart => exact ⟨0, h, ⟨by omega⟩, rfl, ⟨rfl⟩, ⟨by simpa using HF.out⟩, HO, HB⟩
 case round =>
  clear HO HB HF
  obtain ⟨i, o, hi, rfl, HOL, HF, HO, HB⟩ := hrel
  by_cases q : i < (l1.length : Int)
  ·have p : 0 ≤ i := hi.out.1
   have hlt : i.toNat < l1.length := by omega
   obtain ⟨ad, Ax, cx, eA, hxc0, hxl, hxr⟩ := atRow HR.out i p q
   subst eA
   have hxc := (HB.out.cell (World.block_lt_of_cell? w0 _ hxc0)).trans hxc0
   have hf := HF.out
   rw [List.drop_eq_getElem_cons hlt] at hf
   have ex : l1[i.toNat] = l1.getD i.toNat [] := by rw [List.getD_eq_getElem?_getD, List.getElem?_eq_getElem hlt]; rfl
   rw [ex] at hf
   obtain ⟨x, hx⟩ : ∃ x, x = l1.getD i.toNat [] := ⟨_, rfl⟩
   rw [← hx] at hf hxc hxl hxr
   clear ex hx
   unfold apAll at hf
   by_cases hok : apOk o x
   ·rw [if_pos hok] at hf
    have HXV := Aside0.mk (show x.length = 3 ∧ 0 ≤ rd x 0 ∧ rd x 0 < o.length ∧ 0 ≤ rd x 1 ∧ rd x 1 ≤ 1000000 ∧ rd x 2 ≤ (o.getD (rd x 0).toNat []).length ∧ rd x 2 ≤ 1000000 from hok)
    have HF' := Aside0.mk (show apAll op (l1.drop (i + 1).toNat) (apTo op o x (rd x 2)) = some res from by rw [show (i + 1).toNat = i.toNat + 1 by omega]; exact hf)
    clear hf hok HF
    have hx3 := HXV.out.1
    rw [hx3] at hxc hxl hxr
    obtain ⟨xd, exd, hxr0⟩ := Kd.at_int hxr 0 (by omega) (by omega)
    obtain ⟨xd1, exd1, hxr1⟩ := Kd.at_int hxr 1 (by omega) (by omega)
    obtain ⟨xd2, exd2, hxr2⟩ := Kd.at_int hxr 2 (by omega) (by omega)
    cases exd
    cases exd1
    cases exd2
    rw [show ((0 : Int)).toNat = 0 from rfl, Addr.add_zero'] at hxr0
    simp only [show (1 : Int).toNat = 1 from rfl, Nat.reduceMul, Nat.reduceEqDiff, Go.Addr.add, ↓reduceIte] at hxr1
    simp only [show (2 : Int).toNat = 2 from rfl, Nat.reduceMul, Nat.reduceEqDiff, Go.Addr.add, ↓reduceIte] at hxr2
    have HX0 := Aside0.mk hxr0
    have HX1 := Aside0.mk hxr1
    have HX2 := Aside0.mk hxr2
    have hx1 := (HB.out.cell (World.block_lt_of_cell? w0 _ hxr1)).trans hxr1
    clear hxr0 hxr1 hxr2 hxr hxl hx3
    have HLT := Aside0.mk hlt
    replace p := eq_true p
    have qb : decide (i < (l1.length : Int)) = true := decide_eq_true q
    replace q := eq_true q
    clear hlt
    go_wp2
    clear hxc hx1
    go_loopw [9] (fun v wi => ∃ m : Int, Aside0 (rd x 1 ≤ m ∧ (m ≤ rd x 2 ∨ m = rd x 1)) ∧ v = .int .i64 m ∧ Aside0 (Kd.S (Kd.slice 4 Kd.bool) 45 wi w0.heap.size (fun _ => True) (.slice Ao h.length co) (apTo op o x m)) ∧ Aside0 (Below w0.heap.size w0 wi)) (fun v _ => (rd x 2 - intOf v).toNat)
    case atStart => exact ⟨rd x 1, ⟨Int.le_refl _, .inr rfl⟩, rfl, ⟨by rw [apTo_none _ _ _ _ (Int.le_refl _) HXV.out.2.1 HXV.out.2.2.1]; exact HO.out⟩, HB⟩
    case round =>
     clear HO HB p q
     obtain ⟨m, hm, rfl, HO, HB⟩ := hrel
     have hx0 := (HB.out.cell (World.block_lt_of_cell? w0 _ HX0.out)).trans HX0.out
     have hx2 := (HB.out.cell (World.block_lt_of_cell? w0 _ HX2.out)).trans HX2.out
     by_cases hlt : m < rd x 2
     ·have hb : decide (m < rd x 2) = true := decide_eq_true hlt
      have h0 : 0 ≤ rd x 0 := HXV.out.2.1
      have h1 : rd x 0 < o.length := HXV.out.2.2.1
      have hol : (apTo op o x m).length = h.length := (apTo_length _ _ _ _).trans HOL.out
      have h1' : rd x 0 < (h.length : Int) := by have := HOL.out; omega
      have h1s : rd x 0 < ((apTo op o x m).length : Int) := by omega
      have h2 : 0 ≤ m := by have := HXV.out.2.2.2.1; have := hm.out; omega
      have hrl : ((apTo op o x m).getD (rd x 0).toNat []).length = (o.getD (rd x 0).toNat []).length := by rw [apTo_row _ _ _ _ h0 h1, apRow_length]
      have h3 : m < (((apTo op o x m).getD (rd x 0).toNat []).length : Int) := by rw [hrl]; have := HXV.out.2.2.2.2.2.1; omega
      have HM := Aside0.mk (show 0 ≤ rd x 0 ∧ 0 ≤ m ∧ m < rd x 2 ∧ rd x 0 < o.length from ⟨h0, h2, hlt, h1⟩)
      have hS := HO.out
      rw [← hol] at hS
      obtain ⟨go, co', eo, _⟩ := Kd.S_form hS (by omega)
      cases eo
      obtain ⟨oki, c, hcl, hMM, hcc, hoki, hback⟩ := Kd.S_borrow hS [] (rd x 0) h0 h1s
      obtain ⟨y, hy⟩ : ∃ y, y = (apTo op o x m).getD (rd x 0).toNat [] := ⟨_, rfl⟩
      rw [← hy] at hMM h3
      obtain ⟨hv', ec, hrowy⟩ := hMM
      have hcy := hcc 0 hv' (by rw [ec]; rfl)
      rw [add_plain, show (rd x 0).toNat * (Kd.slice 4 Kd.bool).sz + 0 = (rd x 0).toNat from by rw [show (Kd.slice 4 Kd.bool).sz = 1 from rfl]; omega] at hcy
      obtain ⟨gy, cy, ey, gyb, gyl, cyl⟩ := Kd.R_form hrowy (by omega)
      subst ey
      obtain ⟨hyc, hyf⟩ := Kd.R_celln false hrowy m h2 h3
      have HYY := Aside0.mk hrowy
      have HGY := Aside0.mk gyb
      have HBK := Aside0.mk @hback
      have HGI := Aside0.mk (show oki gy from hrowy.1 gy (by simp [Value.ownBlock]))
      have HEC := Aside0.mk ec
      have HY := Aside0.mk hy
      have HOLn := Aside0.mk hol
      replace h0 := eq_true h0
      replace h1' := eq_true h1'
      replace h2 := eq_true h2
      replace h3 := eq_true h3
      clear hlt hcl hcc hoki hback hy hrowy gyb gyl cyl ec hS hol h1 h1s hrl HO
      go_wp2
      have HPU := Aside0.mk (Kd.R_putg HYY.out m op)
      have HGW := Aside0.mk (show wr.grownBy (wr.setCell ⟨gy, m.toNat, none⟩ (.bool op)) (some gy) from HPU.out.2)
      have HO2 := Aside0.mk (HBK.out (w1 := wr.setCell ⟨gy, m.toNat, none⟩ (.bool op)) HGW.out (fun k hk => by cases hk; exact HGI.out) (x' := y.set m.toNat op) ⟨_, HEC.out, HPU.out.1⟩)
      have HO3 := Aside0.mk (show Kd.S (Kd.slice 4 Kd.bool) 45 (wr.setCell ⟨gy, m.toNat, none⟩ (.bool op)) w0.heap.size (fun _ => True) (.slice (some ⟨go, 0, none⟩) h.length co) (apTo op o x (m + 1)) from by
       have e := HO2.out
       rw [HOLn.out, HY.out, apTo_step op o x m HXV.out.2.1 HXV.out.2.2.1 HXV.out.2.2.2.1 hm.out.1] at e
       exact e)
      clear HPU HGW HO2
      go_roundw
      case rel => exact ⟨m + 1, ⟨by have := HM.out; have := hm.out; omega⟩, (by first | rfl | (congr 1; have := HM.out; have := HXV.out.2.2.2.2.2.2; unfold wrap64; omega)), HO3, ⟨below_set HB.out HGY.out⟩⟩
      case measure => have h1 := HM.out; have h2 := HXV.out.2.2.2.2.2.2; have hw : wrap64 (m + 1) = m + 1 := (by unfold wrap64; omega); simp [intOf, hw]; omega
     ·have hb : decide (m < rd x 2) = false := decide_eq_false hlt
      have HM := Aside0.mk hlt
      clear hlt
      go_wp2
      go_roundw
      case rel => exact ⟨i + 1, apTo op o x (rd x 2), ⟨by have := HLT.out; have := hi.out; omega⟩, (by first | rfl | (congr 1; have := HLT.out; have := HL.out; have := hi.out; unfold wrap64; omega)), ⟨(apTo_length _ _ _ _).trans HOL.out⟩, HF', ⟨by
       have h1 := HM.out
       have h2 := hm.out
       have e : apTo op o x (rd x 2) = apTo op o x m := by
        rcases h2.2 with h3 | h3
        ·rw [show m = rd x 2 by omega]
        ·rw [apTo_none _ _ _ m (by omega) HXV.out.2.1 HXV.out.2.2.1, apTo_none _ _ _ _ (by omega) HXV.out.2.1 HXV.out.2.2.1]
       rw [e]; exact HO.out⟩, HB⟩
      case measure => have := HLT.out; have := hi.out; have := HL.out; have hw : wrap64 (i + 1) = i + 1 := (by unfold wrap64; omega); simp [intOf, hw]; omega
   ·rw [if_neg hok] at hf
    exact absurd hf (by simp)
  ·have hb : decide (i < (l1.length : Int)) = false := decide_eq_false q
   have HQ := Aside0.mk q
   clear q
   go_wp2
   go_ret
   have e : o = res := by
    have h1 := hi.out
    have h2 := HF.out
    have h3 := HQ.out
    rw [List.drop_eq_nil_of_le (by omega)] at h2
    exact Option.some.inj h2
   exact ⟨rfl, e ▸ HO.out, HB.out⟩
end grid
def spec_ApplyPatches.f (k : Nat) (l0 : List (S47)) (l1 : List (List Int)) : Option (List (S47) × Bool) := (spec_shGood.f k l0).bind fun q => if q = true then ((spec_rpGood.f k l1).bind fun q => if q = true then ((spec_rpOpen.f k l0).bind fun h => (grid.apAll false l1 h).bind fun h1 => spec_rpSheet.f k h1) else some ([], false)) else some ([], false)
set_option maxHeartbeats 8000000 in
set_option maxRecDepth 100000 in
theorem spec_ApplyPatches.calls (k : Nat) (A0 : Option Addr) (c0 : Nat) (l0 : List (S47)) (A1 : Option Addr) (c1 : Nat) (l1 : List (List Int)) (r1 : List (S47)) (r2 : Bool) (w : World) (hr0 : Kd.C k47 w A0 l0.length l0) (hc0 : l0.length ≤ c0) (hr1 : Kd.C (Kd.slice 3 (Kd.int .i64)) w A1 l1.length l1) (hc1 : l1.length ≤ c1) (h : spec_ApplyPatches.f k l0 l1 = some (r1, r2)) :
  Calls Try.prog 19 #[.slice A0 l0.length c0, .slice A1 l1.length c1] w fun e w' => ∃ v0_ : Value, e = .returned (.tuple #[v0_, .bool r2]) ∧ Kd.R k47 47 w' w.heap.size (fun _ => True) v0_ r1 ∧ Below w.heap.size w w' := by
 unfold spec_ApplyPatches.f at h
 have HR0 := Aside0.mk hr0
 have HC0 := Aside0.mk hc0
 have HR1 := Aside0.mk hr1
 have HC1 := Aside0.mk hc1
 have HB := Aside0.mk (Below.refl w.heap.size w)
 clear hr0 hc0 hr1 hc1
 obtain ⟨q0, hq0, h⟩ := Option.bind_eq_some_iff.1 h
 have HQ0 := Aside0.mk hq0
 clear hq0
 cases q0 with
 | false =>
  rw [if_neg (by decide)] at h
  cases h
  go_enter Try.func19, Try.ntmps19
  go_wp2_with (first | (go_at_call 36; (with_reducible refine (spec_shGood.calls k _ _ l0 false _ ?s1 ?s2 HQ0.out).mono ?_); (case s1 => exact Kd.C_below HR0.out HB.out); (case s2 => exact HC0.out); rintro e w1 ⟨rfl, hb⟩; have n0_ := Aside0.mk (below_step HB.out hb); clear HB hb; have HB := n0_; clear n0_))
  go_ret2
  exact ⟨_, rfl, Kd.R_nil _ _ _ _ _, HB.out⟩
 | true =>
  rw [if_pos rfl] at h
  obtain ⟨q1, hq1, h⟩ := Option.bind_eq_some_iff.1 h
  have HQ1 := Aside0.mk hq1
  clear hq1
  cases q1 with
  | false =>
   rw [if_neg (by decide)] at h
   cases h
   go_enter Try.func19, Try.ntmps19
   go_wp2_with (first | (go_at_call 36; (with_reducible refine (spec_shGood.calls k _ _ l0 true _ ?s1 ?s2 HQ0.out).mono ?_); (case s1 => exact Kd.C_below HR0.out HB.out); (case s2 => exact HC0.out); rintro e w1 ⟨rfl, hb⟩; have n0_ := Aside0.mk (below_step HB.out hb); clear HB hb; have HB := n0_; clear n0_) | (go_at_call 23; (with_reducible refine (spec_rpGood.calls k _ _ l1 false _ ?s1 ?s2 HQ1.out).mono ?_); (case s1 => exact Kd.C_below HR1.out HB.out); (case s2 => exact HC1.out); rintro e w2 ⟨rfl, hb⟩; have n0_ := Aside0.mk (below_step HB.out hb); clear HB hb; have HB := n0_; clear n0_))
   go_ret2
   exact ⟨_, rfl, Kd.R_nil _ _ _ _ _, HB.out⟩
  | true =>
   rw [if_pos rfl] at h
   obtain ⟨h0, hh, h⟩ := Option.bind_eq_some_iff.1 h
   obtain ⟨h1, ha, h⟩ := Option.bind_eq_some_iff.1 h
   have HH := Aside0.mk hh
   have HA := Aside0.mk ha
   have HF := Aside0.mk h
   clear hh ha h
   go_enter Try.func19, Try.ntmps19
   go_wp2_with (first | (go_at_call 36; (with_reducible refine (spec_shGood.calls k _ _ l0 true _ ?s1 ?s2 HQ0.out).mono ?_); (case s1 => exact Kd.C_below HR0.out HB.out); (case s2 => exact HC0.out); rintro e w1 ⟨rfl, hb⟩; have n0_ := Aside0.mk (below_step HB.out hb); clear HB hb; have HB := n0_; clear n0_) | (go_at_call 23; (with_reducible refine (spec_rpGood.calls k _ _ l1 true _ ?s1 ?s2 HQ1.out).mono ?_); (case s1 => exact Kd.C_below HR1.out HB.out); (case s2 => exact HC1.out); rintro e w2 ⟨rfl, hb⟩; have n0_ := Aside0.mk (below_step HB.out hb); clear HB hb; have HB := n0_; clear n0_) | ((with_reducible refine gate_callee (f := 24) rfl ?_); refine goesL_ (some 15) rfl rfl Try.func24 (by kernel_rfl) rfl #[.slice A0 l0.length c0] rfl (by (try simp only [List.map_toArray, List.map_cons, List.map_nil]); first | done | rfl) ?_; (with_reducible refine (spec_rpOpen.calls k _ _ l0 h0 w2 ?side1 ?side2 HH.out).mono ?_); (case side1 => exact Kd.C_below HR0.out HB.out); (case side2 => exact HC0.out); rintro e w6 ⟨vh, rfl, ho0, hb⟩; refine ⟨_, rfl, ?_⟩; obtain ⟨Ao, co, eo⟩ := Kd.S_slice ho0; subst eo; have HO := Aside0.mk ho0; have HBO := Aside0.mk hb; clear ho0 hb) | (go_at_call 26; (with_reducible refine (grid.rpApply.calls (.slice Ao h0.length co) h0 false A1 c1 l1 h1 w2 _ HO.out ?s1 HBO.out HA.out).mono ?_); (case s1 => exact Kd.C_below HR1.out HB.out); rintro e w7 ⟨rfl, ho, hb⟩; have n0_ := Aside0.mk ho; have n1_ := Aside0.mk hb; clear HO HBO ho hb; have HO := n0_; have HBO := n1_; clear n0_ n1_; have HEN := Aside0.mk (Kd.S_reads' HO.out)) | (go_at_call 37; (have hS := spec_rpSheet.calls k Ao co h1 r1 r2 _ HEN.out.2.2 (by have := HEN.out.1; have := HEN.out.2.1; omega) HF.out); rw [← HEN.out.1] at hS; refine hS.mono ?_; rintro e w8 ⟨v8, rfl, hr, hb⟩; have HR8 := Aside0.mk hr; have HB8 := Aside0.mk hb; clear hr hb hS))
   go_ret2
   exact ⟨_, rfl, Kd.R_lower HR8.out (below_size (below_step HB.out HBO.out)), below_step (below_step HB.out HBO.out) HB8.out⟩

def impl_isTrack.f (a0 : Int) : Option (Bool) := if a0 ≥ 0 then (some (decide (a0 < 20))) else (some false)
set_option maxHeartbeats 8000000 in
set_option maxRecDepth 100000 in
theorem impl_isTrack.calls (a0 : Int) (r : Bool) (w : World) (h : impl_isTrack.f a0 = some r) :
  Calls Try.prog 47 #[.int .i64 a0] w fun e w' => e = .returned (.bool r) ∧ Drawn0 w w' := by
 have H : (if a0 ≥ 0 then (some (decide (a0 < 20))) else (some false)) = some r := h
 clear h
 by_cases c2 : a0 ≥ 0
 ·rw [if_pos c2] at H
  have c2b0 : decide (0 ≤ a0) = true := decide_eq_true c2
  clear c2
  obtain rfl := Option.some.inj H
  go_enter Try.func47, Try.ntmps47
  go_wp2
  go_ret
  exact ⟨by first | rfl | (simp; done) | (simp [*]; done), by repeat (first | exact Drawn0.refl _ | apply Drawn0.step)⟩
 ·rw [if_neg c2] at H
  have c2b0 : decide (0 ≤ a0) = false := decide_eq_false c2
  clear c2
  obtain rfl := Option.some.inj H
  go_enter Try.func47, Try.ntmps47
  go_wp2
  go_ret
  exact ⟨by first | rfl | (simp; done) | (simp [*]; done), by repeat (first | exact Drawn0.refl _ | apply Drawn0.step)⟩

def impl_IsHole.f (a0_0 : Int) (a0_1 : Int) (a0_2 : Int) : Option (Bool) := (impl_isTrack.f a0_0).bind fun t201 => (if t201 = true then (if a0_1 ≥ 0 then (if a0_1 < a0_2 then (some (decide (a0_2 ≤ 2000))) else (some false)) else (some false)) else (some false))
set_option maxHeartbeats 8000000 in
set_option maxRecDepth 100000 in
theorem impl_IsHole.calls (a0_0 : Int) (a0_1 : Int) (a0_2 : Int) (r : Bool) (w : World) (h : impl_IsHole.f a0_0 a0_1 a0_2 = some r) :
  Calls Try.prog 41 #[.agg #[.int .i64 a0_0, .int .i64 a0_1, .int .i64 a0_2]] w fun e w' => e = .returned (.bool r) ∧ Below w.heap.size w w' := by
 have hu47 := Try.underlying47
 have HB := Aside0.mk (Below.refl w.heap.size w)
 have H : ((impl_isTrack.f a0_0).bind fun t201 => (if t201 = true then (if a0_1 ≥ 0 then (if a0_1 < a0_2 then (some (decide (a0_2 ≤ 2000))) else (some false)) else (some false)) else (some false))) = some r := h
 clear h
 replace H := Option.bind_eq_some_iff.mp H
 obtain ⟨t201, A20, H⟩ := H
 replace H : (if t201 = true then (if a0_1 ≥ 0 then (if a0_1 < a0_2 then (some (decide (a0_2 ≤ 2000))) else (some false)) else (some false)) else (some false)) = some r := H
 have A2 := Aside0.mk A20
 clear A20
 by_cases c3 : t201 = true
 ·subst c3
  have H1 : (if a0_1 ≥ 0 then (if a0_1 < a0_2 then (some (decide (a0_2 ≤ 2000))) else (some false)) else (some false)) = some r := by rw [if_pos rfl] at H; exact H
  clear H
  have H := H1
  clear H1
  by_cases c4 : a0_1 ≥ 0
  ·rw [if_pos c4] at H
   have c4b0 : decide (0 ≤ a0_1) = true := decide_eq_true c4
   clear c4
   by_cases c5 : a0_1 < a0_2
   ·rw [if_pos c5] at H
    have c5b0 : decide (a0_1 < a0_2) = true := decide_eq_true c5
    clear c5
    obtain rfl := Option.some.inj H
    go_enter Try.func41, Try.ntmps41
    go_wp2_with (first | ((with_reducible refine gate_dst (N := 1) rfl ?_); refine box_event ?hg (N := 1) ?hd (cs := #[.int .i64 a0_0, .int .i64 a0_1, .int .i64 a0_2]) (t := 47) ?hr ?_; (case hd => rfl); (case hg => rfl); (case hr => first | (go_simp; done) | (go_simp; rfl)); intro gb200 hg w6 hbox hb; have n0_ := Aside0.mk (below_step bl hb); have n1_ := Aside0.mk (hbox); have n2_ := Aside0.mk ((by rw [hg]; exact (below_size bl) : w.heap.size ≤ gb200)); have n3_ := Aside0.mk ((by rw [hg]; exact (below_size bl) : w.heap.size ≤ gb200)); clear HB; have HB := n0_; have BK200 := n1_; have GW200 := n2_; have GE200 := n3_; clear n0_ n1_ n2_ n3_; clear hb hbox hg; have hcz7_0 : w6.cell? ⟨gb200, 0, none⟩ = some (.int .i64 a0_0) := (blk_cell BK200.out 0).trans rfl; have hcz7_1 : w6.cell? ⟨gb200, 1, none⟩ = some (.int .i64 a0_1) := (blk_cell BK200.out 1).trans rfl; have hcz7_2 : w6.cell? ⟨gb200, 2, none⟩ = some (.int .i64 a0_2) := (blk_cell BK200.out 2).trans rfl; have hfz7_0 := blk_frozen BK200.out 0; have hfz7_1 := blk_frozen BK200.out 1; have hfz7_2 := blk_frozen BK200.out 2) | ((with_reducible refine gate_callee (f := 47) rfl ?_); refine goesL_ (some 5) rfl rfl Try.func47 (by kernel_rfl) rfl #[.int .i64 a0_0] rfl (by (try simp only [List.map_toArray, List.map_cons, List.map_nil]); first | done | rfl | (simp only [List.length_drop, List.length_take]; rfl)) ?_; (with_reducible refine (impl_isTrack.calls a0_0 true _ A2.out).mono ?_); rintro e w' ⟨rfl, ⟨nd, rfl⟩⟩; refine ⟨_, rfl, ?_⟩))
    go_ret
    exact ⟨fin1, bl⟩
   ·rw [if_neg c5] at H
    have c5b0 : decide (a0_1 < a0_2) = false := decide_eq_false c5
    clear c5
    obtain rfl := Option.some.inj H
    go_enter Try.func41, Try.ntmps41
    go_wp2_with (first | ((with_reducible refine gate_dst (N := 1) rfl ?_); refine box_event ?hg (N := 1) ?hd (cs := #[.int .i64 a0_0, .int .i64 a0_1, .int .i64 a0_2]) (t := 47) ?hr ?_; (case hd => rfl); (case hg => rfl); (case hr => first | (go_simp; done) | (go_simp; rfl)); intro gb200 hg w8 hbox hb; have n0_ := Aside0.mk (below_step bl hb); have n1_ := Aside0.mk (hbox); have n2_ := Aside0.mk ((by rw [hg]; exact (below_size bl) : w.heap.size ≤ gb200)); have n3_ := Aside0.mk ((by rw [hg]; exact (below_size bl) : w.heap.size ≤ gb200)); clear HB; have HB := n0_; have BK200 := n1_; have GW200 := n2_; have GE200 := n3_; clear n0_ n1_ n2_ n3_; clear hb hbox hg; have hcz9_0 : w8.cell? ⟨gb200, 0, none⟩ = some (.int .i64 a0_0) := (blk_cell BK200.out 0).trans rfl; have hcz9_1 : w8.cell? ⟨gb200, 1, none⟩ = some (.int .i64 a0_1) := (blk_cell BK200.out 1).trans rfl; have hcz9_2 : w8.cell? ⟨gb200, 2, none⟩ = some (.int .i64 a0_2) := (blk_cell BK200.out 2).trans rfl; have hfz9_0 := blk_frozen BK200.out 0; have hfz9_1 := blk_frozen BK200.out 1; have hfz9_2 := blk_frozen BK200.out 2) | ((with_reducible refine gate_callee (f := 47) rfl ?_); refine goesL_ (some 5) rfl rfl Try.func47 (by kernel_rfl) rfl #[.int .i64 a0_0] rfl (by (try simp only [List.map_toArray, List.map_cons, List.map_nil]); first | done | rfl | (simp only [List.length_drop, List.length_take]; rfl)) ?_; (with_reducible refine (impl_isTrack.calls a0_0 true _ A2.out).mono ?_); rintro e w' ⟨rfl, ⟨nd, rfl⟩⟩; refine ⟨_, rfl, ?_⟩))
    go_ret
    exact ⟨fin1, bl⟩
  ·rw [if_neg c4] at H
   have c4b0 : decide (0 ≤ a0_1) = false := decide_eq_false c4
   clear c4
   obtain rfl := Option.some.inj H
   go_enter Try.func41, Try.ntmps41
   go_wp2_with (first | ((with_reducible refine gate_dst (N := 1) rfl ?_); refine box_event ?hg (N := 1) ?hd (cs := #[.int .i64 a0_0, .int .i64 a0_1, .int .i64 a0_2]) (t := 47) ?hr ?_; (case hd => rfl); (case hg => rfl); (case hr => first | (go_simp; done) | (go_simp; rfl)); intro gb200 hg w10 hbox hb; have n0_ := Aside0.mk (below_step bl hb); have n1_ := Aside0.mk (hbox); have n2_ := Aside0.mk ((by rw [hg]; exact (below_size bl) : w.heap.size ≤ gb200)); have n3_ := Aside0.mk ((by rw [hg]; exact (below_size bl) : w.heap.size ≤ gb200)); clear HB; have HB := n0_; have BK200 := n1_; have GW200 := n2_; have GE200 := n3_; clear n0_ n1_ n2_ n3_; clear hb hbox hg; have hcz11_0 : w10.cell? ⟨gb200, 0, none⟩ = some (.int .i64 a0_0) := (blk_cell BK200.out 0).trans rfl; have hcz11_1 : w10.cell? ⟨gb200, 1, none⟩ = some (.int .i64 a0_1) := (blk_cell BK200.out 1).trans rfl; have hcz11_2 : w10.cell? ⟨gb200, 2, none⟩ = some (.int .i64 a0_2) := (blk_cell BK200.out 2).trans rfl; have hfz11_0 := blk_frozen BK200.out 0; have hfz11_1 := blk_frozen BK200.out 1; have hfz11_2 := blk_frozen BK200.out 2) | ((with_reducible refine gate_callee (f := 47) rfl ?_); refine goesL_ (some 5) rfl rfl Try.func47 (by kernel_rfl) rfl #[.int .i64 a0_0] rfl (by (try simp only [List.map_toArray, List.map_cons, List.map_nil]); first | done | rfl | (simp only [List.length_drop, List.length_take]; rfl)) ?_; (with_reducible refine (impl_isTrack.calls a0_0 true _ A2.out).mono ?_); rintro e w' ⟨rfl, ⟨nd, rfl⟩⟩; refine ⟨_, rfl, ?_⟩))
   go_ret
   exact ⟨fin1, bl⟩
 ·replace c3 := Bool.eq_false_iff.mpr c3
  subst c3
  have H1 : (some false) = some r := by rw [if_neg (show ¬ (false = true) by decide)] at H; exact H
  clear H
  have H := H1
  clear H1
  obtain rfl := Option.some.inj H
  go_enter Try.func41, Try.ntmps41
  go_wp2_with (first | ((with_reducible refine gate_dst (N := 1) rfl ?_); refine box_event ?hg (N := 1) ?hd (cs := #[.int .i64 a0_0, .int .i64 a0_1, .int .i64 a0_2]) (t := 47) ?hr ?_; (case hd => rfl); (case hg => rfl); (case hr => first | (go_simp; done) | (go_simp; rfl)); intro gb200 hg w12 hbox hb; have n0_ := Aside0.mk (below_step bl hb); have n1_ := Aside0.mk (hbox); have n2_ := Aside0.mk ((by rw [hg]; exact (below_size bl) : w.heap.size ≤ gb200)); have n3_ := Aside0.mk ((by rw [hg]; exact (below_size bl) : w.heap.size ≤ gb200)); clear HB; have HB := n0_; have BK200 := n1_; have GW200 := n2_; have GE200 := n3_; clear n0_ n1_ n2_ n3_; clear hb hbox hg; have hcz13_0 : w12.cell? ⟨gb200, 0, none⟩ = some (.int .i64 a0_0) := (blk_cell BK200.out 0).trans rfl; have hcz13_1 : w12.cell? ⟨gb200, 1, none⟩ = some (.int .i64 a0_1) := (blk_cell BK200.out 1).trans rfl; have hcz13_2 : w12.cell? ⟨gb200, 2, none⟩ = some (.int .i64 a0_2) := (blk_cell BK200.out 2).trans rfl; have hfz13_0 := blk_frozen BK200.out 0; have hfz13_1 := blk_frozen BK200.out 1; have hfz13_2 := blk_frozen BK200.out 2) | ((with_reducible refine gate_callee (f := 47) rfl ?_); refine goesL_ (some 5) rfl rfl Try.func47 (by kernel_rfl) rfl #[.int .i64 a0_0] rfl (by (try simp only [List.map_toArray, List.map_cons, List.map_nil]); first | done | rfl | (simp only [List.length_drop, List.length_take]; rfl)) ?_; (with_reducible refine (impl_isTrack.calls a0_0 false _ A2.out).mono ?_); rintro e w' ⟨rfl, ⟨nd, rfl⟩⟩; refine ⟨_, rfl, ?_⟩))
  go_ret
  exact ⟨fin1, bl⟩

def impl_holeLess.f (a0_0 : Int) (a0_1 : Int) (a0_2 : Int) (a1_0 : Int) (a1_1 : Int) (a1_2 : Int) : Option (Bool) := if a0_1 = a1_1 then (some (decide (a0_0 < a1_0))) else (some (decide (a0_1 < a1_1)))
set_option maxHeartbeats 8000000 in
set_option maxRecDepth 100000 in
theorem impl_holeLess.calls (a0_0 : Int) (a0_1 : Int) (a0_2 : Int) (a1_0 : Int) (a1_1 : Int) (a1_2 : Int) (r : Bool) (w : World) (h : impl_holeLess.f a0_0 a0_1 a0_2 a1_0 a1_1 a1_2 = some r) :
  Calls Try.prog 42 #[.agg #[.int .i64 a0_0, .int .i64 a0_1, .int .i64 a0_2], .agg #[.int .i64 a1_0, .int .i64 a1_1, .int .i64 a1_2]] w fun e w' => e = .returned (.bool r) ∧ Below w.heap.size w w' := by
 have hu47 := Try.underlying47
 have HB := Aside0.mk (Below.refl w.heap.size w)
 have H : (if a0_1 = a1_1 then (some (decide (a0_0 < a1_0))) else (some (decide (a0_1 < a1_1)))) = some r := h
 clear h
 by_cases c3 : a0_1 = a1_1
 ·rw [if_pos c3] at H
  have c3b0 : (a0_1 == a1_1) = true := beq_iff_eq.mpr c3
  have c3b1 : (a0_1 != a1_1) = false := bne_eq_false_iff_eq.mpr c3
  clear c3
  obtain rfl := Option.some.inj H
  go_enter Try.func42, Try.ntmps42
  go_wp2_with (first | ((with_reducible refine gate_dst (N := 2) rfl ?_); refine box_event ?hg (N := 2) ?hd (cs := #[.int .i64 a0_0, .int .i64 a0_1, .int .i64 a0_2]) (t := 47) ?hr ?_; (case hd => rfl); (case hg => rfl); (case hr => first | (go_simp; done) | (go_simp; rfl)); intro gb202 hg w4 hbox hb; have n0_ := Aside0.mk (below_step bl hb); have n1_ := Aside0.mk (hbox); have n2_ := Aside0.mk ((by rw [hg]; exact (below_size bl) : w.heap.size ≤ gb202)); have n3_ := Aside0.mk ((by rw [hg]; exact (below_size bl) : w.heap.size ≤ gb202)); clear HB; have HB := n0_; have BK202 := n1_; have GW202 := n2_; have GE202 := n3_; clear n0_ n1_ n2_ n3_; clear hb hbox hg) | ((with_reducible refine gate_dst (N := 3) rfl ?_); refine box_event ?hg (N := 3) ?hd (cs := #[.int .i64 a1_0, .int .i64 a1_1, .int .i64 a1_2]) (t := 47) ?hr ?_; (case hd => rfl); (case hg => rfl); (case hr => first | (go_simp; done) | (go_simp; rfl)); intro gb203 hg w5 hbox hb; have n0_ := Aside0.mk (blk_below (g := gb202) (o := .cells #[.int .i64 a0_0, .int .i64 a0_1, .int .i64 a0_2] 47 (0, 0)) (bup BK202.out) hb); have n1_ := Aside0.mk (below_step bl hb); have n2_ := Aside0.mk (hbox); have n3_ := Aside0.mk ((by rw [hg]; exact (below_size bl) : w.heap.size ≤ gb203)); have n4_ := Aside0.mk ((by rw [hg]; exact (below_size bl) : w.heap.size ≤ gb203)); have n5_ := Aside0.mk ((by rw [hg]; exact Nat.ne_of_lt (blk_lt (g := gb202) (o := .cells #[.int .i64 a0_0, .int .i64 a0_1, .int .i64 a0_2] 47 (0, 0)) (bup BK202.out)) : gb202 ≠ gb203)); have n6_ := Aside0.mk ((by rw [hg]; exact Nat.ne_of_gt (blk_lt (g := gb202) (o := .cells #[.int .i64 a0_0, .int .i64 a0_1, .int .i64 a0_2] 47 (0, 0)) (bup BK202.out)) : gb203 ≠ gb202)); clear BK202; clear HB; have BK202 := n0_; have HB := n1_; have BK203 := n2_; have GW203 := n3_; have GE203 := n4_; have NB202_203 := n5_; have NB203_202 := n6_; clear n0_ n1_ n2_ n3_ n4_ n5_ n6_; clear hb hbox hg; have hnb6 := NB202_203.out; have hnc6 := NB203_202.out; have hcz7_0 : w5.cell? ⟨gb202, 0, none⟩ = some (.int .i64 a0_0) := (blk_cell BK202.out 0).trans rfl; have hcz7_1 : w5.cell? ⟨gb202, 1, none⟩ = some (.int .i64 a0_1) := (blk_cell BK202.out 1).trans rfl; have hcz7_2 : w5.cell? ⟨gb202, 2, none⟩ = some (.int .i64 a0_2) := (blk_cell BK202.out 2).trans rfl; have hfz7_0 := blk_frozen BK202.out 0; have hfz7_1 := blk_frozen BK202.out 1; have hfz7_2 := blk_frozen BK202.out 2; have hcz8_0 : w5.cell? ⟨gb203, 0, none⟩ = some (.int .i64 a1_0) := (blk_cell BK203.out 0).trans rfl; have hcz8_1 : w5.cell? ⟨gb203, 1, none⟩ = some (.int .i64 a1_1) := (blk_cell BK203.out 1).trans rfl; have hcz8_2 : w5.cell? ⟨gb203, 2, none⟩ = some (.int .i64 a1_2) := (blk_cell BK203.out 2).trans rfl; have hfz8_0 := blk_frozen BK203.out 0; have hfz8_1 := blk_frozen BK203.out 1; have hfz8_2 := blk_frozen BK203.out 2))
  go_ret
  exact ⟨fin1, bl⟩
 ·rw [if_neg c3] at H
  have c3b0 : (a0_1 == a1_1) = false := beq_eq_false_iff_ne.mpr c3
  have c3b1 : (a0_1 != a1_1) = true := bne_iff_ne.mpr c3
  obtain rfl := Option.some.inj H
  go_enter Try.func42, Try.ntmps42
  go_wp2_with (first | ((with_reducible refine gate_dst (N := 2) rfl ?_); refine box_event ?hg (N := 2) ?hd (cs := #[.int .i64 a0_0, .int .i64 a0_1, .int .i64 a0_2]) (t := 47) ?hr ?_; (case hd => rfl); (case hg => rfl); (case hr => first | (go_simp; done) | (go_simp; rfl)); intro gb202 hg w9 hbox hb; have n0_ := Aside0.mk (below_step bl hb); have n1_ := Aside0.mk (hbox); have n2_ := Aside0.mk ((by rw [hg]; exact (below_size bl) : w.heap.size ≤ gb202)); have n3_ := Aside0.mk ((by rw [hg]; exact (below_size bl) : w.heap.size ≤ gb202)); clear HB; have HB := n0_; have BK202 := n1_; have GW202 := n2_; have GE202 := n3_; clear n0_ n1_ n2_ n3_; clear hb hbox hg) | ((with_reducible refine gate_dst (N := 3) rfl ?_); refine box_event ?hg (N := 3) ?hd (cs := #[.int .i64 a1_0, .int .i64 a1_1, .int .i64 a1_2]) (t := 47) ?hr ?_; (case hd => rfl); (case hg => rfl); (case hr => first | (go_simp; done) | (go_simp; rfl)); intro gb203 hg w10 hbox hb; have n0_ := Aside0.mk (blk_below (g := gb202) (o := .cells #[.int .i64 a0_0, .int .i64 a0_1, .int .i64 a0_2] 47 (0, 0)) (bup BK202.out) hb); have n1_ := Aside0.mk (below_step bl hb); have n2_ := Aside0.mk (hbox); have n3_ := Aside0.mk ((by rw [hg]; exact (below_size bl) : w.heap.size ≤ gb203)); have n4_ := Aside0.mk ((by rw [hg]; exact (below_size bl) : w.heap.size ≤ gb203)); have n5_ := Aside0.mk ((by rw [hg]; exact Nat.ne_of_lt (blk_lt (g := gb202) (o := .cells #[.int .i64 a0_0, .int .i64 a0_1, .int .i64 a0_2] 47 (0, 0)) (bup BK202.out)) : gb202 ≠ gb203)); have n6_ := Aside0.mk ((by rw [hg]; exact Nat.ne_of_gt (blk_lt (g := gb202) (o := .cells #[.int .i64 a0_0, .int .i64 a0_1, .int .i64 a0_2] 47 (0, 0)) (bup BK202.out)) : gb203 ≠ gb202)); clear BK202; clear HB; have BK202 := n0_; have HB := n1_; have BK203 := n2_; have GW203 := n3_; have GE203 := n4_; have NB202_203 := n5_; have NB203_202 := n6_; clear n0_ n1_ n2_ n3_ n4_ n5_ n6_; clear hb hbox hg; have hnb11 := NB202_203.out; have hnc11 := NB203_202.out; have hcz12_0 : w10.cell? ⟨gb202, 0, none⟩ = some (.int .i64 a0_0) := (blk_cell BK202.out 0).trans rfl; have hcz12_1 : w10.cell? ⟨gb202, 1, none⟩ = some (.int .i64 a0_1) := (blk_cell BK202.out 1).trans rfl; have hcz12_2 : w10.cell? ⟨gb202, 2, none⟩ = some (.int .i64 a0_2) := (blk_cell BK202.out 2).trans rfl; have hfz12_0 := blk_frozen BK202.out 0; have hfz12_1 := blk_frozen BK202.out 1; have hfz12_2 := blk_frozen BK202.out 2; have hcz13_0 : w10.cell? ⟨gb203, 0, none⟩ = some (.int .i64 a1_0) := (blk_cell BK203.out 0).trans rfl; have hcz13_1 : w10.cell? ⟨gb203, 1, none⟩ = some (.int .i64 a1_1) := (blk_cell BK203.out 1).trans rfl; have hcz13_2 : w10.cell? ⟨gb203, 2, none⟩ = some (.int .i64 a1_2) := (blk_cell BK203.out 2).trans rfl; have hfz13_0 := blk_frozen BK203.out 0; have hfz13_1 := blk_frozen BK203.out 1; have hfz13_2 := blk_frozen BK203.out 2))
  go_ret
  exact ⟨fin1, bl⟩

end Go.Proofs.Ytghdiijfpepmhaa.PFnExactApplyPatches
