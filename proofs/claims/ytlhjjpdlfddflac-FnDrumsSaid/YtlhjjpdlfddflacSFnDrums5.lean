/- The walks of functions that FnDrums reaches: what they return is what the plain functions of the same names say. Made by a program of this session after the kit's print. No conditions beyond the arguments' being read. -/
import Derived.Test.YtlhjjpdlfddflacSFnDrums0
import Derived.Test.YtlhjjpdlfddflacSFnDrums2
import Derived.Test.YtlhjjpdlfddflacSFnDrums4
namespace Go.Proofs.Ytlhjjpdlfddflac.PFnDrums
open Go.RowKit Go.Proofs.YtlhjjpdlfddflacW.PrintWords Go.Proofs.YtlhjjpdlfddflacW.PrintLast Go.Proofs.YtlhjjpdlfddflacW.PrintMore
attribute [local go_sem] max2_int min2_int max_two min_two max_three min_three max_four min_four   -- for this text's walks alone
set_option linter.unusedVariables false
set_option linter.unusedSimpArgs false

theorem fld_YtlhjjpdlfddflacSFnDrums5_26_0 (w' : World) (a0_ a1_ : Value) : Sem.run Try.prog (Instr.field 26 (.agg #[a0_, a1_]) 0) w' = .ok a0_ w' := by
  simp [Instr.field, Try.underlying26, asAgg, part, Try.isAgg3]
theorem fld_YtlhjjpdlfddflacSFnDrums5_26_1 (w' : World) (a0_ a1_ : Value) : Sem.run Try.prog (Instr.field 26 (.agg #[a0_, a1_]) 1) w' = .ok a1_ w' := by
  simp [Instr.field, Try.underlying26, asAgg, part, Try.isAgg24]
attribute [local go_sem] fld_YtlhjjpdlfddflacSFnDrums5_26_0 fld_YtlhjjpdlfddflacSFnDrums5_26_1
/-! ### impl_LeastTurn: function 9 -/
mutual
def impl_LeastTurn.j0:Nat→Bool→Int→List Int→Int→List Int→Option (Int×Bool)
 | 0,_,_,_,_,_=>none
 | k+1,x21,x262000,x262001,x263000,x263001=>if x21=true then(some (0,false)) else(impl_LeastTurn.l0 k x262000 0 x262000 x262001 x263000 x263001)
def impl_LeastTurn.l0:Nat→Int→Int→Int→List Int→Int→List Int→Option (Int×Bool)
 | 0,_,_,_,_,_,_=>none
 | k+1,x23,x24,x262000,x262001,x263000,x263001=>if x24<x23 then((impl_turnPattern.f k x262000 x262001 x24).bind fun bt265=>((slices_Equal_int_int.f k bt265.2 x263001).bind fun t269=>(if t269=true then(some (x24,true)) else(impl_LeastTurn.l0 k x23 (wrap64 (x24+1)) x262000 x262001 x263000 x263001)))) else(some (0,false))
end
def impl_LeastTurn.f (k:Nat) (a0_0:Int) (l0_1:List Int) (a1_0:Int) (l1_1:List Int):Option (Int×Bool):=(impl_IsPattern.f k a0_0 l0_1).bind fun t263=>(if t263=true then((impl_IsPattern.f k a1_0 l1_1).bind fun t264=>(if t264=true then(impl_LeastTurn.j0 k (a0_0 != a1_0) a0_0 l0_1 a1_0 l1_1) else(impl_LeastTurn.j0 k true a0_0 l0_1 a1_0 l1_1))) else(impl_LeastTurn.j0 k true a0_0 l0_1 a1_0 l1_1))
set_option maxHeartbeats 8000000 in
set_option maxRecDepth 100000 in
theorem impl_LeastTurn.calls (k:Nat) (a0_0:Int) (A0_1:Option Addr) (c0_1:Nat) (l0_1:List Int) (a1_0:Int) (A1_1:Option Addr) (c1_1:Nat) (l1_1:List Int) (r1:Int) (r2:Bool) (w:World) (hr0_1:Kd.C (Kd.int .i64) w A0_1 l0_1.length l0_1) (hc0_1:l0_1.length≤c0_1) (hr1_1:Kd.C (Kd.int .i64) w A1_1 l1_1.length l1_1) (hc1_1:l1_1.length≤c1_1) (h:impl_LeastTurn.f k a0_0 l0_1 a1_0 l1_1=some (r1,r2)) :
  Calls Try.prog 9 #[.agg #[.int .i64 a0_0,.slice A0_1 l0_1.length c0_1],.agg #[.int .i64 a1_0,.slice A1_1 l1_1.length c1_1]] w fun e w'=>e = .returned (.tuple #[.int .i64 r1,.bool r2])∧Below w.heap.size w w':=by
 have hu26:=Try.underlying26
 have HR0_1:=am hr0_1
 have HC0_1:=am hc0_1
 clear hr0_1 hc0_1
 have HR1_1:=am hr1_1
 have HC1_1:=am hc1_1
 clear hr1_1 hc1_1
 have HB:=am (Below.refl w.heap.size w)
 have H:((impl_IsPattern.f k a0_0 l0_1).bind fun t263=>(if t263=true then((impl_IsPattern.f k a1_0 l1_1).bind fun t264=>(if t264=true then(impl_LeastTurn.j0 k (a0_0 != a1_0) a0_0 l0_1 a1_0 l1_1) else(impl_LeastTurn.j0 k true a0_0 l0_1 a1_0 l1_1))) else(impl_LeastTurn.j0 k true a0_0 l0_1 a1_0 l1_1)))=some (r1,r2):=h
 clear h
 have HC3:=am H
 clear H
 go_enter Try.func9,Try.ntmps9
 go_upto_region 1 with(first|((with_reducible refine gate_dst (N:=2) rfl ?_);refine box_event ?hg (N:=2) ?hd (cs := #[.int .i64 a0_0,.slice A0_1 l0_1.length c0_1]) (t:=26) ?hr ?_;(case hd=>rfl);(case hg=>rfl);(case hr=>first|(go_simp;done)|(go_simp;rfl));intro gb261 hg w4 hbox hb;have n0_:=am (below_step bl hb);have n1_:=am (hbox);have n2_:=am (ge_ bl hg);have n3_:=am (ge_ bl hg);clear HB;have HB:=n0_;have BK261:=n1_;have GW261:=n2_;have GE261:=n3_;clear n0_ n1_ n2_ n3_ hb hbox hg)|((with_reducible refine gate_dst (N:=3) rfl ?_);refine box_event ?hg (N:=3) ?hd (cs := #[.int .i64 a1_0,.slice A1_1 l1_1.length c1_1]) (t:=26) ?hr ?_;(case hd=>rfl);(case hg=>rfl);(case hr=>first|(go_simp;done)|(go_simp;rfl));intro gb262 hg w5 hbox hb;have n0_:=am (blk_below (bup BK261.out) hb);have n1_:=am (below_step bl hb);have n2_:=am (hbox);have n3_:=am (ge_ bl hg);have n4_:=am (ge_ bl hg);have n5_:=am (nl (bup BK261.out) hg);have n6_:=am (ng (bup BK261.out) hg);clear BK261 HB;have BK261:=n0_;have HB:=n1_;have BK262:=n2_;have GW262:=n3_;have GE262:=n4_;have NB261_262:=n5_;have NB262_261:=n6_;clear n0_ n1_ n2_ n3_ n4_ n5_ n6_ hb hbox hg))
 (try simp only[Act.put,List.setIfInBounds_toArray,List.set_cons_zero,List.set_cons_succ])
 go_cut [21] (fun v21 wc=>∃(kq:Nat) (x21_2:Bool),v21 = .bool x21_2∧Aside0 (impl_LeastTurn.j0 kq x21_2 a0_0 l0_1 a1_0 l1_1=some (r1,r2))∧Aside0 (kq≤k)∧Aside0 (wc.heap[gb261]?=some (.cells #[.int .i64 a0_0,(.slice A0_1 l0_1.length c0_1)] 26 (0,0)))∧Aside0 (wc.heap[gb262]?=some (.cells #[.int .i64 a1_0,(.slice A1_1 l1_1.length c1_1)] 26 (0,0)))∧Aside0 (Below w.heap.size w wc))
 case first =>
  have H:=HC3.out
  clear HC3
  replace H:=Option.bind_eq_some_iff.mp H
  obtain⟨t263,A60,H⟩:=H
  replace H:(if t263=true then((impl_IsPattern.f k a1_0 l1_1).bind fun t264=>(if t264=true then(impl_LeastTurn.j0 k (a0_0 != a1_0) a0_0 l0_1 a1_0 l1_1) else(impl_LeastTurn.j0 k true a0_0 l0_1 a1_0 l1_1))) else(impl_LeastTurn.j0 k true a0_0 l0_1 a1_0 l1_1))=some (r1,r2):=H
  have A6:=am A60
  clear A60
  by_cases c7:t263=true
  ·subst c7
   have H1:((impl_IsPattern.f k a1_0 l1_1).bind fun t264=>(if t264=true then(impl_LeastTurn.j0 k (a0_0 != a1_0) a0_0 l0_1 a1_0 l1_1) else(impl_LeastTurn.j0 k true a0_0 l0_1 a1_0 l1_1)))=some (r1,r2):=by rw[if_pos rfl] at H;exact H
   clear H
   have H:=H1
   clear H1
   replace H:=Option.bind_eq_some_iff.mp H
   obtain⟨t264,A80,H⟩:=H
   replace H:(if t264=true then(impl_LeastTurn.j0 k (a0_0 != a1_0) a0_0 l0_1 a1_0 l1_1) else(impl_LeastTurn.j0 k true a0_0 l0_1 a1_0 l1_1))=some (r1,r2):=H
   have A8:=am A80
   clear A80
   by_cases c9:t264=true
   ·subst c9
    have H1:(impl_LeastTurn.j0 k (a0_0 != a1_0) a0_0 l0_1 a1_0 l1_1)=some (r1,r2):=by rw[if_pos rfl] at H;exact H
    clear H
    have H:=H1
    clear H1
    have H':=am H
    clear H
    have hnb10:=NB261_262.out
    have hnc10:=NB262_261.out
    have hcz11_0:w5.cell? ⟨gb261,0,none⟩=some (.int .i64 a0_0):=(blk_cell BK261.out 0).trans rfl
    have hcz11_1:w5.cell? ⟨gb261,1,none⟩=some (.slice A0_1 l0_1.length c0_1):=(blk_cell BK261.out 1).trans rfl
    have hfz11_0:=blk_frozen BK261.out 0
    have hfz11_1:=blk_frozen BK261.out 1
    go_wp2_with (first|((with_reducible refine gate_callee (f:=22) rfl ?_);refine goesL_ (some 8) rfl rfl Try.func22 (by kernel_rfl) rfl #[.agg #[.int .i64 a0_0,.slice A0_1 l0_1.length c0_1]] rfl tl ?_;(with_reducible refine(impl_IsPattern.calls k a0_0 _ _ l0_1 true _ ?side1 ?side2 A6.out).mono ?_);(case side1=>exact cup (Kd.C_below HR0_1.out HB.out));(case side2=>exact HC0_1.out);rintro e w12 ⟨rfl,hb⟩;refine⟨_,rfl,?_⟩;have n0_:=am (blk_below (bup BK261.out) hb);have n1_:=am (blk_below (bup BK262.out) hb);have n2_:=am (below_step bl hb);clear BK261 BK262 HB;have BK261:=n0_;have BK262:=n1_;have HB:=n2_;clear n0_ n1_ n2_;(try clear hb);(try clear hb2);(try clear hk);(try clear hi);have hcz13_0:w12.cell? ⟨gb262,0,none⟩=some (.int .i64 a1_0):=(blk_cell BK262.out 0).trans rfl;have hcz13_1:w12.cell? ⟨gb262,1,none⟩=some (.slice A1_1 l1_1.length c1_1):=(blk_cell BK262.out 1).trans rfl;have hfz13_0:=blk_frozen BK262.out 0;have hfz13_1:=blk_frozen BK262.out 1)|(go_at_call 22;(with_reducible refine(impl_IsPattern.calls k a1_0 _ _ l1_1 true _ ?side1 ?side2 A8.out).mono ?_);(case side1=>exact cup (Kd.C_below HR1_1.out HB.out));(case side2=>exact HC1_1.out);rintro e w14 ⟨rfl,hb⟩;have n0_:=am (blk_below (bup BK261.out) hb);have n1_:=am (blk_below (bup BK262.out) hb);have n2_:=am (below_step bl hb);clear BK261 BK262 HB;have BK261:=n0_;have BK262:=n1_;have HB:=n2_;clear n0_ n1_ n2_;(try clear hb);(try clear hb2);(try clear hk);(try clear hi);have hcz15_0:w14.cell? ⟨gb261,0,none⟩=some (.int .i64 a0_0):=(blk_cell BK261.out 0).trans rfl;have hcz15_1:w14.cell? ⟨gb261,1,none⟩=some (.slice A0_1 l0_1.length c0_1):=(blk_cell BK261.out 1).trans rfl;have hfz15_0:=blk_frozen BK261.out 0;have hfz15_1:=blk_frozen BK261.out 1;have hcz16_0:w14.cell? ⟨gb262,0,none⟩=some (.int .i64 a1_0):=(blk_cell BK262.out 0).trans rfl;have hcz16_1:w14.cell? ⟨gb262,1,none⟩=some (.slice A1_1 l1_1.length c1_1):=(blk_cell BK262.out 1).trans rfl;have hfz16_0:=blk_frozen BK262.out 0;have hfz16_1:=blk_frozen BK262.out 1))
    go_meet
    case rel=>exact⟨_,((a0_0 != a1_0)),fin2,H',⟨by first|omega|exact Nat.le_refl _⟩,⟨bup BK261.out⟩,⟨bup BK262.out⟩,⟨bl⟩⟩
   ·replace c9:=Bool.eq_false_iff.mpr c9
    subst c9
    have H1:(impl_LeastTurn.j0 k true a0_0 l0_1 a1_0 l1_1)=some (r1,r2):=by rw[if_neg (show ¬ (false=true) by decide)] at H;exact H
    clear H
    have H:=H1
    clear H1
    have H':=am H
    clear H
    have hnb17:=NB261_262.out
    have hnc17:=NB262_261.out
    have hcz18_0:w5.cell? ⟨gb261,0,none⟩=some (.int .i64 a0_0):=(blk_cell BK261.out 0).trans rfl
    have hcz18_1:w5.cell? ⟨gb261,1,none⟩=some (.slice A0_1 l0_1.length c0_1):=(blk_cell BK261.out 1).trans rfl
    have hfz18_0:=blk_frozen BK261.out 0
    have hfz18_1:=blk_frozen BK261.out 1
    go_wp2_with (first|((with_reducible refine gate_callee (f:=22) rfl ?_);refine goesL_ (some 8) rfl rfl Try.func22 (by kernel_rfl) rfl #[.agg #[.int .i64 a0_0,.slice A0_1 l0_1.length c0_1]] rfl tl ?_;(with_reducible refine(impl_IsPattern.calls k a0_0 _ _ l0_1 true _ ?side1 ?side2 A6.out).mono ?_);(case side1=>exact cup (Kd.C_below HR0_1.out HB.out));(case side2=>exact HC0_1.out);rintro e w19 ⟨rfl,hb⟩;refine⟨_,rfl,?_⟩;have n0_:=am (blk_below (bup BK261.out) hb);have n1_:=am (blk_below (bup BK262.out) hb);have n2_:=am (below_step bl hb);clear BK261 BK262 HB;have BK261:=n0_;have BK262:=n1_;have HB:=n2_;clear n0_ n1_ n2_;(try clear hb);(try clear hb2);(try clear hk);(try clear hi);have hcz20_0:w19.cell? ⟨gb262,0,none⟩=some (.int .i64 a1_0):=(blk_cell BK262.out 0).trans rfl;have hcz20_1:w19.cell? ⟨gb262,1,none⟩=some (.slice A1_1 l1_1.length c1_1):=(blk_cell BK262.out 1).trans rfl;have hfz20_0:=blk_frozen BK262.out 0;have hfz20_1:=blk_frozen BK262.out 1)|(go_at_call 22;(with_reducible refine(impl_IsPattern.calls k a1_0 _ _ l1_1 false _ ?side1 ?side2 A8.out).mono ?_);(case side1=>exact cup (Kd.C_below HR1_1.out HB.out));(case side2=>exact HC1_1.out);rintro e w21 ⟨rfl,hb⟩;have n0_:=am (blk_below (bup BK261.out) hb);have n1_:=am (blk_below (bup BK262.out) hb);have n2_:=am (below_step bl hb);clear BK261 BK262 HB;have BK261:=n0_;have BK262:=n1_;have HB:=n2_;clear n0_ n1_ n2_;(try clear hb);(try clear hb2);(try clear hk);(try clear hi)))
    go_meet
    case rel=>exact⟨_,(true),fin2,H',⟨by first|omega|exact Nat.le_refl _⟩,⟨bup BK261.out⟩,⟨bup BK262.out⟩,⟨bl⟩⟩
  ·replace c7:=Bool.eq_false_iff.mpr c7
   subst c7
   have H1:(impl_LeastTurn.j0 k true a0_0 l0_1 a1_0 l1_1)=some (r1,r2):=by rw[if_neg (show ¬ (false=true) by decide)] at H;exact H
   clear H
   have H:=H1
   clear H1
   have H':=am H
   clear H
   have hnb22:=NB261_262.out
   have hnc22:=NB262_261.out
   have hcz23_0:w5.cell? ⟨gb261,0,none⟩=some (.int .i64 a0_0):=(blk_cell BK261.out 0).trans rfl
   have hcz23_1:w5.cell? ⟨gb261,1,none⟩=some (.slice A0_1 l0_1.length c0_1):=(blk_cell BK261.out 1).trans rfl
   have hfz23_0:=blk_frozen BK261.out 0
   have hfz23_1:=blk_frozen BK261.out 1
   go_wp2_with (first|((with_reducible refine gate_callee (f:=22) rfl ?_);refine goesL_ (some 8) rfl rfl Try.func22 (by kernel_rfl) rfl #[.agg #[.int .i64 a0_0,.slice A0_1 l0_1.length c0_1]] rfl tl ?_;(with_reducible refine(impl_IsPattern.calls k a0_0 _ _ l0_1 false _ ?side1 ?side2 A6.out).mono ?_);(case side1=>exact cup (Kd.C_below HR0_1.out HB.out));(case side2=>exact HC0_1.out);rintro e w24 ⟨rfl,hb⟩;refine⟨_,rfl,?_⟩;have n0_:=am (blk_below (bup BK261.out) hb);have n1_:=am (blk_below (bup BK262.out) hb);have n2_:=am (below_step bl hb);clear BK261 BK262 HB;have BK261:=n0_;have BK262:=n1_;have HB:=n2_;clear n0_ n1_ n2_;(try clear hb);(try clear hb2);(try clear hk);(try clear hi)))
   go_meet
   case rel=>exact⟨_,(true),fin2,H',⟨by first|omega|exact Nat.le_refl _⟩,⟨bup BK261.out⟩,⟨bup BK262.out⟩,⟨bl⟩⟩
 case rest =>
  clear HC3
  try clear c1
  try clear c2
  try clear p2
  try clear c7
  try clear c9
  try clear c10
  try clear c17
  try clear c22
  try clear hcz11_0
  try clear hcz11_1
  try clear hcz13_0
  try clear hcz13_1
  try clear hcz15_0
  try clear hcz15_1
  try clear hcz16_0
  try clear hcz16_1
  try clear hcz18_0
  try clear hcz18_1
  try clear hcz20_0
  try clear hcz20_1
  try clear hcz23_0
  try clear hcz23_1
  try clear hfz11_0
  try clear hfz11_1
  try clear hfz13_0
  try clear hfz13_1
  try clear hfz15_0
  try clear hfz15_1
  try clear hfz16_0
  try clear hfz16_1
  try clear hfz18_0
  try clear hfz18_1
  try clear hfz20_0
  try clear hfz20_1
  try clear hfz23_0
  try clear hfz23_1
  obtain⟨kq,x21_2,rfl,HA,HJ2,BK261,BK262,HB⟩:=hcut
  cases kq with
  | zero=>exact absurd HA.out (by simp [impl_LeastTurn.j0])
  | succ kj2 =>
   have H:=HA.out
   clear HA
   simp only[impl_LeastTurn.j0] at H
   by_cases c25:x21_2=true
   ·subst c25
    have H1:(some (0,false))=some (r1,r2):=by rw[if_pos rfl] at H;exact H
    clear H
    have H:=H1
    clear H1
    simp only[Option.some.injEq,Prod.mk.injEq] at H
    obtain⟨rfl,rfl⟩:=H
    go_wp2
    go_ret2
    exact⟨fin1,bl⟩
   ·replace c25:=Bool.eq_false_iff.mpr c25
    subst c25
    have H1:(impl_LeastTurn.l0 kj2 a0_0 0 a0_0 l0_1 a1_0 l1_1)=some (r1,r2):=by rw[if_neg (show ¬ (false=true) by decide)] at H;exact H
    clear H
    have H:=H1
    clear H1
    have H':=am H
    clear H
    have hnb26:=NB261_262.out
    have hnc26:=NB262_261.out
    have hcz27_0:wc.cell? ⟨gb261,0,none⟩=some (.int .i64 a0_0):=(blk_cell BK261.out 0).trans rfl
    have hcz27_1:wc.cell? ⟨gb261,1,none⟩=some (.slice A0_1 l0_1.length c0_1):=(blk_cell BK261.out 1).trans rfl
    have hfz27_0:=blk_frozen BK261.out 0
    have hfz27_1:=blk_frozen BK261.out 1
    go_wp2
    go_loopg [24] kj2 (fun kq v24 w'=>∃(x24_2:Int),v24 = .int .i64 x24_2∧Aside0 (impl_LeastTurn.l0 kq a0_0 x24_2 a0_0 l0_1 a1_0 l1_1=some (r1,r2))∧Aside0 (kq≤kj2)∧Aside0 (w'.heap[gb261]?=some (.cells #[.int .i64 a0_0,(.slice A0_1 l0_1.length c0_1)] 26 (0,0)))∧Aside0 (w'.heap[gb262]?=some (.cells #[.int .i64 a1_0,(.slice A1_1 l1_1.length c1_1)] 26 (0,0)))∧Aside0 (Below w.heap.size w w'))
    case atStart=>exact⟨(0),fin2,H',⟨Nat.le_refl _⟩,⟨bup BK261.out⟩,⟨bup BK262.out⟩,⟨bl⟩⟩
    case round =>
     clear H'
     try clear c1
     try clear c2
     try clear p2
     try clear c7
     try clear c9
     try clear c10
     try clear c17
     try clear c22
     try clear c25
     try clear c26
     try clear hcz11_0
     try clear hcz11_1
     try clear hcz13_0
     try clear hcz13_1
     try clear hcz15_0
     try clear hcz15_1
     try clear hcz16_0
     try clear hcz16_1
     try clear hcz18_0
     try clear hcz18_1
     try clear hcz20_0
     try clear hcz20_1
     try clear hcz23_0
     try clear hcz23_1
     try clear hcz27_0
     try clear hcz27_1
     try clear hfz11_0
     try clear hfz11_1
     try clear hfz13_0
     try clear hfz13_1
     try clear hfz15_0
     try clear hfz15_1
     try clear hfz16_0
     try clear hfz16_1
     try clear hfz18_0
     try clear hfz18_1
     try clear hfz20_0
     try clear hfz20_1
     try clear hfz23_0
     try clear hfz23_1
     try clear hfz27_0
     try clear hfz27_1
     try clear p2
     obtain⟨x24_2,rfl,HA,HK2,BK261,BK262,HB⟩:=hrel
     cases gk with
     | zero=>exact absurd HA.out (by simp [impl_LeastTurn.l0])
     | succ k2 =>
      have H:=HA.out
      clear HA
      simp only[impl_LeastTurn.l0] at H
      by_cases c28:x24_2<a0_0
      ·rw[if_pos c28] at H
       have c28b0:decide (x24_2<a0_0)=true:=decide_eq_true c28
       clear c28
       replace H:=Option.bind_eq_some_iff.mp H
       obtain⟨⟨t265,t266⟩,A290,H⟩:=H
       replace H:((slices_Equal_int_int.f k2 t266 l1_1).bind fun t269=>(if t269=true then(some (x24_2,true)) else(impl_LeastTurn.l0 k2 a0_0 (wrap64 (x24_2+1)) a0_0 l0_1 a1_0 l1_1)))=some (r1,r2):=H
       have A29:=am A290
       clear A290
       replace H:=Option.bind_eq_some_iff.mp H
       obtain⟨t269,A300,H⟩:=H
       replace H:(if t269=true then(some (x24_2,true)) else(impl_LeastTurn.l0 k2 a0_0 (wrap64 (x24_2+1)) a0_0 l0_1 a1_0 l1_1))=some (r1,r2):=H
       have A30:=am A300
       clear A300
       by_cases c31:t269=true
       ·subst c31
        have H1:(some (x24_2,true))=some (r1,r2):=by rw[if_pos rfl] at H;exact H
        clear H
        have H:=H1
        clear H1
        simp only[Option.some.injEq,Prod.mk.injEq] at H
        obtain⟨rfl,rfl⟩:=H
        try go_wp2
        have n0_:=am (bD_ BK261.out)
        have n1_:=am (bD_ BK262.out)
        have n2_:=am (below_drew1 HB.out)
        clear BK261
        clear BK262
        clear HB
        have BK261:=n0_
        have BK262:=n1_
        have HB:=n2_
        clear n0_ n1_ n2_
        refine start_ (n:=7) (S:=fun w'=>w'.cell? ⟨gb261,0,none⟩=some (.int .i64 a0_0)∧w'.cell? ⟨gb261,1,none⟩=some (.slice A0_1 l0_1.length c0_1)∧w'.cell? ⟨gb262,0,none⟩=some (.int .i64 a1_0)∧w'.cell? ⟨gb262,1,none⟩=some (.slice A1_1 l1_1.length c1_1)) (ds:=[]) #[false,false,false,false,false,false,false] (by kernel_rfl) rfl rfl ⟨(blk_cell BK261.out 0).trans rfl,(blk_cell BK261.out 1).trans rfl,(blk_cell BK262.out 0).trans rfl,(blk_cell BK262.out 1).trans rfl⟩ (fun hHeld=>?_)
        generalize wr.drew=w32 at BK261 BK262 HB hHeld ⊢
        refine pure_ (i:=1) (N:=some 28) (v:=?_) (a':=?_) #[false,true,false,false,false,false,false] rfl rfl (by kernel_rfl) (fun _ _ _ h=>h) (Or.inl ⟨by rfl,?_⟩) ?_ ?_
        rotate_left
        ·intro w'
         go_simp
         with_reducible rfl
        rotate_left
        ·simp only[Act.put,List.setIfInBounds_toArray,List.set_cons_zero,List.set_cons_succ,i64_w,i32_w]
         rfl
        refine pure_ (i:=4) (N:=some 31) (v:=?_) (a':=?_) #[false,true,false,false,true,false,false] rfl rfl (by kernel_rfl) (fun _ _ _ h=>h) (Or.inl ⟨by rfl,?_⟩) ?_ ?_
        rotate_left
        ·intro w'
         go_simp
         with_reducible rfl
        rotate_left
        ·simp only[Act.put,List.setIfInBounds_toArray,List.set_cons_zero,List.set_cons_succ,i64_w,i32_w]
         rfl
        refine take_ (i:=0) (N:=some 27) (v:=?_) (a':=?_) #[true,true,false,false,true,false,false] rfl rfl (by kernel_rfl) (fun _ _ _ h=>h) (Or.inl ⟨by rfl,?_⟩) hHeld ?_ ?_
        rotate_left
        ·rintro w' ⟨s0,s1,s2,s3⟩
         go_simp
         with_reducible rfl
        rotate_left
        ·simp only[Act.put,List.setIfInBounds_toArray,List.set_cons_zero,List.set_cons_succ,i64_w,i32_w]
         rfl
        refine take_ (i:=5) (N:=some 32) (v:=?_) (a':=?_) #[true,true,false,false,true,true,false] rfl rfl (by kernel_rfl) (fun _ _ _ h=>h) (Or.inl ⟨by rfl,?_⟩) hHeld ?_ ?_
        rotate_left
        ·rintro w' ⟨s0,s1,s2,s3⟩
         go_simp
         with_reducible rfl
        rotate_left
        ·simp only[Act.put,List.setIfInBounds_toArray,List.set_cons_zero,List.set_cons_succ,i64_w,i32_w]
         rfl
        refine one_ (i:=2) (N:=some 29) #[true,true,true,false,true,true,false] rfl rfl (by kernel_rfl) (by decide) (fun K hK=>?_)
        refine goes_ Try.func23 (by kernel_rfl) rfl #[.agg #[.int .i64 a0_0,.slice A0_1 l0_1.length c0_1],.int .i64 x24_2] (by rfl) rfl rfl tl ?_
        with_reducible refine(impl_turnPattern.calls k2 a0_0 _ _ l0_1 x24_2 t265 t266 _ ?side1 ?side2 A29.out).mono ?_
        (case side1=>exact cup (Kd.C_below HR0_1.out HB.out))
        (case side2=>exact HC0_1.out)
        rintro e w33 ⟨v267,rfl,ho0,hb⟩
        refine⟨_,rfl,?_⟩
        have n0_:=am (Kd.R_lower ho0 (below_size bl))
        have n1_:=am (blk_below (bup BK261.out) hb)
        have n2_:=am (blk_below (bup BK262.out) hb)
        have n3_:=am (below_step bl hb)
        clear BK261
        clear BK262
        clear HB
        have HO268:=n0_
        have BK261:=n1_
        have BK262:=n2_
        have HB:=n3_
        clear n0_ n1_ n2_ n3_
        (try clear hb)
        (try clear hb2)
        (try clear hk)
        (try clear hi)
        (try clear ho0)
        obtain⟨Ao34,co34,eo34⟩:=Kd.R_slice HO268.out
        (first|subst eo34|(injection eo34 with f1_ f2_ f3_;have f4_:=f1_.symm;have f5_:=f3_.symm;clear f1_ f2_ f3_;subst f4_;subst f5_))
        refine hK.out _ _ ⟨(blk_cell BK261.out 0).trans rfl,(blk_cell BK261.out 1).trans rfl,(blk_cell BK262.out 0).trans rfl,(blk_cell BK262.out 1).trans rfl⟩ (fun hHeld=>?_)
        clear hK K
        refine norm_ (a':=?_) ?_ ?_
        rotate_left
        ·show Act.put _ (some 29) _=_
         simp only[Act.put,List.setIfInBounds_toArray,List.set_cons_zero,List.set_cons_succ,i64_w,i32_w]
         rfl
        refine pure_ (i:=3) (N:=some 30) (v:=?_) (a':=?_) #[true,true,true,true,true,true,false] rfl rfl (by kernel_rfl) (fun _ _ _ h=>h) (Or.inl ⟨by rfl,?_⟩) ?_ ?_
        rotate_left
        ·intro w'
         go_simp
         with_reducible rfl
        rotate_left
        ·simp only[Act.put,List.setIfInBounds_toArray,List.set_cons_zero,List.set_cons_succ,i64_w,i32_w]
         rfl
        refine one_ (i:=6) (N:=some 33) #[true,true,true,true,true,true,true] rfl rfl (by kernel_rfl) (by decide) (fun K hK=>?_)
        refine goes_ Try.func28 (by kernel_rfl) rfl #[.slice Ao34 t266.length co34,.slice A1_1 l1_1.length c1_1] (by rfl) rfl rfl tl ?_
        with_reducible refine(slices_Equal_int_int.calls k2 _ _ t266 _ _ l1_1 true _ ?side1 ?side2 ?side3 ?side4 A30.out).mono ?_
        (case side1=>repeat(first|exact(Kd.R_reads' HO268.out).2.2|(with_reducible refine Kd.C_alloc ?_ _)|(with_reducible refine Kd.C_drewN ?_ _)|(with_reducible refine Kd.C_drew ?_)))
        (case side2=>exact(Kd.R_reads' HO268.out).2.1)
        (case side3=>exact cup (Kd.C_below HR1_1.out HB.out))
        (case side4=>exact HC1_1.out)
        rintro e w' ⟨rfl,⟨nd,rfl⟩⟩
        refine⟨_,rfl,?_⟩
        refine hK.out _ _ ⟨(blk_cell BK261.out 0).trans rfl,(blk_cell BK261.out 1).trans rfl,(blk_cell BK262.out 0).trans rfl,(blk_cell BK262.out 1).trans rfl⟩ (fun hHeld=>?_)
        clear hK K
        refine norm_ (a':=?_) ?_ ?_
        rotate_left
        ·show Act.put _ (some 33) _=_
         simp only[Act.put,List.setIfInBounds_toArray,List.set_cons_zero,List.set_cons_succ,i64_w,i32_w]
         rfl
        refine done_ (by kernel_rfl) ?_
        try go_wp2
        go_ret2
        exact⟨fin1,bl⟩
       ·replace c31:=Bool.eq_false_iff.mpr c31
        subst c31
        have H1:(impl_LeastTurn.l0 k2 a0_0 (wrap64 (x24_2+1)) a0_0 l0_1 a1_0 l1_1)=some (r1,r2):=by rw[if_neg (show ¬ (false=true) by decide)] at H;exact H
        clear H
        have H:=H1
        clear H1
        have H':=am H
        clear H
        try go_wp2
        have n0_:=am (bD_ BK261.out)
        have n1_:=am (bD_ BK262.out)
        have n2_:=am (below_drew1 HB.out)
        clear BK261
        clear BK262
        clear HB
        have BK261:=n0_
        have BK262:=n1_
        have HB:=n2_
        clear n0_ n1_ n2_
        refine start_ (n:=7) (S:=fun w'=>w'.cell? ⟨gb261,0,none⟩=some (.int .i64 a0_0)∧w'.cell? ⟨gb261,1,none⟩=some (.slice A0_1 l0_1.length c0_1)∧w'.cell? ⟨gb262,0,none⟩=some (.int .i64 a1_0)∧w'.cell? ⟨gb262,1,none⟩=some (.slice A1_1 l1_1.length c1_1)) (ds:=[]) #[false,false,false,false,false,false,false] (by kernel_rfl) rfl rfl ⟨(blk_cell BK261.out 0).trans rfl,(blk_cell BK261.out 1).trans rfl,(blk_cell BK262.out 0).trans rfl,(blk_cell BK262.out 1).trans rfl⟩ (fun hHeld=>?_)
        generalize wr.drew=w35 at BK261 BK262 HB hHeld ⊢
        refine pure_ (i:=1) (N:=some 28) (v:=?_) (a':=?_) #[false,true,false,false,false,false,false] rfl rfl (by kernel_rfl) (fun _ _ _ h=>h) (Or.inl ⟨by rfl,?_⟩) ?_ ?_
        rotate_left
        ·intro w'
         go_simp
         with_reducible rfl
        rotate_left
        ·simp only[Act.put,List.setIfInBounds_toArray,List.set_cons_zero,List.set_cons_succ,i64_w,i32_w]
         rfl
        refine pure_ (i:=4) (N:=some 31) (v:=?_) (a':=?_) #[false,true,false,false,true,false,false] rfl rfl (by kernel_rfl) (fun _ _ _ h=>h) (Or.inl ⟨by rfl,?_⟩) ?_ ?_
        rotate_left
        ·intro w'
         go_simp
         with_reducible rfl
        rotate_left
        ·simp only[Act.put,List.setIfInBounds_toArray,List.set_cons_zero,List.set_cons_succ,i64_w,i32_w]
         rfl
        refine take_ (i:=0) (N:=some 27) (v:=?_) (a':=?_) #[true,true,false,false,true,false,false] rfl rfl (by kernel_rfl) (fun _ _ _ h=>h) (Or.inl ⟨by rfl,?_⟩) hHeld ?_ ?_
        rotate_left
        ·rintro w' ⟨s0,s1,s2,s3⟩
         go_simp
         with_reducible rfl
        rotate_left
        ·simp only[Act.put,List.setIfInBounds_toArray,List.set_cons_zero,List.set_cons_succ,i64_w,i32_w]
         rfl
        refine take_ (i:=5) (N:=some 32) (v:=?_) (a':=?_) #[true,true,false,false,true,true,false] rfl rfl (by kernel_rfl) (fun _ _ _ h=>h) (Or.inl ⟨by rfl,?_⟩) hHeld ?_ ?_
        rotate_left
        ·rintro w' ⟨s0,s1,s2,s3⟩
         go_simp
         with_reducible rfl
        rotate_left
        ·simp only[Act.put,List.setIfInBounds_toArray,List.set_cons_zero,List.set_cons_succ,i64_w,i32_w]
         rfl
        refine one_ (i:=2) (N:=some 29) #[true,true,true,false,true,true,false] rfl rfl (by kernel_rfl) (by decide) (fun K hK=>?_)
        refine goes_ Try.func23 (by kernel_rfl) rfl #[.agg #[.int .i64 a0_0,.slice A0_1 l0_1.length c0_1],.int .i64 x24_2] (by rfl) rfl rfl tl ?_
        with_reducible refine(impl_turnPattern.calls k2 a0_0 _ _ l0_1 x24_2 t265 t266 _ ?side1 ?side2 A29.out).mono ?_
        (case side1=>exact cup (Kd.C_below HR0_1.out HB.out))
        (case side2=>exact HC0_1.out)
        rintro e w36 ⟨v267,rfl,ho0,hb⟩
        refine⟨_,rfl,?_⟩
        have n0_:=am (Kd.R_lower ho0 (below_size bl))
        have n1_:=am (blk_below (bup BK261.out) hb)
        have n2_:=am (blk_below (bup BK262.out) hb)
        have n3_:=am (below_step bl hb)
        clear BK261
        clear BK262
        clear HB
        have HO268:=n0_
        have BK261:=n1_
        have BK262:=n2_
        have HB:=n3_
        clear n0_ n1_ n2_ n3_
        (try clear hb)
        (try clear hb2)
        (try clear hk)
        (try clear hi)
        (try clear ho0)
        obtain⟨Ao37,co37,eo37⟩:=Kd.R_slice HO268.out
        (first|subst eo37|(injection eo37 with f1_ f2_ f3_;have f4_:=f1_.symm;have f5_:=f3_.symm;clear f1_ f2_ f3_;subst f4_;subst f5_))
        refine hK.out _ _ ⟨(blk_cell BK261.out 0).trans rfl,(blk_cell BK261.out 1).trans rfl,(blk_cell BK262.out 0).trans rfl,(blk_cell BK262.out 1).trans rfl⟩ (fun hHeld=>?_)
        clear hK K
        refine norm_ (a':=?_) ?_ ?_
        rotate_left
        ·show Act.put _ (some 29) _=_
         simp only[Act.put,List.setIfInBounds_toArray,List.set_cons_zero,List.set_cons_succ,i64_w,i32_w]
         rfl
        refine pure_ (i:=3) (N:=some 30) (v:=?_) (a':=?_) #[true,true,true,true,true,true,false] rfl rfl (by kernel_rfl) (fun _ _ _ h=>h) (Or.inl ⟨by rfl,?_⟩) ?_ ?_
        rotate_left
        ·intro w'
         go_simp
         with_reducible rfl
        rotate_left
        ·simp only[Act.put,List.setIfInBounds_toArray,List.set_cons_zero,List.set_cons_succ,i64_w,i32_w]
         rfl
        refine one_ (i:=6) (N:=some 33) #[true,true,true,true,true,true,true] rfl rfl (by kernel_rfl) (by decide) (fun K hK=>?_)
        refine goes_ Try.func28 (by kernel_rfl) rfl #[.slice Ao37 t266.length co37,.slice A1_1 l1_1.length c1_1] (by rfl) rfl rfl tl ?_
        with_reducible refine(slices_Equal_int_int.calls k2 _ _ t266 _ _ l1_1 false _ ?side1 ?side2 ?side3 ?side4 A30.out).mono ?_
        (case side1=>repeat(first|exact(Kd.R_reads' HO268.out).2.2|(with_reducible refine Kd.C_alloc ?_ _)|(with_reducible refine Kd.C_drewN ?_ _)|(with_reducible refine Kd.C_drew ?_)))
        (case side2=>exact(Kd.R_reads' HO268.out).2.1)
        (case side3=>exact cup (Kd.C_below HR1_1.out HB.out))
        (case side4=>exact HC1_1.out)
        rintro e w' ⟨rfl,⟨nd,rfl⟩⟩
        refine⟨_,rfl,?_⟩
        refine hK.out _ _ ⟨(blk_cell BK261.out 0).trans rfl,(blk_cell BK261.out 1).trans rfl,(blk_cell BK262.out 0).trans rfl,(blk_cell BK262.out 1).trans rfl⟩ (fun hHeld=>?_)
        clear hK K
        refine norm_ (a':=?_) ?_ ?_
        rotate_left
        ·show Act.put _ (some 33) _=_
         simp only[Act.put,List.setIfInBounds_toArray,List.set_cons_zero,List.set_cons_succ,i64_w,i32_w]
         rfl
        refine done_ (by kernel_rfl) ?_
        try go_wp2
        go_roundg k2
        case measure=>have:=HJ2.out;have:=HK2.out;omega
        case rel=>exact⟨(wrap64 (x24_2+1)),fin2,H',⟨by have:=HJ2.out;have:=HK2.out;omega⟩,⟨bup BK261.out⟩,⟨bup BK262.out⟩,⟨bl⟩⟩
      ·rw[if_neg c28] at H
       have c28b0:decide (x24_2<a0_0)=false:=decide_eq_false c28
       clear c28
       simp only[Option.some.injEq,Prod.mk.injEq] at H
       obtain⟨rfl,rfl⟩:=H
       go_wp2
       go_ret2
       exact⟨fin1,bl⟩

/-! ### spec_l1Same: function 29 -/
def spec_l1Same.l0:Nat→List Int→List Int→Int→Int→Option (Bool)
 | 0,_,_,_,_=>none
 | k+1,x0,x1,x12,x13=>if x13<x12 then(if 0≤x13 then(if x13<(x0.length:Int) then(if x13<(x1.length:Int) then(if(rd x0 x13)=(rd x1 x13) then(spec_l1Same.l0 k x0 x1 x12 (wrap64 (x13+1))) else(some false)) else(none)) else(none)) else(none)) else(some true)
def spec_l1Same.f (k:Nat) (l0:List Int) (l1:List Int):Option (Bool):=if(l0.length:Int)=(l1.length:Int) then(spec_l1Same.l0 k l0 l1 (l0.length:Int) 0) else(some false)
set_option maxHeartbeats 8000000 in
set_option maxRecDepth 100000 in
theorem spec_l1Same.calls (k:Nat) (A0:Option Addr) (c0:Nat) (l0:List Int) (A1:Option Addr) (c1:Nat) (l1:List Int) (r:Bool) (w:World) (hr0:Kd.C (Kd.int .i64) w A0 l0.length l0) (hc0:l0.length≤c0) (hr1:Kd.C (Kd.int .i64) w A1 l1.length l1) (hc1:l1.length≤c1) (h:spec_l1Same.f k l0 l1=some r) :
  Calls Try.prog 29 #[.slice A0 l0.length c0,.slice A1 l1.length c1] w fun e w'=>e = .returned (.bool r)∧Drawn0 w w':=by
 have HR0:=am hr0
 have HC0:=am hc0
 clear hr0 hc0
 have HR1:=am hr1
 have HC1:=am hc1
 clear hr1 hc1
 have H:(if(l0.length:Int)=(l1.length:Int) then(spec_l1Same.l0 k l0 l1 (l0.length:Int) 0) else(some false))=some r:=h
 clear h
 by_cases c3:(l0.length:Int)=(l1.length:Int)
 ·rw[if_pos c3] at H
  have c3b0:((l0.length:Int) == (l1.length:Int))=true:=beq_iff_eq.mpr c3
  have c3b1:((l0.length:Int) != (l1.length:Int))=false:=bne_eq_false_iff_eq.mpr c3
  have c3b2:(l0.length == l1.length)=true:=by first|simpa using c3|(simp at c3 ⊢;omega)
  clear c3
  have H':=am H
  clear H
  go_enter Try.func29,Try.ntmps29
  go_wp2
  repeat(go_quiet (fail);try go_wp2)
  go_loopg [13] k (fun kq v13 w'=>∃(x13_1:Int),v13 = .int .i64 x13_1∧Aside0 (spec_l1Same.l0 kq l0 l1 (l0.length:Int) x13_1=some r)∧Aside0 (kq≤k)∧Drawn0 w w')
  case atStart=>exact⟨(0),fin2,H',⟨Nat.le_refl _⟩,by repeat(first|exact Drawn0.refl _|apply Drawn0.step)⟩
  case round =>
   clear H'
   try clear c1
   try clear c2
   try clear p2
   try clear c3
   try clear c3b0
   try clear c3b1
   try clear c3b2
   obtain⟨x13_1,rfl,HA,HK1,⟨m1,rfl⟩⟩:=hrel
   cases gk with
   | zero=>exact absurd HA.out (by simp [spec_l1Same.l0])
   | succ k1 =>
    have H:=HA.out
    clear HA
    simp only[spec_l1Same.l0] at H
    by_cases c4:x13_1<(l0.length:Int)
    ·rw[if_pos c4] at H
     have c4b0:decide (x13_1<(l0.length:Int))=true:=decide_eq_true c4
     clear c4
     by_cases c5:0≤x13_1
     ·rw[if_pos c5] at H
      have c5b0:decide (0≤x13_1)=true:=decide_eq_true c5
      clear c5
      by_cases c6:x13_1<(l0.length:Int)
      ·rw[if_pos c6] at H
       have c6b0:decide (x13_1<(l0.length:Int))=true:=decide_eq_true c6
       clear c6
       by_cases c7:x13_1<(l1.length:Int)
       ·rw[if_pos c7] at H
        have c7b0:decide (x13_1<(l1.length:Int))=true:=decide_eq_true c7
        clear c7
        by_cases c8:(rd l0 x13_1)=(rd l1 x13_1)
        ·rw[if_pos c8] at H
         have c8b0:((rd l0 x13_1) == (rd l1 x13_1))=true:=beq_iff_eq.mpr c8
         have c8b1:((rd l0 x13_1) != (rd l1 x13_1))=false:=bne_eq_false_iff_eq.mpr c8
         clear c8
         have H':=am H
         clear H
         have p270:0≤(x13_1:Int):=od
         have q270:x13_1<(l0.length:Int):=od
         obtain⟨ad270,e270,hx270_0⟩:=Kd.at_int HR0.out x13_1 p270 q270
         cases e270
         replace p270:=eq_true p270
         replace q270:=eq_true q270
         have p271:0≤(x13_1:Int):=od
         have q271:x13_1<(l1.length:Int):=od
         obtain⟨ad271,e271,hx271_0⟩:=Kd.at_int HR1.out x13_1 p271 q271
         cases e271
         replace p271:=eq_true p271
         replace q271:=eq_true q271
         go_wp2
         repeat(go_quiet (fail);try go_wp2)
         go_roundg k1
         case measure=>have:=HK1.out;omega
         case rel=>exact⟨(wrap64 (x13_1+1)),fin2,H',⟨by have:=HK1.out;omega⟩,by repeat(first|exact Drawn0.refl _|apply Drawn0.step)⟩
        ·rw[if_neg c8] at H
         have c8b0:((rd l0 x13_1) == (rd l1 x13_1))=false:=beq_eq_false_iff_ne.mpr c8
         have c8b1:((rd l0 x13_1) != (rd l1 x13_1))=true:=bne_iff_ne.mpr c8
         obtain rfl:=Option.some.inj H
         have p270:0≤(x13_1:Int):=od
         have q270:x13_1<(l0.length:Int):=od
         obtain⟨ad270,e270,hx270_0⟩:=Kd.at_int HR0.out x13_1 p270 q270
         cases e270
         replace p270:=eq_true p270
         replace q270:=eq_true q270
         have p271:0≤(x13_1:Int):=od
         have q271:x13_1<(l1.length:Int):=od
         obtain⟨ad271,e271,hx271_0⟩:=Kd.at_int HR1.out x13_1 p271 q271
         cases e271
         replace p271:=eq_true p271
         replace q271:=eq_true q271
         go_wp2
         repeat(go_quiet (fail);try go_wp2)
         go_ret
         exact⟨by first|rfl|(simp;done)|(simp [*];done),by repeat(first|exact Drawn0.refl _|apply Drawn0.step)⟩
       ·rw[if_neg c7] at H
        exact absurd H (by simp)
      ·rw[if_neg c6] at H
       exact absurd H (by simp)
     ·rw[if_neg c5] at H
      exact absurd H (by simp)
    ·rw[if_neg c4] at H
     have c4b0:decide (x13_1<(l0.length:Int))=false:=decide_eq_false c4
     clear c4
     obtain rfl:=Option.some.inj H
     go_wp2
     repeat(go_quiet (fail);try go_wp2)
     go_ret
     exact⟨by first|rfl|(simp;done)|(simp [*];done),by repeat(first|exact Drawn0.refl _|apply Drawn0.step)⟩
 ·rw[if_neg c3] at H
  have c3b0:((l0.length:Int) == (l1.length:Int))=false:=beq_eq_false_iff_ne.mpr c3
  have c3b1:((l0.length:Int) != (l1.length:Int))=true:=bne_iff_ne.mpr c3
  have c3b2:(l0.length == l1.length)=false:=by first|simpa using c3|(simp at c3 ⊢;omega)
  obtain rfl:=Option.some.inj H
  go_enter Try.func29,Try.ntmps29
  go_wp2
  repeat(go_quiet (fail);try go_wp2)
  go_ret
  exact⟨by first|rfl|(simp;done)|(simp [*];done),by repeat(first|exact Drawn0.refl _|apply Drawn0.step)⟩

end Go.Proofs.Ytlhjjpdlfddflac.PFnDrums
