/- The walks of functions that FnExactFaultsOf reaches: what they return is what the plain functions of the same names say. Laid by a program of this session after the kit's print. No conditions beyond the arguments' being read. -/
import Derived.Test.YtipklbjbgbbgpaaSFaultsOf0
import Derived.Test.YtipklbjbgbbgpaaSFaultsOf1
import Derived.Test.YtipklbjbgbbgpaaSFaultsOf15
import Derived.Test.YtipklbjbgbbgpaaSFaultsOf18
namespace Go.Proofs.Ytipklbjbgbbgpaa.PFnExactFaultsOf
open Go.RowKit Go.Proofs.YtipklbjbgbbgpaaW.PrintWords Go.Proofs.YtipklbjbgbbgpaaW.PrintLast Go.Proofs.YtipklbjbgbbgpaaW.PrintMore
attribute [local go_sem] max2_int min2_int max_two min_two max_three min_three max_four min_four   -- for this text's walks alone
set_option linter.unusedVariables false
set_option linter.unusedSimpArgs false

def impl_isTolerance.f (a0:Int):Option (Bool):=if a0≥0 then(some (decide (a0≤50))) else(some false)
set_option maxHeartbeats 8000000 in
set_option maxRecDepth 100000 in
theorem impl_isTolerance.calls (a0:Int) (r:Bool) (w:World) (h:impl_isTolerance.f a0=some r) :
  Calls Try.prog 40 #[.int .i64 a0] w fun e w'=>e = .returned (.bool r)∧Drawn0 w w':=by
 have H:(if a0≥0 then(some (decide (a0≤50))) else(some false))=some r:=h
 clear h
 rcases itc H with⟨c2,H⟩|⟨c2,H⟩
 ·have c2b0:decide (0≤a0)=true:=decide_eq_true c2
  clear c2
  obtain rfl:=Option.some.inj H
  go_enter Try.func40,Try.ntmps40
  go_wp2
  go_ret
  exact⟨by first|rfl|(simp;done)|(simp [*];done),by repeat(first|exact Drawn0.refl _|apply Drawn0.step)⟩
 ·have c2b0:decide (0≤a0)=false:=decide_eq_false c2
  clear c2
  obtain rfl:=Option.some.inj H
  go_enter Try.func40,Try.ntmps40
  go_wp2
  go_ret
  exact⟨by first|rfl|(simp;done)|(simp [*];done),by repeat(first|exact Drawn0.refl _|apply Drawn0.step)⟩

def impl_FaultsOf.f (k:Nat) (l0_0:List Int) (a0_1:Int) (l1:List (S62)) (l2:List (S66)) (a3_0:Int) (a3_1:Int) (a3_2:Int) (a4:Int):Option ((List (List Int))×Bool):=(impl_canMatch.f k l0_0 a0_1 l1 l2).bind fun t440=>(if t440=true then((impl_IsAction.f a3_0 a3_1 a3_2).bind fun t441=>(if t441=true then((impl_isTolerance.f a4).bind fun t442=>(if t442=true then((impl_faultsOf.f k l0_0 a0_1 l1 l2 a3_0 a3_1 a3_2 a4).bind fun t443=>(some (t443,true))) else(some (([]:List (List Int)),false)))) else(some (([]:List (List Int)),false)))) else(some (([]:List (List Int)),false)))
set_option maxHeartbeats 8000000 in
set_option maxRecDepth 100000 in
theorem impl_FaultsOf.calls (k:Nat) (A0_0:Option Addr) (c0_0:Nat) (l0_0:List Int) (a0_1:Int) (A1:Option Addr) (c1:Nat) (l1:List (S62)) (A2:Option Addr) (c2:Nat) (l2:List (S66)) (a3_0:Int) (a3_1:Int) (a3_2:Int) (a4:Int) (r1:List (List Int)) (r2:Bool) (w:World) (hr0_0:Kd.C (Kd.int .i64) w A0_0 l0_0.length l0_0) (hc0_0:l0_0.length≤c0_0) (hr1:Kd.C k62 w A1 l1.length l1) (hc1:l1.length≤c1) (hr2:Kd.C k66 w A2 l2.length l2) (hc2:l2.length≤c2) (h:impl_FaultsOf.f k l0_0 a0_1 l1 l2 a3_0 a3_1 a3_2 a4=some (r1,r2)) :
  Calls Try.prog 21 #[.agg #[.slice A0_0 l0_0.length c0_0,.int .i64 a0_1],.slice A1 l1.length c1,.slice A2 l2.length c2,.agg #[.int .i64 a3_0,.int .i64 a3_1,.int .i64 a3_2],.int .i64 a4] w fun e w'=>∃ v0_:Value,e = .returned (.tuple #[v0_,.bool r2])∧Kd.S (Kd.slice 3 (Kd.int .i64)) 22 w' w.heap.size (fun _=>True) v0_ r1∧Below w.heap.size w w':=by
 have hu34:=Try.underlying34
 have hu40:=Try.underlying40
 have HR0_0:=am hr0_0
 have HC0_0:=am hc0_0
 clear hr0_0 hc0_0
 have HR1:=am hr1
 have HC1:=am hc1
 clear hr1 hc1
 have HR2:=am hr2
 have HC2:=am hc2
 clear hr2 hc2
 have HB:=am (Below.refl w.heap.size w)
 have H:((impl_canMatch.f k l0_0 a0_1 l1 l2).bind fun t440=>(if t440=true then((impl_IsAction.f a3_0 a3_1 a3_2).bind fun t441=>(if t441=true then((impl_isTolerance.f a4).bind fun t442=>(if t442=true then((impl_faultsOf.f k l0_0 a0_1 l1 l2 a3_0 a3_1 a3_2 a4).bind fun t443=>(some (t443,true))) else(some (([]:List (List Int)),false)))) else(some (([]:List (List Int)),false)))) else(some (([]:List (List Int)),false))))=some (r1,r2):=h
 clear h
 replace H:=Option.bind_eq_some_iff.mp H
 obtain⟨t440,A60,H⟩:=H
 replace H:(if t440=true then((impl_IsAction.f a3_0 a3_1 a3_2).bind fun t441=>(if t441=true then((impl_isTolerance.f a4).bind fun t442=>(if t442=true then((impl_faultsOf.f k l0_0 a0_1 l1 l2 a3_0 a3_1 a3_2 a4).bind fun t443=>(some (t443,true))) else(some (([]:List (List Int)),false)))) else(some (([]:List (List Int)),false)))) else(some (([]:List (List Int)),false)))=some (r1,r2):=H
 have A6:=am A60
 clear A60
 by_cases c7:t440=true
 ·subst c7
  replace H:=(if_pos rfl).symm.trans H
  replace H:=Option.bind_eq_some_iff.mp H
  obtain⟨t441,A80,H⟩:=H
  replace H:(if t441=true then((impl_isTolerance.f a4).bind fun t442=>(if t442=true then((impl_faultsOf.f k l0_0 a0_1 l1 l2 a3_0 a3_1 a3_2 a4).bind fun t443=>(some (t443,true))) else(some (([]:List (List Int)),false)))) else(some (([]:List (List Int)),false)))=some (r1,r2):=H
  have A8:=am A80
  clear A80
  by_cases c9:t441=true
  ·subst c9
   replace H:=(if_pos rfl).symm.trans H
   replace H:=Option.bind_eq_some_iff.mp H
   obtain⟨t442,A100,H⟩:=H
   replace H:(if t442=true then((impl_faultsOf.f k l0_0 a0_1 l1 l2 a3_0 a3_1 a3_2 a4).bind fun t443=>(some (t443,true))) else(some (([]:List (List Int)),false)))=some (r1,r2):=H
   have A10:=am A100
   clear A100
   by_cases c11:t442=true
   ·subst c11
    replace H:=(if_pos rfl).symm.trans H
    replace H:=Option.bind_eq_some_iff.mp H
    obtain⟨t443,A120,H⟩:=H
    replace H:(some (t443,true))=some (r1,r2):=H
    have A12:=am A120
    clear A120
    simp only[Option.some.injEq,Prod.mk.injEq] at H
    obtain⟨rfl,rfl⟩:=H
    go_enter Try.func21,Try.ntmps21
    go_wp2_with (first|((with_reducible refine gate_dst (N:=5) rfl ?_);refine box_event ?hg (N:=5) ?hd (cs := #[.slice A0_0 l0_0.length c0_0,.int .i64 a0_1]) (t:=34) ?hr ?_;(case hd=>rfl);(case hg=>rfl);(case hr=>first|(go_simp;done)|(go_simp;rfl));intro gb438 hg w13 hbox hb;have BK438:=am (hbox);have GW438:=am (ge_ bl hg);have GE438:=am (ge_ bl hg);replace HB:=am (below_step bl hb);clear hb hbox hg)|((with_reducible refine gate_dst (N:=8) rfl ?_);refine box_event ?hg (N:=8) ?hd (cs := #[.int .i64 a3_0,.int .i64 a3_1,.int .i64 a3_2]) (t:=40) ?hr ?_;(case hd=>rfl);(case hg=>rfl);(case hr=>first|(go_simp;done)|(go_simp;rfl));intro gb439 hg w14 hbox hb;have BK439:=am (hbox);have GW439:=am (ge_ bl hg);have GE439:=am (ge_ bl hg);replace HB:=am (below_step bl hb);have NB438_439:=am (nl (bup BK438.out) hg);have NB439_438:=am (ng (bup BK438.out) hg);replace BK438:=am (blk_below (bup BK438.out) hb);clear hb hbox hg;have hnb15:=NB438_439.out;have hnc15:=NB439_438.out;have hcz16_0:=bc BK438.out 0;have hcz16_1:=bc BK438.out 1;have hfz16_0:=blk_frozen BK438.out 0;have hfz16_1:=blk_frozen BK438.out 1)|((with_reducible refine gate_callee (f:=37) rfl ?_);refine goesL_ (some 15) rfl rfl Try.func37 (by kernel_rfl) rfl #[.agg #[.slice A0_0 l0_0.length c0_0,.int .i64 a0_1],.slice A1 l1.length c1,.slice A2 l2.length c2] rfl tl ?_;(with_reducible refine(impl_canMatch.calls k _ _ l0_0 a0_1 _ _ l1 _ _ l2 true _ ?side1 ?side2 ?side3 ?side4 ?side5 ?side6 A6.out).mono ?_);(case side1=>exact cup (Kd.C_below HR0_0.out HB.out));(case side2=>exact HC0_0.out);(case side3=>exact cup (Kd.C_below HR1.out HB.out));(case side4=>exact HC1.out);(case side5=>exact cup (Kd.C_below HR2.out HB.out));(case side6=>exact HC2.out);rintro e w17 ⟨rfl,hb⟩;refine⟨_,rfl,?_⟩;replace BK438:=am (blk_below (bup BK438.out) hb);replace BK439:=am (blk_below (bup BK439.out) hb);replace HB:=am (below_step bl hb);(try clear hb);have hcz18_0:=bc BK439.out 0;have hcz18_1:=bc BK439.out 1;have hcz18_2:=bc BK439.out 2;have hfz18_0:=blk_frozen BK439.out 0;have hfz18_1:=blk_frozen BK439.out 1;have hfz18_2:=blk_frozen BK439.out 2)|(go_at_call 38;(with_reducible refine(impl_IsAction.calls a3_0 a3_1 a3_2 true _ A8.out).mono ?_);rintro e w19 ⟨rfl,hb⟩;replace BK438:=am (blk_below (bup BK438.out) hb);replace BK439:=am (blk_below (bup BK439.out) hb);replace HB:=am (below_step bl hb);(try clear hb))|(go_at_call 40;(with_reducible refine(impl_isTolerance.calls a4 true _ A10.out).mono ?_);rintro e w' ⟨rfl,⟨nd,rfl⟩⟩;have hcz20_0:=bc BK438.out 0;have hcz20_1:=bc BK438.out 1;have hfz20_0:=blk_frozen BK438.out 0;have hfz20_1:=blk_frozen BK438.out 1;have hcz21_0:=bc BK439.out 0;have hcz21_1:=bc BK439.out 1;have hcz21_2:=bc BK439.out 2;have hfz21_0:=blk_frozen BK439.out 0;have hfz21_1:=blk_frozen BK439.out 1;have hfz21_2:=blk_frozen BK439.out 2)|((with_reducible refine gate_callee (f:=39) rfl ?_);refine goesL_ (some 32) rfl rfl Try.func39 (by kernel_rfl) rfl #[.agg #[.slice A0_0 l0_0.length c0_0,.int .i64 a0_1],.slice A1 l1.length c1,.slice A2 l2.length c2,.agg #[.int .i64 a3_0,.int .i64 a3_1,.int .i64 a3_2],.int .i64 a4] rfl tl ?_;(with_reducible refine(impl_faultsOf.calls k _ _ l0_0 a0_1 _ _ l1 _ _ l2 a3_0 a3_1 a3_2 a4 t443 _ ?side1 ?side2 ?side3 ?side4 ?side5 ?side6 A12.out).mono ?_);(case side1=>repeat(first|exact(Kd.C_below HR0_0.out bl)|(with_reducible refine Kd.C_alloc ?_ _)|(with_reducible refine Kd.C_drewN ?_ _)|(with_reducible refine Kd.C_drew ?_)));(case side2=>exact HC0_0.out);(case side3=>repeat(first|exact(Kd.C_below HR1.out bl)|(with_reducible refine Kd.C_alloc ?_ _)|(with_reducible refine Kd.C_drewN ?_ _)|(with_reducible refine Kd.C_drew ?_)));(case side4=>exact HC1.out);(case side5=>repeat(first|exact(Kd.C_below HR2.out bl)|(with_reducible refine Kd.C_alloc ?_ _)|(with_reducible refine Kd.C_drewN ?_ _)|(with_reducible refine Kd.C_drew ?_)));(case side6=>exact HC2.out);rintro e w22 ⟨v444,rfl,ho0,hb⟩;refine⟨_,rfl,?_⟩;have HO445:=am (Kd.S_lower ho0 (below_size bl));replace BK438:=am (blk_below (bup BK438.out) hb);replace BK439:=am (blk_below (bup BK439.out) hb);replace HB:=am (below_step bl hb);(try clear hb);(try clear ho0)))
    go_ret2
    exact⟨_,fin1,by(with_reducible repeat(first|apply Kd.S_alloc|apply Kd.S_drewN|apply Kd.S_drew));exact HO445.out,bl⟩
   ·replace c11:=Bool.eq_false_iff.mpr c11
    subst c11
    replace H:=(if_neg Bool.false_ne_true).symm.trans H
    simp only[Option.some.injEq,Prod.mk.injEq] at H
    obtain⟨rfl,rfl⟩:=H
    go_enter Try.func21,Try.ntmps21
    go_wp2_with (first|((with_reducible refine gate_dst (N:=5) rfl ?_);refine box_event ?hg (N:=5) ?hd (cs := #[.slice A0_0 l0_0.length c0_0,.int .i64 a0_1]) (t:=34) ?hr ?_;(case hd=>rfl);(case hg=>rfl);(case hr=>first|(go_simp;done)|(go_simp;rfl));intro gb438 hg w23 hbox hb;have BK438:=am (hbox);have GW438:=am (ge_ bl hg);have GE438:=am (ge_ bl hg);replace HB:=am (below_step bl hb);clear hb hbox hg)|((with_reducible refine gate_dst (N:=8) rfl ?_);refine box_event ?hg (N:=8) ?hd (cs := #[.int .i64 a3_0,.int .i64 a3_1,.int .i64 a3_2]) (t:=40) ?hr ?_;(case hd=>rfl);(case hg=>rfl);(case hr=>first|(go_simp;done)|(go_simp;rfl));intro gb439 hg w24 hbox hb;have BK439:=am (hbox);have GW439:=am (ge_ bl hg);have GE439:=am (ge_ bl hg);replace HB:=am (below_step bl hb);have NB438_439:=am (nl (bup BK438.out) hg);have NB439_438:=am (ng (bup BK438.out) hg);replace BK438:=am (blk_below (bup BK438.out) hb);clear hb hbox hg;have hnb25:=NB438_439.out;have hnc25:=NB439_438.out;have hcz26_0:=bc BK438.out 0;have hcz26_1:=bc BK438.out 1;have hfz26_0:=blk_frozen BK438.out 0;have hfz26_1:=blk_frozen BK438.out 1)|((with_reducible refine gate_callee (f:=37) rfl ?_);refine goesL_ (some 15) rfl rfl Try.func37 (by kernel_rfl) rfl #[.agg #[.slice A0_0 l0_0.length c0_0,.int .i64 a0_1],.slice A1 l1.length c1,.slice A2 l2.length c2] rfl tl ?_;(with_reducible refine(impl_canMatch.calls k _ _ l0_0 a0_1 _ _ l1 _ _ l2 true _ ?side1 ?side2 ?side3 ?side4 ?side5 ?side6 A6.out).mono ?_);(case side1=>exact cup (Kd.C_below HR0_0.out HB.out));(case side2=>exact HC0_0.out);(case side3=>exact cup (Kd.C_below HR1.out HB.out));(case side4=>exact HC1.out);(case side5=>exact cup (Kd.C_below HR2.out HB.out));(case side6=>exact HC2.out);rintro e w27 ⟨rfl,hb⟩;refine⟨_,rfl,?_⟩;replace BK438:=am (blk_below (bup BK438.out) hb);replace BK439:=am (blk_below (bup BK439.out) hb);replace HB:=am (below_step bl hb);(try clear hb);have hcz28_0:=bc BK439.out 0;have hcz28_1:=bc BK439.out 1;have hcz28_2:=bc BK439.out 2;have hfz28_0:=blk_frozen BK439.out 0;have hfz28_1:=blk_frozen BK439.out 1;have hfz28_2:=blk_frozen BK439.out 2)|(go_at_call 38;(with_reducible refine(impl_IsAction.calls a3_0 a3_1 a3_2 true _ A8.out).mono ?_);rintro e w29 ⟨rfl,hb⟩;replace BK438:=am (blk_below (bup BK438.out) hb);replace BK439:=am (blk_below (bup BK439.out) hb);replace HB:=am (below_step bl hb);(try clear hb))|(go_at_call 40;(with_reducible refine(impl_isTolerance.calls a4 false _ A10.out).mono ?_);rintro e w' ⟨rfl,⟨nd,rfl⟩⟩))
    go_ret2
    exact⟨_,fin1,by first|exact Kd.S_nil _ _ _ _ _|exact Kd.N_nil _ _ _ _ _|exact Kd.V_nil _ _ _ _ _|exact Kd.Q_nil _ _ _ _ _|exact Kd.R_nil _ _ _ _ _,bl⟩
  ·replace c9:=Bool.eq_false_iff.mpr c9
   subst c9
   replace H:=(if_neg Bool.false_ne_true).symm.trans H
   simp only[Option.some.injEq,Prod.mk.injEq] at H
   obtain⟨rfl,rfl⟩:=H
   go_enter Try.func21,Try.ntmps21
   go_wp2_with (first|((with_reducible refine gate_dst (N:=5) rfl ?_);refine box_event ?hg (N:=5) ?hd (cs := #[.slice A0_0 l0_0.length c0_0,.int .i64 a0_1]) (t:=34) ?hr ?_;(case hd=>rfl);(case hg=>rfl);(case hr=>first|(go_simp;done)|(go_simp;rfl));intro gb438 hg w30 hbox hb;have BK438:=am (hbox);have GW438:=am (ge_ bl hg);have GE438:=am (ge_ bl hg);replace HB:=am (below_step bl hb);clear hb hbox hg)|((with_reducible refine gate_dst (N:=8) rfl ?_);refine box_event ?hg (N:=8) ?hd (cs := #[.int .i64 a3_0,.int .i64 a3_1,.int .i64 a3_2]) (t:=40) ?hr ?_;(case hd=>rfl);(case hg=>rfl);(case hr=>first|(go_simp;done)|(go_simp;rfl));intro gb439 hg w31 hbox hb;have BK439:=am (hbox);have GW439:=am (ge_ bl hg);have GE439:=am (ge_ bl hg);replace HB:=am (below_step bl hb);have NB438_439:=am (nl (bup BK438.out) hg);have NB439_438:=am (ng (bup BK438.out) hg);replace BK438:=am (blk_below (bup BK438.out) hb);clear hb hbox hg;have hnb32:=NB438_439.out;have hnc32:=NB439_438.out;have hcz33_0:=bc BK438.out 0;have hcz33_1:=bc BK438.out 1;have hfz33_0:=blk_frozen BK438.out 0;have hfz33_1:=blk_frozen BK438.out 1)|((with_reducible refine gate_callee (f:=37) rfl ?_);refine goesL_ (some 15) rfl rfl Try.func37 (by kernel_rfl) rfl #[.agg #[.slice A0_0 l0_0.length c0_0,.int .i64 a0_1],.slice A1 l1.length c1,.slice A2 l2.length c2] rfl tl ?_;(with_reducible refine(impl_canMatch.calls k _ _ l0_0 a0_1 _ _ l1 _ _ l2 true _ ?side1 ?side2 ?side3 ?side4 ?side5 ?side6 A6.out).mono ?_);(case side1=>exact cup (Kd.C_below HR0_0.out HB.out));(case side2=>exact HC0_0.out);(case side3=>exact cup (Kd.C_below HR1.out HB.out));(case side4=>exact HC1.out);(case side5=>exact cup (Kd.C_below HR2.out HB.out));(case side6=>exact HC2.out);rintro e w34 ⟨rfl,hb⟩;refine⟨_,rfl,?_⟩;replace BK438:=am (blk_below (bup BK438.out) hb);replace BK439:=am (blk_below (bup BK439.out) hb);replace HB:=am (below_step bl hb);(try clear hb);have hcz35_0:=bc BK439.out 0;have hcz35_1:=bc BK439.out 1;have hcz35_2:=bc BK439.out 2;have hfz35_0:=blk_frozen BK439.out 0;have hfz35_1:=blk_frozen BK439.out 1;have hfz35_2:=blk_frozen BK439.out 2)|(go_at_call 38;(with_reducible refine(impl_IsAction.calls a3_0 a3_1 a3_2 false _ A8.out).mono ?_);rintro e w36 ⟨rfl,hb⟩;replace BK438:=am (blk_below (bup BK438.out) hb);replace BK439:=am (blk_below (bup BK439.out) hb);replace HB:=am (below_step bl hb);(try clear hb)))
   go_ret2
   exact⟨_,fin1,by first|exact Kd.S_nil _ _ _ _ _|exact Kd.N_nil _ _ _ _ _|exact Kd.V_nil _ _ _ _ _|exact Kd.Q_nil _ _ _ _ _|exact Kd.R_nil _ _ _ _ _,bl⟩
 ·replace c7:=Bool.eq_false_iff.mpr c7
  subst c7
  replace H:=(if_neg Bool.false_ne_true).symm.trans H
  simp only[Option.some.injEq,Prod.mk.injEq] at H
  obtain⟨rfl,rfl⟩:=H
  go_enter Try.func21,Try.ntmps21
  go_wp2_with (first|((with_reducible refine gate_dst (N:=5) rfl ?_);refine box_event ?hg (N:=5) ?hd (cs := #[.slice A0_0 l0_0.length c0_0,.int .i64 a0_1]) (t:=34) ?hr ?_;(case hd=>rfl);(case hg=>rfl);(case hr=>first|(go_simp;done)|(go_simp;rfl));intro gb438 hg w37 hbox hb;have BK438:=am (hbox);have GW438:=am (ge_ bl hg);have GE438:=am (ge_ bl hg);replace HB:=am (below_step bl hb);clear hb hbox hg)|((with_reducible refine gate_dst (N:=8) rfl ?_);refine box_event ?hg (N:=8) ?hd (cs := #[.int .i64 a3_0,.int .i64 a3_1,.int .i64 a3_2]) (t:=40) ?hr ?_;(case hd=>rfl);(case hg=>rfl);(case hr=>first|(go_simp;done)|(go_simp;rfl));intro gb439 hg w38 hbox hb;have BK439:=am (hbox);have GW439:=am (ge_ bl hg);have GE439:=am (ge_ bl hg);replace HB:=am (below_step bl hb);have NB438_439:=am (nl (bup BK438.out) hg);have NB439_438:=am (ng (bup BK438.out) hg);replace BK438:=am (blk_below (bup BK438.out) hb);clear hb hbox hg;have hnb39:=NB438_439.out;have hnc39:=NB439_438.out;have hcz40_0:=bc BK438.out 0;have hcz40_1:=bc BK438.out 1;have hfz40_0:=blk_frozen BK438.out 0;have hfz40_1:=blk_frozen BK438.out 1)|((with_reducible refine gate_callee (f:=37) rfl ?_);refine goesL_ (some 15) rfl rfl Try.func37 (by kernel_rfl) rfl #[.agg #[.slice A0_0 l0_0.length c0_0,.int .i64 a0_1],.slice A1 l1.length c1,.slice A2 l2.length c2] rfl tl ?_;(with_reducible refine(impl_canMatch.calls k _ _ l0_0 a0_1 _ _ l1 _ _ l2 false _ ?side1 ?side2 ?side3 ?side4 ?side5 ?side6 A6.out).mono ?_);(case side1=>exact cup (Kd.C_below HR0_0.out HB.out));(case side2=>exact HC0_0.out);(case side3=>exact cup (Kd.C_below HR1.out HB.out));(case side4=>exact HC1.out);(case side5=>exact cup (Kd.C_below HR2.out HB.out));(case side6=>exact HC2.out);rintro e w41 ⟨rfl,hb⟩;refine⟨_,rfl,?_⟩;replace BK438:=am (blk_below (bup BK438.out) hb);replace BK439:=am (blk_below (bup BK439.out) hb);replace HB:=am (below_step bl hb);(try clear hb)))
  go_ret2
  exact⟨_,fin1,by first|exact Kd.S_nil _ _ _ _ _|exact Kd.N_nil _ _ _ _ _|exact Kd.V_nil _ _ _ _ _|exact Kd.Q_nil _ _ _ _ _|exact Kd.R_nil _ _ _ _ _,bl⟩

def laws_eqIntSS.l0:Nat→List (List Int)→List (List Int)→Int→Option (Bool)
 | 0,_,_,_=>none
 | k+1,x0,x1,x5=>if x5<(x0.length:Int) then(if 0≤x5 then(if x5<(x1.length:Int) then((laws_eqIntS.f k (rd_L7 x0 x5) (rd_L7 x1 x5)).bind fun t448=>(if t448=true then(laws_eqIntSS.l0 k x0 x1 (wrap64 (x5+1))) else(some false))) else(none)) else(none)) else(some true)
def laws_eqIntSS.f (k:Nat) (l0:List (List Int)) (l1:List (List Int)):Option (Bool):=if(l0.length:Int)=(l1.length:Int) then(laws_eqIntSS.l0 k l0 l1 0) else(some false)
set_option maxHeartbeats 8000000 in
set_option maxRecDepth 100000 in
theorem laws_eqIntSS.calls (k:Nat) (A0:Option Addr) (c0:Nat) (l0:List (List Int)) (A1:Option Addr) (c1:Nat) (l1:List (List Int)) (r:Bool) (w:World) (hr0:Kd.C (Kd.slice 3 (Kd.int .i64)) w A0 l0.length l0) (hc0:l0.length≤c0) (hr1:Kd.C (Kd.slice 3 (Kd.int .i64)) w A1 l1.length l1) (hc1:l1.length≤c1) (h:laws_eqIntSS.f k l0 l1=some r) :
  Calls Try.prog 22 #[.slice A0 l0.length c0,.slice A1 l1.length c1] w fun e w'=>e = .returned (.bool r)∧Drawn0 w w':=by
 have HR0:=am hr0
 have HC0:=am hc0
 clear hr0 hc0
 have HR1:=am hr1
 have HC1:=am hc1
 clear hr1 hc1
 have H:(if(l0.length:Int)=(l1.length:Int) then(laws_eqIntSS.l0 k l0 l1 0) else(some false))=some r:=h
 clear h
 rcases itc H with⟨c3,H⟩|⟨c3,H⟩
 ·have c3b0:((l0.length:Int) == (l1.length:Int))=true:=beq_iff_eq.mpr c3
  have c3b1:((l0.length:Int) != (l1.length:Int))=false:=bne_eq_false_iff_eq.mpr c3
  have c3b2:(l0.length == l1.length)=true:=by first|simpa using c3|(simp at c3 ⊢;omega)
  clear c3
  have H':=am H
  clear H
  go_enter Try.func22,Try.ntmps22
  go_wp2
  repeat(go_quiet (fail);try go_wp2)
  go_loopg [5] k (fun kq v5 w'=>∃(x5_1:Int),v5 = .int .i64 x5_1∧Aside0 (laws_eqIntSS.l0 kq l0 l1 x5_1=some r)∧Aside0 (kq≤k)∧Drawn0 w w')
  case atStart=>exact⟨(0),fin2,H',⟨Nat.le_refl _⟩,by repeat(first|exact Drawn0.refl _|apply Drawn0.step)⟩
  case round =>
   clear H'
   try clear c1
   try clear c2
   try clear p2
   try clear c3
   try clear c3b0
   try clear c3b1
   try clear c3b2
   obtain⟨x5_1,rfl,HA,HK1,⟨m1,rfl⟩⟩:=hrel
   cases gk with
   | zero=>exact absurd HA.out (by simp [laws_eqIntSS.l0])
   | succ k1 =>
    have H:=HA.out
    clear HA
    simp only[laws_eqIntSS.l0] at H
    rcases itc H with⟨c4,H⟩|⟨c4,H⟩
    ·have c4b0:=decide_eq_true c4
     clear c4
     obtain⟨c5b0,H⟩:=ifb H
     obtain⟨c6b0,H⟩:=ifb H
     obtain⟨t448,A7,H⟩:=bnd H
     by_cases c8:t448=true
     ·subst c8
      replace H:=(if_pos rfl).symm.trans H
      have H':=am H
      clear H
      have p446:0≤(x5_1:Int):=od
      have q446:x5_1<(l0.length:Int):=od
      obtain⟨ad446,A446_0,c446_0,e446,hx446_0,hl446_0,hi446_0⟩:=at_L7 HR0.out x5_1 p446 q446
      cases e446
      have HR446_0:=am hi446_0
      have HC446_0:=am hl446_0
      clear hi446_0 hl446_0
      replace p446:=eq_true p446
      replace q446:=eq_true q446
      have p447:0≤(x5_1:Int):=od
      have q447:x5_1<(l1.length:Int):=od
      obtain⟨ad447,A447_0,c447_0,e447,hx447_0,hl447_0,hi447_0⟩:=at_L7 HR1.out x5_1 p447 q447
      cases e447
      have HR447_0:=am hi447_0
      have HC447_0:=am hl447_0
      clear hi447_0 hl447_0
      replace p447:=eq_true p447
      replace q447:=eq_true q447
      go_wp2_with (first|(go_at_call 34;(with_reducible refine(laws_eqIntS.calls k1 _ _ (rd_L7 l0 x5_1) _ _ (rd_L7 l1 x5_1) true _ ?side1 ?side2 ?side3 ?side4 A7.out).mono ?_);(case side1=>repeat(first|exact HR446_0.out|(with_reducible refine Kd.C_alloc ?_ _)|(with_reducible refine Kd.C_drewN ?_ _)|(with_reducible refine Kd.C_drew ?_)));(case side2=>exact HC446_0.out);(case side3=>repeat(first|exact HR447_0.out|(with_reducible refine Kd.C_alloc ?_ _)|(with_reducible refine Kd.C_drewN ?_ _)|(with_reducible refine Kd.C_drew ?_)));(case side4=>exact HC447_0.out);rintro e w' ⟨rfl,⟨nd,rfl⟩⟩;(try first|exact⟨rfl,_,World.drewN_drewN _ _ _⟩|exact⟨rfl,_,Eq.trans (World.drewN_drewN _ _ _) (congrArg (World.drewN _) (Nat.add_assoc _ _ _))⟩)))
      repeat(go_quiet (first|(go_at_call 34;(with_reducible refine(laws_eqIntS.calls k1 _ _ (rd_L7 l0 x5_1) _ _ (rd_L7 l1 x5_1) true _ ?side1 ?side2 ?side3 ?side4 A7.out).mono ?_);(case side1=>repeat(first|exact HR446_0.out|(with_reducible refine Kd.C_alloc ?_ _)|(with_reducible refine Kd.C_drewN ?_ _)|(with_reducible refine Kd.C_drew ?_)));(case side2=>exact HC446_0.out);(case side3=>repeat(first|exact HR447_0.out|(with_reducible refine Kd.C_alloc ?_ _)|(with_reducible refine Kd.C_drewN ?_ _)|(with_reducible refine Kd.C_drew ?_)));(case side4=>exact HC447_0.out);rintro e w' ⟨rfl,⟨nd,rfl⟩⟩;(try first|exact⟨rfl,_,World.drewN_drewN _ _ _⟩|exact⟨rfl,_,Eq.trans (World.drewN_drewN _ _ _) (congrArg (World.drewN _) (Nat.add_assoc _ _ _))⟩)));try go_wp2_with (first|(go_at_call 34;(with_reducible refine(laws_eqIntS.calls k1 _ _ (rd_L7 l0 x5_1) _ _ (rd_L7 l1 x5_1) true _ ?side1 ?side2 ?side3 ?side4 A7.out).mono ?_);(case side1=>repeat(first|exact HR446_0.out|(with_reducible refine Kd.C_alloc ?_ _)|(with_reducible refine Kd.C_drewN ?_ _)|(with_reducible refine Kd.C_drew ?_)));(case side2=>exact HC446_0.out);(case side3=>repeat(first|exact HR447_0.out|(with_reducible refine Kd.C_alloc ?_ _)|(with_reducible refine Kd.C_drewN ?_ _)|(with_reducible refine Kd.C_drew ?_)));(case side4=>exact HC447_0.out);rintro e w' ⟨rfl,⟨nd,rfl⟩⟩;(try first|exact⟨rfl,_,World.drewN_drewN _ _ _⟩|exact⟨rfl,_,Eq.trans (World.drewN_drewN _ _ _) (congrArg (World.drewN _) (Nat.add_assoc _ _ _))⟩))))
      go_roundg k1
      case measure=>have:=HK1.out;omega
      case rel=>exact⟨(wrap64 (x5_1+1)),fin2,H',⟨by have:=HK1.out;omega⟩,by repeat(first|exact Drawn0.refl _|apply Drawn0.step)⟩
     ·replace c8:=Bool.eq_false_iff.mpr c8
      subst c8
      replace H:=(if_neg Bool.false_ne_true).symm.trans H
      obtain rfl:=Option.some.inj H
      have p446:0≤(x5_1:Int):=od
      have q446:x5_1<(l0.length:Int):=od
      obtain⟨ad446,A446_0,c446_0,e446,hx446_0,hl446_0,hi446_0⟩:=at_L7 HR0.out x5_1 p446 q446
      cases e446
      have HR446_0:=am hi446_0
      have HC446_0:=am hl446_0
      clear hi446_0 hl446_0
      replace p446:=eq_true p446
      replace q446:=eq_true q446
      have p447:0≤(x5_1:Int):=od
      have q447:x5_1<(l1.length:Int):=od
      obtain⟨ad447,A447_0,c447_0,e447,hx447_0,hl447_0,hi447_0⟩:=at_L7 HR1.out x5_1 p447 q447
      cases e447
      have HR447_0:=am hi447_0
      have HC447_0:=am hl447_0
      clear hi447_0 hl447_0
      replace p447:=eq_true p447
      replace q447:=eq_true q447
      go_wp2_with (first|(go_at_call 34;(with_reducible refine(laws_eqIntS.calls k1 _ _ (rd_L7 l0 x5_1) _ _ (rd_L7 l1 x5_1) false _ ?side1 ?side2 ?side3 ?side4 A7.out).mono ?_);(case side1=>repeat(first|exact HR446_0.out|(with_reducible refine Kd.C_alloc ?_ _)|(with_reducible refine Kd.C_drewN ?_ _)|(with_reducible refine Kd.C_drew ?_)));(case side2=>exact HC446_0.out);(case side3=>repeat(first|exact HR447_0.out|(with_reducible refine Kd.C_alloc ?_ _)|(with_reducible refine Kd.C_drewN ?_ _)|(with_reducible refine Kd.C_drew ?_)));(case side4=>exact HC447_0.out);rintro e w' ⟨rfl,⟨nd,rfl⟩⟩;(try first|exact⟨rfl,_,World.drewN_drewN _ _ _⟩|exact⟨rfl,_,Eq.trans (World.drewN_drewN _ _ _) (congrArg (World.drewN _) (Nat.add_assoc _ _ _))⟩)))
      repeat(go_quiet (first|(go_at_call 34;(with_reducible refine(laws_eqIntS.calls k1 _ _ (rd_L7 l0 x5_1) _ _ (rd_L7 l1 x5_1) false _ ?side1 ?side2 ?side3 ?side4 A7.out).mono ?_);(case side1=>repeat(first|exact HR446_0.out|(with_reducible refine Kd.C_alloc ?_ _)|(with_reducible refine Kd.C_drewN ?_ _)|(with_reducible refine Kd.C_drew ?_)));(case side2=>exact HC446_0.out);(case side3=>repeat(first|exact HR447_0.out|(with_reducible refine Kd.C_alloc ?_ _)|(with_reducible refine Kd.C_drewN ?_ _)|(with_reducible refine Kd.C_drew ?_)));(case side4=>exact HC447_0.out);rintro e w' ⟨rfl,⟨nd,rfl⟩⟩;(try first|exact⟨rfl,_,World.drewN_drewN _ _ _⟩|exact⟨rfl,_,Eq.trans (World.drewN_drewN _ _ _) (congrArg (World.drewN _) (Nat.add_assoc _ _ _))⟩)));try go_wp2_with (first|(go_at_call 34;(with_reducible refine(laws_eqIntS.calls k1 _ _ (rd_L7 l0 x5_1) _ _ (rd_L7 l1 x5_1) false _ ?side1 ?side2 ?side3 ?side4 A7.out).mono ?_);(case side1=>repeat(first|exact HR446_0.out|(with_reducible refine Kd.C_alloc ?_ _)|(with_reducible refine Kd.C_drewN ?_ _)|(with_reducible refine Kd.C_drew ?_)));(case side2=>exact HC446_0.out);(case side3=>repeat(first|exact HR447_0.out|(with_reducible refine Kd.C_alloc ?_ _)|(with_reducible refine Kd.C_drewN ?_ _)|(with_reducible refine Kd.C_drew ?_)));(case side4=>exact HC447_0.out);rintro e w' ⟨rfl,⟨nd,rfl⟩⟩;(try first|exact⟨rfl,_,World.drewN_drewN _ _ _⟩|exact⟨rfl,_,Eq.trans (World.drewN_drewN _ _ _) (congrArg (World.drewN _) (Nat.add_assoc _ _ _))⟩))))
      go_ret
      exact⟨by first|rfl|(simp;done)|(simp [*];done),by repeat(first|exact Drawn0.refl _|apply Drawn0.step)⟩
    ·have c4b0:=decide_eq_false c4
     clear c4
     obtain rfl:=Option.some.inj H
     go_wp2
     repeat(go_quiet (fail);try go_wp2)
     go_ret
     exact⟨by first|rfl|(simp;done)|(simp [*];done),by repeat(first|exact Drawn0.refl _|apply Drawn0.step)⟩
 ·have c3b0:((l0.length:Int) == (l1.length:Int))=false:=beq_eq_false_iff_ne.mpr c3
  have c3b1:((l0.length:Int) != (l1.length:Int))=true:=bne_iff_ne.mpr c3
  have c3b2:(l0.length == l1.length)=false:=by first|simpa using c3|(simp at c3 ⊢;omega)
  obtain rfl:=Option.some.inj H
  go_enter Try.func22,Try.ntmps22
  go_wp2
  repeat(go_quiet (fail);try go_wp2)
  go_ret
  exact⟨by first|rfl|(simp;done)|(simp [*];done),by repeat(first|exact Drawn0.refl _|apply Drawn0.step)⟩

def laws_markIntS.l0:Nat→List Int→Int→Int→Option (Int×List Int)
 | 0,_,_,_=>none
 | k+1,x0,x1,x5=>if x5<(x0.length:Int) then(if 0≤x5 then(laws_markIntS.l0 k (x0.set (x5:Int).toNat x1) (wrap64 (x1+1)) (wrap64 (x5+1))) else(none)) else(some (x1,x0))
def laws_markIntS.f (k:Nat) (l0:List Int) (a1:Int):Option (Int×List Int):=laws_markIntS.l0 k l0 a1 0
set_option maxHeartbeats 8000000 in
set_option maxRecDepth 100000 in
theorem laws_markIntS.calls (k:Nat) (P0_:Nat→Prop) (u9000_:Value) (l0:List Int) (a1:Int) (r1:Int) (r2:List Int) (w0 w:World) (hB:Below w0.heap.size w0 w) (ho0:Kd.R (Kd.int .i64) 3 w w0.heap.size P0_ u9000_ l0) (h:laws_markIntS.f k l0 a1=some (r1,r2)) :
  Calls Try.prog 41 #[u9000_,.int .i64 a1] w fun e w'=>e = .returned (.int .i64 r1)∧Kd.R (Kd.int .i64) 3 w' w0.heap.size (fun k_=>(P0_ k_∨w.heap.size≤k_)) u9000_ r2∧Below w0.heap.size w0 w'∧Kept w w' (fun k_=>P0_ k_):=by
 have HO0:=am (show Kd.R (Kd.int .i64) 3 w w0.heap.size (fun k_=>(P0_ k_∨w.heap.size≤k_)) u9000_ l0 from Kd.R_mono ho0 (fun k_ hk=>(.inl hk)))
 have HK:=am (Kept.refl w (fun k_=>P0_ k_))
 have HW0:=am hB.size
 have HB:=am hB
 clear hB
 have H:(laws_markIntS.l0 k l0 a1 0)=some (r1,r2):=h
 clear h
 have H':=am H
 clear H
 go_enter Try.func41,Try.ntmps41
 go_wp2
 go_loopg [1,5] k (fun kq v1 v5 w'=>∃(x0_1:List Int) (x1_1:Int) (x5_1:Int),v1 = .int .i64 x1_1∧v5 = .int .i64 x5_1∧Aside0 (laws_markIntS.l0 kq x0_1 x1_1 x5_1=some (r1,r2))∧Aside0 (kq≤k)∧Aside0 (Kd.R (Kd.int .i64) 3 w' w0.heap.size (fun k_=>(P0_ k_∨w.heap.size≤k_)) u9000_ x0_1)∧Aside0 (Kept w w' (fun k_=>P0_ k_))∧Aside0 (Below w0.heap.size w0 w'))
 case atStart=>exact⟨(l0),(a1),(0),fin2,fin2,H',⟨Nat.le_refl _⟩,⟨rup HO0.out⟩,⟨by repeat(first|(with_reducible first|exact HK.out|apply Kept.alloc|apply Kept.drewN|apply Kept.drew)|exact HK.out)⟩,⟨bl⟩⟩
 case round =>
  clear H'
  try clear p2
  obtain⟨x0_1,x1_1,x5_1,rfl,rfl,HA,HK1,HO_0,HK,HB⟩:=hrel
  cases gk with
  | zero=>exact absurd HA.out (by simp [laws_markIntS.l0])
  | succ k1 =>
   have H:=HA.out
   clear HA
   simp only[laws_markIntS.l0] at H
   rcases itc H with⟨c3,H⟩|⟨c3,H⟩
   ·have c3b0:=decide_eq_true c3
    clear c3
    obtain⟨c4b0,H⟩:=ifb H
    obtain⟨y449,hy449⟩:∃ y_:List Int,y_=(x0_1.set (x5_1:Int).toNat x1_1):=⟨_,rfl⟩
    replace H:(laws_markIntS.l0 k1 y449 (wrap64 (x1_1+1)) (wrap64 (x5_1+1)))=some (r1,r2):=by subst hy449;exact H
    have Ny449:=am hy449
    clear hy449
    have H':=am H
    clear H
    obtain⟨Ao6,co6,eo6⟩:=Kd.R_slice HO_0.out
    subst eo6
    have p5:0≤(x5_1:Int):=od
    have q5:(x5_1:Int)<((x0_1.length:Int):Int):=od
    obtain⟨go5,co5,eo5,gb5,gl5,cl5,HG5⟩:=Kd.R_form HO_0.out (by omega)
    (first|cases eo5|(injection eo5 with ea_ en_ ec_;(first|subst ea_|(injection ea_ with ea_;subst ea_));subst ec_;clear en_))
    have GB5:=am gb5
    have GG5:=am HG5
    clear gb5 gl5 HG5
    have HMgo5:=am (show(P0_ go5∨w.heap.size≤go5) from(HO_0.out.1 _ rfl))
    obtain⟨hx5_0,hf5_0⟩:=Kd.R_celln 0 HO_0.out (x5_1:Int) p5 q5
    replace p5:=eq_true p5
    replace q5:=eq_true q5
    have HP7:=Kd.R_putg HO_0.out (x5_1:Int) x1_1
    go_wp2_with (first|((with_reducible refine gate_store (t:=3) (p:=15) rfl ?_);refine store_event (t:=3) (p:=15) (v:=?vo_w8) (w1:=(wr.setCell ⟨go5,(x5_1:Int).toNat,none⟩ (.int .i64 x1_1))) ?hg ?ho ?hn ?hr ?_;(case ho=>rfl);(case hg=>rfl);(case hn=>rfl);(case hr=>first|(go_simp;done)|(go_simp;rfl));intro w8 hw;have hg:wr.grownBy w8 (some go5):=(by rw[hw];exact HP7.2);have hp_:Kd.R (Kd.int .i64) 3 w8 w0.heap.size (fun k_=>(P0_ k_∨w.heap.size≤k_)) (.slice (some ⟨go5,0,none⟩) x0_1.length co6) y449:=(by rw[hw,Ny449.out];exact HP7.1);clear HP7;replace HB:=am ((by rw[hw];exact below_set (HB.out) GB5.out:Below w0.heap.size w0 w8));replace HK:=am (Kept.of_grown (S:=(fun k_=>P0_ k_)) hg (by repeat(first|(with_reducible first|exact HK.out|apply Kept.alloc|apply Kept.drewN|apply Kept.drew)|exact HK.out)) (fun k_ e_=>(HO_0.out.1 k_ e_)));replace HO_0:=am (hp_);clear hg hw hp_))
    go_roundg k1
    case measure=>have:=HK1.out;omega
    case rel=>exact⟨(y449),(wrap64 (x1_1+1)),(wrap64 (x5_1+1)),fin2,fin2,H',⟨by have:=HK1.out;omega⟩,⟨rup HO_0.out⟩,⟨by repeat(first|(with_reducible first|exact HK.out|apply Kept.alloc|apply Kept.drewN|apply Kept.drew)|exact HK.out)⟩,⟨bl⟩⟩
   ·have c3b0:=decide_eq_false c3
    clear c3
    simp only[Option.some.injEq,Prod.mk.injEq] at H
    obtain⟨rfl,rfl⟩:=H
    obtain⟨Ao9,co9,eo9⟩:=Kd.R_slice HO_0.out
    subst eo9
    go_wp2
    go_ret
    exact⟨fin1,by(with_reducible repeat(first|apply Kd.R_alloc|apply Kd.R_drewN|apply Kd.R_drew));exact HO_0.out,by repeat(first|(with_reducible first|exact HB.out|apply below_alloc|apply pw_below_drewN|apply below_drew1)|exact HB.out),by repeat(first|(with_reducible first|exact HK.out|apply Kept.alloc|apply Kept.drewN|apply Kept.drew)|exact HK.out)⟩

def laws_markInstrument.f (k:Nat) (l0_0:List Int) (a0_1:Int) (a1:Int):Option (Int×List Int):=(laws_markIntS.f k l0_0 a1).bind fun bt451=>(some (bt451.1,bt451.2))
set_option maxHeartbeats 8000000 in
set_option maxRecDepth 100000 in
theorem laws_markInstrument.calls (k:Nat) (P0_0_:Nat→Prop) (u9000_:Value) (l0_0:List Int) (a0_1:Int) (a1:Int) (r1:Int) (r2:List Int) (w0 w:World) (hB:Below w0.heap.size w0 w) (ho0_0:Kd.R (Kd.int .i64) 3 w w0.heap.size P0_0_ u9000_ l0_0) (h:laws_markInstrument.f k l0_0 a0_1 a1=some (r1,r2)) :
  Calls Try.prog 23 #[.agg #[u9000_,.int .i64 a0_1],.int .i64 a1] w fun e w'=>e = .returned (.int .i64 r1)∧Kd.R (Kd.int .i64) 3 w' w0.heap.size (fun k_=>(P0_0_ k_∨w.heap.size≤k_)) u9000_ r2∧Below w0.heap.size w0 w'∧Kept w w' (fun k_=>P0_0_ k_):=by
 have hu34:=Try.underlying34
 have HO0_0:=am (show Kd.R (Kd.int .i64) 3 w w0.heap.size (fun k_=>(P0_0_ k_∨w.heap.size≤k_)) u9000_ l0_0 from Kd.R_mono ho0_0 (fun k_ hk=>(.inl hk)))
 have HK:=am (Kept.refl w (fun k_=>P0_0_ k_))
 have HW0:=am hB.size
 have HB:=am hB
 clear hB
 have H:((laws_markIntS.f k l0_0 a1).bind fun bt451=>(some (bt451.1,bt451.2)))=some (r1,r2):=h
 clear h
 replace H:=Option.bind_eq_some_iff.mp H
 obtain⟨⟨t451,t452⟩,A30,H⟩:=H
 replace H:(some (t451,t452))=some (r1,r2):=H
 have A3:=am A30
 clear A30
 simp only[Option.some.injEq,Prod.mk.injEq] at H
 obtain⟨rfl,rfl⟩:=H
 obtain⟨Ao4,co4,eo4⟩:=Kd.R_slice HO0_0.out
 subst eo4
 go_enter Try.func23,Try.ntmps23
 go_wp2_with (first|((with_reducible refine gate_dst (N:=2) rfl ?_);refine box_event ?hg (N:=2) ?hd (cs := #[.slice Ao4 l0_0.length co4,.int .i64 a0_1]) (t:=34) ?hr ?_;(case hd=>rfl);(case hg=>rfl);(case hr=>first|(go_simp;done)|(go_simp;rfl));intro gb450 hg w5 hbox hb;replace HO0_0:=am (Kd.R_below (by(with_reducible repeat(first|apply Kd.R_alloc|apply Kd.R_drewN|apply Kd.R_drew));exact HO0_0.out) hb);have BK450:=am (hbox);have GW450:=am ((by rw[hg];exact(by first|exact HK.out.1|exact(show Kept w _ (fun k_=>P0_0_ k_) from by repeat(first|(with_reducible first|exact HK.out|apply Kept.alloc|apply Kept.drewN|apply Kept.drew)|exact HK.out)).1):w.heap.size≤gb450));replace HK:=am (Kept.below (S:=(fun k_=>P0_0_ k_)) (by repeat(first|(with_reducible first|exact HK.out|apply Kept.alloc|apply Kept.drewN|apply Kept.drew)|exact HK.out)) hb);have GE450:=am ((by rw[hg];exact(below_size bl):w0.heap.size≤gb450));replace HB:=am (below_step bl hb);clear hb hbox hg;have hcz6_0:=bc BK450.out 0;have hcz6_1:=bc BK450.out 1;have hfz6_0:=blk_frozen BK450.out 0;have hfz6_1:=blk_frozen BK450.out 1)|((with_reducible refine gate_callee (f:=41) rfl ?_);refine goesL_ (some 8) rfl rfl Try.func41 (by kernel_rfl) rfl #[.slice Ao4 l0_0.length co4,.int .i64 a1] rfl tl ?_;(with_reducible refine(laws_markIntS.calls k (fun k_=>some k_=(.slice Ao4 l0_0.length co4:Value).ownBlock) (.slice Ao4 l0_0.length co4) l0_0 a1 t451 t452 w0 _ ?side1 ?side2 A3.out).mono ?_);(case side1=>repeat(first|(with_reducible first|exact HB.out|apply below_alloc|apply pw_below_drewN|apply below_drew1|refine below_set ?_ GE450.out)|exact HB.out));(case side2=>exact Kd.R_tight rfl HO0_0.out);rintro e w7 ⟨rfl,hy0,hb,hkp⟩;refine⟨_,rfl,?_⟩;replace BK450:=am (blk_kept (bup BK450.out) hkp (fun hs_=>(fun e_=>(Kd.R_ne HO0_0.out BK450.out (by decide)) e_) hs_));replace HK:=am (Kept.then_ (S:=(fun k_=>P0_0_ k_)) (by repeat(first|(with_reducible first|exact HK.out|apply Kept.alloc|apply Kept.drewN|apply Kept.drew|refine Kept.setCell ?_ (.inr GW450.out) _)|exact HK.out)) hkp (fun k_ hs_=>(fun e_=>(HO0_0.out.1 k_ e_.symm)) hs_));replace HO0_0:=am (Kd.R_reok rfl hy0 (fun k_ e_=>HO0_0.out.1 k_ e_));replace HB:=am (hb);(try clear hb);(try clear hkp);(try clear hy0)))
 go_ret
 exact⟨fin1,by(with_reducible repeat(first|apply Kd.R_alloc|apply Kd.R_drewN|apply Kd.R_drew));exact HO0_0.out,by repeat(first|(with_reducible first|exact HB.out|apply below_alloc|apply pw_below_drewN|apply below_drew1|refine below_set ?_ GE450.out)|exact HB.out),by repeat(first|(with_reducible first|exact HK.out|apply Kept.alloc|apply Kept.drewN|apply Kept.drew|refine Kept.setCell ?_ (.inr GW450.out) _)|exact HK.out)⟩

def laws_markNoteS.l0:Nat→List (S62)→Int→Int→Option (Int×(List (S62)))
 | 0,_,_,_=>none
 | k+1,x0,x1,x5=>if x5<(x0.length:Int) then(if 0≤x5 then((some (x0.set (x5:Int).toNat (⟨x1,(rd_T62 x0 x5).f1,(rd_T62 x0 x5).f2⟩:S62):List (S62))).bind fun y453=>((some (y453.set (x5:Int).toNat (⟨(rd_T62 y453 x5).f0,wrap64 (x1+1),(rd_T62 y453 x5).f2⟩:S62):List (S62))).bind fun y454=>(laws_markNoteS.l0 k (y454.set (x5:Int).toNat (⟨(rd_T62 y454 x5).f0,(rd_T62 y454 x5).f1,wrap64 ((wrap64 (x1+1))+1)⟩:S62)) (wrap64 ((wrap64 ((wrap64 (x1+1))+1))+1)) (wrap64 (x5+1))))) else(none)) else(some (x1,x0))
def laws_markNoteS.f (k:Nat) (l0:List (S62)) (a1:Int):Option (Int×(List (S62))):=laws_markNoteS.l0 k l0 a1 0
set_option maxHeartbeats 8000000 in
set_option maxRecDepth 100000 in
theorem laws_markNoteS.calls (k:Nat) (P0_:Nat→Prop) (u9000_:Value) (l0:List (S62)) (a1:Int) (r1:Int) (r2:List (S62)) (w0 w:World) (hB:Below w0.heap.size w0 w) (ho0:Kd.R k62 62 w w0.heap.size P0_ u9000_ l0) (h:laws_markNoteS.f k l0 a1=some (r1,r2)) :
  Calls Try.prog 24 #[u9000_,.int .i64 a1] w fun e w'=>e = .returned (.int .i64 r1)∧Kd.R k62 62 w' w0.heap.size (fun k_=>(P0_ k_∨w.heap.size≤k_)) u9000_ r2∧Below w0.heap.size w0 w'∧Kept w w' (fun k_=>P0_ k_):=by
 have HO0:=am (show Kd.R k62 62 w w0.heap.size (fun k_=>(P0_ k_∨w.heap.size≤k_)) u9000_ l0 from Kd.R_mono ho0 (fun k_ hk=>(.inl hk)))
 have HK:=am (Kept.refl w (fun k_=>P0_ k_))
 have HW0:=am hB.size
 have HB:=am hB
 clear hB
 have H:(laws_markNoteS.l0 k l0 a1 0)=some (r1,r2):=h
 clear h
 have H':=am H
 clear H
 go_enter Try.func24,Try.ntmps24
 go_wp2
 go_loopg [1,5] k (fun kq v1 v5 w'=>∃(x0_1:List (S62)) (x1_1:Int) (x5_1:Int),v1 = .int .i64 x1_1∧v5 = .int .i64 x5_1∧Aside0 (laws_markNoteS.l0 kq x0_1 x1_1 x5_1=some (r1,r2))∧Aside0 (kq≤k)∧Aside0 (Kd.R k62 62 w' w0.heap.size (fun k_=>(P0_ k_∨w.heap.size≤k_)) u9000_ x0_1)∧Aside0 (Kept w w' (fun k_=>P0_ k_))∧Aside0 (Below w0.heap.size w0 w'))
 case atStart=>exact⟨(l0),(a1),(0),fin2,fin2,H',⟨Nat.le_refl _⟩,⟨rup HO0.out⟩,⟨by repeat(first|(with_reducible first|exact HK.out|apply Kept.alloc|apply Kept.drewN|apply Kept.drew)|exact HK.out)⟩,⟨bl⟩⟩
 case round =>
  clear H'
  try clear c2
  try clear p2
  obtain⟨x0_1,x1_1,x5_1,rfl,rfl,HA,HK1,HO_0,HK,HB⟩:=hrel
  cases gk with
  | zero=>exact absurd HA.out (by simp [laws_markNoteS.l0])
  | succ k1 =>
   have H:=HA.out
   clear HA
   simp only[laws_markNoteS.l0] at H
   rcases itc H with⟨c3,H⟩|⟨c3,H⟩
   ·have c3b0:=decide_eq_true c3
    clear c3
    obtain⟨c4b0,H⟩:=ifb H
    obtain⟨y453,hy453⟩:∃ y_:List (S62),y_=(x0_1.set (x5_1:Int).toNat (⟨x1_1,(rd_T62 x0_1 x5_1).f1,(rd_T62 x0_1 x5_1).f2⟩:S62)):=⟨_,rfl⟩
    replace H:((some (y453.set (x5_1:Int).toNat (⟨(rd_T62 y453 x5_1).f0,wrap64 (x1_1+1),(rd_T62 y453 x5_1).f2⟩:S62):List (S62))).bind fun y454=>(laws_markNoteS.l0 k1 (y454.set (x5_1:Int).toNat (⟨(rd_T62 y454 x5_1).f0,(rd_T62 y454 x5_1).f1,wrap64 ((wrap64 (x1_1+1))+1)⟩:S62)) (wrap64 ((wrap64 ((wrap64 (x1_1+1))+1))+1)) (wrap64 (x5_1+1))))=some (r1,r2):=by subst hy453;exact H
    have Ny453:=am hy453
    clear hy453
    obtain⟨y454,hy454⟩:∃ y_:List (S62),y_=(y453.set (x5_1:Int).toNat (⟨(rd_T62 y453 x5_1).f0,wrap64 (x1_1+1),(rd_T62 y453 x5_1).f2⟩:S62)):=⟨_,rfl⟩
    replace H:(laws_markNoteS.l0 k1 (y454.set (x5_1:Int).toNat (⟨(rd_T62 y454 x5_1).f0,(rd_T62 y454 x5_1).f1,wrap64 ((wrap64 (x1_1+1))+1)⟩:S62)) (wrap64 ((wrap64 ((wrap64 (x1_1+1))+1))+1)) (wrap64 (x5_1+1)))=some (r1,r2):=by subst hy454;exact H
    have Ny454:=am hy454
    clear hy454
    obtain⟨y455,hy455⟩:∃ y_:List (S62),y_=(y454.set (x5_1:Int).toNat (⟨(rd_T62 y454 x5_1).f0,(rd_T62 y454 x5_1).f1,wrap64 ((wrap64 (x1_1+1))+1)⟩:S62)):=⟨_,rfl⟩
    replace H:(laws_markNoteS.l0 k1 y455 (wrap64 ((wrap64 ((wrap64 (x1_1+1))+1))+1)) (wrap64 (x5_1+1)))=some (r1,r2):=by subst hy455;exact H
    have Ny455:=am hy455
    clear hy455
    have H':=am H
    clear H
    obtain⟨Ao8,co8,eo8⟩:=Kd.R_slice HO_0.out
    subst eo8
    have p5:0≤(x5_1:Int):=od
    have q5:(x5_1:Int)<((x0_1.length:Int):Int):=od
    obtain⟨go5,co5,eo5,gb5,gl5,cl5,HG5⟩:=Kd.R_form HO_0.out (by omega)
    (first|cases eo5|(injection eo5 with ea_ en_ ec_;(first|subst ea_|(injection ea_ with ea_;subst ea_));subst ec_;clear en_))
    have GB5:=am gb5
    have GG5:=am HG5
    clear gb5 gl5 HG5
    have HMgo5:=am (show(P0_ go5∨w.heap.size≤go5) from(HO_0.out.1 _ rfl))
    obtain⟨ce5,hcl5,hM5,hcc5,hfr5⟩:=Kd.R_elem HO_0.out z62 (x5_1:Int) p5 q5
    obtain rfl:=k62_openM hM5
    have hx5_0:wr.cell? ⟨go5,(x5_1:Int).toNat*3,none⟩=some (.int .i64 ((rd_T62 x0_1 x5_1).f0)):=hcc5 0 _ rfl
    have hx5_1:wr.cell? ⟨go5,(x5_1:Int).toNat*3+1,none⟩=some (.int .i64 ((rd_T62 x0_1 x5_1).f1)):=hcc5 1 _ rfl
    have hx5_2:wr.cell? ⟨go5,(x5_1:Int).toNat*3+2,none⟩=some (.int .i64 ((rd_T62 x0_1 x5_1).f2)):=hcc5 2 _ rfl
    have hf5_0:wr.frozen? ⟨go5,(x5_1:Int).toNat*3,none⟩=false:=hfr5 0
    have hf5_1:wr.frozen? ⟨go5,(x5_1:Int).toNat*3+1,none⟩=false:=hfr5 1
    have hf5_2:wr.frozen? ⟨go5,(x5_1:Int).toNat*3+2,none⟩=false:=hfr5 2
    clear hcl5 hcc5 hfr5 hM5
    replace p5:=eq_true p5
    replace q5:=eq_true q5
    have HX9:=am (show Kd.R k62 62 wr w0.heap.size (fun k_=>(P0_ k_∨w.heap.size≤k_)) (.slice (some ⟨go5,0,none⟩) x0_1.length co8) x0_1 from(rup HO_0.out))
    obtain⟨ce9,hcl9,hM9,hcc9,hfr9⟩:=Kd.R_elem HX9.out z62 (x5_1:Int) (od) (by have h_:(x5_1:Int)<((x0_1.length:Int):Int):=od;first|exact h_|(have e_:=(Kd.R_reads' HO_0.out).1;omega)|simpa using h_)
    obtain rfl:=k62_openM hM9
    have HP9:=Kd.R_seg HX9.out (x5_1:Int) (od) (by have h_:(x5_1:Int)<((x0_1.length:Int):Int):=od;first|exact h_|(have e_:=(Kd.R_reads' HO_0.out).1;omega)|simpa using h_) (seg:=[.int .i64 x1_1]) (j:=0) hcl9 hcc9 (show 1≤3 from by decide) (x':=(⟨x1_1,(rd_T62 x0_1 x5_1).f1,(rd_T62 x0_1 x5_1).f2⟩:S62)) (k62_mkM _ _ _ (⟨x1_1,(rd_T62 x0_1 x5_1).f1,(rd_T62 x0_1 x5_1).f2⟩:S62) ) (fun _ hk=>hk)
    have hx9_0:=hcc9 0 _ rfl
    (try simp only[show(k62).sz=3 from rfl,Nat.mul_one,Nat.add_zero] at hx9_0)
    have hf9_0:=hfr9 0
    (try simp only[show(k62).sz=3 from rfl,Nat.mul_one,Nat.add_zero] at hf9_0)
    clear hcl9 hcc9 hfr9 hM9
    go_wp2_with (first|((with_reducible refine gate_store (t:=3) (p:=16) rfl ?_);refine store_event (t:=3) (p:=16) (v:=?vo_w10) (w1:=(wr.setCell ⟨go5,(x5_1:Int).toNat*3,none⟩ (.int .i64 x1_1))) ?hg ?ho ?hn ?hr ?_;(case ho=>rfl);(case hg=>rfl);(case hn=>rfl);(case hr=>first|(go_simp;done)|(go_simp;rfl));intro w10 hw;have hg:wr.grownBy w10 (some go5):=(by rw[hw];exact HP9.2);have hp_:Kd.R k62 62 w10 w0.heap.size (fun k_=>(P0_ k_∨w.heap.size≤k_)) (.slice (some ⟨go5,0,none⟩) x0_1.length co8) y453:=(by rw[hw,Ny453.out];exact HP9.1);clear HP9;replace HB:=am ((by rw[hw];exact below_set (HB.out) GB5.out:Below w0.heap.size w0 w10));replace HK:=am (Kept.of_grown (S:=(fun k_=>P0_ k_)) hg (by repeat(first|(with_reducible first|exact HK.out|apply Kept.alloc|apply Kept.drewN|apply Kept.drew)|exact HK.out)) (fun k_ e_=>(HO_0.out.1 k_ e_)));replace HO_0:=am (hp_);clear hg hw hp_;have p6:0≤(x5_1:Int):=od;have q6:(x5_1:Int)<((x0_1.length:Int):Int):=od;obtain⟨ce6,hcl6,hM6,hcc6,hfr6⟩:=Kd.R_elem HO_0.out z62 (x5_1:Int) p6 q6;obtain rfl:=k62_openM hM6;have hx6_0:w10.cell? ⟨go5,(x5_1:Int).toNat*3,none⟩=some (.int .i64 ((rd_T62 y453 x5_1).f0)):=hcc6 0 _ rfl;have hx6_1:w10.cell? ⟨go5,(x5_1:Int).toNat*3+1,none⟩=some (.int .i64 ((rd_T62 y453 x5_1).f1)):=hcc6 1 _ rfl;have hx6_2:w10.cell? ⟨go5,(x5_1:Int).toNat*3+2,none⟩=some (.int .i64 ((rd_T62 y453 x5_1).f2)):=hcc6 2 _ rfl;have hf6_0:w10.frozen? ⟨go5,(x5_1:Int).toNat*3,none⟩=false:=hfr6 0;have hf6_1:w10.frozen? ⟨go5,(x5_1:Int).toNat*3+1,none⟩=false:=hfr6 1;have hf6_2:w10.frozen? ⟨go5,(x5_1:Int).toNat*3+2,none⟩=false:=hfr6 2;(try clear hcl6);(try clear hcc6);(try clear hfr6);(try clear hM6);replace p6:=eq_true p6;replace q6:=eq_true q6;have HX11:=am (show Kd.R k62 62 w10 w0.heap.size (fun k_=>(P0_ k_∨w.heap.size≤k_)) (.slice (some ⟨go5,0,none⟩) x0_1.length co8) y453 from(rup HO_0.out));obtain⟨ce11,hcl11,hM11,hcc11,hfr11⟩:=Kd.R_elem HX11.out z62 (x5_1:Int) (od) (by have h_:(x5_1:Int)<((x0_1.length:Int):Int):=od;first|exact h_|(have e_:=(Kd.R_reads' HO_0.out).1;omega)|simpa using h_);obtain rfl:=k62_openM hM11;have HP11:=Kd.R_seg HX11.out (x5_1:Int) (od) (by have h_:(x5_1:Int)<((x0_1.length:Int):Int):=od;first|exact h_|(have e_:=(Kd.R_reads' HO_0.out).1;omega)|simpa using h_) (seg:=[.int .i64 (wrap64 (x1_1+1))]) (j:=1) hcl11 hcc11 (show 2≤3 from by decide) (x':=(⟨(rd_T62 y453 x5_1).f0,wrap64 (x1_1+1),(rd_T62 y453 x5_1).f2⟩:S62)) (k62_mkM _ _ _ (⟨(rd_T62 y453 x5_1).f0,wrap64 (x1_1+1),(rd_T62 y453 x5_1).f2⟩:S62) ) (fun _ hk=>hk);have hx11_1:=hcc11 1 _ rfl;(try simp only[show(k62).sz=3 from rfl,Nat.mul_one,Nat.add_zero] at hx11_1);have hf11_1:=hfr11 1;(try simp only[show(k62).sz=3 from rfl,Nat.mul_one,Nat.add_zero] at hf11_1);(try clear hcl11);(try clear hcc11);(try clear hfr11);(try clear hM11))|((with_reducible refine gate_store (t:=3) (p:=23) rfl ?_);refine store_event (t:=3) (p:=23) (v:=?vo_w12) (w1:=(w10.setCell ⟨go5,(x5_1:Int).toNat*3+1,none⟩ (.int .i64 (wrap64 (x1_1+1))))) ?hg ?ho ?hn ?hr ?_;(case ho=>rfl);(case hg=>rfl);(case hn=>rfl);(case hr=>first|(go_simp;done)|(go_simp;rfl));intro w12 hw;have hg:w10.grownBy w12 (some go5):=(by rw[hw];exact HP11.2);have hp_:Kd.R k62 62 w12 w0.heap.size (fun k_=>(P0_ k_∨w.heap.size≤k_)) (.slice (some ⟨go5,0,none⟩) x0_1.length co8) y454:=(by rw[hw,Ny454.out];exact HP11.1);clear HP11;replace HB:=am ((by rw[hw];exact below_set (HB.out) GB5.out:Below w0.heap.size w0 w12));replace HK:=am (Kept.of_grown (S:=(fun k_=>P0_ k_)) hg (by repeat(first|(with_reducible first|exact HK.out|apply Kept.alloc|apply Kept.drewN|apply Kept.drew)|exact HK.out)) (fun k_ e_=>(HO_0.out.1 k_ e_)));replace HO_0:=am (hp_);clear hg hw hp_;have p7:0≤(x5_1:Int):=od;have q7:(x5_1:Int)<((x0_1.length:Int):Int):=od;obtain⟨ce7,hcl7,hM7,hcc7,hfr7⟩:=Kd.R_elem HO_0.out z62 (x5_1:Int) p7 q7;obtain rfl:=k62_openM hM7;have hx7_0:w12.cell? ⟨go5,(x5_1:Int).toNat*3,none⟩=some (.int .i64 ((rd_T62 y454 x5_1).f0)):=hcc7 0 _ rfl;have hx7_1:w12.cell? ⟨go5,(x5_1:Int).toNat*3+1,none⟩=some (.int .i64 ((rd_T62 y454 x5_1).f1)):=hcc7 1 _ rfl;have hx7_2:w12.cell? ⟨go5,(x5_1:Int).toNat*3+2,none⟩=some (.int .i64 ((rd_T62 y454 x5_1).f2)):=hcc7 2 _ rfl;have hf7_0:w12.frozen? ⟨go5,(x5_1:Int).toNat*3,none⟩=false:=hfr7 0;have hf7_1:w12.frozen? ⟨go5,(x5_1:Int).toNat*3+1,none⟩=false:=hfr7 1;have hf7_2:w12.frozen? ⟨go5,(x5_1:Int).toNat*3+2,none⟩=false:=hfr7 2;(try clear hcl7);(try clear hcc7);(try clear hfr7);(try clear hM7);replace p7:=eq_true p7;replace q7:=eq_true q7;have HX13:=am (show Kd.R k62 62 w12 w0.heap.size (fun k_=>(P0_ k_∨w.heap.size≤k_)) (.slice (some ⟨go5,0,none⟩) x0_1.length co8) y454 from(rup HO_0.out));obtain⟨ce13,hcl13,hM13,hcc13,hfr13⟩:=Kd.R_elem HX13.out z62 (x5_1:Int) (od) (by have h_:(x5_1:Int)<((x0_1.length:Int):Int):=od;first|exact h_|(have e_:=(Kd.R_reads' HO_0.out).1;omega)|simpa using h_);obtain rfl:=k62_openM hM13;have HP13:=Kd.R_seg HX13.out (x5_1:Int) (od) (by have h_:(x5_1:Int)<((x0_1.length:Int):Int):=od;first|exact h_|(have e_:=(Kd.R_reads' HO_0.out).1;omega)|simpa using h_) (seg:=[.int .i64 (wrap64 ((wrap64 (x1_1+1))+1))]) (j:=2) hcl13 hcc13 (show 3≤3 from by decide) (x':=(⟨(rd_T62 y454 x5_1).f0,(rd_T62 y454 x5_1).f1,wrap64 ((wrap64 (x1_1+1))+1)⟩:S62)) (k62_mkM _ _ _ (⟨(rd_T62 y454 x5_1).f0,(rd_T62 y454 x5_1).f1,wrap64 ((wrap64 (x1_1+1))+1)⟩:S62) ) (fun _ hk=>hk);have hx13_2:=hcc13 2 _ rfl;(try simp only[show(k62).sz=3 from rfl,Nat.mul_one,Nat.add_zero] at hx13_2);have hf13_2:=hfr13 2;(try simp only[show(k62).sz=3 from rfl,Nat.mul_one,Nat.add_zero] at hf13_2);(try clear hcl13);(try clear hcc13);(try clear hfr13);(try clear hM13))|((with_reducible refine gate_store (t:=3) (p:=30) rfl ?_);refine store_event (t:=3) (p:=30) (v:=?vo_w14) (w1:=(w12.setCell ⟨go5,(x5_1:Int).toNat*3+2,none⟩ (.int .i64 (wrap64 ((wrap64 (x1_1+1))+1))))) ?hg ?ho ?hn ?hr ?_;(case ho=>rfl);(case hg=>rfl);(case hn=>rfl);(case hr=>first|(go_simp;done)|(go_simp;rfl));intro w14 hw;have hg:w12.grownBy w14 (some go5):=(by rw[hw];exact HP13.2);have hp_:Kd.R k62 62 w14 w0.heap.size (fun k_=>(P0_ k_∨w.heap.size≤k_)) (.slice (some ⟨go5,0,none⟩) x0_1.length co8) y455:=(by rw[hw,Ny455.out];exact HP13.1);clear HP13;replace HB:=am ((by rw[hw];exact below_set (HB.out) GB5.out:Below w0.heap.size w0 w14));replace HK:=am (Kept.of_grown (S:=(fun k_=>P0_ k_)) hg (by repeat(first|(with_reducible first|exact HK.out|apply Kept.alloc|apply Kept.drewN|apply Kept.drew)|exact HK.out)) (fun k_ e_=>(HO_0.out.1 k_ e_)));replace HO_0:=am (hp_);clear hg hw hp_))
    go_roundg k1
    case measure=>have:=HK1.out;omega
    case rel=>exact⟨(y455),(wrap64 ((wrap64 ((wrap64 (x1_1+1))+1))+1)),(wrap64 (x5_1+1)),fin2,fin2,H',⟨by have:=HK1.out;omega⟩,⟨rup HO_0.out⟩,⟨by repeat(first|(with_reducible first|exact HK.out|apply Kept.alloc|apply Kept.drewN|apply Kept.drew)|exact HK.out)⟩,⟨bl⟩⟩
   ·have c3b0:=decide_eq_false c3
    clear c3
    simp only[Option.some.injEq,Prod.mk.injEq] at H
    obtain⟨rfl,rfl⟩:=H
    obtain⟨Ao15,co15,eo15⟩:=Kd.R_slice HO_0.out
    subst eo15
    go_wp2
    go_ret
    exact⟨fin1,by(with_reducible repeat(first|apply Kd.R_alloc|apply Kd.R_drewN|apply Kd.R_drew));exact HO_0.out,by repeat(first|(with_reducible first|exact HB.out|apply below_alloc|apply pw_below_drewN|apply below_drew1)|exact HB.out),by repeat(first|(with_reducible first|exact HK.out|apply Kept.alloc|apply Kept.drewN|apply Kept.drew)|exact HK.out)⟩

def laws_markHoleS.l0:Nat→List (S66)→Int→Int→Option (Int×(List (S66)))
 | 0,_,_,_=>none
 | k+1,x0,x1,x5=>if x5<(x0.length:Int) then(if 0≤x5 then((some (x0.set (x5:Int).toNat (⟨x1,(rd_T66 x0 x5).f1,(rd_T66 x0 x5).f2⟩:S66):List (S66))).bind fun y456=>((some (y456.set (x5:Int).toNat (⟨(rd_T66 y456 x5).f0,wrap64 (x1+1),(rd_T66 y456 x5).f2⟩:S66):List (S66))).bind fun y457=>(laws_markHoleS.l0 k (y457.set (x5:Int).toNat (⟨(rd_T66 y457 x5).f0,(rd_T66 y457 x5).f1,wrap64 ((wrap64 (x1+1))+1)⟩:S66)) (wrap64 ((wrap64 ((wrap64 (x1+1))+1))+1)) (wrap64 (x5+1))))) else(none)) else(some (x1,x0))
def laws_markHoleS.f (k:Nat) (l0:List (S66)) (a1:Int):Option (Int×(List (S66))):=laws_markHoleS.l0 k l0 a1 0
set_option maxHeartbeats 8000000 in
set_option maxRecDepth 100000 in
theorem laws_markHoleS.calls (k:Nat) (P0_:Nat→Prop) (u9000_:Value) (l0:List (S66)) (a1:Int) (r1:Int) (r2:List (S66)) (w0 w:World) (hB:Below w0.heap.size w0 w) (ho0:Kd.R k66 66 w w0.heap.size P0_ u9000_ l0) (h:laws_markHoleS.f k l0 a1=some (r1,r2)) :
  Calls Try.prog 25 #[u9000_,.int .i64 a1] w fun e w'=>e = .returned (.int .i64 r1)∧Kd.R k66 66 w' w0.heap.size (fun k_=>(P0_ k_∨w.heap.size≤k_)) u9000_ r2∧Below w0.heap.size w0 w'∧Kept w w' (fun k_=>P0_ k_):=by
 have HO0:=am (show Kd.R k66 66 w w0.heap.size (fun k_=>(P0_ k_∨w.heap.size≤k_)) u9000_ l0 from Kd.R_mono ho0 (fun k_ hk=>(.inl hk)))
 have HK:=am (Kept.refl w (fun k_=>P0_ k_))
 have HW0:=am hB.size
 have HB:=am hB
 clear hB
 have H:(laws_markHoleS.l0 k l0 a1 0)=some (r1,r2):=h
 clear h
 have H':=am H
 clear H
 go_enter Try.func25,Try.ntmps25
 go_wp2
 go_loopg [1,5] k (fun kq v1 v5 w'=>∃(x0_1:List (S66)) (x1_1:Int) (x5_1:Int),v1 = .int .i64 x1_1∧v5 = .int .i64 x5_1∧Aside0 (laws_markHoleS.l0 kq x0_1 x1_1 x5_1=some (r1,r2))∧Aside0 (kq≤k)∧Aside0 (Kd.R k66 66 w' w0.heap.size (fun k_=>(P0_ k_∨w.heap.size≤k_)) u9000_ x0_1)∧Aside0 (Kept w w' (fun k_=>P0_ k_))∧Aside0 (Below w0.heap.size w0 w'))
 case atStart=>exact⟨(l0),(a1),(0),fin2,fin2,H',⟨Nat.le_refl _⟩,⟨rup HO0.out⟩,⟨by repeat(first|(with_reducible first|exact HK.out|apply Kept.alloc|apply Kept.drewN|apply Kept.drew)|exact HK.out)⟩,⟨bl⟩⟩
 case round =>
  clear H'
  try clear c2
  try clear p2
  obtain⟨x0_1,x1_1,x5_1,rfl,rfl,HA,HK1,HO_0,HK,HB⟩:=hrel
  cases gk with
  | zero=>exact absurd HA.out (by simp [laws_markHoleS.l0])
  | succ k1 =>
   have H:=HA.out
   clear HA
   simp only[laws_markHoleS.l0] at H
   rcases itc H with⟨c3,H⟩|⟨c3,H⟩
   ·have c3b0:=decide_eq_true c3
    clear c3
    obtain⟨c4b0,H⟩:=ifb H
    obtain⟨y456,hy456⟩:∃ y_:List (S66),y_=(x0_1.set (x5_1:Int).toNat (⟨x1_1,(rd_T66 x0_1 x5_1).f1,(rd_T66 x0_1 x5_1).f2⟩:S66)):=⟨_,rfl⟩
    replace H:((some (y456.set (x5_1:Int).toNat (⟨(rd_T66 y456 x5_1).f0,wrap64 (x1_1+1),(rd_T66 y456 x5_1).f2⟩:S66):List (S66))).bind fun y457=>(laws_markHoleS.l0 k1 (y457.set (x5_1:Int).toNat (⟨(rd_T66 y457 x5_1).f0,(rd_T66 y457 x5_1).f1,wrap64 ((wrap64 (x1_1+1))+1)⟩:S66)) (wrap64 ((wrap64 ((wrap64 (x1_1+1))+1))+1)) (wrap64 (x5_1+1))))=some (r1,r2):=by subst hy456;exact H
    have Ny456:=am hy456
    clear hy456
    obtain⟨y457,hy457⟩:∃ y_:List (S66),y_=(y456.set (x5_1:Int).toNat (⟨(rd_T66 y456 x5_1).f0,wrap64 (x1_1+1),(rd_T66 y456 x5_1).f2⟩:S66)):=⟨_,rfl⟩
    replace H:(laws_markHoleS.l0 k1 (y457.set (x5_1:Int).toNat (⟨(rd_T66 y457 x5_1).f0,(rd_T66 y457 x5_1).f1,wrap64 ((wrap64 (x1_1+1))+1)⟩:S66)) (wrap64 ((wrap64 ((wrap64 (x1_1+1))+1))+1)) (wrap64 (x5_1+1)))=some (r1,r2):=by subst hy457;exact H
    have Ny457:=am hy457
    clear hy457
    obtain⟨y458,hy458⟩:∃ y_:List (S66),y_=(y457.set (x5_1:Int).toNat (⟨(rd_T66 y457 x5_1).f0,(rd_T66 y457 x5_1).f1,wrap64 ((wrap64 (x1_1+1))+1)⟩:S66)):=⟨_,rfl⟩
    replace H:(laws_markHoleS.l0 k1 y458 (wrap64 ((wrap64 ((wrap64 (x1_1+1))+1))+1)) (wrap64 (x5_1+1)))=some (r1,r2):=by subst hy458;exact H
    have Ny458:=am hy458
    clear hy458
    have H':=am H
    clear H
    obtain⟨Ao8,co8,eo8⟩:=Kd.R_slice HO_0.out
    subst eo8
    have p5:0≤(x5_1:Int):=od
    have q5:(x5_1:Int)<((x0_1.length:Int):Int):=od
    obtain⟨go5,co5,eo5,gb5,gl5,cl5,HG5⟩:=Kd.R_form HO_0.out (by omega)
    (first|cases eo5|(injection eo5 with ea_ en_ ec_;(first|subst ea_|(injection ea_ with ea_;subst ea_));subst ec_;clear en_))
    have GB5:=am gb5
    have GG5:=am HG5
    clear gb5 gl5 HG5
    have HMgo5:=am (show(P0_ go5∨w.heap.size≤go5) from(HO_0.out.1 _ rfl))
    obtain⟨ce5,hcl5,hM5,hcc5,hfr5⟩:=Kd.R_elem HO_0.out z66 (x5_1:Int) p5 q5
    obtain rfl:=k66_openM hM5
    have hx5_0:wr.cell? ⟨go5,(x5_1:Int).toNat*3,none⟩=some (.int .i64 ((rd_T66 x0_1 x5_1).f0)):=hcc5 0 _ rfl
    have hx5_1:wr.cell? ⟨go5,(x5_1:Int).toNat*3+1,none⟩=some (.int .i64 ((rd_T66 x0_1 x5_1).f1)):=hcc5 1 _ rfl
    have hx5_2:wr.cell? ⟨go5,(x5_1:Int).toNat*3+2,none⟩=some (.int .i64 ((rd_T66 x0_1 x5_1).f2)):=hcc5 2 _ rfl
    have hf5_0:wr.frozen? ⟨go5,(x5_1:Int).toNat*3,none⟩=false:=hfr5 0
    have hf5_1:wr.frozen? ⟨go5,(x5_1:Int).toNat*3+1,none⟩=false:=hfr5 1
    have hf5_2:wr.frozen? ⟨go5,(x5_1:Int).toNat*3+2,none⟩=false:=hfr5 2
    clear hcl5 hcc5 hfr5 hM5
    replace p5:=eq_true p5
    replace q5:=eq_true q5
    have HX9:=am (show Kd.R k66 66 wr w0.heap.size (fun k_=>(P0_ k_∨w.heap.size≤k_)) (.slice (some ⟨go5,0,none⟩) x0_1.length co8) x0_1 from(rup HO_0.out))
    obtain⟨ce9,hcl9,hM9,hcc9,hfr9⟩:=Kd.R_elem HX9.out z66 (x5_1:Int) (od) (by have h_:(x5_1:Int)<((x0_1.length:Int):Int):=od;first|exact h_|(have e_:=(Kd.R_reads' HO_0.out).1;omega)|simpa using h_)
    obtain rfl:=k66_openM hM9
    have HP9:=Kd.R_seg HX9.out (x5_1:Int) (od) (by have h_:(x5_1:Int)<((x0_1.length:Int):Int):=od;first|exact h_|(have e_:=(Kd.R_reads' HO_0.out).1;omega)|simpa using h_) (seg:=[.int .i64 x1_1]) (j:=0) hcl9 hcc9 (show 1≤3 from by decide) (x':=(⟨x1_1,(rd_T66 x0_1 x5_1).f1,(rd_T66 x0_1 x5_1).f2⟩:S66)) (k66_mkM _ _ _ (⟨x1_1,(rd_T66 x0_1 x5_1).f1,(rd_T66 x0_1 x5_1).f2⟩:S66) ) (fun _ hk=>hk)
    have hx9_0:=hcc9 0 _ rfl
    (try simp only[show(k66).sz=3 from rfl,Nat.mul_one,Nat.add_zero] at hx9_0)
    have hf9_0:=hfr9 0
    (try simp only[show(k66).sz=3 from rfl,Nat.mul_one,Nat.add_zero] at hf9_0)
    clear hcl9 hcc9 hfr9 hM9
    go_wp2_with (first|((with_reducible refine gate_store (t:=3) (p:=16) rfl ?_);refine store_event (t:=3) (p:=16) (v:=?vo_w10) (w1:=(wr.setCell ⟨go5,(x5_1:Int).toNat*3,none⟩ (.int .i64 x1_1))) ?hg ?ho ?hn ?hr ?_;(case ho=>rfl);(case hg=>rfl);(case hn=>rfl);(case hr=>first|(go_simp;done)|(go_simp;rfl));intro w10 hw;have hg:wr.grownBy w10 (some go5):=(by rw[hw];exact HP9.2);have hp_:Kd.R k66 66 w10 w0.heap.size (fun k_=>(P0_ k_∨w.heap.size≤k_)) (.slice (some ⟨go5,0,none⟩) x0_1.length co8) y456:=(by rw[hw,Ny456.out];exact HP9.1);clear HP9;replace HB:=am ((by rw[hw];exact below_set (HB.out) GB5.out:Below w0.heap.size w0 w10));replace HK:=am (Kept.of_grown (S:=(fun k_=>P0_ k_)) hg (by repeat(first|(with_reducible first|exact HK.out|apply Kept.alloc|apply Kept.drewN|apply Kept.drew)|exact HK.out)) (fun k_ e_=>(HO_0.out.1 k_ e_)));replace HO_0:=am (hp_);clear hg hw hp_;have p6:0≤(x5_1:Int):=od;have q6:(x5_1:Int)<((x0_1.length:Int):Int):=od;obtain⟨ce6,hcl6,hM6,hcc6,hfr6⟩:=Kd.R_elem HO_0.out z66 (x5_1:Int) p6 q6;obtain rfl:=k66_openM hM6;have hx6_0:w10.cell? ⟨go5,(x5_1:Int).toNat*3,none⟩=some (.int .i64 ((rd_T66 y456 x5_1).f0)):=hcc6 0 _ rfl;have hx6_1:w10.cell? ⟨go5,(x5_1:Int).toNat*3+1,none⟩=some (.int .i64 ((rd_T66 y456 x5_1).f1)):=hcc6 1 _ rfl;have hx6_2:w10.cell? ⟨go5,(x5_1:Int).toNat*3+2,none⟩=some (.int .i64 ((rd_T66 y456 x5_1).f2)):=hcc6 2 _ rfl;have hf6_0:w10.frozen? ⟨go5,(x5_1:Int).toNat*3,none⟩=false:=hfr6 0;have hf6_1:w10.frozen? ⟨go5,(x5_1:Int).toNat*3+1,none⟩=false:=hfr6 1;have hf6_2:w10.frozen? ⟨go5,(x5_1:Int).toNat*3+2,none⟩=false:=hfr6 2;(try clear hcl6);(try clear hcc6);(try clear hfr6);(try clear hM6);replace p6:=eq_true p6;replace q6:=eq_true q6;have HX11:=am (show Kd.R k66 66 w10 w0.heap.size (fun k_=>(P0_ k_∨w.heap.size≤k_)) (.slice (some ⟨go5,0,none⟩) x0_1.length co8) y456 from(rup HO_0.out));obtain⟨ce11,hcl11,hM11,hcc11,hfr11⟩:=Kd.R_elem HX11.out z66 (x5_1:Int) (od) (by have h_:(x5_1:Int)<((x0_1.length:Int):Int):=od;first|exact h_|(have e_:=(Kd.R_reads' HO_0.out).1;omega)|simpa using h_);obtain rfl:=k66_openM hM11;have HP11:=Kd.R_seg HX11.out (x5_1:Int) (od) (by have h_:(x5_1:Int)<((x0_1.length:Int):Int):=od;first|exact h_|(have e_:=(Kd.R_reads' HO_0.out).1;omega)|simpa using h_) (seg:=[.int .i64 (wrap64 (x1_1+1))]) (j:=1) hcl11 hcc11 (show 2≤3 from by decide) (x':=(⟨(rd_T66 y456 x5_1).f0,wrap64 (x1_1+1),(rd_T66 y456 x5_1).f2⟩:S66)) (k66_mkM _ _ _ (⟨(rd_T66 y456 x5_1).f0,wrap64 (x1_1+1),(rd_T66 y456 x5_1).f2⟩:S66) ) (fun _ hk=>hk);have hx11_1:=hcc11 1 _ rfl;(try simp only[show(k66).sz=3 from rfl,Nat.mul_one,Nat.add_zero] at hx11_1);have hf11_1:=hfr11 1;(try simp only[show(k66).sz=3 from rfl,Nat.mul_one,Nat.add_zero] at hf11_1);(try clear hcl11);(try clear hcc11);(try clear hfr11);(try clear hM11))|((with_reducible refine gate_store (t:=3) (p:=23) rfl ?_);refine store_event (t:=3) (p:=23) (v:=?vo_w12) (w1:=(w10.setCell ⟨go5,(x5_1:Int).toNat*3+1,none⟩ (.int .i64 (wrap64 (x1_1+1))))) ?hg ?ho ?hn ?hr ?_;(case ho=>rfl);(case hg=>rfl);(case hn=>rfl);(case hr=>first|(go_simp;done)|(go_simp;rfl));intro w12 hw;have hg:w10.grownBy w12 (some go5):=(by rw[hw];exact HP11.2);have hp_:Kd.R k66 66 w12 w0.heap.size (fun k_=>(P0_ k_∨w.heap.size≤k_)) (.slice (some ⟨go5,0,none⟩) x0_1.length co8) y457:=(by rw[hw,Ny457.out];exact HP11.1);clear HP11;replace HB:=am ((by rw[hw];exact below_set (HB.out) GB5.out:Below w0.heap.size w0 w12));replace HK:=am (Kept.of_grown (S:=(fun k_=>P0_ k_)) hg (by repeat(first|(with_reducible first|exact HK.out|apply Kept.alloc|apply Kept.drewN|apply Kept.drew)|exact HK.out)) (fun k_ e_=>(HO_0.out.1 k_ e_)));replace HO_0:=am (hp_);clear hg hw hp_;have p7:0≤(x5_1:Int):=od;have q7:(x5_1:Int)<((x0_1.length:Int):Int):=od;obtain⟨ce7,hcl7,hM7,hcc7,hfr7⟩:=Kd.R_elem HO_0.out z66 (x5_1:Int) p7 q7;obtain rfl:=k66_openM hM7;have hx7_0:w12.cell? ⟨go5,(x5_1:Int).toNat*3,none⟩=some (.int .i64 ((rd_T66 y457 x5_1).f0)):=hcc7 0 _ rfl;have hx7_1:w12.cell? ⟨go5,(x5_1:Int).toNat*3+1,none⟩=some (.int .i64 ((rd_T66 y457 x5_1).f1)):=hcc7 1 _ rfl;have hx7_2:w12.cell? ⟨go5,(x5_1:Int).toNat*3+2,none⟩=some (.int .i64 ((rd_T66 y457 x5_1).f2)):=hcc7 2 _ rfl;have hf7_0:w12.frozen? ⟨go5,(x5_1:Int).toNat*3,none⟩=false:=hfr7 0;have hf7_1:w12.frozen? ⟨go5,(x5_1:Int).toNat*3+1,none⟩=false:=hfr7 1;have hf7_2:w12.frozen? ⟨go5,(x5_1:Int).toNat*3+2,none⟩=false:=hfr7 2;(try clear hcl7);(try clear hcc7);(try clear hfr7);(try clear hM7);replace p7:=eq_true p7;replace q7:=eq_true q7;have HX13:=am (show Kd.R k66 66 w12 w0.heap.size (fun k_=>(P0_ k_∨w.heap.size≤k_)) (.slice (some ⟨go5,0,none⟩) x0_1.length co8) y457 from(rup HO_0.out));obtain⟨ce13,hcl13,hM13,hcc13,hfr13⟩:=Kd.R_elem HX13.out z66 (x5_1:Int) (od) (by have h_:(x5_1:Int)<((x0_1.length:Int):Int):=od;first|exact h_|(have e_:=(Kd.R_reads' HO_0.out).1;omega)|simpa using h_);obtain rfl:=k66_openM hM13;have HP13:=Kd.R_seg HX13.out (x5_1:Int) (od) (by have h_:(x5_1:Int)<((x0_1.length:Int):Int):=od;first|exact h_|(have e_:=(Kd.R_reads' HO_0.out).1;omega)|simpa using h_) (seg:=[.int .i64 (wrap64 ((wrap64 (x1_1+1))+1))]) (j:=2) hcl13 hcc13 (show 3≤3 from by decide) (x':=(⟨(rd_T66 y457 x5_1).f0,(rd_T66 y457 x5_1).f1,wrap64 ((wrap64 (x1_1+1))+1)⟩:S66)) (k66_mkM _ _ _ (⟨(rd_T66 y457 x5_1).f0,(rd_T66 y457 x5_1).f1,wrap64 ((wrap64 (x1_1+1))+1)⟩:S66) ) (fun _ hk=>hk);have hx13_2:=hcc13 2 _ rfl;(try simp only[show(k66).sz=3 from rfl,Nat.mul_one,Nat.add_zero] at hx13_2);have hf13_2:=hfr13 2;(try simp only[show(k66).sz=3 from rfl,Nat.mul_one,Nat.add_zero] at hf13_2);(try clear hcl13);(try clear hcc13);(try clear hfr13);(try clear hM13))|((with_reducible refine gate_store (t:=3) (p:=30) rfl ?_);refine store_event (t:=3) (p:=30) (v:=?vo_w14) (w1:=(w12.setCell ⟨go5,(x5_1:Int).toNat*3+2,none⟩ (.int .i64 (wrap64 ((wrap64 (x1_1+1))+1))))) ?hg ?ho ?hn ?hr ?_;(case ho=>rfl);(case hg=>rfl);(case hn=>rfl);(case hr=>first|(go_simp;done)|(go_simp;rfl));intro w14 hw;have hg:w12.grownBy w14 (some go5):=(by rw[hw];exact HP13.2);have hp_:Kd.R k66 66 w14 w0.heap.size (fun k_=>(P0_ k_∨w.heap.size≤k_)) (.slice (some ⟨go5,0,none⟩) x0_1.length co8) y458:=(by rw[hw,Ny458.out];exact HP13.1);clear HP13;replace HB:=am ((by rw[hw];exact below_set (HB.out) GB5.out:Below w0.heap.size w0 w14));replace HK:=am (Kept.of_grown (S:=(fun k_=>P0_ k_)) hg (by repeat(first|(with_reducible first|exact HK.out|apply Kept.alloc|apply Kept.drewN|apply Kept.drew)|exact HK.out)) (fun k_ e_=>(HO_0.out.1 k_ e_)));replace HO_0:=am (hp_);clear hg hw hp_))
    go_roundg k1
    case measure=>have:=HK1.out;omega
    case rel=>exact⟨(y458),(wrap64 ((wrap64 ((wrap64 (x1_1+1))+1))+1)),(wrap64 (x5_1+1)),fin2,fin2,H',⟨by have:=HK1.out;omega⟩,⟨rup HO_0.out⟩,⟨by repeat(first|(with_reducible first|exact HK.out|apply Kept.alloc|apply Kept.drewN|apply Kept.drew)|exact HK.out)⟩,⟨bl⟩⟩
   ·have c3b0:=decide_eq_false c3
    clear c3
    simp only[Option.some.injEq,Prod.mk.injEq] at H
    obtain⟨rfl,rfl⟩:=H
    obtain⟨Ao15,co15,eo15⟩:=Kd.R_slice HO_0.out
    subst eo15
    go_wp2
    go_ret
    exact⟨fin1,by(with_reducible repeat(first|apply Kd.R_alloc|apply Kd.R_drewN|apply Kd.R_drew));exact HO_0.out,by repeat(first|(with_reducible first|exact HB.out|apply below_alloc|apply pw_below_drewN|apply below_drew1)|exact HB.out),by repeat(first|(with_reducible first|exact HK.out|apply Kept.alloc|apply Kept.drewN|apply Kept.drew)|exact HK.out)⟩

-- NOT PRINTED: function 26 (laws_markIntSS)

def laws_heldIntS.l0:Nat→List Int→Int→Int→Option (Int)
 | 0,_,_,_=>none
 | k+1,x0,x1,x5=>if x5<(x0.length:Int) then(if 0≤x5 then(if(rd x0 x5)=x1 then(laws_heldIntS.l0 k x0 (wrap64 (x1+1)) (wrap64 (x5+1))) else(some (-1))) else(none)) else(some x1)
def laws_heldIntS.f (k:Nat) (l0:List Int) (a1:Int):Option (Int):=laws_heldIntS.l0 k l0 a1 0
set_option maxHeartbeats 8000000 in
set_option maxRecDepth 100000 in
theorem laws_heldIntS.calls (k:Nat) (A0:Option Addr) (c0:Nat) (l0:List Int) (a1:Int) (r:Int) (w:World) (hr0:Kd.C (Kd.int .i64) w A0 l0.length l0) (hc0:l0.length≤c0) (h:laws_heldIntS.f k l0 a1=some r) :
  Calls Try.prog 42 #[.slice A0 l0.length c0,.int .i64 a1] w fun e w'=>e = .returned (.int .i64 r)∧Drawn0 w w':=by
 have HR0:=am hr0
 have HC0:=am hc0
 clear hr0 hc0
 have H:(laws_heldIntS.l0 k l0 a1 0)=some r:=h
 clear h
 have H':=am H
 clear H
 go_enter Try.func42,Try.ntmps42
 go_wp2
 go_loopg [1,5] k (fun kq v1 v5 w'=>∃(x1_1:Int) (x5_1:Int),v1 = .int .i64 x1_1∧v5 = .int .i64 x5_1∧Aside0 (laws_heldIntS.l0 kq l0 x1_1 x5_1=some r)∧Aside0 (kq≤k)∧Drawn0 w w')
 case atStart=>exact⟨(a1),(0),fin2,fin2,H',⟨Nat.le_refl _⟩,by repeat(first|exact Drawn0.refl _|apply Drawn0.step)⟩
 case round =>
  clear H'
  try clear p2
  obtain⟨x1_1,x5_1,rfl,rfl,HA,HK1,⟨m1,rfl⟩⟩:=hrel
  cases gk with
  | zero=>exact absurd HA.out (by simp [laws_heldIntS.l0])
  | succ k1 =>
   have H:=HA.out
   clear HA
   simp only[laws_heldIntS.l0] at H
   rcases itc H with⟨c3,H⟩|⟨c3,H⟩
   ·have c3b0:=decide_eq_true c3
    clear c3
    obtain⟨c4b0,H⟩:=ifb H
    rcases itc H with⟨c5,H⟩|⟨c5,H⟩
    ·have c5b0:((rd l0 x5_1) == x1_1)=true:=beq_iff_eq.mpr c5
     have c5b1:((rd l0 x5_1) != x1_1)=false:=bne_eq_false_iff_eq.mpr c5
     clear c5
     have H':=am H
     clear H
     have p460:0≤(x5_1:Int):=od
     have q460:x5_1<(l0.length:Int):=od
     obtain⟨ad460,e460,hx460_0⟩:=Kd.at_int HR0.out x5_1 p460 q460
     cases e460
     replace p460:=eq_true p460
     replace q460:=eq_true q460
     go_wp2
     go_roundg k1
     case measure=>have:=HK1.out;omega
     case rel=>exact⟨(wrap64 (x1_1+1)),(wrap64 (x5_1+1)),fin2,fin2,H',⟨by have:=HK1.out;omega⟩,by repeat(first|exact Drawn0.refl _|apply Drawn0.step)⟩
    ·have c5b0:((rd l0 x5_1) == x1_1)=false:=beq_eq_false_iff_ne.mpr c5
     have c5b1:((rd l0 x5_1) != x1_1)=true:=bne_iff_ne.mpr c5
     obtain rfl:=Option.some.inj H
     have p460:0≤(x5_1:Int):=od
     have q460:x5_1<(l0.length:Int):=od
     obtain⟨ad460,e460,hx460_0⟩:=Kd.at_int HR0.out x5_1 p460 q460
     cases e460
     replace p460:=eq_true p460
     replace q460:=eq_true q460
     go_wp2
     go_ret
     exact⟨by first|rfl|(simp;done)|(simp [*];done),by repeat(first|exact Drawn0.refl _|apply Drawn0.step)⟩
   ·have c3b0:=decide_eq_false c3
    clear c3
    obtain rfl:=Option.some.inj H
    go_wp2
    go_ret
    exact⟨by first|rfl|(simp;done)|(simp [*];done),by repeat(first|exact Drawn0.refl _|apply Drawn0.step)⟩

end Go.Proofs.Ytipklbjbgbbgpaa.PFnExactFaultsOf
