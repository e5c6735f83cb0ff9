/- The walks of functions that FnExactPassesVerifier reaches: what they return is what the plain functions of the same names say. Laid by a program of this session after the kit's print. No conditions beyond the arguments' being read. -/
import Derived.Test.YtipklbjbgbbgpaaSPassesVerifier0
import Derived.Test.YtipklbjbgbbgpaaSPassesVerifier14
import Derived.Test.YtipklbjbgbbgpaaSPassesVerifier17
namespace Go.Proofs.Ytipklbjbgbbgpaa.PFnExactPassesVerifier
open Go.RowKit Go.Proofs.YtipklbjbgbbgpaaW.PrintWords Go.Proofs.YtipklbjbgbbgpaaW.PrintLast Go.Proofs.YtipklbjbgbbgpaaW.PrintMore
attribute [local go_sem] max2_int min2_int max_two min_two max_three min_three max_four min_four   -- for this text's walks alone
set_option linter.unusedVariables false
set_option linter.unusedSimpArgs false

def impl_isTolerance.f (a0:Int):Option (Bool):=if a0≥0 then(some (decide (a0≤50))) else(some false)
set_option maxHeartbeats 8000000 in
set_option maxRecDepth 100000 in
theorem impl_isTolerance.calls (a0:Int) (r:Bool) (w:World) (h:impl_isTolerance.f a0=some r) :
  Calls Try.prog 40 #[.int .i64 a0] w fun e w'=>e = .returned (.bool r)∧Drawn0 w w':=by
 have H:(if a0≥0 then(some (decide (a0≤50))) else(some false))=some r:=h
 clear h
 rcases itc H with⟨c2,H⟩|⟨c2,H⟩
 ·have c2b0:decide (0≤a0)=true:=decide_eq_true c2
  clear c2
  obtain rfl:=Option.some.inj H
  go_enter Try.func40,Try.ntmps40
  go_wp2
  go_ret
  exact⟨by first|rfl|(simp;done)|(simp [*];done),by repeat(first|exact Drawn0.refl _|apply Drawn0.step)⟩
 ·have c2b0:decide (0≤a0)=false:=decide_eq_false c2
  clear c2
  obtain rfl:=Option.some.inj H
  go_enter Try.func40,Try.ntmps40
  go_wp2
  go_ret
  exact⟨by first|rfl|(simp;done)|(simp [*];done),by repeat(first|exact Drawn0.refl _|apply Drawn0.step)⟩

def impl_FaultsOf.f (k:Nat) (l0_0:List Int) (a0_1:Int) (l1:List (S62)) (l2:List (S66)) (a3_0:Int) (a3_1:Int) (a3_2:Int) (a4:Int):Option ((List (List Int))×Bool):=(impl_canMatch.f k l0_0 a0_1 l1 l2).bind fun t425=>(if t425=true then((impl_IsAction.f a3_0 a3_1 a3_2).bind fun t426=>(if t426=true then((impl_isTolerance.f a4).bind fun t427=>(if t427=true then((impl_faultsOf.f k l0_0 a0_1 l1 l2 a3_0 a3_1 a3_2 a4).bind fun t428=>(some (t428,true))) else(some (([]:List (List Int)),false)))) else(some (([]:List (List Int)),false)))) else(some (([]:List (List Int)),false)))
set_option maxHeartbeats 8000000 in
set_option maxRecDepth 100000 in
theorem impl_FaultsOf.calls (k:Nat) (A0_0:Option Addr) (c0_0:Nat) (l0_0:List Int) (a0_1:Int) (A1:Option Addr) (c1:Nat) (l1:List (S62)) (A2:Option Addr) (c2:Nat) (l2:List (S66)) (a3_0:Int) (a3_1:Int) (a3_2:Int) (a4:Int) (r1:List (List Int)) (r2:Bool) (w:World) (hr0_0:Kd.C (Kd.int .i64) w A0_0 l0_0.length l0_0) (hc0_0:l0_0.length≤c0_0) (hr1:Kd.C k62 w A1 l1.length l1) (hc1:l1.length≤c1) (hr2:Kd.C k66 w A2 l2.length l2) (hc2:l2.length≤c2) (h:impl_FaultsOf.f k l0_0 a0_1 l1 l2 a3_0 a3_1 a3_2 a4=some (r1,r2)) :
  Calls Try.prog 21 #[.agg #[.slice A0_0 l0_0.length c0_0,.int .i64 a0_1],.slice A1 l1.length c1,.slice A2 l2.length c2,.agg #[.int .i64 a3_0,.int .i64 a3_1,.int .i64 a3_2],.int .i64 a4] w fun e w'=>∃ v0_:Value,e = .returned (.tuple #[v0_,.bool r2])∧Kd.S (Kd.slice 3 (Kd.int .i64)) 22 w' w.heap.size (fun _=>True) v0_ r1∧Below w.heap.size w w':=by
 have hu34:=Try.underlying34
 have hu40:=Try.underlying40
 have HR0_0:=am hr0_0
 have HC0_0:=am hc0_0
 clear hr0_0 hc0_0
 have HR1:=am hr1
 have HC1:=am hc1
 clear hr1 hc1
 have HR2:=am hr2
 have HC2:=am hc2
 clear hr2 hc2
 have HB:=am (Below.refl w.heap.size w)
 have H:((impl_canMatch.f k l0_0 a0_1 l1 l2).bind fun t425=>(if t425=true then((impl_IsAction.f a3_0 a3_1 a3_2).bind fun t426=>(if t426=true then((impl_isTolerance.f a4).bind fun t427=>(if t427=true then((impl_faultsOf.f k l0_0 a0_1 l1 l2 a3_0 a3_1 a3_2 a4).bind fun t428=>(some (t428,true))) else(some (([]:List (List Int)),false)))) else(some (([]:List (List Int)),false)))) else(some (([]:List (List Int)),false))))=some (r1,r2):=h
 clear h
 replace H:=Option.bind_eq_some_iff.mp H
 obtain⟨t425,A60,H⟩:=H
 replace H:(if t425=true then((impl_IsAction.f a3_0 a3_1 a3_2).bind fun t426=>(if t426=true then((impl_isTolerance.f a4).bind fun t427=>(if t427=true then((impl_faultsOf.f k l0_0 a0_1 l1 l2 a3_0 a3_1 a3_2 a4).bind fun t428=>(some (t428,true))) else(some (([]:List (List Int)),false)))) else(some (([]:List (List Int)),false)))) else(some (([]:List (List Int)),false)))=some (r1,r2):=H
 have A6:=am A60
 clear A60
 by_cases c7:t425=true
 ·subst c7
  replace H:=(if_pos rfl).symm.trans H
  replace H:=Option.bind_eq_some_iff.mp H
  obtain⟨t426,A80,H⟩:=H
  replace H:(if t426=true then((impl_isTolerance.f a4).bind fun t427=>(if t427=true then((impl_faultsOf.f k l0_0 a0_1 l1 l2 a3_0 a3_1 a3_2 a4).bind fun t428=>(some (t428,true))) else(some (([]:List (List Int)),false)))) else(some (([]:List (List Int)),false)))=some (r1,r2):=H
  have A8:=am A80
  clear A80
  by_cases c9:t426=true
  ·subst c9
   replace H:=(if_pos rfl).symm.trans H
   replace H:=Option.bind_eq_some_iff.mp H
   obtain⟨t427,A100,H⟩:=H
   replace H:(if t427=true then((impl_faultsOf.f k l0_0 a0_1 l1 l2 a3_0 a3_1 a3_2 a4).bind fun t428=>(some (t428,true))) else(some (([]:List (List Int)),false)))=some (r1,r2):=H
   have A10:=am A100
   clear A100
   by_cases c11:t427=true
   ·subst c11
    replace H:=(if_pos rfl).symm.trans H
    replace H:=Option.bind_eq_some_iff.mp H
    obtain⟨t428,A120,H⟩:=H
    replace H:(some (t428,true))=some (r1,r2):=H
    have A12:=am A120
    clear A120
    simp only[Option.some.injEq,Prod.mk.injEq] at H
    obtain⟨rfl,rfl⟩:=H
    go_enter Try.func21,Try.ntmps21
    go_wp2_with (first|((with_reducible refine gate_dst (N:=5) rfl ?_);refine box_event ?hg (N:=5) ?hd (cs := #[.slice A0_0 l0_0.length c0_0,.int .i64 a0_1]) (t:=34) ?hr ?_;(case hd=>rfl);(case hg=>rfl);(case hr=>first|(go_simp;done)|(go_simp;rfl));intro gb423 hg w13 hbox hb;have BK423:=am (hbox);have GW423:=am (ge_ bl hg);have GE423:=am (ge_ bl hg);replace HB:=am (below_step bl hb);clear hb hbox hg)|((with_reducible refine gate_dst (N:=8) rfl ?_);refine box_event ?hg (N:=8) ?hd (cs := #[.int .i64 a3_0,.int .i64 a3_1,.int .i64 a3_2]) (t:=40) ?hr ?_;(case hd=>rfl);(case hg=>rfl);(case hr=>first|(go_simp;done)|(go_simp;rfl));intro gb424 hg w14 hbox hb;have BK424:=am (hbox);have GW424:=am (ge_ bl hg);have GE424:=am (ge_ bl hg);replace HB:=am (below_step bl hb);have NB423_424:=am (nl (bup BK423.out) hg);have NB424_423:=am (ng (bup BK423.out) hg);replace BK423:=am (blk_below (bup BK423.out) hb);clear hb hbox hg;have hnb15:=NB423_424.out;have hnc15:=NB424_423.out;have hcz16_0:=bc BK423.out 0;have hcz16_1:=bc BK423.out 1;have hfz16_0:=blk_frozen BK423.out 0;have hfz16_1:=blk_frozen BK423.out 1)|((with_reducible refine gate_callee (f:=37) rfl ?_);refine goesL_ (some 15) rfl rfl Try.func37 (by kernel_rfl) rfl #[.agg #[.slice A0_0 l0_0.length c0_0,.int .i64 a0_1],.slice A1 l1.length c1,.slice A2 l2.length c2] rfl tl ?_;(with_reducible refine(impl_canMatch.calls k _ _ l0_0 a0_1 _ _ l1 _ _ l2 true _ ?side1 ?side2 ?side3 ?side4 ?side5 ?side6 A6.out).mono ?_);(case side1=>exact cup (Kd.C_below HR0_0.out HB.out));(case side2=>exact HC0_0.out);(case side3=>exact cup (Kd.C_below HR1.out HB.out));(case side4=>exact HC1.out);(case side5=>exact cup (Kd.C_below HR2.out HB.out));(case side6=>exact HC2.out);rintro e w17 ⟨rfl,hb⟩;refine⟨_,rfl,?_⟩;replace BK423:=am (blk_below (bup BK423.out) hb);replace BK424:=am (blk_below (bup BK424.out) hb);replace HB:=am (below_step bl hb);(try clear hb);have hcz18_0:=bc BK424.out 0;have hcz18_1:=bc BK424.out 1;have hcz18_2:=bc BK424.out 2;have hfz18_0:=blk_frozen BK424.out 0;have hfz18_1:=blk_frozen BK424.out 1;have hfz18_2:=blk_frozen BK424.out 2)|(go_at_call 38;(with_reducible refine(impl_IsAction.calls a3_0 a3_1 a3_2 true _ A8.out).mono ?_);rintro e w19 ⟨rfl,hb⟩;replace BK423:=am (blk_below (bup BK423.out) hb);replace BK424:=am (blk_below (bup BK424.out) hb);replace HB:=am (below_step bl hb);(try clear hb))|(go_at_call 40;(with_reducible refine(impl_isTolerance.calls a4 true _ A10.out).mono ?_);rintro e w' ⟨rfl,⟨nd,rfl⟩⟩;have hcz20_0:=bc BK423.out 0;have hcz20_1:=bc BK423.out 1;have hfz20_0:=blk_frozen BK423.out 0;have hfz20_1:=blk_frozen BK423.out 1;have hcz21_0:=bc BK424.out 0;have hcz21_1:=bc BK424.out 1;have hcz21_2:=bc BK424.out 2;have hfz21_0:=blk_frozen BK424.out 0;have hfz21_1:=blk_frozen BK424.out 1;have hfz21_2:=blk_frozen BK424.out 2)|((with_reducible refine gate_callee (f:=39) rfl ?_);refine goesL_ (some 32) rfl rfl Try.func39 (by kernel_rfl) rfl #[.agg #[.slice A0_0 l0_0.length c0_0,.int .i64 a0_1],.slice A1 l1.length c1,.slice A2 l2.length c2,.agg #[.int .i64 a3_0,.int .i64 a3_1,.int .i64 a3_2],.int .i64 a4] rfl tl ?_;(with_reducible refine(impl_faultsOf.calls k _ _ l0_0 a0_1 _ _ l1 _ _ l2 a3_0 a3_1 a3_2 a4 t428 _ ?side1 ?side2 ?side3 ?side4 ?side5 ?side6 A12.out).mono ?_);(case side1=>repeat(first|exact(Kd.C_below HR0_0.out bl)|(with_reducible refine Kd.C_alloc ?_ _)|(with_reducible refine Kd.C_drewN ?_ _)|(with_reducible refine Kd.C_drew ?_)));(case side2=>exact HC0_0.out);(case side3=>repeat(first|exact(Kd.C_below HR1.out bl)|(with_reducible refine Kd.C_alloc ?_ _)|(with_reducible refine Kd.C_drewN ?_ _)|(with_reducible refine Kd.C_drew ?_)));(case side4=>exact HC1.out);(case side5=>repeat(first|exact(Kd.C_below HR2.out bl)|(with_reducible refine Kd.C_alloc ?_ _)|(with_reducible refine Kd.C_drewN ?_ _)|(with_reducible refine Kd.C_drew ?_)));(case side6=>exact HC2.out);rintro e w22 ⟨v429,rfl,ho0,hb⟩;refine⟨_,rfl,?_⟩;have HO430:=am (Kd.S_lower ho0 (below_size bl));replace BK423:=am (blk_below (bup BK423.out) hb);replace BK424:=am (blk_below (bup BK424.out) hb);replace HB:=am (below_step bl hb);(try clear hb);(try clear ho0)))
    go_ret2
    exact⟨_,fin1,by(with_reducible repeat(first|apply Kd.S_alloc|apply Kd.S_drewN|apply Kd.S_drew));exact HO430.out,bl⟩
   ·replace c11:=Bool.eq_false_iff.mpr c11
    subst c11
    replace H:=(if_neg Bool.false_ne_true).symm.trans H
    simp only[Option.some.injEq,Prod.mk.injEq] at H
    obtain⟨rfl,rfl⟩:=H
    go_enter Try.func21,Try.ntmps21
    go_wp2_with (first|((with_reducible refine gate_dst (N:=5) rfl ?_);refine box_event ?hg (N:=5) ?hd (cs := #[.slice A0_0 l0_0.length c0_0,.int .i64 a0_1]) (t:=34) ?hr ?_;(case hd=>rfl);(case hg=>rfl);(case hr=>first|(go_simp;done)|(go_simp;rfl));intro gb423 hg w23 hbox hb;have BK423:=am (hbox);have GW423:=am (ge_ bl hg);have GE423:=am (ge_ bl hg);replace HB:=am (below_step bl hb);clear hb hbox hg)|((with_reducible refine gate_dst (N:=8) rfl ?_);refine box_event ?hg (N:=8) ?hd (cs := #[.int .i64 a3_0,.int .i64 a3_1,.int .i64 a3_2]) (t:=40) ?hr ?_;(case hd=>rfl);(case hg=>rfl);(case hr=>first|(go_simp;done)|(go_simp;rfl));intro gb424 hg w24 hbox hb;have BK424:=am (hbox);have GW424:=am (ge_ bl hg);have GE424:=am (ge_ bl hg);replace HB:=am (below_step bl hb);have NB423_424:=am (nl (bup BK423.out) hg);have NB424_423:=am (ng (bup BK423.out) hg);replace BK423:=am (blk_below (bup BK423.out) hb);clear hb hbox hg;have hnb25:=NB423_424.out;have hnc25:=NB424_423.out;have hcz26_0:=bc BK423.out 0;have hcz26_1:=bc BK423.out 1;have hfz26_0:=blk_frozen BK423.out 0;have hfz26_1:=blk_frozen BK423.out 1)|((with_reducible refine gate_callee (f:=37) rfl ?_);refine goesL_ (some 15) rfl rfl Try.func37 (by kernel_rfl) rfl #[.agg #[.slice A0_0 l0_0.length c0_0,.int .i64 a0_1],.slice A1 l1.length c1,.slice A2 l2.length c2] rfl tl ?_;(with_reducible refine(impl_canMatch.calls k _ _ l0_0 a0_1 _ _ l1 _ _ l2 true _ ?side1 ?side2 ?side3 ?side4 ?side5 ?side6 A6.out).mono ?_);(case side1=>exact cup (Kd.C_below HR0_0.out HB.out));(case side2=>exact HC0_0.out);(case side3=>exact cup (Kd.C_below HR1.out HB.out));(case side4=>exact HC1.out);(case side5=>exact cup (Kd.C_below HR2.out HB.out));(case side6=>exact HC2.out);rintro e w27 ⟨rfl,hb⟩;refine⟨_,rfl,?_⟩;replace BK423:=am (blk_below (bup BK423.out) hb);replace BK424:=am (blk_below (bup BK424.out) hb);replace HB:=am (below_step bl hb);(try clear hb);have hcz28_0:=bc BK424.out 0;have hcz28_1:=bc BK424.out 1;have hcz28_2:=bc BK424.out 2;have hfz28_0:=blk_frozen BK424.out 0;have hfz28_1:=blk_frozen BK424.out 1;have hfz28_2:=blk_frozen BK424.out 2)|(go_at_call 38;(with_reducible refine(impl_IsAction.calls a3_0 a3_1 a3_2 true _ A8.out).mono ?_);rintro e w29 ⟨rfl,hb⟩;replace BK423:=am (blk_below (bup BK423.out) hb);replace BK424:=am (blk_below (bup BK424.out) hb);replace HB:=am (below_step bl hb);(try clear hb))|(go_at_call 40;(with_reducible refine(impl_isTolerance.calls a4 false _ A10.out).mono ?_);rintro e w' ⟨rfl,⟨nd,rfl⟩⟩))
    go_ret2
    exact⟨_,fin1,by first|exact Kd.S_nil _ _ _ _ _|exact Kd.N_nil _ _ _ _ _|exact Kd.V_nil _ _ _ _ _|exact Kd.Q_nil _ _ _ _ _|exact Kd.R_nil _ _ _ _ _,bl⟩
  ·replace c9:=Bool.eq_false_iff.mpr c9
   subst c9
   replace H:=(if_neg Bool.false_ne_true).symm.trans H
   simp only[Option.some.injEq,Prod.mk.injEq] at H
   obtain⟨rfl,rfl⟩:=H
   go_enter Try.func21,Try.ntmps21
   go_wp2_with (first|((with_reducible refine gate_dst (N:=5) rfl ?_);refine box_event ?hg (N:=5) ?hd (cs := #[.slice A0_0 l0_0.length c0_0,.int .i64 a0_1]) (t:=34) ?hr ?_;(case hd=>rfl);(case hg=>rfl);(case hr=>first|(go_simp;done)|(go_simp;rfl));intro gb423 hg w30 hbox hb;have BK423:=am (hbox);have GW423:=am (ge_ bl hg);have GE423:=am (ge_ bl hg);replace HB:=am (below_step bl hb);clear hb hbox hg)|((with_reducible refine gate_dst (N:=8) rfl ?_);refine box_event ?hg (N:=8) ?hd (cs := #[.int .i64 a3_0,.int .i64 a3_1,.int .i64 a3_2]) (t:=40) ?hr ?_;(case hd=>rfl);(case hg=>rfl);(case hr=>first|(go_simp;done)|(go_simp;rfl));intro gb424 hg w31 hbox hb;have BK424:=am (hbox);have GW424:=am (ge_ bl hg);have GE424:=am (ge_ bl hg);replace HB:=am (below_step bl hb);have NB423_424:=am (nl (bup BK423.out) hg);have NB424_423:=am (ng (bup BK423.out) hg);replace BK423:=am (blk_below (bup BK423.out) hb);clear hb hbox hg;have hnb32:=NB423_424.out;have hnc32:=NB424_423.out;have hcz33_0:=bc BK423.out 0;have hcz33_1:=bc BK423.out 1;have hfz33_0:=blk_frozen BK423.out 0;have hfz33_1:=blk_frozen BK423.out 1)|((with_reducible refine gate_callee (f:=37) rfl ?_);refine goesL_ (some 15) rfl rfl Try.func37 (by kernel_rfl) rfl #[.agg #[.slice A0_0 l0_0.length c0_0,.int .i64 a0_1],.slice A1 l1.length c1,.slice A2 l2.length c2] rfl tl ?_;(with_reducible refine(impl_canMatch.calls k _ _ l0_0 a0_1 _ _ l1 _ _ l2 true _ ?side1 ?side2 ?side3 ?side4 ?side5 ?side6 A6.out).mono ?_);(case side1=>exact cup (Kd.C_below HR0_0.out HB.out));(case side2=>exact HC0_0.out);(case side3=>exact cup (Kd.C_below HR1.out HB.out));(case side4=>exact HC1.out);(case side5=>exact cup (Kd.C_below HR2.out HB.out));(case side6=>exact HC2.out);rintro e w34 ⟨rfl,hb⟩;refine⟨_,rfl,?_⟩;replace BK423:=am (blk_below (bup BK423.out) hb);replace BK424:=am (blk_below (bup BK424.out) hb);replace HB:=am (below_step bl hb);(try clear hb);have hcz35_0:=bc BK424.out 0;have hcz35_1:=bc BK424.out 1;have hcz35_2:=bc BK424.out 2;have hfz35_0:=blk_frozen BK424.out 0;have hfz35_1:=blk_frozen BK424.out 1;have hfz35_2:=blk_frozen BK424.out 2)|(go_at_call 38;(with_reducible refine(impl_IsAction.calls a3_0 a3_1 a3_2 false _ A8.out).mono ?_);rintro e w36 ⟨rfl,hb⟩;replace BK423:=am (blk_below (bup BK423.out) hb);replace BK424:=am (blk_below (bup BK424.out) hb);replace HB:=am (below_step bl hb);(try clear hb)))
   go_ret2
   exact⟨_,fin1,by first|exact Kd.S_nil _ _ _ _ _|exact Kd.N_nil _ _ _ _ _|exact Kd.V_nil _ _ _ _ _|exact Kd.Q_nil _ _ _ _ _|exact Kd.R_nil _ _ _ _ _,bl⟩
 ·replace c7:=Bool.eq_false_iff.mpr c7
  subst c7
  replace H:=(if_neg Bool.false_ne_true).symm.trans H
  simp only[Option.some.injEq,Prod.mk.injEq] at H
  obtain⟨rfl,rfl⟩:=H
  go_enter Try.func21,Try.ntmps21
  go_wp2_with (first|((with_reducible refine gate_dst (N:=5) rfl ?_);refine box_event ?hg (N:=5) ?hd (cs := #[.slice A0_0 l0_0.length c0_0,.int .i64 a0_1]) (t:=34) ?hr ?_;(case hd=>rfl);(case hg=>rfl);(case hr=>first|(go_simp;done)|(go_simp;rfl));intro gb423 hg w37 hbox hb;have BK423:=am (hbox);have GW423:=am (ge_ bl hg);have GE423:=am (ge_ bl hg);replace HB:=am (below_step bl hb);clear hb hbox hg)|((with_reducible refine gate_dst (N:=8) rfl ?_);refine box_event ?hg (N:=8) ?hd (cs := #[.int .i64 a3_0,.int .i64 a3_1,.int .i64 a3_2]) (t:=40) ?hr ?_;(case hd=>rfl);(case hg=>rfl);(case hr=>first|(go_simp;done)|(go_simp;rfl));intro gb424 hg w38 hbox hb;have BK424:=am (hbox);have GW424:=am (ge_ bl hg);have GE424:=am (ge_ bl hg);replace HB:=am (below_step bl hb);have NB423_424:=am (nl (bup BK423.out) hg);have NB424_423:=am (ng (bup BK423.out) hg);replace BK423:=am (blk_below (bup BK423.out) hb);clear hb hbox hg;have hnb39:=NB423_424.out;have hnc39:=NB424_423.out;have hcz40_0:=bc BK423.out 0;have hcz40_1:=bc BK423.out 1;have hfz40_0:=blk_frozen BK423.out 0;have hfz40_1:=blk_frozen BK423.out 1)|((with_reducible refine gate_callee (f:=37) rfl ?_);refine goesL_ (some 15) rfl rfl Try.func37 (by kernel_rfl) rfl #[.agg #[.slice A0_0 l0_0.length c0_0,.int .i64 a0_1],.slice A1 l1.length c1,.slice A2 l2.length c2] rfl tl ?_;(with_reducible refine(impl_canMatch.calls k _ _ l0_0 a0_1 _ _ l1 _ _ l2 false _ ?side1 ?side2 ?side3 ?side4 ?side5 ?side6 A6.out).mono ?_);(case side1=>exact cup (Kd.C_below HR0_0.out HB.out));(case side2=>exact HC0_0.out);(case side3=>exact cup (Kd.C_below HR1.out HB.out));(case side4=>exact HC1.out);(case side5=>exact cup (Kd.C_below HR2.out HB.out));(case side6=>exact HC2.out);rintro e w41 ⟨rfl,hb⟩;refine⟨_,rfl,?_⟩;replace BK423:=am (blk_below (bup BK423.out) hb);replace BK424:=am (blk_below (bup BK424.out) hb);replace HB:=am (below_step bl hb);(try clear hb)))
  go_ret2
  exact⟨_,fin1,by first|exact Kd.S_nil _ _ _ _ _|exact Kd.N_nil _ _ _ _ _|exact Kd.V_nil _ _ _ _ _|exact Kd.Q_nil _ _ _ _ _|exact Kd.R_nil _ _ _ _ _,bl⟩

def impl_PassesVerifier.f (k:Nat) (l0_0:List Int) (a0_1:Int) (l1:List (S62)) (l2:List (S66)) (a3_0:Int) (a3_1:Int) (a3_2:Int) (a4:Int):Option (Bool×Bool):=(impl_FaultsOf.f k l0_0 a0_1 l1 l2 a3_0 a3_1 a3_2 a4).bind fun bt433=>(if bt433.2=true then(some (((bt433.1.length:Int) == 0),bt433.2)) else(some (false,bt433.2)))
set_option maxHeartbeats 8000000 in
set_option maxRecDepth 100000 in
theorem impl_PassesVerifier.calls (k:Nat) (A0_0:Option Addr) (c0_0:Nat) (l0_0:List Int) (a0_1:Int) (A1:Option Addr) (c1:Nat) (l1:List (S62)) (A2:Option Addr) (c2:Nat) (l2:List (S66)) (a3_0:Int) (a3_1:Int) (a3_2:Int) (a4:Int) (r1:Bool) (r2:Bool) (w:World) (hr0_0:Kd.C (Kd.int .i64) w A0_0 l0_0.length l0_0) (hc0_0:l0_0.length≤c0_0) (hr1:Kd.C k62 w A1 l1.length l1) (hc1:l1.length≤c1) (hr2:Kd.C k66 w A2 l2.length l2) (hc2:l2.length≤c2) (h:impl_PassesVerifier.f k l0_0 a0_1 l1 l2 a3_0 a3_1 a3_2 a4=some (r1,r2)) :
  Calls Try.prog 14 #[.agg #[.slice A0_0 l0_0.length c0_0,.int .i64 a0_1],.slice A1 l1.length c1,.slice A2 l2.length c2,.agg #[.int .i64 a3_0,.int .i64 a3_1,.int .i64 a3_2],.int .i64 a4] w fun e w'=>e = .returned (.tuple #[.bool r1,.bool r2])∧Below w.heap.size w w':=by
 have hu34:=Try.underlying34
 have hu40:=Try.underlying40
 have HR0_0:=am hr0_0
 have HC0_0:=am hc0_0
 clear hr0_0 hc0_0
 have HR1:=am hr1
 have HC1:=am hc1
 clear hr1 hc1
 have HR2:=am hr2
 have HC2:=am hc2
 clear hr2 hc2
 have HB:=am (Below.refl w.heap.size w)
 have H:((impl_FaultsOf.f k l0_0 a0_1 l1 l2 a3_0 a3_1 a3_2 a4).bind fun bt433=>(if bt433.2=true then(some (((bt433.1.length:Int) == 0),bt433.2)) else(some (false,bt433.2))))=some (r1,r2):=h
 clear h
 replace H:=Option.bind_eq_some_iff.mp H
 obtain⟨⟨t433,t436⟩,A60,H⟩:=H
 replace H:(if t436=true then(some (((t433.length:Int) == 0),t436)) else(some (false,t436)))=some (r1,r2):=H
 have A6:=am A60
 clear A60
 by_cases c7:t436=true
 ·subst c7
  replace H:=(if_pos rfl).symm.trans H
  simp only[Option.some.injEq,Prod.mk.injEq] at H
  obtain⟨rfl,rfl⟩:=H
  go_enter Try.func14,Try.ntmps14
  go_wp2_with (first|((with_reducible refine gate_dst (N:=5) rfl ?_);(try(refine gate_guard (by rfl) ?_;dsimp only));refine box_event ?hg (N:=5) ?hd (cs := #[.slice A0_0 l0_0.length c0_0,.int .i64 a0_1]) (t:=34) ?hr ?_;(case hd=>rfl);(case hg=>rfl);(case hr=>first|(go_simp;done)|(go_simp;rfl));intro gb431 hg w8 hbox hb;have BK431:=am (hbox);have GW431:=am (ge_ bl hg);have GE431:=am (ge_ bl hg);replace HB:=am (below_step bl hb);clear hb hbox hg)|((with_reducible refine gate_dst (N:=8) rfl ?_);(try(refine gate_guard (by rfl) ?_;dsimp only));refine box_event ?hg (N:=8) ?hd (cs := #[.int .i64 a3_0,.int .i64 a3_1,.int .i64 a3_2]) (t:=40) ?hr ?_;(case hd=>rfl);(case hg=>rfl);(case hr=>first|(go_simp;done)|(go_simp;rfl));intro gb432 hg w9 hbox hb;have BK432:=am (hbox);have GW432:=am (ge_ bl hg);have GE432:=am (ge_ bl hg);replace HB:=am (below_step bl hb);have NB431_432:=am (nl (bup BK431.out) hg);have NB432_431:=am (ng (bup BK431.out) hg);replace BK431:=am (blk_below (bup BK431.out) hb);clear hb hbox hg;have hnb10:=NB431_432.out;have hnc10:=NB432_431.out;have hcz11_0:=bc BK431.out 0;have hcz11_1:=bc BK431.out 1;have hfz11_0:=blk_frozen BK431.out 0;have hfz11_1:=blk_frozen BK431.out 1;have hcz12_0:=bc BK432.out 0;have hcz12_1:=bc BK432.out 1;have hcz12_2:=bc BK432.out 2;have hfz12_0:=blk_frozen BK432.out 0;have hfz12_1:=blk_frozen BK432.out 1;have hfz12_2:=blk_frozen BK432.out 2)|((with_reducible refine gate_callee (f:=21) rfl ?_);refine goesL_ (some 20) rfl rfl Try.func21 (by kernel_rfl) rfl #[.agg #[.slice A0_0 l0_0.length c0_0,.int .i64 a0_1],.slice A1 l1.length c1,.slice A2 l2.length c2,.agg #[.int .i64 a3_0,.int .i64 a3_1,.int .i64 a3_2],.int .i64 a4] rfl tl ?_;(with_reducible refine(impl_FaultsOf.calls k _ _ l0_0 a0_1 _ _ l1 _ _ l2 a3_0 a3_1 a3_2 a4 t433 true _ ?side1 ?side2 ?side3 ?side4 ?side5 ?side6 A6.out).mono ?_);(case side1=>exact cup (Kd.C_below HR0_0.out HB.out));(case side2=>exact HC0_0.out);(case side3=>exact cup (Kd.C_below HR1.out HB.out));(case side4=>exact HC1.out);(case side5=>exact cup (Kd.C_below HR2.out HB.out));(case side6=>exact HC2.out);rintro e w13 ⟨v434,rfl,ho0,hb⟩;refine⟨_,rfl,?_⟩;have HO435:=am (Kd.S_lower ho0 (below_size bl));replace BK431:=am (blk_below (bup BK431.out) hb);replace BK432:=am (blk_below (bup BK432.out) hb);replace HB:=am (below_step bl hb);(try clear hb);(try clear ho0);obtain⟨Ao14,co14,eo14⟩:=Kd.S_slice HO435.out;subst eo14))
  go_ret2
  exact⟨fin1,bl⟩
 ·replace c7:=Bool.eq_false_iff.mpr c7
  subst c7
  replace H:=(if_neg Bool.false_ne_true).symm.trans H
  simp only[Option.some.injEq,Prod.mk.injEq] at H
  obtain⟨rfl,rfl⟩:=H
  go_enter Try.func14,Try.ntmps14
  go_wp2_with (first|((with_reducible refine gate_dst (N:=5) rfl ?_);(try(refine gate_guard (by rfl) ?_;dsimp only));refine box_event ?hg (N:=5) ?hd (cs := #[.slice A0_0 l0_0.length c0_0,.int .i64 a0_1]) (t:=34) ?hr ?_;(case hd=>rfl);(case hg=>rfl);(case hr=>first|(go_simp;done)|(go_simp;rfl));intro gb431 hg w15 hbox hb;have BK431:=am (hbox);have GW431:=am (ge_ bl hg);have GE431:=am (ge_ bl hg);replace HB:=am (below_step bl hb);clear hb hbox hg)|((with_reducible refine gate_dst (N:=8) rfl ?_);(try(refine gate_guard (by rfl) ?_;dsimp only));refine box_event ?hg (N:=8) ?hd (cs := #[.int .i64 a3_0,.int .i64 a3_1,.int .i64 a3_2]) (t:=40) ?hr ?_;(case hd=>rfl);(case hg=>rfl);(case hr=>first|(go_simp;done)|(go_simp;rfl));intro gb432 hg w16 hbox hb;have BK432:=am (hbox);have GW432:=am (ge_ bl hg);have GE432:=am (ge_ bl hg);replace HB:=am (below_step bl hb);have NB431_432:=am (nl (bup BK431.out) hg);have NB432_431:=am (ng (bup BK431.out) hg);replace BK431:=am (blk_below (bup BK431.out) hb);clear hb hbox hg;have hnb17:=NB431_432.out;have hnc17:=NB432_431.out;have hcz18_0:=bc BK431.out 0;have hcz18_1:=bc BK431.out 1;have hfz18_0:=blk_frozen BK431.out 0;have hfz18_1:=blk_frozen BK431.out 1;have hcz19_0:=bc BK432.out 0;have hcz19_1:=bc BK432.out 1;have hcz19_2:=bc BK432.out 2;have hfz19_0:=blk_frozen BK432.out 0;have hfz19_1:=blk_frozen BK432.out 1;have hfz19_2:=blk_frozen BK432.out 2)|((with_reducible refine gate_callee (f:=21) rfl ?_);refine goesL_ (some 20) rfl rfl Try.func21 (by kernel_rfl) rfl #[.agg #[.slice A0_0 l0_0.length c0_0,.int .i64 a0_1],.slice A1 l1.length c1,.slice A2 l2.length c2,.agg #[.int .i64 a3_0,.int .i64 a3_1,.int .i64 a3_2],.int .i64 a4] rfl tl ?_;(with_reducible refine(impl_FaultsOf.calls k _ _ l0_0 a0_1 _ _ l1 _ _ l2 a3_0 a3_1 a3_2 a4 t433 false _ ?side1 ?side2 ?side3 ?side4 ?side5 ?side6 A6.out).mono ?_);(case side1=>exact cup (Kd.C_below HR0_0.out HB.out));(case side2=>exact HC0_0.out);(case side3=>exact cup (Kd.C_below HR1.out HB.out));(case side4=>exact HC1.out);(case side5=>exact cup (Kd.C_below HR2.out HB.out));(case side6=>exact HC2.out);rintro e w20 ⟨v434,rfl,ho0,hb⟩;refine⟨_,rfl,?_⟩;have HO435:=am (Kd.S_lower ho0 (below_size bl));replace BK431:=am (blk_below (bup BK431.out) hb);replace BK432:=am (blk_below (bup BK432.out) hb);replace HB:=am (below_step bl hb);(try clear hb);(try clear ho0)))
  go_ret2
  exact⟨fin1,bl⟩

def laws_eqIntS.l0:Nat→List Int→List Int→Int→Option (Bool)
 | 0,_,_,_=>none
 | k+1,x0,x1,x5=>if x5<(x0.length:Int) then(if 0≤x5 then(if x5<(x1.length:Int) then(if(rd x0 x5)=(rd x1 x5) then(laws_eqIntS.l0 k x0 x1 (wrap64 (x5+1))) else(some false)) else(none)) else(none)) else(some true)
def laws_eqIntS.f (k:Nat) (l0:List Int) (l1:List Int):Option (Bool):=if(l0.length:Int)=(l1.length:Int) then(laws_eqIntS.l0 k l0 l1 0) else(some false)
set_option maxHeartbeats 8000000 in
set_option maxRecDepth 100000 in
theorem laws_eqIntS.calls (k:Nat) (A0:Option Addr) (c0:Nat) (l0:List Int) (A1:Option Addr) (c1:Nat) (l1:List Int) (r:Bool) (w:World) (hr0:Kd.C (Kd.int .i64) w A0 l0.length l0) (hc0:l0.length≤c0) (hr1:Kd.C (Kd.int .i64) w A1 l1.length l1) (hc1:l1.length≤c1) (h:laws_eqIntS.f k l0 l1=some r) :
  Calls Try.prog 34 #[.slice A0 l0.length c0,.slice A1 l1.length c1] w fun e w'=>e = .returned (.bool r)∧Drawn0 w w':=by
 have HR0:=am hr0
 have HC0:=am hc0
 clear hr0 hc0
 have HR1:=am hr1
 have HC1:=am hc1
 clear hr1 hc1
 have H:(if(l0.length:Int)=(l1.length:Int) then(laws_eqIntS.l0 k l0 l1 0) else(some false))=some r:=h
 clear h
 rcases itc H with⟨c3,H⟩|⟨c3,H⟩
 ·have c3b0:((l0.length:Int) == (l1.length:Int))=true:=beq_iff_eq.mpr c3
  have c3b1:((l0.length:Int) != (l1.length:Int))=false:=bne_eq_false_iff_eq.mpr c3
  have c3b2:(l0.length == l1.length)=true:=by first|simpa using c3|(simp at c3 ⊢;omega)
  clear c3
  have H':=am H
  clear H
  go_enter Try.func34,Try.ntmps34
  go_wp2
  repeat(go_quiet (fail);try go_wp2)
  go_loopg [5] k (fun kq v5 w'=>∃(x5_1:Int),v5 = .int .i64 x5_1∧Aside0 (laws_eqIntS.l0 kq l0 l1 x5_1=some r)∧Aside0 (kq≤k)∧Drawn0 w w')
  case atStart=>exact⟨(0),fin2,H',⟨Nat.le_refl _⟩,by repeat(first|exact Drawn0.refl _|apply Drawn0.step)⟩
  case round =>
   clear H'
   try clear c1
   try clear p2
   try clear c3
   try clear c3b0
   try clear c3b1
   try clear c3b2
   obtain⟨x5_1,rfl,HA,HK1,⟨m1,rfl⟩⟩:=hrel
   cases gk with
   | zero=>exact absurd HA.out (by simp [laws_eqIntS.l0])
   | succ k1 =>
    have H:=HA.out
    clear HA
    simp only[laws_eqIntS.l0] at H
    rcases itc H with⟨c4,H⟩|⟨c4,H⟩
    ·have c4b0:=decide_eq_true c4
     clear c4
     obtain⟨c5b0,H⟩:=ifb H
     obtain⟨c6b0,H⟩:=ifb H
     rcases itc H with⟨c7,H⟩|⟨c7,H⟩
     ·have c7b0:((rd l0 x5_1) == (rd l1 x5_1))=true:=beq_iff_eq.mpr c7
      have c7b1:((rd l0 x5_1) != (rd l1 x5_1))=false:=bne_eq_false_iff_eq.mpr c7
      clear c7
      have H':=am H
      clear H
      have p437:0≤(x5_1:Int):=od
      have q437:x5_1<(l0.length:Int):=od
      obtain⟨ad437,e437,hx437_0⟩:=Kd.at_int HR0.out x5_1 p437 q437
      cases e437
      replace p437:=eq_true p437
      replace q437:=eq_true q437
      have p438:0≤(x5_1:Int):=od
      have q438:x5_1<(l1.length:Int):=od
      obtain⟨ad438,e438,hx438_0⟩:=Kd.at_int HR1.out x5_1 p438 q438
      cases e438
      replace p438:=eq_true p438
      replace q438:=eq_true q438
      go_wp2
      repeat(go_quiet (fail);try go_wp2)
      go_roundg k1
      case measure=>have:=HK1.out;omega
      case rel=>exact⟨(wrap64 (x5_1+1)),fin2,H',⟨by have:=HK1.out;omega⟩,by repeat(first|exact Drawn0.refl _|apply Drawn0.step)⟩
     ·have c7b0:((rd l0 x5_1) == (rd l1 x5_1))=false:=beq_eq_false_iff_ne.mpr c7
      have c7b1:((rd l0 x5_1) != (rd l1 x5_1))=true:=bne_iff_ne.mpr c7
      obtain rfl:=Option.some.inj H
      have p437:0≤(x5_1:Int):=od
      have q437:x5_1<(l0.length:Int):=od
      obtain⟨ad437,e437,hx437_0⟩:=Kd.at_int HR0.out x5_1 p437 q437
      cases e437
      replace p437:=eq_true p437
      replace q437:=eq_true q437
      have p438:0≤(x5_1:Int):=od
      have q438:x5_1<(l1.length:Int):=od
      obtain⟨ad438,e438,hx438_0⟩:=Kd.at_int HR1.out x5_1 p438 q438
      cases e438
      replace p438:=eq_true p438
      replace q438:=eq_true q438
      go_wp2
      repeat(go_quiet (fail);try go_wp2)
      go_ret
      exact⟨by first|rfl|(simp;done)|(simp [*];done),by repeat(first|exact Drawn0.refl _|apply Drawn0.step)⟩
    ·have c4b0:=decide_eq_false c4
     clear c4
     obtain rfl:=Option.some.inj H
     go_wp2
     repeat(go_quiet (fail);try go_wp2)
     go_ret
     exact⟨by first|rfl|(simp;done)|(simp [*];done),by repeat(first|exact Drawn0.refl _|apply Drawn0.step)⟩
 ·have c3b0:((l0.length:Int) == (l1.length:Int))=false:=beq_eq_false_iff_ne.mpr c3
  have c3b1:((l0.length:Int) != (l1.length:Int))=true:=bne_iff_ne.mpr c3
  have c3b2:(l0.length == l1.length)=false:=by first|simpa using c3|(simp at c3 ⊢;omega)
  obtain rfl:=Option.some.inj H
  go_enter Try.func34,Try.ntmps34
  go_wp2
  repeat(go_quiet (fail);try go_wp2)
  go_ret
  exact⟨by first|rfl|(simp;done)|(simp [*];done),by repeat(first|exact Drawn0.refl _|apply Drawn0.step)⟩

def laws_eqInstrument.f (k:Nat) (l0_0:List Int) (a0_1:Int) (l1_0:List Int) (a1_1:Int):Option (Bool):=(laws_eqIntS.f k l0_0 l1_0).bind fun t441=>(if t441=true then(if a0_1=a1_1 then(some true) else(some false)) else(some false))
set_option maxHeartbeats 8000000 in
set_option maxRecDepth 100000 in
theorem laws_eqInstrument.calls (k:Nat) (A0_0:Option Addr) (c0_0:Nat) (l0_0:List Int) (a0_1:Int) (A1_0:Option Addr) (c1_0:Nat) (l1_0:List Int) (a1_1:Int) (r:Bool) (w:World) (hr0_0:Kd.C (Kd.int .i64) w A0_0 l0_0.length l0_0) (hc0_0:l0_0.length≤c0_0) (hr1_0:Kd.C (Kd.int .i64) w A1_0 l1_0.length l1_0) (hc1_0:l1_0.length≤c1_0) (h:laws_eqInstrument.f k l0_0 a0_1 l1_0 a1_1=some r) :
  Calls Try.prog 15 #[.agg #[.slice A0_0 l0_0.length c0_0,.int .i64 a0_1],.agg #[.slice A1_0 l1_0.length c1_0,.int .i64 a1_1]] w fun e w'=>e = .returned (.bool r)∧Below w.heap.size w w':=by
 have hu34:=Try.underlying34
 have HR0_0:=am hr0_0
 have HC0_0:=am hc0_0
 clear hr0_0 hc0_0
 have HR1_0:=am hr1_0
 have HC1_0:=am hc1_0
 clear hr1_0 hc1_0
 have HB:=am (Below.refl w.heap.size w)
 have H:((laws_eqIntS.f k l0_0 l1_0).bind fun t441=>(if t441=true then(if a0_1=a1_1 then(some true) else(some false)) else(some false)))=some r:=h
 clear h
 obtain⟨t441,A3,H⟩:=bnd H
 by_cases c4:t441=true
 ·subst c4
  replace H:=(if_pos rfl).symm.trans H
  rcases itc H with⟨c5,H⟩|⟨c5,H⟩
  ·have c5b0:(a0_1 == a1_1)=true:=beq_iff_eq.mpr c5
   have c5b1:(a0_1 != a1_1)=false:=bne_eq_false_iff_eq.mpr c5
   clear c5
   obtain rfl:=Option.some.inj H
   go_enter Try.func15,Try.ntmps15
   go_wp2_with (first|((with_reducible refine gate_dst (N:=2) rfl ?_);refine box_event ?hg (N:=2) ?hd (cs := #[.slice A0_0 l0_0.length c0_0,.int .i64 a0_1]) (t:=34) ?hr ?_;(case hd=>rfl);(case hg=>rfl);(case hr=>first|(go_simp;done)|(go_simp;rfl));intro gb439 hg w6 hbox hb;have BK439:=am (hbox);have GW439:=am (ge_ bl hg);have GE439:=am (ge_ bl hg);replace HB:=am (below_step bl hb);clear hb hbox hg)|((with_reducible refine gate_dst (N:=3) rfl ?_);refine box_event ?hg (N:=3) ?hd (cs := #[.slice A1_0 l1_0.length c1_0,.int .i64 a1_1]) (t:=34) ?hr ?_;(case hd=>rfl);(case hg=>rfl);(case hr=>first|(go_simp;done)|(go_simp;rfl));intro gb440 hg w7 hbox hb;have BK440:=am (hbox);have GW440:=am (ge_ bl hg);have GE440:=am (ge_ bl hg);replace HB:=am (below_step bl hb);have NB439_440:=am (nl (bup BK439.out) hg);have NB440_439:=am (ng (bup BK439.out) hg);replace BK439:=am (blk_below (bup BK439.out) hb);clear hb hbox hg;have hnb8:=NB439_440.out;have hnc8:=NB440_439.out;have hcz9_0:=bc BK439.out 0;have hcz9_1:=bc BK439.out 1;have hfz9_0:=blk_frozen BK439.out 0;have hfz9_1:=blk_frozen BK439.out 1;have hcz10_0:=bc BK440.out 0;have hcz10_1:=bc BK440.out 1;have hfz10_0:=blk_frozen BK440.out 0;have hfz10_1:=blk_frozen BK440.out 1)|((with_reducible refine gate_callee (f:=34) rfl ?_);refine goesL_ (some 9) rfl rfl Try.func34 (by kernel_rfl) rfl #[.slice A0_0 l0_0.length c0_0,.slice A1_0 l1_0.length c1_0] rfl tl ?_;(with_reducible refine(laws_eqIntS.calls k _ _ l0_0 _ _ l1_0 true _ ?side1 ?side2 ?side3 ?side4 A3.out).mono ?_);(case side1=>exact cup (Kd.C_below HR0_0.out HB.out));(case side2=>exact HC0_0.out);(case side3=>exact cup (Kd.C_below HR1_0.out HB.out));(case side4=>exact HC1_0.out);rintro e w' ⟨rfl,⟨nd,rfl⟩⟩;refine⟨_,rfl,?_⟩))
   go_ret
   exact⟨fin1,bl⟩
  ·have c5b0:(a0_1 == a1_1)=false:=beq_eq_false_iff_ne.mpr c5
   have c5b1:(a0_1 != a1_1)=true:=bne_iff_ne.mpr c5
   obtain rfl:=Option.some.inj H
   go_enter Try.func15,Try.ntmps15
   go_wp2_with (first|((with_reducible refine gate_dst (N:=2) rfl ?_);refine box_event ?hg (N:=2) ?hd (cs := #[.slice A0_0 l0_0.length c0_0,.int .i64 a0_1]) (t:=34) ?hr ?_;(case hd=>rfl);(case hg=>rfl);(case hr=>first|(go_simp;done)|(go_simp;rfl));intro gb439 hg w11 hbox hb;have BK439:=am (hbox);have GW439:=am (ge_ bl hg);have GE439:=am (ge_ bl hg);replace HB:=am (below_step bl hb);clear hb hbox hg)|((with_reducible refine gate_dst (N:=3) rfl ?_);refine box_event ?hg (N:=3) ?hd (cs := #[.slice A1_0 l1_0.length c1_0,.int .i64 a1_1]) (t:=34) ?hr ?_;(case hd=>rfl);(case hg=>rfl);(case hr=>first|(go_simp;done)|(go_simp;rfl));intro gb440 hg w12 hbox hb;have BK440:=am (hbox);have GW440:=am (ge_ bl hg);have GE440:=am (ge_ bl hg);replace HB:=am (below_step bl hb);have NB439_440:=am (nl (bup BK439.out) hg);have NB440_439:=am (ng (bup BK439.out) hg);replace BK439:=am (blk_below (bup BK439.out) hb);clear hb hbox hg;have hnb13:=NB439_440.out;have hnc13:=NB440_439.out;have hcz14_0:=bc BK439.out 0;have hcz14_1:=bc BK439.out 1;have hfz14_0:=blk_frozen BK439.out 0;have hfz14_1:=blk_frozen BK439.out 1;have hcz15_0:=bc BK440.out 0;have hcz15_1:=bc BK440.out 1;have hfz15_0:=blk_frozen BK440.out 0;have hfz15_1:=blk_frozen BK440.out 1)|((with_reducible refine gate_callee (f:=34) rfl ?_);refine goesL_ (some 9) rfl rfl Try.func34 (by kernel_rfl) rfl #[.slice A0_0 l0_0.length c0_0,.slice A1_0 l1_0.length c1_0] rfl tl ?_;(with_reducible refine(laws_eqIntS.calls k _ _ l0_0 _ _ l1_0 true _ ?side1 ?side2 ?side3 ?side4 A3.out).mono ?_);(case side1=>exact cup (Kd.C_below HR0_0.out HB.out));(case side2=>exact HC0_0.out);(case side3=>exact cup (Kd.C_below HR1_0.out HB.out));(case side4=>exact HC1_0.out);rintro e w' ⟨rfl,⟨nd,rfl⟩⟩;refine⟨_,rfl,?_⟩))
   go_ret
   exact⟨fin1,bl⟩
 ·replace c4:=Bool.eq_false_iff.mpr c4
  subst c4
  replace H:=(if_neg Bool.false_ne_true).symm.trans H
  obtain rfl:=Option.some.inj H
  go_enter Try.func15,Try.ntmps15
  go_wp2_with (first|((with_reducible refine gate_dst (N:=2) rfl ?_);refine box_event ?hg (N:=2) ?hd (cs := #[.slice A0_0 l0_0.length c0_0,.int .i64 a0_1]) (t:=34) ?hr ?_;(case hd=>rfl);(case hg=>rfl);(case hr=>first|(go_simp;done)|(go_simp;rfl));intro gb439 hg w16 hbox hb;have BK439:=am (hbox);have GW439:=am (ge_ bl hg);have GE439:=am (ge_ bl hg);replace HB:=am (below_step bl hb);clear hb hbox hg)|((with_reducible refine gate_dst (N:=3) rfl ?_);refine box_event ?hg (N:=3) ?hd (cs := #[.slice A1_0 l1_0.length c1_0,.int .i64 a1_1]) (t:=34) ?hr ?_;(case hd=>rfl);(case hg=>rfl);(case hr=>first|(go_simp;done)|(go_simp;rfl));intro gb440 hg w17 hbox hb;have BK440:=am (hbox);have GW440:=am (ge_ bl hg);have GE440:=am (ge_ bl hg);replace HB:=am (below_step bl hb);have NB439_440:=am (nl (bup BK439.out) hg);have NB440_439:=am (ng (bup BK439.out) hg);replace BK439:=am (blk_below (bup BK439.out) hb);clear hb hbox hg;have hnb18:=NB439_440.out;have hnc18:=NB440_439.out;have hcz19_0:=bc BK439.out 0;have hcz19_1:=bc BK439.out 1;have hfz19_0:=blk_frozen BK439.out 0;have hfz19_1:=blk_frozen BK439.out 1;have hcz20_0:=bc BK440.out 0;have hcz20_1:=bc BK440.out 1;have hfz20_0:=blk_frozen BK440.out 0;have hfz20_1:=blk_frozen BK440.out 1)|((with_reducible refine gate_callee (f:=34) rfl ?_);refine goesL_ (some 9) rfl rfl Try.func34 (by kernel_rfl) rfl #[.slice A0_0 l0_0.length c0_0,.slice A1_0 l1_0.length c1_0] rfl tl ?_;(with_reducible refine(laws_eqIntS.calls k _ _ l0_0 _ _ l1_0 false _ ?side1 ?side2 ?side3 ?side4 A3.out).mono ?_);(case side1=>exact cup (Kd.C_below HR0_0.out HB.out));(case side2=>exact HC0_0.out);(case side3=>exact cup (Kd.C_below HR1_0.out HB.out));(case side4=>exact HC1_0.out);rintro e w' ⟨rfl,⟨nd,rfl⟩⟩;refine⟨_,rfl,?_⟩))
  go_ret
  exact⟨fin1,bl⟩

def laws_eqNote.f (a0_0:Int) (a0_1:Int) (a0_2:Int) (a1_0:Int) (a1_1:Int) (a1_2:Int):Option (Bool):=if a0_0=a1_0 then(if a0_1=a1_1 then(if a0_2=a1_2 then(some true) else(some false)) else(some false)) else(some false)
set_option maxHeartbeats 8000000 in
set_option maxRecDepth 100000 in
theorem laws_eqNote.calls (a0_0:Int) (a0_1:Int) (a0_2:Int) (a1_0:Int) (a1_1:Int) (a1_2:Int) (r:Bool) (w:World) (h:laws_eqNote.f a0_0 a0_1 a0_2 a1_0 a1_1 a1_2=some r) :
  Calls Try.prog 35 #[.agg #[.int .i64 a0_0,.int .i64 a0_1,.int .i64 a0_2],.agg #[.int .i64 a1_0,.int .i64 a1_1,.int .i64 a1_2]] w fun e w'=>e = .returned (.bool r)∧Below w.heap.size w w':=by
 have hu62:=Try.underlying62
 have HB:=am (Below.refl w.heap.size w)
 have H:(if a0_0=a1_0 then(if a0_1=a1_1 then(if a0_2=a1_2 then(some true) else(some false)) else(some false)) else(some false))=some r:=h
 clear h
 rcases itc H with⟨c3,H⟩|⟨c3,H⟩
 ·have c3b0:(a0_0 == a1_0)=true:=beq_iff_eq.mpr c3
  have c3b1:(a0_0 != a1_0)=false:=bne_eq_false_iff_eq.mpr c3
  clear c3
  rcases itc H with⟨c4,H⟩|⟨c4,H⟩
  ·have c4b0:(a0_1 == a1_1)=true:=beq_iff_eq.mpr c4
   have c4b1:(a0_1 != a1_1)=false:=bne_eq_false_iff_eq.mpr c4
   clear c4
   rcases itc H with⟨c5,H⟩|⟨c5,H⟩
   ·have c5b0:(a0_2 == a1_2)=true:=beq_iff_eq.mpr c5
    have c5b1:(a0_2 != a1_2)=false:=bne_eq_false_iff_eq.mpr c5
    clear c5
    obtain rfl:=Option.some.inj H
    go_enter Try.func35,Try.ntmps35
    go_wp2_with (first|((with_reducible refine gate_dst (N:=2) rfl ?_);refine box_event ?hg (N:=2) ?hd (cs := #[.int .i64 a0_0,.int .i64 a0_1,.int .i64 a0_2]) (t:=62) ?hr ?_;(case hd=>rfl);(case hg=>rfl);(case hr=>first|(go_simp;done)|(go_simp;rfl));intro gb442 hg w6 hbox hb;have BK442:=am (hbox);have GW442:=am (ge_ bl hg);have GE442:=am (ge_ bl hg);replace HB:=am (below_step bl hb);clear hb hbox hg)|((with_reducible refine gate_dst (N:=3) rfl ?_);refine box_event ?hg (N:=3) ?hd (cs := #[.int .i64 a1_0,.int .i64 a1_1,.int .i64 a1_2]) (t:=62) ?hr ?_;(case hd=>rfl);(case hg=>rfl);(case hr=>first|(go_simp;done)|(go_simp;rfl));intro gb443 hg w7 hbox hb;have BK443:=am (hbox);have GW443:=am (ge_ bl hg);have GE443:=am (ge_ bl hg);replace HB:=am (below_step bl hb);have NB442_443:=am (nl (bup BK442.out) hg);have NB443_442:=am (ng (bup BK442.out) hg);replace BK442:=am (blk_below (bup BK442.out) hb);clear hb hbox hg;have hnb8:=NB442_443.out;have hnc8:=NB443_442.out;have hcz9_0:=bc BK442.out 0;have hcz9_1:=bc BK442.out 1;have hcz9_2:=bc BK442.out 2;have hfz9_0:=blk_frozen BK442.out 0;have hfz9_1:=blk_frozen BK442.out 1;have hfz9_2:=blk_frozen BK442.out 2;have hcz10_0:=bc BK443.out 0;have hcz10_1:=bc BK443.out 1;have hcz10_2:=bc BK443.out 2;have hfz10_0:=blk_frozen BK443.out 0;have hfz10_1:=blk_frozen BK443.out 1;have hfz10_2:=blk_frozen BK443.out 2))
    go_ret
    exact⟨fin1,bl⟩
   ·have c5b0:(a0_2 == a1_2)=false:=beq_eq_false_iff_ne.mpr c5
    have c5b1:(a0_2 != a1_2)=true:=bne_iff_ne.mpr c5
    obtain rfl:=Option.some.inj H
    go_enter Try.func35,Try.ntmps35
    go_wp2_with (first|((with_reducible refine gate_dst (N:=2) rfl ?_);refine box_event ?hg (N:=2) ?hd (cs := #[.int .i64 a0_0,.int .i64 a0_1,.int .i64 a0_2]) (t:=62) ?hr ?_;(case hd=>rfl);(case hg=>rfl);(case hr=>first|(go_simp;done)|(go_simp;rfl));intro gb442 hg w11 hbox hb;have BK442:=am (hbox);have GW442:=am (ge_ bl hg);have GE442:=am (ge_ bl hg);replace HB:=am (below_step bl hb);clear hb hbox hg)|((with_reducible refine gate_dst (N:=3) rfl ?_);refine box_event ?hg (N:=3) ?hd (cs := #[.int .i64 a1_0,.int .i64 a1_1,.int .i64 a1_2]) (t:=62) ?hr ?_;(case hd=>rfl);(case hg=>rfl);(case hr=>first|(go_simp;done)|(go_simp;rfl));intro gb443 hg w12 hbox hb;have BK443:=am (hbox);have GW443:=am (ge_ bl hg);have GE443:=am (ge_ bl hg);replace HB:=am (below_step bl hb);have NB442_443:=am (nl (bup BK442.out) hg);have NB443_442:=am (ng (bup BK442.out) hg);replace BK442:=am (blk_below (bup BK442.out) hb);clear hb hbox hg;have hnb13:=NB442_443.out;have hnc13:=NB443_442.out;have hcz14_0:=bc BK442.out 0;have hcz14_1:=bc BK442.out 1;have hcz14_2:=bc BK442.out 2;have hfz14_0:=blk_frozen BK442.out 0;have hfz14_1:=blk_frozen BK442.out 1;have hfz14_2:=blk_frozen BK442.out 2;have hcz15_0:=bc BK443.out 0;have hcz15_1:=bc BK443.out 1;have hcz15_2:=bc BK443.out 2;have hfz15_0:=blk_frozen BK443.out 0;have hfz15_1:=blk_frozen BK443.out 1;have hfz15_2:=blk_frozen BK443.out 2))
    go_ret
    exact⟨fin1,bl⟩
  ·have c4b0:(a0_1 == a1_1)=false:=beq_eq_false_iff_ne.mpr c4
   have c4b1:(a0_1 != a1_1)=true:=bne_iff_ne.mpr c4
   obtain rfl:=Option.some.inj H
   go_enter Try.func35,Try.ntmps35
   go_wp2_with (first|((with_reducible refine gate_dst (N:=2) rfl ?_);refine box_event ?hg (N:=2) ?hd (cs := #[.int .i64 a0_0,.int .i64 a0_1,.int .i64 a0_2]) (t:=62) ?hr ?_;(case hd=>rfl);(case hg=>rfl);(case hr=>first|(go_simp;done)|(go_simp;rfl));intro gb442 hg w16 hbox hb;have BK442:=am (hbox);have GW442:=am (ge_ bl hg);have GE442:=am (ge_ bl hg);replace HB:=am (below_step bl hb);clear hb hbox hg)|((with_reducible refine gate_dst (N:=3) rfl ?_);refine box_event ?hg (N:=3) ?hd (cs := #[.int .i64 a1_0,.int .i64 a1_1,.int .i64 a1_2]) (t:=62) ?hr ?_;(case hd=>rfl);(case hg=>rfl);(case hr=>first|(go_simp;done)|(go_simp;rfl));intro gb443 hg w17 hbox hb;have BK443:=am (hbox);have GW443:=am (ge_ bl hg);have GE443:=am (ge_ bl hg);replace HB:=am (below_step bl hb);have NB442_443:=am (nl (bup BK442.out) hg);have NB443_442:=am (ng (bup BK442.out) hg);replace BK442:=am (blk_below (bup BK442.out) hb);clear hb hbox hg;have hnb18:=NB442_443.out;have hnc18:=NB443_442.out;have hcz19_0:=bc BK442.out 0;have hcz19_1:=bc BK442.out 1;have hcz19_2:=bc BK442.out 2;have hfz19_0:=blk_frozen BK442.out 0;have hfz19_1:=blk_frozen BK442.out 1;have hfz19_2:=blk_frozen BK442.out 2;have hcz20_0:=bc BK443.out 0;have hcz20_1:=bc BK443.out 1;have hcz20_2:=bc BK443.out 2;have hfz20_0:=blk_frozen BK443.out 0;have hfz20_1:=blk_frozen BK443.out 1;have hfz20_2:=blk_frozen BK443.out 2))
   go_ret
   exact⟨fin1,bl⟩
 ·have c3b0:(a0_0 == a1_0)=false:=beq_eq_false_iff_ne.mpr c3
  have c3b1:(a0_0 != a1_0)=true:=bne_iff_ne.mpr c3
  obtain rfl:=Option.some.inj H
  go_enter Try.func35,Try.ntmps35
  go_wp2_with (first|((with_reducible refine gate_dst (N:=2) rfl ?_);refine box_event ?hg (N:=2) ?hd (cs := #[.int .i64 a0_0,.int .i64 a0_1,.int .i64 a0_2]) (t:=62) ?hr ?_;(case hd=>rfl);(case hg=>rfl);(case hr=>first|(go_simp;done)|(go_simp;rfl));intro gb442 hg w21 hbox hb;have BK442:=am (hbox);have GW442:=am (ge_ bl hg);have GE442:=am (ge_ bl hg);replace HB:=am (below_step bl hb);clear hb hbox hg)|((with_reducible refine gate_dst (N:=3) rfl ?_);refine box_event ?hg (N:=3) ?hd (cs := #[.int .i64 a1_0,.int .i64 a1_1,.int .i64 a1_2]) (t:=62) ?hr ?_;(case hd=>rfl);(case hg=>rfl);(case hr=>first|(go_simp;done)|(go_simp;rfl));intro gb443 hg w22 hbox hb;have BK443:=am (hbox);have GW443:=am (ge_ bl hg);have GE443:=am (ge_ bl hg);replace HB:=am (below_step bl hb);have NB442_443:=am (nl (bup BK442.out) hg);have NB443_442:=am (ng (bup BK442.out) hg);replace BK442:=am (blk_below (bup BK442.out) hb);clear hb hbox hg;have hnb23:=NB442_443.out;have hnc23:=NB443_442.out;have hcz24_0:=bc BK442.out 0;have hcz24_1:=bc BK442.out 1;have hcz24_2:=bc BK442.out 2;have hfz24_0:=blk_frozen BK442.out 0;have hfz24_1:=blk_frozen BK442.out 1;have hfz24_2:=blk_frozen BK442.out 2;have hcz25_0:=bc BK443.out 0;have hcz25_1:=bc BK443.out 1;have hcz25_2:=bc BK443.out 2;have hfz25_0:=blk_frozen BK443.out 0;have hfz25_1:=blk_frozen BK443.out 1;have hfz25_2:=blk_frozen BK443.out 2))
  go_ret
  exact⟨fin1,bl⟩

def laws_eqNoteS.l0:Nat→List (S62)→List (S62)→Int→Option (Bool)
 | 0,_,_,_=>none
 | k+1,x0,x1,x5=>if x5<(x0.length:Int) then(if 0≤x5 then(if x5<(x1.length:Int) then((laws_eqNote.f ((rd_T62 x0 x5).f0) ((rd_T62 x0 x5).f1) ((rd_T62 x0 x5).f2) ((rd_T62 x1 x5).f0) ((rd_T62 x1 x5).f1) ((rd_T62 x1 x5).f2)).bind fun t446=>(if t446=true then(laws_eqNoteS.l0 k x0 x1 (wrap64 (x5+1))) else(some false))) else(none)) else(none)) else(some true)
def laws_eqNoteS.f (k:Nat) (l0:List (S62)) (l1:List (S62)):Option (Bool):=if(l0.length:Int)=(l1.length:Int) then(laws_eqNoteS.l0 k l0 l1 0) else(some false)
def laws_eqNoteS.T6:Bool×List (List Nat×List Nat):=(true,[([],[]),([],[]),([0,1],[0,1]),([2],[2]),([],[]),([],[]),([4,5],[4,5]),([6],[6]),([3,7],[3,7]),([8],[8])])
def laws_eqNoteS.B6:List Nat:=[0,0,3,7,0,0,48,112,255,511]
theorem laws_eqNoteS.tab6:rtab .any (opsOf Try.f16 6)=laws_eqNoteS.T6:=by kernel_rfl
theorem laws_eqNoteS.bits6:waitsOk laws_eqNoteS.T6.2 laws_eqNoteS.B6=true:=by kernel_rfl
set_option maxHeartbeats 8000000 in
set_option maxRecDepth 100000 in
theorem laws_eqNoteS.calls (k:Nat) (A0:Option Addr) (c0:Nat) (l0:List (S62)) (A1:Option Addr) (c1:Nat) (l1:List (S62)) (r:Bool) (w:World) (hr0:Kd.C k62 w A0 l0.length l0) (hc0:l0.length≤c0) (hr1:Kd.C k62 w A1 l1.length l1) (hc1:l1.length≤c1) (h:laws_eqNoteS.f k l0 l1=some r) :
  Calls Try.prog 16 #[.slice A0 l0.length c0,.slice A1 l1.length c1] w fun e w'=>e = .returned (.bool r)∧Below w.heap.size w w':=by
 have hu62:=Try.underlying62
 have HR0:=am hr0
 have HC0:=am hc0
 clear hr0 hc0
 have HR1:=am hr1
 have HC1:=am hc1
 clear hr1 hc1
 have HB:=am (Below.refl w.heap.size w)
 have H:(if(l0.length:Int)=(l1.length:Int) then(laws_eqNoteS.l0 k l0 l1 0) else(some false))=some r:=h
 clear h
 rcases itc H with⟨c3,H⟩|⟨c3,H⟩
 ·have c3b0:((l0.length:Int) == (l1.length:Int))=true:=beq_iff_eq.mpr c3
  have c3b1:((l0.length:Int) != (l1.length:Int))=false:=bne_eq_false_iff_eq.mpr c3
  have c3b2:(l0.length == l1.length)=true:=by first|simpa using c3|(simp at c3 ⊢;omega)
  clear c3
  have H':=am H
  clear H
  go_enter Try.func16,Try.ntmps16
  go_wp2
  go_loopg [5] k (fun kq v5 w'=>∃(x5_1:Int),v5 = .int .i64 x5_1∧Aside0 (laws_eqNoteS.l0 kq l0 l1 x5_1=some r)∧Aside0 (kq≤k)∧Aside0 (Below w.heap.size w w'))
  case atStart=>exact⟨(0),fin2,H',⟨Nat.le_refl _⟩,⟨bl⟩⟩
  case round =>
   clear H'
   try clear c1
   try clear p2
   try clear c3
   try clear c3b0
   try clear c3b1
   try clear c3b2
   obtain⟨x5_1,rfl,HA,HK1,HB⟩:=hrel
   cases gk with
   | zero=>exact absurd HA.out (by simp [laws_eqNoteS.l0])
   | succ k1 =>
    have H:=HA.out
    clear HA
    simp only[laws_eqNoteS.l0] at H
    rcases itc H with⟨c4,H⟩|⟨c4,H⟩
    ·have c4b0:=decide_eq_true c4
     clear c4
     obtain⟨c5b0,H⟩:=ifb H
     obtain⟨c6b0,H⟩:=ifb H
     obtain⟨t446,A7,H⟩:=bnd H
     by_cases c8:t446=true
     ·subst c8
      replace H:=(if_pos rfl).symm.trans H
      have H':=am H
      clear H
      try go_wp2
      replace HB:=am (below_drew1 HB.out)
      have p444:0≤(x5_1:Int):=od
      have q444:x5_1<(l0.length:Int):=od
      obtain⟨ad444,e444,hx444_0,hx444_1,hx444_2⟩:=at_T62 HR0.out x5_1 p444 q444
      have hw444_2:=hx444_2
      have hw444_1:=hx444_1
      have hw444_0:=hx444_0
      cases e444
      replace hx444_0:=(HB.out.cell (World.block_lt_of_cell? w _ hx444_0)).trans hx444_0
      replace hx444_1:=(HB.out.cell (World.block_lt_of_cell? w _ hx444_1)).trans hx444_1
      replace hx444_2:=(HB.out.cell (World.block_lt_of_cell? w _ hx444_2)).trans hx444_2
      replace p444:=eq_true p444
      replace q444:=eq_true q444
      have p445:0≤(x5_1:Int):=od
      have q445:x5_1<(l1.length:Int):=od
      obtain⟨ad445,e445,hx445_0,hx445_1,hx445_2⟩:=at_T62 HR1.out x5_1 p445 q445
      have hw445_2:=hx445_2
      have hw445_1:=hx445_1
      have hw445_0:=hx445_0
      cases e445
      replace hx445_0:=(HB.out.cell (World.block_lt_of_cell? w _ hx445_0)).trans hx445_0
      replace hx445_1:=(HB.out.cell (World.block_lt_of_cell? w _ hx445_1)).trans hx445_1
      replace hx445_2:=(HB.out.cell (World.block_lt_of_cell? w _ hx445_2)).trans hx445_2
      replace p445:=eq_true p445
      replace q445:=eq_true q445
      refine start_ (n:=10) (S:=fun w'=>w'.cell? (ad444.add ((x5_1).toNat*3))=some (.int .i64 ((rd_T62 l0 x5_1).f0))∧w'.cell? ⟨(ad444.add ((x5_1).toNat*3)).block,(ad444.add ((x5_1).toNat*3)).off+1,none⟩=some (.int .i64 ((rd_T62 l0 x5_1).f1))∧w'.cell? ⟨(ad444.add ((x5_1).toNat*3)).block,(ad444.add ((x5_1).toNat*3)).off+2,none⟩=some (.int .i64 ((rd_T62 l0 x5_1).f2))∧w'.cell? (ad445.add ((x5_1).toNat*3))=some (.int .i64 ((rd_T62 l1 x5_1).f0))∧w'.cell? ⟨(ad445.add ((x5_1).toNat*3)).block,(ad445.add ((x5_1).toNat*3)).off+1,none⟩=some (.int .i64 ((rd_T62 l1 x5_1).f1))∧w'.cell? ⟨(ad445.add ((x5_1).toNat*3)).block,(ad445.add ((x5_1).toNat*3)).off+2,none⟩=some (.int .i64 ((rd_T62 l1 x5_1).f2))) (ds:=[]) (fl 0 10) (by kernel_rfl) rfl rfl ⟨((HB.out.cell (World.block_lt_of_cell? w _ hw444_0)).trans hw444_0),((HB.out.cell (World.block_lt_of_cell? w _ hw444_1)).trans hw444_1),((HB.out.cell (World.block_lt_of_cell? w _ hw444_2)).trans hw444_2),((HB.out.cell (World.block_lt_of_cell? w _ hw445_0)).trans hw445_0),((HB.out.cell (World.block_lt_of_cell? w _ hw445_1)).trans hw445_1),((HB.out.cell (World.block_lt_of_cell? w _ hw445_2)).trans hw445_2)⟩ (fun hHeld=>?_);refine with_tabW laws_eqNoteS.tab6 laws_eqNoteS.bits6 (fun HT_ HW_=>?_)
      generalize wr.drew=w9 at HB hx444_0 hx444_1 hx444_2 hx445_0 hx445_1 hx445_2 hHeld ⊢
      refine pu HT_.out 0 (some 17) (fl 1 10) (h:=?_)
      refine pu HT_.out 1 (some 18) (fl 2 10) (h:=?_)
      refine pu HT_.out 2 (some 19) (fl 3 10) (h:=?_)
      refine pu HT_.out 4 (some 21) #[true,true,true,false,true,false,false,false,false,false] (h:=?_)
      refine pu HT_.out 5 (some 22) #[true,true,true,false,true,true,false,false,false,false] (h:=?_)
      refine pu HT_.out 6 (some 23) #[true,true,true,false,true,true,true,false,false,false] (h:=?_)
      refine ta HT_.out HW_.out 3 (some 20) (fl 7 10) hHeld rfl (by rintro w' ⟨s0,s1,s2,s3,s4,s5⟩;go_simp;with_reducible rfl) (h:=?_)
      refine ta HT_.out HW_.out 7 (some 24) (fl 8 10) hHeld rfl (by rintro w' ⟨s0,s1,s2,s3,s4,s5⟩;go_simp;with_reducible rfl) (h:=?_)
      refine one_ (i:=8) (N:=some 25) (fl 9 10) rfl rfl (one_of HT_.out (by kernel_rfl)) (by decide) (fun K hK=>?_)
      refine goes_ Try.func35 (by kernel_rfl) rfl #[.agg #[.int .i64 ((rd_T62 l0 x5_1).f0),.int .i64 ((rd_T62 l0 x5_1).f1),.int .i64 ((rd_T62 l0 x5_1).f2)],.agg #[.int .i64 ((rd_T62 l1 x5_1).f0),.int .i64 ((rd_T62 l1 x5_1).f1),.int .i64 ((rd_T62 l1 x5_1).f2)]] (by rfl) rfl rfl tl ?_
      with_reducible refine(laws_eqNote.calls ((rd_T62 l0 x5_1).f0) ((rd_T62 l0 x5_1).f1) ((rd_T62 l0 x5_1).f2) ((rd_T62 l1 x5_1).f0) ((rd_T62 l1 x5_1).f1) ((rd_T62 l1 x5_1).f2) true _ A7.out).mono ?_
      rintro e w10 ⟨rfl,hb⟩
      refine⟨_,rfl,?_⟩
      replace HB:=am (below_step bl hb)
      (try clear hb)
      refine hK.out _ _ ⟨((HB.out.cell (World.block_lt_of_cell? w _ hw444_0)).trans hw444_0),((HB.out.cell (World.block_lt_of_cell? w _ hw444_1)).trans hw444_1),((HB.out.cell (World.block_lt_of_cell? w _ hw444_2)).trans hw444_2),((HB.out.cell (World.block_lt_of_cell? w _ hw445_0)).trans hw445_0),((HB.out.cell (World.block_lt_of_cell? w _ hw445_1)).trans hw445_1),((HB.out.cell (World.block_lt_of_cell? w _ hw445_2)).trans hw445_2)⟩ (fun hHeld=>?_)
      clear hK K
      refine norm_ (a':=?_) ?_ ?_
      rotate_left
      ·show Act.put _ (some 25) _=_
       simp only[Act.put,List.setIfInBounds_toArray,List.set_cons_zero,List.set_cons_succ,i64_w,i32_w]
       rfl
      refine pu HT_.out 9 (some 26) (fl 10 10) (h:=?_)
      refine done_ (done_of HT_.out (by kernel_rfl)) ?_
      try go_wp2
      go_roundg k1
      case measure=>have:=HK1.out;omega
      case rel=>exact⟨(wrap64 (x5_1+1)),fin2,H',⟨by have:=HK1.out;omega⟩,⟨bl⟩⟩
     ·replace c8:=Bool.eq_false_iff.mpr c8
      subst c8
      replace H:=(if_neg Bool.false_ne_true).symm.trans H
      obtain rfl:=Option.some.inj H
      try go_wp2
      replace HB:=am (below_drew1 HB.out)
      have p444:0≤(x5_1:Int):=od
      have q444:x5_1<(l0.length:Int):=od
      obtain⟨ad444,e444,hx444_0,hx444_1,hx444_2⟩:=at_T62 HR0.out x5_1 p444 q444
      have hw444_2:=hx444_2
      have hw444_1:=hx444_1
      have hw444_0:=hx444_0
      cases e444
      replace hx444_0:=(HB.out.cell (World.block_lt_of_cell? w _ hx444_0)).trans hx444_0
      replace hx444_1:=(HB.out.cell (World.block_lt_of_cell? w _ hx444_1)).trans hx444_1
      replace hx444_2:=(HB.out.cell (World.block_lt_of_cell? w _ hx444_2)).trans hx444_2
      replace p444:=eq_true p444
      replace q444:=eq_true q444
      have p445:0≤(x5_1:Int):=od
      have q445:x5_1<(l1.length:Int):=od
      obtain⟨ad445,e445,hx445_0,hx445_1,hx445_2⟩:=at_T62 HR1.out x5_1 p445 q445
      have hw445_2:=hx445_2
      have hw445_1:=hx445_1
      have hw445_0:=hx445_0
      cases e445
      replace hx445_0:=(HB.out.cell (World.block_lt_of_cell? w _ hx445_0)).trans hx445_0
      replace hx445_1:=(HB.out.cell (World.block_lt_of_cell? w _ hx445_1)).trans hx445_1
      replace hx445_2:=(HB.out.cell (World.block_lt_of_cell? w _ hx445_2)).trans hx445_2
      replace p445:=eq_true p445
      replace q445:=eq_true q445
      refine start_ (n:=10) (S:=fun w'=>w'.cell? (ad444.add ((x5_1).toNat*3))=some (.int .i64 ((rd_T62 l0 x5_1).f0))∧w'.cell? ⟨(ad444.add ((x5_1).toNat*3)).block,(ad444.add ((x5_1).toNat*3)).off+1,none⟩=some (.int .i64 ((rd_T62 l0 x5_1).f1))∧w'.cell? ⟨(ad444.add ((x5_1).toNat*3)).block,(ad444.add ((x5_1).toNat*3)).off+2,none⟩=some (.int .i64 ((rd_T62 l0 x5_1).f2))∧w'.cell? (ad445.add ((x5_1).toNat*3))=some (.int .i64 ((rd_T62 l1 x5_1).f0))∧w'.cell? ⟨(ad445.add ((x5_1).toNat*3)).block,(ad445.add ((x5_1).toNat*3)).off+1,none⟩=some (.int .i64 ((rd_T62 l1 x5_1).f1))∧w'.cell? ⟨(ad445.add ((x5_1).toNat*3)).block,(ad445.add ((x5_1).toNat*3)).off+2,none⟩=some (.int .i64 ((rd_T62 l1 x5_1).f2))) (ds:=[]) (fl 0 10) (by kernel_rfl) rfl rfl ⟨((HB.out.cell (World.block_lt_of_cell? w _ hw444_0)).trans hw444_0),((HB.out.cell (World.block_lt_of_cell? w _ hw444_1)).trans hw444_1),((HB.out.cell (World.block_lt_of_cell? w _ hw444_2)).trans hw444_2),((HB.out.cell (World.block_lt_of_cell? w _ hw445_0)).trans hw445_0),((HB.out.cell (World.block_lt_of_cell? w _ hw445_1)).trans hw445_1),((HB.out.cell (World.block_lt_of_cell? w _ hw445_2)).trans hw445_2)⟩ (fun hHeld=>?_);refine with_tabW laws_eqNoteS.tab6 laws_eqNoteS.bits6 (fun HT_ HW_=>?_)
      generalize wr.drew=w11 at HB hx444_0 hx444_1 hx444_2 hx445_0 hx445_1 hx445_2 hHeld ⊢
      refine pu HT_.out 0 (some 17) (fl 1 10) (h:=?_)
      refine pu HT_.out 1 (some 18) (fl 2 10) (h:=?_)
      refine pu HT_.out 2 (some 19) (fl 3 10) (h:=?_)
      refine pu HT_.out 4 (some 21) #[true,true,true,false,true,false,false,false,false,false] (h:=?_)
      refine pu HT_.out 5 (some 22) #[true,true,true,false,true,true,false,false,false,false] (h:=?_)
      refine pu HT_.out 6 (some 23) #[true,true,true,false,true,true,true,false,false,false] (h:=?_)
      refine ta HT_.out HW_.out 3 (some 20) (fl 7 10) hHeld rfl (by rintro w' ⟨s0,s1,s2,s3,s4,s5⟩;go_simp;with_reducible rfl) (h:=?_)
      refine ta HT_.out HW_.out 7 (some 24) (fl 8 10) hHeld rfl (by rintro w' ⟨s0,s1,s2,s3,s4,s5⟩;go_simp;with_reducible rfl) (h:=?_)
      refine one_ (i:=8) (N:=some 25) (fl 9 10) rfl rfl (one_of HT_.out (by kernel_rfl)) (by decide) (fun K hK=>?_)
      refine goes_ Try.func35 (by kernel_rfl) rfl #[.agg #[.int .i64 ((rd_T62 l0 x5_1).f0),.int .i64 ((rd_T62 l0 x5_1).f1),.int .i64 ((rd_T62 l0 x5_1).f2)],.agg #[.int .i64 ((rd_T62 l1 x5_1).f0),.int .i64 ((rd_T62 l1 x5_1).f1),.int .i64 ((rd_T62 l1 x5_1).f2)]] (by rfl) rfl rfl tl ?_
      with_reducible refine(laws_eqNote.calls ((rd_T62 l0 x5_1).f0) ((rd_T62 l0 x5_1).f1) ((rd_T62 l0 x5_1).f2) ((rd_T62 l1 x5_1).f0) ((rd_T62 l1 x5_1).f1) ((rd_T62 l1 x5_1).f2) false _ A7.out).mono ?_
      rintro e w12 ⟨rfl,hb⟩
      refine⟨_,rfl,?_⟩
      replace HB:=am (below_step bl hb)
      (try clear hb)
      refine hK.out _ _ ⟨((HB.out.cell (World.block_lt_of_cell? w _ hw444_0)).trans hw444_0),((HB.out.cell (World.block_lt_of_cell? w _ hw444_1)).trans hw444_1),((HB.out.cell (World.block_lt_of_cell? w _ hw444_2)).trans hw444_2),((HB.out.cell (World.block_lt_of_cell? w _ hw445_0)).trans hw445_0),((HB.out.cell (World.block_lt_of_cell? w _ hw445_1)).trans hw445_1),((HB.out.cell (World.block_lt_of_cell? w _ hw445_2)).trans hw445_2)⟩ (fun hHeld=>?_)
      clear hK K
      refine norm_ (a':=?_) ?_ ?_
      rotate_left
      ·show Act.put _ (some 25) _=_
       simp only[Act.put,List.setIfInBounds_toArray,List.set_cons_zero,List.set_cons_succ,i64_w,i32_w]
       rfl
      refine pu HT_.out 9 (some 26) (fl 10 10) (h:=?_)
      refine done_ (done_of HT_.out (by kernel_rfl)) ?_
      try go_wp2
      go_ret
      exact⟨fin1,bl⟩
    ·have c4b0:=decide_eq_false c4
     clear c4
     obtain rfl:=Option.some.inj H
     go_wp2
     go_ret
     exact⟨fin1,bl⟩
 ·have c3b0:((l0.length:Int) == (l1.length:Int))=false:=beq_eq_false_iff_ne.mpr c3
  have c3b1:((l0.length:Int) != (l1.length:Int))=true:=bne_iff_ne.mpr c3
  have c3b2:(l0.length == l1.length)=false:=by first|simpa using c3|(simp at c3 ⊢;omega)
  obtain rfl:=Option.some.inj H
  go_enter Try.func16,Try.ntmps16
  go_wp2
  go_ret
  exact⟨fin1,bl⟩

end Go.Proofs.Ytipklbjbgbbgpaa.PFnExactPassesVerifier
