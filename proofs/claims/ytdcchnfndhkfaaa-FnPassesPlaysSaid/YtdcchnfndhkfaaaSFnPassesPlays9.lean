/- Walks of functions that FnPassesPlays reaches. No conditions beyond the arguments' being read. -/
import Derived.Test.YtdcchnfndhkfaaaSFnPassesPlays0
import Derived.Test.YtdcchnfndhkfaaaSFnPassesPlays5
import Derived.Test.YtdcchnfndhkfaaaSFnPassesPlays8
namespace Go.Proofs.Ytdcchnfndhkfaaa.PFnPassesPlays
open Go.RowKit Go.Proofs.YtdcchnfndhkfaaaW.PrintWords Go.Proofs.YtdcchnfndhkfaaaW.PrintLast Go.Proofs.YtdcchnfndhkfaaaW.PrintMore
attribute [local go_sem] max2_int min2_int max_two min_two max_three min_three max_four min_four
set_option linter.unusedVariables false
set_option linter.unusedSimpArgs false

def impl_FaultsOf.f (k:Nat) (l0_0:List Int) (a0_1:Int) (l1:List (S35)) (l2:List (S60)) (a3_0:Int) (a3_1:Int) (a3_2:Int) (a4:Int):Option ((List (List Int))×Bool):=(impl_canMatch.f k l0_0 a0_1 l1 l2).bind fun t249=>(if t249=true then((impl_IsAction.f a3_0 a3_1 a3_2).bind fun t250=>(if t250=true then((impl_isTolerance.f a4).bind fun t251=>(if t251=true then((impl_faultsOf.f k l0_0 a0_1 l1 l2 a3_0 a3_1 a3_2 a4).bind fun t252=>(some (t252,true))) else(some (([]:List (List Int)),false)))) else(some (([]:List (List Int)),false)))) else(some (([]:List (List Int)),false)))
set_option maxHeartbeats 8000000 in
set_option maxRecDepth 100000 in
theorem impl_FaultsOf.calls (k:Nat) (A0_0:Option Addr) (c0_0:Nat) (l0_0:List Int) (a0_1:Int) (A1:Option Addr) (c1:Nat) (l1:List (S35)) (A2:Option Addr) (c2:Nat) (l2:List (S60)) (a3_0:Int) (a3_1:Int) (a3_2:Int) (a4:Int) (r1:List (List Int)) (r2:Bool) (w:World) (hr0_0:Kd.C (Kd.int .i64) w A0_0 l0_0.length l0_0) (hc0_0:l0_0.length≤c0_0) (hr1:Kd.C k35 w A1 l1.length l1) (hc1:l1.length≤c1) (hr2:Kd.C k60 w A2 l2.length l2) (hc2:l2.length≤c2) (h:impl_FaultsOf.f k l0_0 a0_1 l1 l2 a3_0 a3_1 a3_2 a4=some (r1,r2)) :
  Calls Try.prog 8 #[.agg #[.slice A0_0 l0_0.length c0_0,.int .i64 a0_1],.slice A1 l1.length c1,.slice A2 l2.length c2,.agg #[.int .i64 a3_0,.int .i64 a3_1,.int .i64 a3_2],.int .i64 a4] w fun e w'=>∃ v0_:Value,e = .returned (.tuple #[v0_,.bool r2])∧Kd.S (Kd.slice 3 (Kd.int .i64)) 22 w' w.heap.size (fun _=>True) v0_ r1∧Below w.heap.size w w':=by
 have hu24:=Try.underlying24
 have hu28:=Try.underlying28
 have HR0_0:=am hr0_0
 have HC0_0:=am hc0_0
 clear hr0_0 hc0_0
 have HR1:=am hr1
 have HC1:=am hc1
 clear hr1 hc1
 have HR2:=am hr2
 have HC2:=am hc2
 clear hr2 hc2
 have HB:=am (Below.refl w.heap.size w)
 have H:((impl_canMatch.f k l0_0 a0_1 l1 l2).bind fun t249=>(if t249=true then((impl_IsAction.f a3_0 a3_1 a3_2).bind fun t250=>(if t250=true then((impl_isTolerance.f a4).bind fun t251=>(if t251=true then((impl_faultsOf.f k l0_0 a0_1 l1 l2 a3_0 a3_1 a3_2 a4).bind fun t252=>(some (t252,true))) else(some (([]:List (List Int)),false)))) else(some (([]:List (List Int)),false)))) else(some (([]:List (List Int)),false))))=some (r1,r2):=h
 clear h
 replace H:=Option.bind_eq_some_iff.mp H
 obtain⟨t249,A60,H⟩:=H
 replace H:(if t249=true then((impl_IsAction.f a3_0 a3_1 a3_2).bind fun t250=>(if t250=true then((impl_isTolerance.f a4).bind fun t251=>(if t251=true then((impl_faultsOf.f k l0_0 a0_1 l1 l2 a3_0 a3_1 a3_2 a4).bind fun t252=>(some (t252,true))) else(some (([]:List (List Int)),false)))) else(some (([]:List (List Int)),false)))) else(some (([]:List (List Int)),false)))=some (r1,r2):=H
 have A6:=am A60
 clear A60
 by_cases c7:t249=true
 ·subst c7
  replace H:=(if_pos rfl).symm.trans H
  replace H:=Option.bind_eq_some_iff.mp H
  obtain⟨t250,A80,H⟩:=H
  replace H:(if t250=true then((impl_isTolerance.f a4).bind fun t251=>(if t251=true then((impl_faultsOf.f k l0_0 a0_1 l1 l2 a3_0 a3_1 a3_2 a4).bind fun t252=>(some (t252,true))) else(some (([]:List (List Int)),false)))) else(some (([]:List (List Int)),false)))=some (r1,r2):=H
  have A8:=am A80
  clear A80
  by_cases c9:t250=true
  ·subst c9
   replace H:=(if_pos rfl).symm.trans H
   replace H:=Option.bind_eq_some_iff.mp H
   obtain⟨t251,A100,H⟩:=H
   replace H:(if t251=true then((impl_faultsOf.f k l0_0 a0_1 l1 l2 a3_0 a3_1 a3_2 a4).bind fun t252=>(some (t252,true))) else(some (([]:List (List Int)),false)))=some (r1,r2):=H
   have A10:=am A100
   clear A100
   by_cases c11:t251=true
   ·subst c11
    replace H:=(if_pos rfl).symm.trans H
    replace H:=Option.bind_eq_some_iff.mp H
    obtain⟨t252,A120,H⟩:=H
    replace H:(some (t252,true))=some (r1,r2):=H
    have A12:=am A120
    clear A120
    simp only[Option.some.injEq,Prod.mk.injEq] at H
    obtain⟨rfl,rfl⟩:=H
    go_enter Try.func8,Try.ntmps8
    go_wp2_with (first|((with_reducible refine gate_dst (N:=5) rfl ?_);refine box_event ?hg (N:=5) ?hd (cs := #[.slice A0_0 l0_0.length c0_0,.int .i64 a0_1]) (t:=24) ?hr ?_;(case hd=>rfl);(case hg=>rfl);(case hr=>first|(go_simp;done)|(go_simp;rfl));intro gb247 hg w13 hbox hb;have BK247:=am (hbox);have GW247:=am (ge_ bl hg);have GE247:=am (ge_ bl hg);replace HB:=am (below_step bl hb);clear hb hbox hg)|((with_reducible refine gate_dst (N:=8) rfl ?_);refine box_event ?hg (N:=8) ?hd (cs := #[.int .i64 a3_0,.int .i64 a3_1,.int .i64 a3_2]) (t:=28) ?hr ?_;(case hd=>rfl);(case hg=>rfl);(case hr=>first|(go_simp;done)|(go_simp;rfl));intro gb248 hg w14 hbox hb;have BK248:=am (hbox);have GW248:=am (ge_ bl hg);have GE248:=am (ge_ bl hg);replace HB:=am (below_step bl hb);have NB247_248:=am (nl (bup BK247.out) hg);have NB248_247:=am (ng (bup BK247.out) hg);replace BK247:=am (blk_below (bup BK247.out) hb);clear hb hbox hg;have hnb15:=NB247_248.out;have hnc15:=NB248_247.out;have hcz16_0:=bc BK247.out 0;have hcz16_1:=bc BK247.out 1;have hfz16_0:=blk_frozen BK247.out 0;have hfz16_1:=blk_frozen BK247.out 1)|((with_reducible refine gate_callee (f:=11) rfl ?_);refine goesL_ (some 15) rfl rfl Try.func11 (by kernel_rfl) rfl #[.agg #[.slice A0_0 l0_0.length c0_0,.int .i64 a0_1],.slice A1 l1.length c1,.slice A2 l2.length c2] rfl tl ?_;(with_reducible refine(impl_canMatch.calls k _ _ l0_0 a0_1 _ _ l1 _ _ l2 true _ ?side1 ?side2 ?side3 ?side4 ?side5 ?side6 A6.out).mono ?_);(case side1=>exact cup (Kd.C_below HR0_0.out HB.out));(case side2=>exact HC0_0.out);(case side3=>exact cup (Kd.C_below HR1.out HB.out));(case side4=>exact HC1.out);(case side5=>exact cup (Kd.C_below HR2.out HB.out));(case side6=>exact HC2.out);rintro e w17 ⟨rfl,hb⟩;refine⟨_,rfl,?_⟩;replace BK247:=am (blk_below (bup BK247.out) hb);replace BK248:=am (blk_below (bup BK248.out) hb);replace HB:=am (below_step bl hb);(try clear hb);have hcz18_0:=bc BK248.out 0;have hcz18_1:=bc BK248.out 1;have hcz18_2:=bc BK248.out 2;have hfz18_0:=blk_frozen BK248.out 0;have hfz18_1:=blk_frozen BK248.out 1;have hfz18_2:=blk_frozen BK248.out 2)|(go_at_call 12;(with_reducible refine(impl_IsAction.calls a3_0 a3_1 a3_2 true _ A8.out).mono ?_);rintro e w19 ⟨rfl,hb⟩;replace BK247:=am (blk_below (bup BK247.out) hb);replace BK248:=am (blk_below (bup BK248.out) hb);replace HB:=am (below_step bl hb);(try clear hb))|(go_at_call 13;(with_reducible refine(impl_isTolerance.calls a4 true _ A10.out).mono ?_);rintro e w' ⟨rfl,⟨nd,rfl⟩⟩;have hcz20_0:=bc BK247.out 0;have hcz20_1:=bc BK247.out 1;have hfz20_0:=blk_frozen BK247.out 0;have hfz20_1:=blk_frozen BK247.out 1;have hcz21_0:=bc BK248.out 0;have hcz21_1:=bc BK248.out 1;have hcz21_2:=bc BK248.out 2;have hfz21_0:=blk_frozen BK248.out 0;have hfz21_1:=blk_frozen BK248.out 1;have hfz21_2:=blk_frozen BK248.out 2)|((with_reducible refine gate_callee (f:=17) rfl ?_);refine goesL_ (some 32) rfl rfl Try.func17 (by kernel_rfl) rfl #[.agg #[.slice A0_0 l0_0.length c0_0,.int .i64 a0_1],.slice A1 l1.length c1,.slice A2 l2.length c2,.agg #[.int .i64 a3_0,.int .i64 a3_1,.int .i64 a3_2],.int .i64 a4] rfl tl ?_;(with_reducible refine(impl_faultsOf.calls k _ _ l0_0 a0_1 _ _ l1 _ _ l2 a3_0 a3_1 a3_2 a4 t252 _ ?side1 ?side2 ?side3 ?side4 ?side5 ?side6 A12.out).mono ?_);(case side1=>repeat(first|exact(Kd.C_below HR0_0.out bl)|(with_reducible refine Kd.C_alloc ?_ _)|(with_reducible refine Kd.C_drewN ?_ _)|(with_reducible refine Kd.C_drew ?_)));(case side2=>exact HC0_0.out);(case side3=>repeat(first|exact(Kd.C_below HR1.out bl)|(with_reducible refine Kd.C_alloc ?_ _)|(with_reducible refine Kd.C_drewN ?_ _)|(with_reducible refine Kd.C_drew ?_)));(case side4=>exact HC1.out);(case side5=>repeat(first|exact(Kd.C_below HR2.out bl)|(with_reducible refine Kd.C_alloc ?_ _)|(with_reducible refine Kd.C_drewN ?_ _)|(with_reducible refine Kd.C_drew ?_)));(case side6=>exact HC2.out);rintro e w22 ⟨v253,rfl,ho0,hb⟩;refine⟨_,rfl,?_⟩;have HO254:=am (Kd.S_lower ho0 (below_size bl));replace BK247:=am (blk_below (bup BK247.out) hb);replace BK248:=am (blk_below (bup BK248.out) hb);replace HB:=am (below_step bl hb);(try clear hb);(try clear ho0)))
    go_ret2
    exact⟨_,fin1,by(with_reducible repeat(first|apply Kd.S_alloc|apply Kd.S_drewN|apply Kd.S_drew));exact HO254.out,bl⟩
   ·replace c11:=Bool.eq_false_iff.mpr c11
    subst c11
    replace H:=(if_neg Bool.false_ne_true).symm.trans H
    simp only[Option.some.injEq,Prod.mk.injEq] at H
    obtain⟨rfl,rfl⟩:=H
    go_enter Try.func8,Try.ntmps8
    go_wp2_with (first|((with_reducible refine gate_dst (N:=5) rfl ?_);refine box_event ?hg (N:=5) ?hd (cs := #[.slice A0_0 l0_0.length c0_0,.int .i64 a0_1]) (t:=24) ?hr ?_;(case hd=>rfl);(case hg=>rfl);(case hr=>first|(go_simp;done)|(go_simp;rfl));intro gb247 hg w23 hbox hb;have BK247:=am (hbox);have GW247:=am (ge_ bl hg);have GE247:=am (ge_ bl hg);replace HB:=am (below_step bl hb);clear hb hbox hg)|((with_reducible refine gate_dst (N:=8) rfl ?_);refine box_event ?hg (N:=8) ?hd (cs := #[.int .i64 a3_0,.int .i64 a3_1,.int .i64 a3_2]) (t:=28) ?hr ?_;(case hd=>rfl);(case hg=>rfl);(case hr=>first|(go_simp;done)|(go_simp;rfl));intro gb248 hg w24 hbox hb;have BK248:=am (hbox);have GW248:=am (ge_ bl hg);have GE248:=am (ge_ bl hg);replace HB:=am (below_step bl hb);have NB247_248:=am (nl (bup BK247.out) hg);have NB248_247:=am (ng (bup BK247.out) hg);replace BK247:=am (blk_below (bup BK247.out) hb);clear hb hbox hg;have hnb25:=NB247_248.out;have hnc25:=NB248_247.out;have hcz26_0:=bc BK247.out 0;have hcz26_1:=bc BK247.out 1;have hfz26_0:=blk_frozen BK247.out 0;have hfz26_1:=blk_frozen BK247.out 1)|((with_reducible refine gate_callee (f:=11) rfl ?_);refine goesL_ (some 15) rfl rfl Try.func11 (by kernel_rfl) rfl #[.agg #[.slice A0_0 l0_0.length c0_0,.int .i64 a0_1],.slice A1 l1.length c1,.slice A2 l2.length c2] rfl tl ?_;(with_reducible refine(impl_canMatch.calls k _ _ l0_0 a0_1 _ _ l1 _ _ l2 true _ ?side1 ?side2 ?side3 ?side4 ?side5 ?side6 A6.out).mono ?_);(case side1=>exact cup (Kd.C_below HR0_0.out HB.out));(case side2=>exact HC0_0.out);(case side3=>exact cup (Kd.C_below HR1.out HB.out));(case side4=>exact HC1.out);(case side5=>exact cup (Kd.C_below HR2.out HB.out));(case side6=>exact HC2.out);rintro e w27 ⟨rfl,hb⟩;refine⟨_,rfl,?_⟩;replace BK247:=am (blk_below (bup BK247.out) hb);replace BK248:=am (blk_below (bup BK248.out) hb);replace HB:=am (below_step bl hb);(try clear hb);have hcz28_0:=bc BK248.out 0;have hcz28_1:=bc BK248.out 1;have hcz28_2:=bc BK248.out 2;have hfz28_0:=blk_frozen BK248.out 0;have hfz28_1:=blk_frozen BK248.out 1;have hfz28_2:=blk_frozen BK248.out 2)|(go_at_call 12;(with_reducible refine(impl_IsAction.calls a3_0 a3_1 a3_2 true _ A8.out).mono ?_);rintro e w29 ⟨rfl,hb⟩;replace BK247:=am (blk_below (bup BK247.out) hb);replace BK248:=am (blk_below (bup BK248.out) hb);replace HB:=am (below_step bl hb);(try clear hb))|(go_at_call 13;(with_reducible refine(impl_isTolerance.calls a4 false _ A10.out).mono ?_);rintro e w' ⟨rfl,⟨nd,rfl⟩⟩))
    go_ret2
    exact⟨_,fin1,by first|exact Kd.S_nil _ _ _ _ _|exact Kd.N_nil _ _ _ _ _|exact Kd.V_nil _ _ _ _ _|exact Kd.Q_nil _ _ _ _ _|exact Kd.R_nil _ _ _ _ _,bl⟩
  ·replace c9:=Bool.eq_false_iff.mpr c9
   subst c9
   replace H:=(if_neg Bool.false_ne_true).symm.trans H
   simp only[Option.some.injEq,Prod.mk.injEq] at H
   obtain⟨rfl,rfl⟩:=H
   go_enter Try.func8,Try.ntmps8
   go_wp2_with (first|((with_reducible refine gate_dst (N:=5) rfl ?_);refine box_event ?hg (N:=5) ?hd (cs := #[.slice A0_0 l0_0.length c0_0,.int .i64 a0_1]) (t:=24) ?hr ?_;(case hd=>rfl);(case hg=>rfl);(case hr=>first|(go_simp;done)|(go_simp;rfl));intro gb247 hg w30 hbox hb;have BK247:=am (hbox);have GW247:=am (ge_ bl hg);have GE247:=am (ge_ bl hg);replace HB:=am (below_step bl hb);clear hb hbox hg)|((with_reducible refine gate_dst (N:=8) rfl ?_);refine box_event ?hg (N:=8) ?hd (cs := #[.int .i64 a3_0,.int .i64 a3_1,.int .i64 a3_2]) (t:=28) ?hr ?_;(case hd=>rfl);(case hg=>rfl);(case hr=>first|(go_simp;done)|(go_simp;rfl));intro gb248 hg w31 hbox hb;have BK248:=am (hbox);have GW248:=am (ge_ bl hg);have GE248:=am (ge_ bl hg);replace HB:=am (below_step bl hb);have NB247_248:=am (nl (bup BK247.out) hg);have NB248_247:=am (ng (bup BK247.out) hg);replace BK247:=am (blk_below (bup BK247.out) hb);clear hb hbox hg;have hnb32:=NB247_248.out;have hnc32:=NB248_247.out;have hcz33_0:=bc BK247.out 0;have hcz33_1:=bc BK247.out 1;have hfz33_0:=blk_frozen BK247.out 0;have hfz33_1:=blk_frozen BK247.out 1)|((with_reducible refine gate_callee (f:=11) rfl ?_);refine goesL_ (some 15) rfl rfl Try.func11 (by kernel_rfl) rfl #[.agg #[.slice A0_0 l0_0.length c0_0,.int .i64 a0_1],.slice A1 l1.length c1,.slice A2 l2.length c2] rfl tl ?_;(with_reducible refine(impl_canMatch.calls k _ _ l0_0 a0_1 _ _ l1 _ _ l2 true _ ?side1 ?side2 ?side3 ?side4 ?side5 ?side6 A6.out).mono ?_);(case side1=>exact cup (Kd.C_below HR0_0.out HB.out));(case side2=>exact HC0_0.out);(case side3=>exact cup (Kd.C_below HR1.out HB.out));(case side4=>exact HC1.out);(case side5=>exact cup (Kd.C_below HR2.out HB.out));(case side6=>exact HC2.out);rintro e w34 ⟨rfl,hb⟩;refine⟨_,rfl,?_⟩;replace BK247:=am (blk_below (bup BK247.out) hb);replace BK248:=am (blk_below (bup BK248.out) hb);replace HB:=am (below_step bl hb);(try clear hb);have hcz35_0:=bc BK248.out 0;have hcz35_1:=bc BK248.out 1;have hcz35_2:=bc BK248.out 2;have hfz35_0:=blk_frozen BK248.out 0;have hfz35_1:=blk_frozen BK248.out 1;have hfz35_2:=blk_frozen BK248.out 2)|(go_at_call 12;(with_reducible refine(impl_IsAction.calls a3_0 a3_1 a3_2 false _ A8.out).mono ?_);rintro e w36 ⟨rfl,hb⟩;replace BK247:=am (blk_below (bup BK247.out) hb);replace BK248:=am (blk_below (bup BK248.out) hb);replace HB:=am (below_step bl hb);(try clear hb)))
   go_ret2
   exact⟨_,fin1,by first|exact Kd.S_nil _ _ _ _ _|exact Kd.N_nil _ _ _ _ _|exact Kd.V_nil _ _ _ _ _|exact Kd.Q_nil _ _ _ _ _|exact Kd.R_nil _ _ _ _ _,bl⟩
 ·replace c7:=Bool.eq_false_iff.mpr c7
  subst c7
  replace H:=(if_neg Bool.false_ne_true).symm.trans H
  simp only[Option.some.injEq,Prod.mk.injEq] at H
  obtain⟨rfl,rfl⟩:=H
  go_enter Try.func8,Try.ntmps8
  go_wp2_with (first|((with_reducible refine gate_dst (N:=5) rfl ?_);refine box_event ?hg (N:=5) ?hd (cs := #[.slice A0_0 l0_0.length c0_0,.int .i64 a0_1]) (t:=24) ?hr ?_;(case hd=>rfl);(case hg=>rfl);(case hr=>first|(go_simp;done)|(go_simp;rfl));intro gb247 hg w37 hbox hb;have BK247:=am (hbox);have GW247:=am (ge_ bl hg);have GE247:=am (ge_ bl hg);replace HB:=am (below_step bl hb);clear hb hbox hg)|((with_reducible refine gate_dst (N:=8) rfl ?_);refine box_event ?hg (N:=8) ?hd (cs := #[.int .i64 a3_0,.int .i64 a3_1,.int .i64 a3_2]) (t:=28) ?hr ?_;(case hd=>rfl);(case hg=>rfl);(case hr=>first|(go_simp;done)|(go_simp;rfl));intro gb248 hg w38 hbox hb;have BK248:=am (hbox);have GW248:=am (ge_ bl hg);have GE248:=am (ge_ bl hg);replace HB:=am (below_step bl hb);have NB247_248:=am (nl (bup BK247.out) hg);have NB248_247:=am (ng (bup BK247.out) hg);replace BK247:=am (blk_below (bup BK247.out) hb);clear hb hbox hg;have hnb39:=NB247_248.out;have hnc39:=NB248_247.out;have hcz40_0:=bc BK247.out 0;have hcz40_1:=bc BK247.out 1;have hfz40_0:=blk_frozen BK247.out 0;have hfz40_1:=blk_frozen BK247.out 1)|((with_reducible refine gate_callee (f:=11) rfl ?_);refine goesL_ (some 15) rfl rfl Try.func11 (by kernel_rfl) rfl #[.agg #[.slice A0_0 l0_0.length c0_0,.int .i64 a0_1],.slice A1 l1.length c1,.slice A2 l2.length c2] rfl tl ?_;(with_reducible refine(impl_canMatch.calls k _ _ l0_0 a0_1 _ _ l1 _ _ l2 false _ ?side1 ?side2 ?side3 ?side4 ?side5 ?side6 A6.out).mono ?_);(case side1=>exact cup (Kd.C_below HR0_0.out HB.out));(case side2=>exact HC0_0.out);(case side3=>exact cup (Kd.C_below HR1.out HB.out));(case side4=>exact HC1.out);(case side5=>exact cup (Kd.C_below HR2.out HB.out));(case side6=>exact HC2.out);rintro e w41 ⟨rfl,hb⟩;refine⟨_,rfl,?_⟩;replace BK247:=am (blk_below (bup BK247.out) hb);replace BK248:=am (blk_below (bup BK248.out) hb);replace HB:=am (below_step bl hb);(try clear hb)))
  go_ret2
  exact⟨_,fin1,by first|exact Kd.S_nil _ _ _ _ _|exact Kd.N_nil _ _ _ _ _|exact Kd.V_nil _ _ _ _ _|exact Kd.Q_nil _ _ _ _ _|exact Kd.R_nil _ _ _ _ _,bl⟩

def impl_PassesVerifier.f (k:Nat) (l0_0:List Int) (a0_1:Int) (l1:List (S35)) (l2:List (S60)) (a3_0:Int) (a3_1:Int) (a3_2:Int) (a4:Int):Option (Bool×Bool):=(impl_FaultsOf.f k l0_0 a0_1 l1 l2 a3_0 a3_1 a3_2 a4).bind fun bt257=>(if bt257.2=true then(some (((bt257.1.length:Int) == 0),bt257.2)) else(some (false,bt257.2)))
set_option maxHeartbeats 8000000 in
set_option maxRecDepth 100000 in
theorem impl_PassesVerifier.calls (k:Nat) (A0_0:Option Addr) (c0_0:Nat) (l0_0:List Int) (a0_1:Int) (A1:Option Addr) (c1:Nat) (l1:List (S35)) (A2:Option Addr) (c2:Nat) (l2:List (S60)) (a3_0:Int) (a3_1:Int) (a3_2:Int) (a4:Int) (r1:Bool) (r2:Bool) (w:World) (hr0_0:Kd.C (Kd.int .i64) w A0_0 l0_0.length l0_0) (hc0_0:l0_0.length≤c0_0) (hr1:Kd.C k35 w A1 l1.length l1) (hc1:l1.length≤c1) (hr2:Kd.C k60 w A2 l2.length l2) (hc2:l2.length≤c2) (h:impl_PassesVerifier.f k l0_0 a0_1 l1 l2 a3_0 a3_1 a3_2 a4=some (r1,r2)) :
  Calls Try.prog 4 #[.agg #[.slice A0_0 l0_0.length c0_0,.int .i64 a0_1],.slice A1 l1.length c1,.slice A2 l2.length c2,.agg #[.int .i64 a3_0,.int .i64 a3_1,.int .i64 a3_2],.int .i64 a4] w fun e w'=>e = .returned (.tuple #[.bool r1,.bool r2])∧Below w.heap.size w w':=by
 have hu24:=Try.underlying24
 have hu28:=Try.underlying28
 have HR0_0:=am hr0_0
 have HC0_0:=am hc0_0
 clear hr0_0 hc0_0
 have HR1:=am hr1
 have HC1:=am hc1
 clear hr1 hc1
 have HR2:=am hr2
 have HC2:=am hc2
 clear hr2 hc2
 have HB:=am (Below.refl w.heap.size w)
 have H:((impl_FaultsOf.f k l0_0 a0_1 l1 l2 a3_0 a3_1 a3_2 a4).bind fun bt257=>(if bt257.2=true then(some (((bt257.1.length:Int) == 0),bt257.2)) else(some (false,bt257.2))))=some (r1,r2):=h
 clear h
 replace H:=Option.bind_eq_some_iff.mp H
 obtain⟨⟨t257,t260⟩,A60,H⟩:=H
 replace H:(if t260=true then(some (((t257.length:Int) == 0),t260)) else(some (false,t260)))=some (r1,r2):=H
 have A6:=am A60
 clear A60
 by_cases c7:t260=true
 ·subst c7
  replace H:=(if_pos rfl).symm.trans H
  simp only[Option.some.injEq,Prod.mk.injEq] at H
  obtain⟨rfl,rfl⟩:=H
  go_enter Try.func4,Try.ntmps4
  go_wp2_with (first|((with_reducible refine gate_dst (N:=5) rfl ?_);(try(refine gate_guard (by rfl) ?_;dsimp only));refine box_event ?hg (N:=5) ?hd (cs := #[.slice A0_0 l0_0.length c0_0,.int .i64 a0_1]) (t:=24) ?hr ?_;(case hd=>rfl);(case hg=>rfl);(case hr=>first|(go_simp;done)|(go_simp;rfl));intro gb255 hg w8 hbox hb;have BK255:=am (hbox);have GW255:=am (ge_ bl hg);have GE255:=am (ge_ bl hg);replace HB:=am (below_step bl hb);clear hb hbox hg)|((with_reducible refine gate_dst (N:=8) rfl ?_);(try(refine gate_guard (by rfl) ?_;dsimp only));refine box_event ?hg (N:=8) ?hd (cs := #[.int .i64 a3_0,.int .i64 a3_1,.int .i64 a3_2]) (t:=28) ?hr ?_;(case hd=>rfl);(case hg=>rfl);(case hr=>first|(go_simp;done)|(go_simp;rfl));intro gb256 hg w9 hbox hb;have BK256:=am (hbox);have GW256:=am (ge_ bl hg);have GE256:=am (ge_ bl hg);replace HB:=am (below_step bl hb);have NB255_256:=am (nl (bup BK255.out) hg);have NB256_255:=am (ng (bup BK255.out) hg);replace BK255:=am (blk_below (bup BK255.out) hb);clear hb hbox hg;have hnb10:=NB255_256.out;have hnc10:=NB256_255.out;have hcz11_0:=bc BK255.out 0;have hcz11_1:=bc BK255.out 1;have hfz11_0:=blk_frozen BK255.out 0;have hfz11_1:=blk_frozen BK255.out 1;have hcz12_0:=bc BK256.out 0;have hcz12_1:=bc BK256.out 1;have hcz12_2:=bc BK256.out 2;have hfz12_0:=blk_frozen BK256.out 0;have hfz12_1:=blk_frozen BK256.out 1;have hfz12_2:=blk_frozen BK256.out 2)|((with_reducible refine gate_callee (f:=8) rfl ?_);refine goesL_ (some 20) rfl rfl Try.func8 (by kernel_rfl) rfl #[.agg #[.slice A0_0 l0_0.length c0_0,.int .i64 a0_1],.slice A1 l1.length c1,.slice A2 l2.length c2,.agg #[.int .i64 a3_0,.int .i64 a3_1,.int .i64 a3_2],.int .i64 a4] rfl tl ?_;(with_reducible refine(impl_FaultsOf.calls k _ _ l0_0 a0_1 _ _ l1 _ _ l2 a3_0 a3_1 a3_2 a4 t257 true _ ?side1 ?side2 ?side3 ?side4 ?side5 ?side6 A6.out).mono ?_);(case side1=>exact cup (Kd.C_below HR0_0.out HB.out));(case side2=>exact HC0_0.out);(case side3=>exact cup (Kd.C_below HR1.out HB.out));(case side4=>exact HC1.out);(case side5=>exact cup (Kd.C_below HR2.out HB.out));(case side6=>exact HC2.out);rintro e w13 ⟨v258,rfl,ho0,hb⟩;refine⟨_,rfl,?_⟩;have HO259:=am (Kd.S_lower ho0 (below_size bl));replace BK255:=am (blk_below (bup BK255.out) hb);replace BK256:=am (blk_below (bup BK256.out) hb);replace HB:=am (below_step bl hb);(try clear hb);(try clear ho0);obtain⟨Ao14,co14,eo14⟩:=Kd.S_slice HO259.out;subst eo14))
  go_ret2
  exact⟨fin1,bl⟩
 ·replace c7:=Bool.eq_false_iff.mpr c7
  subst c7
  replace H:=(if_neg Bool.false_ne_true).symm.trans H
  simp only[Option.some.injEq,Prod.mk.injEq] at H
  obtain⟨rfl,rfl⟩:=H
  go_enter Try.func4,Try.ntmps4
  go_wp2_with (first|((with_reducible refine gate_dst (N:=5) rfl ?_);(try(refine gate_guard (by rfl) ?_;dsimp only));refine box_event ?hg (N:=5) ?hd (cs := #[.slice A0_0 l0_0.length c0_0,.int .i64 a0_1]) (t:=24) ?hr ?_;(case hd=>rfl);(case hg=>rfl);(case hr=>first|(go_simp;done)|(go_simp;rfl));intro gb255 hg w15 hbox hb;have BK255:=am (hbox);have GW255:=am (ge_ bl hg);have GE255:=am (ge_ bl hg);replace HB:=am (below_step bl hb);clear hb hbox hg)|((with_reducible refine gate_dst (N:=8) rfl ?_);(try(refine gate_guard (by rfl) ?_;dsimp only));refine box_event ?hg (N:=8) ?hd (cs := #[.int .i64 a3_0,.int .i64 a3_1,.int .i64 a3_2]) (t:=28) ?hr ?_;(case hd=>rfl);(case hg=>rfl);(case hr=>first|(go_simp;done)|(go_simp;rfl));intro gb256 hg w16 hbox hb;have BK256:=am (hbox);have GW256:=am (ge_ bl hg);have GE256:=am (ge_ bl hg);replace HB:=am (below_step bl hb);have NB255_256:=am (nl (bup BK255.out) hg);have NB256_255:=am (ng (bup BK255.out) hg);replace BK255:=am (blk_below (bup BK255.out) hb);clear hb hbox hg;have hnb17:=NB255_256.out;have hnc17:=NB256_255.out;have hcz18_0:=bc BK255.out 0;have hcz18_1:=bc BK255.out 1;have hfz18_0:=blk_frozen BK255.out 0;have hfz18_1:=blk_frozen BK255.out 1;have hcz19_0:=bc BK256.out 0;have hcz19_1:=bc BK256.out 1;have hcz19_2:=bc BK256.out 2;have hfz19_0:=blk_frozen BK256.out 0;have hfz19_1:=blk_frozen BK256.out 1;have hfz19_2:=blk_frozen BK256.out 2)|((with_reducible refine gate_callee (f:=8) rfl ?_);refine goesL_ (some 20) rfl rfl Try.func8 (by kernel_rfl) rfl #[.agg #[.slice A0_0 l0_0.length c0_0,.int .i64 a0_1],.slice A1 l1.length c1,.slice A2 l2.length c2,.agg #[.int .i64 a3_0,.int .i64 a3_1,.int .i64 a3_2],.int .i64 a4] rfl tl ?_;(with_reducible refine(impl_FaultsOf.calls k _ _ l0_0 a0_1 _ _ l1 _ _ l2 a3_0 a3_1 a3_2 a4 t257 false _ ?side1 ?side2 ?side3 ?side4 ?side5 ?side6 A6.out).mono ?_);(case side1=>exact cup (Kd.C_below HR0_0.out HB.out));(case side2=>exact HC0_0.out);(case side3=>exact cup (Kd.C_below HR1.out HB.out));(case side4=>exact HC1.out);(case side5=>exact cup (Kd.C_below HR2.out HB.out));(case side6=>exact HC2.out);rintro e w20 ⟨v258,rfl,ho0,hb⟩;refine⟨_,rfl,?_⟩;have HO259:=am (Kd.S_lower ho0 (below_size bl));replace BK255:=am (blk_below (bup BK255.out) hb);replace BK256:=am (blk_below (bup BK256.out) hb);replace HB:=am (below_step bl hb);(try clear hb);(try clear ho0)))
  go_ret2
  exact⟨fin1,bl⟩

def spec_l1In.f (a0:Int) (a1:Int) (a2:Int):Option (Bool):=if a0≥a1 then(some (decide (a0≤a2))) else(some false)
set_option maxHeartbeats 8000000 in
set_option maxRecDepth 100000 in
theorem spec_l1In.calls (a0:Int) (a1:Int) (a2:Int) (r:Bool) (w:World) (h:spec_l1In.f a0 a1 a2=some r) :
  Calls Try.prog 35 #[.int .i64 a0,.int .i64 a1,.int .i64 a2] w fun e w'=>e = .returned (.bool r)∧Drawn0 w w':=by
 have H:(if a0≥a1 then(some (decide (a0≤a2))) else(some false))=some r:=h
 clear h
 rcases itc H with⟨c4,H⟩|⟨c4,H⟩
 ·have c4b0:decide (a1≤a0)=true:=decide_eq_true c4
  clear c4
  obtain rfl:=Option.some.inj H
  go_enter Try.func35,Try.ntmps35
  go_wp2
  go_ret
  exact⟨by first|rfl|(simp;done)|(simp [*];done),by repeat(first|exact Drawn0.refl _|apply Drawn0.step)⟩
 ·have c4b0:decide (a1≤a0)=false:=decide_eq_false c4
  clear c4
  obtain rfl:=Option.some.inj H
  go_enter Try.func35,Try.ntmps35
  go_wp2
  go_ret
  exact⟨by first|rfl|(simp;done)|(simp [*];done),by repeat(first|exact Drawn0.refl _|apply Drawn0.step)⟩

def spec_l1Rising.l0:Nat→List Int→Int→Int→List Int→Int→Int→Option (Bool)
 | 0,_,_,_,_,_,_=>none
 | k+1,x0,x1,x2,x9,x10,x11=>if x11<x10 then(if 0≤x11 then(if x11<(x9.length:Int) then((spec_l1In.f (rd x9 x11) x1 x2).bind fun t262=>(if t262=true then(if x11>0 then(if 0≤(wrap64 (x11 - 1)) then(if(wrap64 (x11 - 1))<(x0.length:Int) then(if(rd x0 (wrap64 (x11 - 1)))≥(rd x9 x11) then(some false) else(spec_l1Rising.l0 k x0 x1 x2 x9 x10 (wrap64 (x11+1)))) else(none)) else(none)) else(spec_l1Rising.l0 k x0 x1 x2 x9 x10 (wrap64 (x11+1)))) else(some false))) else(none)) else(none)) else(some true)
def spec_l1Rising.f (k:Nat) (l0:List Int) (a1:Int) (a2:Int):Option (Bool):=spec_l1Rising.l0 k l0 a1 a2 l0 (l0.length:Int) 0
set_option maxHeartbeats 8000000 in
set_option maxRecDepth 100000 in
theorem spec_l1Rising.calls (k:Nat) (A0:Option Addr) (c0:Nat) (l0:List Int) (a1:Int) (a2:Int) (r:Bool) (w:World) (hr0:Kd.C (Kd.int .i64) w A0 l0.length l0) (hc0:l0.length≤c0) (h:spec_l1Rising.f k l0 a1 a2=some r) :
  Calls Try.prog 64 #[.slice A0 l0.length c0,.int .i64 a1,.int .i64 a2] w fun e w'=>e = .returned (.bool r)∧Drawn0 w w':=by
 have HR0:=am hr0
 have HC0:=am hc0
 clear hr0 hc0
 have H:(spec_l1Rising.l0 k l0 a1 a2 l0 (l0.length:Int) 0)=some r:=h
 clear h
 have H':=am H
 clear H
 go_enter Try.func64,Try.ntmps64
 go_wp2
 go_loopg [11] k (fun kq v11 w'=>∃(x11_1:Int),v11 = .int .i64 x11_1∧Aside0 (spec_l1Rising.l0 kq l0 a1 a2 l0 (l0.length:Int) x11_1=some r)∧Aside0 (kq≤k)∧Drawn0 w w')
 case atStart=>exact⟨(0),fin2,H',⟨Nat.le_refl _⟩,by repeat(first|exact Drawn0.refl _|apply Drawn0.step)⟩
 case round =>
  clear H'
  obtain⟨x11_1,rfl,HA,HK1,⟨m1,rfl⟩⟩:=hrel
  cases gk with
  | zero=>exact absurd HA.out (by simp [spec_l1Rising.l0])
  | succ k1 =>
   have H:=HA.out
   clear HA
   simp only[spec_l1Rising.l0] at H
   rcases itc H with⟨c4,H⟩|⟨c4,H⟩
   ·have c4b0:=decide_eq_true c4
    clear c4
    obtain⟨c5b0,H⟩:=ifb H
    obtain⟨c6b0,H⟩:=ifb H
    obtain⟨t262,A7,H⟩:=bnd H
    by_cases c8:t262=true
    ·subst c8
     replace H:=(if_pos rfl).symm.trans H
     rcases itc H with⟨c9,H⟩|⟨c9,H⟩
     ·have c9b0:decide (0<x11_1)=true:=decide_eq_true c9
      clear c9
      obtain⟨ji10,hji10⟩:∃ j_:Int,(wrap64 (x11_1 - 1))=j_:=⟨_,rfl⟩
      replace H:(if 0≤(ji10) then(if(ji10)<(l0.length:Int) then(if(rd l0 (ji10))≥(rd l0 x11_1) then(some false) else(spec_l1Rising.l0 k1 l0 a1 a2 l0 (l0.length:Int) (wrap64 (x11_1+1)))) else(none)) else(none))=some r:=by first|(rw[hji10] at H;exact H)|(simp only[hji10] at H ⊢;exact H)
      (try rw[hji10] at A7)
      have hji10w:(IntKind.i64.wrap (x11_1 - 1))=ji10:=(i64_w _).trans hji10
      obtain⟨c11b0,H⟩:=ifb H
      obtain⟨c12b0,H⟩:=ifb H
      rcases itc H with⟨c13,H⟩|⟨c13,H⟩
      ·have c13b0:decide ((rd l0 x11_1)≤(rd l0 (ji10)))=true:=decide_eq_true c13
       clear c13
       obtain rfl:=Option.some.inj H
       have p261:0≤(x11_1:Int):=od
       have q261:x11_1<(l0.length:Int):=od
       obtain⟨ad261,e261,hx261_0⟩:=Kd.at_int HR0.out x11_1 p261 q261
       cases e261
       replace p261:=eq_true p261
       replace q261:=eq_true q261
       go_wp2_with (first|((with_reducible refine gate_callee (f:=35) rfl ?_);refine goesL_ (some 19) rfl rfl Try.func35 (by kernel_rfl) rfl #[.int .i64 (rd l0 x11_1),.int .i64 a1,.int .i64 a2] rfl tl ?_;(with_reducible refine(spec_l1In.calls (rd l0 x11_1) a1 a2 true _ A7.out).mono ?_);rintro e w' ⟨rfl,⟨nd,rfl⟩⟩;refine⟨_,rfl,?_⟩;have p263:0≤((ji10):Int):=od;have q263:(ji10)<(l0.length:Int):=od;obtain⟨ad263,e263,hx263_0⟩:=Kd.at_int HR0.out (ji10) p263 q263;obtain rfl:ad261=ad263:=(by injection e263);replace p263:=eq_true p263;replace q263:=eq_true q263))
       go_ret
       exact⟨by first|rfl|(simp;done)|(simp only[← hji10]<;>(first|rfl|simp))|(simp [*];done),by repeat(first|exact Drawn0.refl _|apply Drawn0.step)⟩
      ·have c13b0:decide ((rd l0 x11_1)≤(rd l0 (ji10)))=false:=decide_eq_false c13
       clear c13
       have H':=am H
       clear H
       have p261:0≤(x11_1:Int):=od
       have q261:x11_1<(l0.length:Int):=od
       obtain⟨ad261,e261,hx261_0⟩:=Kd.at_int HR0.out x11_1 p261 q261
       cases e261
       replace p261:=eq_true p261
       replace q261:=eq_true q261
       go_wp2_with (first|((with_reducible refine gate_callee (f:=35) rfl ?_);refine goesL_ (some 19) rfl rfl Try.func35 (by kernel_rfl) rfl #[.int .i64 (rd l0 x11_1),.int .i64 a1,.int .i64 a2] rfl tl ?_;(with_reducible refine(spec_l1In.calls (rd l0 x11_1) a1 a2 true _ A7.out).mono ?_);rintro e w' ⟨rfl,⟨nd,rfl⟩⟩;refine⟨_,rfl,?_⟩;have p263:0≤((ji10):Int):=od;have q263:(ji10)<(l0.length:Int):=od;obtain⟨ad263,e263,hx263_0⟩:=Kd.at_int HR0.out (ji10) p263 q263;obtain rfl:ad261=ad263:=(by injection e263);replace p263:=eq_true p263;replace q263:=eq_true q263))
       go_roundg k1
       case measure=>have:=HK1.out;omega
       case rel=>exact⟨(wrap64 (x11_1+1)),fin2,H',⟨by have:=HK1.out;omega⟩,by repeat(first|exact Drawn0.refl _|apply Drawn0.step)⟩
     ·have c9b0:decide (0<x11_1)=false:=decide_eq_false c9
      clear c9
      have H':=am H
      clear H
      have p261:0≤(x11_1:Int):=od
      have q261:x11_1<(l0.length:Int):=od
      obtain⟨ad261,e261,hx261_0⟩:=Kd.at_int HR0.out x11_1 p261 q261
      cases e261
      replace p261:=eq_true p261
      replace q261:=eq_true q261
      go_wp2_with (first|((with_reducible refine gate_callee (f:=35) rfl ?_);refine goesL_ (some 19) rfl rfl Try.func35 (by kernel_rfl) rfl #[.int .i64 (rd l0 x11_1),.int .i64 a1,.int .i64 a2] rfl tl ?_;(with_reducible refine(spec_l1In.calls (rd l0 x11_1) a1 a2 true _ A7.out).mono ?_);rintro e w' ⟨rfl,⟨nd,rfl⟩⟩;refine⟨_,rfl,?_⟩))
      go_roundg k1
      case measure=>have:=HK1.out;omega
      case rel=>exact⟨(wrap64 (x11_1+1)),fin2,H',⟨by have:=HK1.out;omega⟩,by repeat(first|exact Drawn0.refl _|apply Drawn0.step)⟩
    ·replace c8:=Bool.eq_false_iff.mpr c8
     subst c8
     replace H:=(if_neg Bool.false_ne_true).symm.trans H
     obtain rfl:=Option.some.inj H
     have p261:0≤(x11_1:Int):=od
     have q261:x11_1<(l0.length:Int):=od
     obtain⟨ad261,e261,hx261_0⟩:=Kd.at_int HR0.out x11_1 p261 q261
     cases e261
     replace p261:=eq_true p261
     replace q261:=eq_true q261
     go_wp2_with (first|((with_reducible refine gate_callee (f:=35) rfl ?_);refine goesL_ (some 19) rfl rfl Try.func35 (by kernel_rfl) rfl #[.int .i64 (rd l0 x11_1),.int .i64 a1,.int .i64 a2] rfl tl ?_;(with_reducible refine(spec_l1In.calls (rd l0 x11_1) a1 a2 false _ A7.out).mono ?_);rintro e w' ⟨rfl,⟨nd,rfl⟩⟩;refine⟨_,rfl,?_⟩))
     go_ret
     exact⟨by first|rfl|(simp;done)|(simp [*];done),by repeat(first|exact Drawn0.refl _|apply Drawn0.step)⟩
   ·have c4b0:=decide_eq_false c4
    clear c4
    obtain rfl:=Option.some.inj H
    go_wp2
    go_ret
    exact⟨by first|rfl|(simp;done)|(simp [*];done),by repeat(first|exact Drawn0.refl _|apply Drawn0.step)⟩

def spec_inGood.f (k:Nat) (l0_0:List Int) (a0_1:Int):Option (Bool):=(spec_l1In.f (l0_0.length:Int) 1 20).bind fun t265=>(if t265=true then((spec_l1Rising.f k l0_0 24 96).bind fun t266=>(if t266=true then((spec_l1In.f a0_1 1 20).bind fun t267=>(some t267)) else(some false))) else(some false))
set_option maxHeartbeats 8000000 in
set_option maxRecDepth 100000 in
theorem spec_inGood.calls (k:Nat) (A0_0:Option Addr) (c0_0:Nat) (l0_0:List Int) (a0_1:Int) (r:Bool) (w:World) (hr0_0:Kd.C (Kd.int .i64) w A0_0 l0_0.length l0_0) (hc0_0:l0_0.length≤c0_0) (h:spec_inGood.f k l0_0 a0_1=some r) :
  Calls Try.prog 48 #[.agg #[.slice A0_0 l0_0.length c0_0,.int .i64 a0_1]] w fun e w'=>e = .returned (.bool r)∧Below w.heap.size w w':=by
 have hu24:=Try.underlying24
 have HR0_0:=am hr0_0
 have HC0_0:=am hc0_0
 clear hr0_0 hc0_0
 have HB:=am (Below.refl w.heap.size w)
 have H:((spec_l1In.f (l0_0.length:Int) 1 20).bind fun t265=>(if t265=true then((spec_l1Rising.f k l0_0 24 96).bind fun t266=>(if t266=true then((spec_l1In.f a0_1 1 20).bind fun t267=>(some t267)) else(some false))) else(some false)))=some r:=h
 clear h
 obtain⟨t265,A2,H⟩:=bnd H
 by_cases c3:t265=true
 ·subst c3
  replace H:=(if_pos rfl).symm.trans H
  obtain⟨t266,A4,H⟩:=bnd H
  by_cases c5:t266=true
  ·subst c5
   replace H:=(if_pos rfl).symm.trans H
   obtain⟨t267,A6,H⟩:=bnd H
   obtain rfl:=Option.some.inj H
   go_enter Try.func48,Try.ntmps48
   go_wp2_with (first|((with_reducible refine gate_dst (N:=1) rfl ?_);refine box_event ?hg (N:=1) ?hd (cs := #[.slice A0_0 l0_0.length c0_0,.int .i64 a0_1]) (t:=24) ?hr ?_;(case hd=>rfl);(case hg=>rfl);(case hr=>first|(go_simp;done)|(go_simp;rfl));intro gb264 hg w7 hbox hb;have BK264:=am (hbox);have GW264:=am (ge_ bl hg);have GE264:=am (ge_ bl hg);replace HB:=am (below_step bl hb);clear hb hbox hg;have hcz8_0:=bc BK264.out 0;have hcz8_1:=bc BK264.out 1;have hfz8_0:=blk_frozen BK264.out 0;have hfz8_1:=blk_frozen BK264.out 1)|((with_reducible refine gate_callee (f:=35) rfl ?_);refine goesL_ (some 6) rfl rfl Try.func35 (by kernel_rfl) rfl #[.int .i64 (l0_0.length:Int),.int .i64 1,.int .i64 20] rfl tl ?_;(with_reducible refine(spec_l1In.calls (l0_0.length:Int) 1 20 true _ A2.out).mono ?_);rintro e w' ⟨rfl,⟨nd,rfl⟩⟩;refine⟨_,rfl,?_⟩)|(go_at_call 64;(with_reducible refine(spec_l1Rising.calls k _ _ l0_0 24 96 true _ ?side1 ?side2 A4.out).mono ?_);(case side1=>repeat(first|exact(Kd.C_below HR0_0.out bl)|(with_reducible refine Kd.C_alloc ?_ _)|(with_reducible refine Kd.C_drewN ?_ _)|(with_reducible refine Kd.C_drew ?_)));(case side2=>exact HC0_0.out);rintro e w' ⟨rfl,⟨nd,rfl⟩⟩)|(go_at_call 35;(with_reducible refine(spec_l1In.calls a0_1 1 20 t267 _ A6.out).mono ?_);rintro e w' ⟨rfl,⟨nd,rfl⟩⟩))
   go_ret
   exact⟨fin1,bl⟩
  ·replace c5:=Bool.eq_false_iff.mpr c5
   subst c5
   replace H:=(if_neg Bool.false_ne_true).symm.trans H
   obtain rfl:=Option.some.inj H
   go_enter Try.func48,Try.ntmps48
   go_wp2_with (first|((with_reducible refine gate_dst (N:=1) rfl ?_);refine box_event ?hg (N:=1) ?hd (cs := #[.slice A0_0 l0_0.length c0_0,.int .i64 a0_1]) (t:=24) ?hr ?_;(case hd=>rfl);(case hg=>rfl);(case hr=>first|(go_simp;done)|(go_simp;rfl));intro gb264 hg w9 hbox hb;have BK264:=am (hbox);have GW264:=am (ge_ bl hg);have GE264:=am (ge_ bl hg);replace HB:=am (below_step bl hb);clear hb hbox hg;have hcz10_0:=bc BK264.out 0;have hcz10_1:=bc BK264.out 1;have hfz10_0:=blk_frozen BK264.out 0;have hfz10_1:=blk_frozen BK264.out 1)|((with_reducible refine gate_callee (f:=35) rfl ?_);refine goesL_ (some 6) rfl rfl Try.func35 (by kernel_rfl) rfl #[.int .i64 (l0_0.length:Int),.int .i64 1,.int .i64 20] rfl tl ?_;(with_reducible refine(spec_l1In.calls (l0_0.length:Int) 1 20 true _ A2.out).mono ?_);rintro e w' ⟨rfl,⟨nd,rfl⟩⟩;refine⟨_,rfl,?_⟩)|(go_at_call 64;(with_reducible refine(spec_l1Rising.calls k _ _ l0_0 24 96 false _ ?side1 ?side2 A4.out).mono ?_);(case side1=>repeat(first|exact(Kd.C_below HR0_0.out bl)|(with_reducible refine Kd.C_alloc ?_ _)|(with_reducible refine Kd.C_drewN ?_ _)|(with_reducible refine Kd.C_drew ?_)));(case side2=>exact HC0_0.out);rintro e w' ⟨rfl,⟨nd,rfl⟩⟩))
   go_ret
   exact⟨fin1,bl⟩
 ·replace c3:=Bool.eq_false_iff.mpr c3
  subst c3
  replace H:=(if_neg Bool.false_ne_true).symm.trans H
  obtain rfl:=Option.some.inj H
  go_enter Try.func48,Try.ntmps48
  go_wp2_with (first|((with_reducible refine gate_dst (N:=1) rfl ?_);refine box_event ?hg (N:=1) ?hd (cs := #[.slice A0_0 l0_0.length c0_0,.int .i64 a0_1]) (t:=24) ?hr ?_;(case hd=>rfl);(case hg=>rfl);(case hr=>first|(go_simp;done)|(go_simp;rfl));intro gb264 hg w11 hbox hb;have BK264:=am (hbox);have GW264:=am (ge_ bl hg);have GE264:=am (ge_ bl hg);replace HB:=am (below_step bl hb);clear hb hbox hg;have hcz12_0:=bc BK264.out 0;have hcz12_1:=bc BK264.out 1;have hfz12_0:=blk_frozen BK264.out 0;have hfz12_1:=blk_frozen BK264.out 1)|((with_reducible refine gate_callee (f:=35) rfl ?_);refine goesL_ (some 6) rfl rfl Try.func35 (by kernel_rfl) rfl #[.int .i64 (l0_0.length:Int),.int .i64 1,.int .i64 20] rfl tl ?_;(with_reducible refine(spec_l1In.calls (l0_0.length:Int) 1 20 false _ A2.out).mono ?_);rintro e w' ⟨rfl,⟨nd,rfl⟩⟩;refine⟨_,rfl,?_⟩))
  go_ret
  exact⟨fin1,bl⟩

def spec_ntPitch.f (a0:Int):Option (Bool):=(spec_l1In.f a0 24 96).bind fun t268=>(some t268)
set_option maxHeartbeats 8000000 in
set_option maxRecDepth 100000 in
theorem spec_ntPitch.calls (a0:Int) (r:Bool) (w:World) (h:spec_ntPitch.f a0=some r) :
  Calls Try.prog 73 #[.int .i64 a0] w fun e w'=>e = .returned (.bool r)∧Drawn0 w w':=by
 have H:((spec_l1In.f a0 24 96).bind fun t268=>(some t268))=some r:=h
 clear h
 obtain⟨t268,A2,H⟩:=bnd H
 obtain rfl:=Option.some.inj H
 go_enter Try.func73,Try.ntmps73
 go_wp2_with (first|((with_reducible refine gate_callee (f:=35) rfl ?_);refine goesL_ (some 4) rfl rfl Try.func35 (by kernel_rfl) rfl #[.int .i64 a0,.int .i64 24,.int .i64 96] rfl tl ?_;(with_reducible refine(spec_l1In.calls a0 24 96 t268 _ A2.out).mono ?_);rintro e w' ⟨rfl,⟨nd,rfl⟩⟩;refine⟨_,rfl,?_⟩))
 go_ret
 exact⟨by first|rfl|(simp;done)|(simp [*];done),by repeat(first|exact Drawn0.refl _|apply Drawn0.step)⟩

def spec_ntNote.f (a0_0:Int) (a0_1:Int) (a0_2:Int):Option (Bool):=(spec_ntPitch.f a0_0).bind fun t270=>(if t270=true then((spec_l1In.f a0_1 0 999).bind fun t271=>(if t271=true then((spec_l1In.f a0_2 1 99).bind fun t272=>(some t272)) else(some false))) else(some false))
set_option maxHeartbeats 8000000 in
set_option maxRecDepth 100000 in
theorem spec_ntNote.calls (a0_0:Int) (a0_1:Int) (a0_2:Int) (r:Bool) (w:World) (h:spec_ntNote.f a0_0 a0_1 a0_2=some r) :
  Calls Try.prog 65 #[.agg #[.int .i64 a0_0,.int .i64 a0_1,.int .i64 a0_2]] w fun e w'=>e = .returned (.bool r)∧Below w.heap.size w w':=by
 have hu35:=Try.underlying35
 have HB:=am (Below.refl w.heap.size w)
 have H:((spec_ntPitch.f a0_0).bind fun t270=>(if t270=true then((spec_l1In.f a0_1 0 999).bind fun t271=>(if t271=true then((spec_l1In.f a0_2 1 99).bind fun t272=>(some t272)) else(some false))) else(some false)))=some r:=h
 clear h
 obtain⟨t270,A2,H⟩:=bnd H
 by_cases c3:t270=true
 ·subst c3
  replace H:=(if_pos rfl).symm.trans H
  obtain⟨t271,A4,H⟩:=bnd H
  by_cases c5:t271=true
  ·subst c5
   replace H:=(if_pos rfl).symm.trans H
   obtain⟨t272,A6,H⟩:=bnd H
   obtain rfl:=Option.some.inj H
   go_enter Try.func65,Try.ntmps65
   go_wp2_with (first|((with_reducible refine gate_dst (N:=1) rfl ?_);refine box_event ?hg (N:=1) ?hd (cs := #[.int .i64 a0_0,.int .i64 a0_1,.int .i64 a0_2]) (t:=35) ?hr ?_;(case hd=>rfl);(case hg=>rfl);(case hr=>first|(go_simp;done)|(go_simp;rfl));intro gb269 hg w7 hbox hb;have BK269:=am (hbox);have GW269:=am (ge_ bl hg);have GE269:=am (ge_ bl hg);replace HB:=am (below_step bl hb);clear hb hbox hg;have hcz8_0:=bc BK269.out 0;have hcz8_1:=bc BK269.out 1;have hcz8_2:=bc BK269.out 2;have hfz8_0:=blk_frozen BK269.out 0;have hfz8_1:=blk_frozen BK269.out 1;have hfz8_2:=blk_frozen BK269.out 2)|((with_reducible refine gate_callee (f:=73) rfl ?_);refine goesL_ (some 5) rfl rfl Try.func73 (by kernel_rfl) rfl #[.int .i64 a0_0] rfl tl ?_;(with_reducible refine(spec_ntPitch.calls a0_0 true _ A2.out).mono ?_);rintro e w' ⟨rfl,⟨nd,rfl⟩⟩;refine⟨_,rfl,?_⟩)|(go_at_call 35;(with_reducible refine(spec_l1In.calls a0_1 0 999 true _ A4.out).mono ?_);rintro e w' ⟨rfl,⟨nd,rfl⟩⟩)|(go_at_call 35;(with_reducible refine(spec_l1In.calls a0_2 1 99 t272 _ A6.out).mono ?_);rintro e w' ⟨rfl,⟨nd,rfl⟩⟩))
   go_ret
   exact⟨fin1,bl⟩
  ·replace c5:=Bool.eq_false_iff.mpr c5
   subst c5
   replace H:=(if_neg Bool.false_ne_true).symm.trans H
   obtain rfl:=Option.some.inj H
   go_enter Try.func65,Try.ntmps65
   go_wp2_with (first|((with_reducible refine gate_dst (N:=1) rfl ?_);refine box_event ?hg (N:=1) ?hd (cs := #[.int .i64 a0_0,.int .i64 a0_1,.int .i64 a0_2]) (t:=35) ?hr ?_;(case hd=>rfl);(case hg=>rfl);(case hr=>first|(go_simp;done)|(go_simp;rfl));intro gb269 hg w9 hbox hb;have BK269:=am (hbox);have GW269:=am (ge_ bl hg);have GE269:=am (ge_ bl hg);replace HB:=am (below_step bl hb);clear hb hbox hg;have hcz10_0:=bc BK269.out 0;have hcz10_1:=bc BK269.out 1;have hcz10_2:=bc BK269.out 2;have hfz10_0:=blk_frozen BK269.out 0;have hfz10_1:=blk_frozen BK269.out 1;have hfz10_2:=blk_frozen BK269.out 2)|((with_reducible refine gate_callee (f:=73) rfl ?_);refine goesL_ (some 5) rfl rfl Try.func73 (by kernel_rfl) rfl #[.int .i64 a0_0] rfl tl ?_;(with_reducible refine(spec_ntPitch.calls a0_0 true _ A2.out).mono ?_);rintro e w' ⟨rfl,⟨nd,rfl⟩⟩;refine⟨_,rfl,?_⟩)|(go_at_call 35;(with_reducible refine(spec_l1In.calls a0_1 0 999 false _ A4.out).mono ?_);rintro e w' ⟨rfl,⟨nd,rfl⟩⟩))
   go_ret
   exact⟨fin1,bl⟩
 ·replace c3:=Bool.eq_false_iff.mpr c3
  subst c3
  replace H:=(if_neg Bool.false_ne_true).symm.trans H
  obtain rfl:=Option.some.inj H
  go_enter Try.func65,Try.ntmps65
  go_wp2_with (first|((with_reducible refine gate_dst (N:=1) rfl ?_);refine box_event ?hg (N:=1) ?hd (cs := #[.int .i64 a0_0,.int .i64 a0_1,.int .i64 a0_2]) (t:=35) ?hr ?_;(case hd=>rfl);(case hg=>rfl);(case hr=>first|(go_simp;done)|(go_simp;rfl));intro gb269 hg w11 hbox hb;have BK269:=am (hbox);have GW269:=am (ge_ bl hg);have GE269:=am (ge_ bl hg);replace HB:=am (below_step bl hb);clear hb hbox hg;have hcz12_0:=bc BK269.out 0;have hcz12_1:=bc BK269.out 1;have hcz12_2:=bc BK269.out 2;have hfz12_0:=blk_frozen BK269.out 0;have hfz12_1:=blk_frozen BK269.out 1;have hfz12_2:=blk_frozen BK269.out 2)|((with_reducible refine gate_callee (f:=73) rfl ?_);refine goesL_ (some 5) rfl rfl Try.func73 (by kernel_rfl) rfl #[.int .i64 a0_0] rfl tl ?_;(with_reducible refine(spec_ntPitch.calls a0_0 false _ A2.out).mono ?_);rintro e w' ⟨rfl,⟨nd,rfl⟩⟩;refine⟨_,rfl,?_⟩))
  go_ret
  exact⟨fin1,bl⟩

def spec_ntBefore.f (a0_0:Int) (a0_1:Int) (a0_2:Int) (a1_0:Int) (a1_1:Int) (a1_2:Int):Option (Bool):=if a0_1<a1_1 then(some true) else(if a0_1=a1_1 then(some (decide (a0_0<a1_0))) else(some false))
set_option maxHeartbeats 8000000 in
set_option maxRecDepth 100000 in
theorem spec_ntBefore.calls (a0_0:Int) (a0_1:Int) (a0_2:Int) (a1_0:Int) (a1_1:Int) (a1_2:Int) (r:Bool) (w:World) (h:spec_ntBefore.f a0_0 a0_1 a0_2 a1_0 a1_1 a1_2=some r) :
  Calls Try.prog 66 #[.agg #[.int .i64 a0_0,.int .i64 a0_1,.int .i64 a0_2],.agg #[.int .i64 a1_0,.int .i64 a1_1,.int .i64 a1_2]] w fun e w'=>e = .returned (.bool r)∧Below w.heap.size w w':=by
 have hu35:=Try.underlying35
 have HB:=am (Below.refl w.heap.size w)
 have H:(if a0_1<a1_1 then(some true) else(if a0_1=a1_1 then(some (decide (a0_0<a1_0))) else(some false)))=some r:=h
 clear h
 rcases itc H with⟨c3,H⟩|⟨c3,H⟩
 ·have c3b0:=decide_eq_true c3
  clear c3
  obtain rfl:=Option.some.inj H
  go_enter Try.func66,Try.ntmps66
  go_wp2_with (first|((with_reducible refine gate_dst (N:=2) rfl ?_);refine box_event ?hg (N:=2) ?hd (cs := #[.int .i64 a0_0,.int .i64 a0_1,.int .i64 a0_2]) (t:=35) ?hr ?_;(case hd=>rfl);(case hg=>rfl);(case hr=>first|(go_simp;done)|(go_simp;rfl));intro gb273 hg w4 hbox hb;have BK273:=am (hbox);have GW273:=am (ge_ bl hg);have GE273:=am (ge_ bl hg);replace HB:=am (below_step bl hb);clear hb hbox hg)|((with_reducible refine gate_dst (N:=3) rfl ?_);refine box_event ?hg (N:=3) ?hd (cs := #[.int .i64 a1_0,.int .i64 a1_1,.int .i64 a1_2]) (t:=35) ?hr ?_;(case hd=>rfl);(case hg=>rfl);(case hr=>first|(go_simp;done)|(go_simp;rfl));intro gb274 hg w5 hbox hb;have BK274:=am (hbox);have GW274:=am (ge_ bl hg);have GE274:=am (ge_ bl hg);replace HB:=am (below_step bl hb);have NB273_274:=am (nl (bup BK273.out) hg);have NB274_273:=am (ng (bup BK273.out) hg);replace BK273:=am (blk_below (bup BK273.out) hb);clear hb hbox hg;have hnb6:=NB273_274.out;have hnc6:=NB274_273.out;have hcz7_0:=bc BK273.out 0;have hcz7_1:=bc BK273.out 1;have hcz7_2:=bc BK273.out 2;have hfz7_0:=blk_frozen BK273.out 0;have hfz7_1:=blk_frozen BK273.out 1;have hfz7_2:=blk_frozen BK273.out 2;have hcz8_0:=bc BK274.out 0;have hcz8_1:=bc BK274.out 1;have hcz8_2:=bc BK274.out 2;have hfz8_0:=blk_frozen BK274.out 0;have hfz8_1:=blk_frozen BK274.out 1;have hfz8_2:=blk_frozen BK274.out 2))
  go_ret
  exact⟨fin1,bl⟩
 ·have c3b0:=decide_eq_false c3
  clear c3
  rcases itc H with⟨c9,H⟩|⟨c9,H⟩
  ·have c9b0:(a0_1 == a1_1)=true:=beq_iff_eq.mpr c9
   have c9b1:(a0_1 != a1_1)=false:=bne_eq_false_iff_eq.mpr c9
   clear c9
   obtain rfl:=Option.some.inj H
   go_enter Try.func66,Try.ntmps66
   go_wp2_with (first|((with_reducible refine gate_dst (N:=2) rfl ?_);refine box_event ?hg (N:=2) ?hd (cs := #[.int .i64 a0_0,.int .i64 a0_1,.int .i64 a0_2]) (t:=35) ?hr ?_;(case hd=>rfl);(case hg=>rfl);(case hr=>first|(go_simp;done)|(go_simp;rfl));intro gb273 hg w10 hbox hb;have BK273:=am (hbox);have GW273:=am (ge_ bl hg);have GE273:=am (ge_ bl hg);replace HB:=am (below_step bl hb);clear hb hbox hg)|((with_reducible refine gate_dst (N:=3) rfl ?_);refine box_event ?hg (N:=3) ?hd (cs := #[.int .i64 a1_0,.int .i64 a1_1,.int .i64 a1_2]) (t:=35) ?hr ?_;(case hd=>rfl);(case hg=>rfl);(case hr=>first|(go_simp;done)|(go_simp;rfl));intro gb274 hg w11 hbox hb;have BK274:=am (hbox);have GW274:=am (ge_ bl hg);have GE274:=am (ge_ bl hg);replace HB:=am (below_step bl hb);have NB273_274:=am (nl (bup BK273.out) hg);have NB274_273:=am (ng (bup BK273.out) hg);replace BK273:=am (blk_below (bup BK273.out) hb);clear hb hbox hg;have hnb12:=NB273_274.out;have hnc12:=NB274_273.out;have hcz13_0:=bc BK273.out 0;have hcz13_1:=bc BK273.out 1;have hcz13_2:=bc BK273.out 2;have hfz13_0:=blk_frozen BK273.out 0;have hfz13_1:=blk_frozen BK273.out 1;have hfz13_2:=blk_frozen BK273.out 2;have hcz14_0:=bc BK274.out 0;have hcz14_1:=bc BK274.out 1;have hcz14_2:=bc BK274.out 2;have hfz14_0:=blk_frozen BK274.out 0;have hfz14_1:=blk_frozen BK274.out 1;have hfz14_2:=blk_frozen BK274.out 2))
   go_ret
   exact⟨fin1,bl⟩
  ·have c9b0:(a0_1 == a1_1)=false:=beq_eq_false_iff_ne.mpr c9
   have c9b1:(a0_1 != a1_1)=true:=bne_iff_ne.mpr c9
   obtain rfl:=Option.some.inj H
   go_enter Try.func66,Try.ntmps66
   go_wp2_with (first|((with_reducible refine gate_dst (N:=2) rfl ?_);refine box_event ?hg (N:=2) ?hd (cs := #[.int .i64 a0_0,.int .i64 a0_1,.int .i64 a0_2]) (t:=35) ?hr ?_;(case hd=>rfl);(case hg=>rfl);(case hr=>first|(go_simp;done)|(go_simp;rfl));intro gb273 hg w15 hbox hb;have BK273:=am (hbox);have GW273:=am (ge_ bl hg);have GE273:=am (ge_ bl hg);replace HB:=am (below_step bl hb);clear hb hbox hg)|((with_reducible refine gate_dst (N:=3) rfl ?_);refine box_event ?hg (N:=3) ?hd (cs := #[.int .i64 a1_0,.int .i64 a1_1,.int .i64 a1_2]) (t:=35) ?hr ?_;(case hd=>rfl);(case hg=>rfl);(case hr=>first|(go_simp;done)|(go_simp;rfl));intro gb274 hg w16 hbox hb;have BK274:=am (hbox);have GW274:=am (ge_ bl hg);have GE274:=am (ge_ bl hg);replace HB:=am (below_step bl hb);have NB273_274:=am (nl (bup BK273.out) hg);have NB274_273:=am (ng (bup BK273.out) hg);replace BK273:=am (blk_below (bup BK273.out) hb);clear hb hbox hg;have hnb17:=NB273_274.out;have hnc17:=NB274_273.out;have hcz18_0:=bc BK273.out 0;have hcz18_1:=bc BK273.out 1;have hcz18_2:=bc BK273.out 2;have hfz18_0:=blk_frozen BK273.out 0;have hfz18_1:=blk_frozen BK273.out 1;have hfz18_2:=blk_frozen BK273.out 2;have hcz19_0:=bc BK274.out 0;have hcz19_1:=bc BK274.out 1;have hcz19_2:=bc BK274.out 2;have hfz19_0:=blk_frozen BK274.out 0;have hfz19_1:=blk_frozen BK274.out 1;have hfz19_2:=blk_frozen BK274.out 2))
   go_ret
   exact⟨fin1,bl⟩

def spec_ntMeet.f (a0_0:Int) (a0_1:Int) (a0_2:Int) (a1_0:Int) (a1_1:Int) (a1_2:Int):Option (Bool):=if a0_0=a1_0 then(if a0_1<(wrap64 (a1_1+a1_2)) then(some (decide (a1_1<(wrap64 (a0_1+a0_2))))) else(some false)) else(some false)
set_option maxHeartbeats 8000000 in
set_option maxRecDepth 100000 in
theorem spec_ntMeet.calls (a0_0:Int) (a0_1:Int) (a0_2:Int) (a1_0:Int) (a1_1:Int) (a1_2:Int) (r:Bool) (w:World) (h:spec_ntMeet.f a0_0 a0_1 a0_2 a1_0 a1_1 a1_2=some r) :
  Calls Try.prog 67 #[.agg #[.int .i64 a0_0,.int .i64 a0_1,.int .i64 a0_2],.agg #[.int .i64 a1_0,.int .i64 a1_1,.int .i64 a1_2]] w fun e w'=>e = .returned (.bool r)∧Below w.heap.size w w':=by
 have hu35:=Try.underlying35
 have HB:=am (Below.refl w.heap.size w)
 have H:(if a0_0=a1_0 then(if a0_1<(wrap64 (a1_1+a1_2)) then(some (decide (a1_1<(wrap64 (a0_1+a0_2))))) else(some false)) else(some false))=some r:=h
 clear h
 rcases itc H with⟨c3,H⟩|⟨c3,H⟩
 ·have c3b0:(a0_0 == a1_0)=true:=beq_iff_eq.mpr c3
  have c3b1:(a0_0 != a1_0)=false:=bne_eq_false_iff_eq.mpr c3
  clear c3
  rcases itc H with⟨c4,H⟩|⟨c4,H⟩
  ·have c4b0:=decide_eq_true c4
   clear c4
   obtain rfl:=Option.some.inj H
   go_enter Try.func67,Try.ntmps67
   go_wp2_with (first|((with_reducible refine gate_dst (N:=2) rfl ?_);refine box_event ?hg (N:=2) ?hd (cs := #[.int .i64 a0_0,.int .i64 a0_1,.int .i64 a0_2]) (t:=35) ?hr ?_;(case hd=>rfl);(case hg=>rfl);(case hr=>first|(go_simp;done)|(go_simp;rfl));intro gb275 hg w5 hbox hb;have BK275:=am (hbox);have GW275:=am (ge_ bl hg);have GE275:=am (ge_ bl hg);replace HB:=am (below_step bl hb);clear hb hbox hg)|((with_reducible refine gate_dst (N:=3) rfl ?_);refine box_event ?hg (N:=3) ?hd (cs := #[.int .i64 a1_0,.int .i64 a1_1,.int .i64 a1_2]) (t:=35) ?hr ?_;(case hd=>rfl);(case hg=>rfl);(case hr=>first|(go_simp;done)|(go_simp;rfl));intro gb276 hg w6 hbox hb;have BK276:=am (hbox);have GW276:=am (ge_ bl hg);have GE276:=am (ge_ bl hg);replace HB:=am (below_step bl hb);have NB275_276:=am (nl (bup BK275.out) hg);have NB276_275:=am (ng (bup BK275.out) hg);replace BK275:=am (blk_below (bup BK275.out) hb);clear hb hbox hg;have hnb7:=NB275_276.out;have hnc7:=NB276_275.out;have hcz8_0:=bc BK275.out 0;have hcz8_1:=bc BK275.out 1;have hcz8_2:=bc BK275.out 2;have hfz8_0:=blk_frozen BK275.out 0;have hfz8_1:=blk_frozen BK275.out 1;have hfz8_2:=blk_frozen BK275.out 2;have hcz9_0:=bc BK276.out 0;have hcz9_1:=bc BK276.out 1;have hcz9_2:=bc BK276.out 2;have hfz9_0:=blk_frozen BK276.out 0;have hfz9_1:=blk_frozen BK276.out 1;have hfz9_2:=blk_frozen BK276.out 2))
   go_ret
   exact⟨fin1,bl⟩
  ·have c4b0:=decide_eq_false c4
   clear c4
   obtain rfl:=Option.some.inj H
   go_enter Try.func67,Try.ntmps67
   go_wp2_with (first|((with_reducible refine gate_dst (N:=2) rfl ?_);refine box_event ?hg (N:=2) ?hd (cs := #[.int .i64 a0_0,.int .i64 a0_1,.int .i64 a0_2]) (t:=35) ?hr ?_;(case hd=>rfl);(case hg=>rfl);(case hr=>first|(go_simp;done)|(go_simp;rfl));intro gb275 hg w10 hbox hb;have BK275:=am (hbox);have GW275:=am (ge_ bl hg);have GE275:=am (ge_ bl hg);replace HB:=am (below_step bl hb);clear hb hbox hg)|((with_reducible refine gate_dst (N:=3) rfl ?_);refine box_event ?hg (N:=3) ?hd (cs := #[.int .i64 a1_0,.int .i64 a1_1,.int .i64 a1_2]) (t:=35) ?hr ?_;(case hd=>rfl);(case hg=>rfl);(case hr=>first|(go_simp;done)|(go_simp;rfl));intro gb276 hg w11 hbox hb;have BK276:=am (hbox);have GW276:=am (ge_ bl hg);have GE276:=am (ge_ bl hg);replace HB:=am (below_step bl hb);have NB275_276:=am (nl (bup BK275.out) hg);have NB276_275:=am (ng (bup BK275.out) hg);replace BK275:=am (blk_below (bup BK275.out) hb);clear hb hbox hg;have hnb12:=NB275_276.out;have hnc12:=NB276_275.out;have hcz13_0:=bc BK275.out 0;have hcz13_1:=bc BK275.out 1;have hcz13_2:=bc BK275.out 2;have hfz13_0:=blk_frozen BK275.out 0;have hfz13_1:=blk_frozen BK275.out 1;have hfz13_2:=blk_frozen BK275.out 2;have hcz14_0:=bc BK276.out 0;have hcz14_1:=bc BK276.out 1;have hcz14_2:=bc BK276.out 2;have hfz14_0:=blk_frozen BK276.out 0;have hfz14_1:=blk_frozen BK276.out 1;have hfz14_2:=blk_frozen BK276.out 2))
   go_ret
   exact⟨fin1,bl⟩
 ·have c3b0:(a0_0 == a1_0)=false:=beq_eq_false_iff_ne.mpr c3
  have c3b1:(a0_0 != a1_0)=true:=bne_iff_ne.mpr c3
  obtain rfl:=Option.some.inj H
  go_enter Try.func67,Try.ntmps67
  go_wp2_with (first|((with_reducible refine gate_dst (N:=2) rfl ?_);refine box_event ?hg (N:=2) ?hd (cs := #[.int .i64 a0_0,.int .i64 a0_1,.int .i64 a0_2]) (t:=35) ?hr ?_;(case hd=>rfl);(case hg=>rfl);(case hr=>first|(go_simp;done)|(go_simp;rfl));intro gb275 hg w15 hbox hb;have BK275:=am (hbox);have GW275:=am (ge_ bl hg);have GE275:=am (ge_ bl hg);replace HB:=am (below_step bl hb);clear hb hbox hg)|((with_reducible refine gate_dst (N:=3) rfl ?_);refine box_event ?hg (N:=3) ?hd (cs := #[.int .i64 a1_0,.int .i64 a1_1,.int .i64 a1_2]) (t:=35) ?hr ?_;(case hd=>rfl);(case hg=>rfl);(case hr=>first|(go_simp;done)|(go_simp;rfl));intro gb276 hg w16 hbox hb;have BK276:=am (hbox);have GW276:=am (ge_ bl hg);have GE276:=am (ge_ bl hg);replace HB:=am (below_step bl hb);have NB275_276:=am (nl (bup BK275.out) hg);have NB276_275:=am (ng (bup BK275.out) hg);replace BK275:=am (blk_below (bup BK275.out) hb);clear hb hbox hg;have hnb17:=NB275_276.out;have hnc17:=NB276_275.out;have hcz18_0:=bc BK275.out 0;have hcz18_1:=bc BK275.out 1;have hcz18_2:=bc BK275.out 2;have hfz18_0:=blk_frozen BK275.out 0;have hfz18_1:=blk_frozen BK275.out 1;have hfz18_2:=blk_frozen BK275.out 2;have hcz19_0:=bc BK276.out 0;have hcz19_1:=bc BK276.out 1;have hcz19_2:=bc BK276.out 2;have hfz19_0:=blk_frozen BK276.out 0;have hfz19_1:=blk_frozen BK276.out 1;have hfz19_2:=blk_frozen BK276.out 2))
  go_ret
  exact⟨fin1,bl⟩

end Go.Proofs.Ytdcchnfndhkfaaa.PFnPassesPlays
