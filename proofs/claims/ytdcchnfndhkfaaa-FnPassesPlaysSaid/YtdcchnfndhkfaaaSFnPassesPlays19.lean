/- Walks of functions that FnPassesPlays reaches. No conditions beyond the arguments' being read. -/
import Derived.Test.YtdcchnfndhkfaaaSFnPassesPlays0
import Derived.Test.YtdcchnfndhkfaaaSFnPassesPlays1
import Derived.Test.YtdcchnfndhkfaaaSFnPassesPlays4
import Derived.Test.YtdcchnfndhkfaaaSFnPassesPlays5
namespace Go.Proofs.Ytdcchnfndhkfaaa.PFnPassesPlays
open Go.RowKit Go.Proofs.YtdcchnfndhkfaaaW.PrintWords Go.Proofs.YtdcchnfndhkfaaaW.PrintLast Go.Proofs.YtdcchnfndhkfaaaW.PrintMore
attribute [local go_sem] max2_int min2_int max_two min_two max_three min_three max_four min_four
set_option linter.unusedVariables false
set_option linter.unusedSimpArgs false

def impl_canBePlayed.f (k:Nat) (l0_0:List Int) (a0_1:Int) (l1:List (S60)) (a2_0:Int) (a2_1:Int) (a2_2:Int):Option (Bool):=(impl_IsInstrument.f k l0_0 a0_1).bind fun t440=>(if t440=true then((impl_IsSheet.f k l1).bind fun t441=>(if t441=true then((impl_IsAction.f a2_0 a2_1 a2_2).bind fun t442=>(some t442)) else(some false))) else(some false))
set_option maxHeartbeats 8000000 in
set_option maxRecDepth 100000 in
theorem impl_canBePlayed.calls (k:Nat) (A0_0:Option Addr) (c0_0:Nat) (l0_0:List Int) (a0_1:Int) (A1:Option Addr) (c1:Nat) (l1:List (S60)) (a2_0:Int) (a2_1:Int) (a2_2:Int) (r:Bool) (w:World) (hr0_0:Kd.C (Kd.int .i64) w A0_0 l0_0.length l0_0) (hc0_0:l0_0.length≤c0_0) (hr1:Kd.C k60 w A1 l1.length l1) (hc1:l1.length≤c1) (h:impl_canBePlayed.f k l0_0 a0_1 l1 a2_0 a2_1 a2_2=some r) :
  Calls Try.prog 16 #[.agg #[.slice A0_0 l0_0.length c0_0,.int .i64 a0_1],.slice A1 l1.length c1,.agg #[.int .i64 a2_0,.int .i64 a2_1,.int .i64 a2_2]] w fun e w'=>e = .returned (.bool r)∧Below w.heap.size w w':=by
 have hu24:=Try.underlying24
 have hu28:=Try.underlying28
 have HR0_0:=am hr0_0
 have HC0_0:=am hc0_0
 clear hr0_0 hc0_0
 have HR1:=am hr1
 have HC1:=am hc1
 clear hr1 hc1
 have HB:=am (Below.refl w.heap.size w)
 have H:((impl_IsInstrument.f k l0_0 a0_1).bind fun t440=>(if t440=true then((impl_IsSheet.f k l1).bind fun t441=>(if t441=true then((impl_IsAction.f a2_0 a2_1 a2_2).bind fun t442=>(some t442)) else(some false))) else(some false)))=some r:=h
 clear h
 obtain⟨t440,A4,H⟩:=bnd H
 by_cases c5:t440=true
 ·subst c5
  replace H:=(if_pos rfl).symm.trans H
  obtain⟨t441,A6,H⟩:=bnd H
  by_cases c7:t441=true
  ·subst c7
   replace H:=(if_pos rfl).symm.trans H
   obtain⟨t442,A8,H⟩:=bnd H
   obtain rfl:=Option.some.inj H
   go_enter Try.func16,Try.ntmps16
   go_wp2_with (first|((with_reducible refine gate_dst (N:=3) rfl ?_);refine box_event ?hg (N:=3) ?hd (cs := #[.slice A0_0 l0_0.length c0_0,.int .i64 a0_1]) (t:=24) ?hr ?_;(case hd=>rfl);(case hg=>rfl);(case hr=>first|(go_simp;done)|(go_simp;rfl));intro gb438 hg w9 hbox hb;have BK438:=am (hbox);have GW438:=am (ge_ bl hg);have GE438:=am (ge_ bl hg);replace HB:=am (below_step bl hb);clear hb hbox hg)|((with_reducible refine gate_dst (N:=5) rfl ?_);refine box_event ?hg (N:=5) ?hd (cs := #[.int .i64 a2_0,.int .i64 a2_1,.int .i64 a2_2]) (t:=28) ?hr ?_;(case hd=>rfl);(case hg=>rfl);(case hr=>first|(go_simp;done)|(go_simp;rfl));intro gb439 hg w10 hbox hb;have BK439:=am (hbox);have GW439:=am (ge_ bl hg);have GE439:=am (ge_ bl hg);replace HB:=am (below_step bl hb);have NB438_439:=am (nl (bup BK438.out) hg);have NB439_438:=am (ng (bup BK438.out) hg);replace BK438:=am (blk_below (bup BK438.out) hb);clear hb hbox hg;have hnb11:=NB438_439.out;have hnc11:=NB439_438.out;have hcz12_0:=bc BK438.out 0;have hcz12_1:=bc BK438.out 1;have hfz12_0:=blk_frozen BK438.out 0;have hfz12_1:=blk_frozen BK438.out 1)|((with_reducible refine gate_callee (f:=25) rfl ?_);refine goesL_ (some 8) rfl rfl Try.func25 (by kernel_rfl) rfl #[.agg #[.slice A0_0 l0_0.length c0_0,.int .i64 a0_1]] rfl tl ?_;(with_reducible refine(impl_IsInstrument.calls k _ _ l0_0 a0_1 true _ ?side1 ?side2 A4.out).mono ?_);(case side1=>exact cup (Kd.C_below HR0_0.out HB.out));(case side2=>exact HC0_0.out);rintro e w13 ⟨rfl,hb⟩;refine⟨_,rfl,?_⟩;replace BK438:=am (blk_below (bup BK438.out) hb);replace BK439:=am (blk_below (bup BK439.out) hb);replace HB:=am (below_step bl hb);(try clear hb))|(go_at_call 27;(with_reducible refine(impl_IsSheet.calls k _ _ l1 true _ ?side1 ?side2 A6.out).mono ?_);(case side1=>exact cup (Kd.C_below HR1.out HB.out));(case side2=>exact HC1.out);rintro e w14 ⟨rfl,hb⟩;replace BK438:=am (blk_below (bup BK438.out) hb);replace BK439:=am (blk_below (bup BK439.out) hb);replace HB:=am (below_step bl hb);(try clear hb);have hcz15_0:=bc BK439.out 0;have hcz15_1:=bc BK439.out 1;have hcz15_2:=bc BK439.out 2;have hfz15_0:=blk_frozen BK439.out 0;have hfz15_1:=blk_frozen BK439.out 1;have hfz15_2:=blk_frozen BK439.out 2)|(go_at_call 12;(with_reducible refine(impl_IsAction.calls a2_0 a2_1 a2_2 t442 _ A8.out).mono ?_);rintro e w16 ⟨rfl,hb⟩;replace BK438:=am (blk_below (bup BK438.out) hb);replace BK439:=am (blk_below (bup BK439.out) hb);replace HB:=am (below_step bl hb);(try clear hb)))
   go_ret
   exact⟨fin1,bl⟩
  ·replace c7:=Bool.eq_false_iff.mpr c7
   subst c7
   replace H:=(if_neg Bool.false_ne_true).symm.trans H
   obtain rfl:=Option.some.inj H
   go_enter Try.func16,Try.ntmps16
   go_wp2_with (first|((with_reducible refine gate_dst (N:=3) rfl ?_);refine box_event ?hg (N:=3) ?hd (cs := #[.slice A0_0 l0_0.length c0_0,.int .i64 a0_1]) (t:=24) ?hr ?_;(case hd=>rfl);(case hg=>rfl);(case hr=>first|(go_simp;done)|(go_simp;rfl));intro gb438 hg w17 hbox hb;have BK438:=am (hbox);have GW438:=am (ge_ bl hg);have GE438:=am (ge_ bl hg);replace HB:=am (below_step bl hb);clear hb hbox hg)|((with_reducible refine gate_dst (N:=5) rfl ?_);refine box_event ?hg (N:=5) ?hd (cs := #[.int .i64 a2_0,.int .i64 a2_1,.int .i64 a2_2]) (t:=28) ?hr ?_;(case hd=>rfl);(case hg=>rfl);(case hr=>first|(go_simp;done)|(go_simp;rfl));intro gb439 hg w18 hbox hb;have BK439:=am (hbox);have GW439:=am (ge_ bl hg);have GE439:=am (ge_ bl hg);replace HB:=am (below_step bl hb);have NB438_439:=am (nl (bup BK438.out) hg);have NB439_438:=am (ng (bup BK438.out) hg);replace BK438:=am (blk_below (bup BK438.out) hb);clear hb hbox hg;have hnb19:=NB438_439.out;have hnc19:=NB439_438.out;have hcz20_0:=bc BK438.out 0;have hcz20_1:=bc BK438.out 1;have hfz20_0:=blk_frozen BK438.out 0;have hfz20_1:=blk_frozen BK438.out 1)|((with_reducible refine gate_callee (f:=25) rfl ?_);refine goesL_ (some 8) rfl rfl Try.func25 (by kernel_rfl) rfl #[.agg #[.slice A0_0 l0_0.length c0_0,.int .i64 a0_1]] rfl tl ?_;(with_reducible refine(impl_IsInstrument.calls k _ _ l0_0 a0_1 true _ ?side1 ?side2 A4.out).mono ?_);(case side1=>exact cup (Kd.C_below HR0_0.out HB.out));(case side2=>exact HC0_0.out);rintro e w21 ⟨rfl,hb⟩;refine⟨_,rfl,?_⟩;replace BK438:=am (blk_below (bup BK438.out) hb);replace BK439:=am (blk_below (bup BK439.out) hb);replace HB:=am (below_step bl hb);(try clear hb))|(go_at_call 27;(with_reducible refine(impl_IsSheet.calls k _ _ l1 false _ ?side1 ?side2 A6.out).mono ?_);(case side1=>exact cup (Kd.C_below HR1.out HB.out));(case side2=>exact HC1.out);rintro e w22 ⟨rfl,hb⟩;replace BK438:=am (blk_below (bup BK438.out) hb);replace BK439:=am (blk_below (bup BK439.out) hb);replace HB:=am (below_step bl hb);(try clear hb)))
   go_ret
   exact⟨fin1,bl⟩
 ·replace c5:=Bool.eq_false_iff.mpr c5
  subst c5
  replace H:=(if_neg Bool.false_ne_true).symm.trans H
  obtain rfl:=Option.some.inj H
  go_enter Try.func16,Try.ntmps16
  go_wp2_with (first|((with_reducible refine gate_dst (N:=3) rfl ?_);refine box_event ?hg (N:=3) ?hd (cs := #[.slice A0_0 l0_0.length c0_0,.int .i64 a0_1]) (t:=24) ?hr ?_;(case hd=>rfl);(case hg=>rfl);(case hr=>first|(go_simp;done)|(go_simp;rfl));intro gb438 hg w23 hbox hb;have BK438:=am (hbox);have GW438:=am (ge_ bl hg);have GE438:=am (ge_ bl hg);replace HB:=am (below_step bl hb);clear hb hbox hg)|((with_reducible refine gate_dst (N:=5) rfl ?_);refine box_event ?hg (N:=5) ?hd (cs := #[.int .i64 a2_0,.int .i64 a2_1,.int .i64 a2_2]) (t:=28) ?hr ?_;(case hd=>rfl);(case hg=>rfl);(case hr=>first|(go_simp;done)|(go_simp;rfl));intro gb439 hg w24 hbox hb;have BK439:=am (hbox);have GW439:=am (ge_ bl hg);have GE439:=am (ge_ bl hg);replace HB:=am (below_step bl hb);have NB438_439:=am (nl (bup BK438.out) hg);have NB439_438:=am (ng (bup BK438.out) hg);replace BK438:=am (blk_below (bup BK438.out) hb);clear hb hbox hg;have hnb25:=NB438_439.out;have hnc25:=NB439_438.out;have hcz26_0:=bc BK438.out 0;have hcz26_1:=bc BK438.out 1;have hfz26_0:=blk_frozen BK438.out 0;have hfz26_1:=blk_frozen BK438.out 1)|((with_reducible refine gate_callee (f:=25) rfl ?_);refine goesL_ (some 8) rfl rfl Try.func25 (by kernel_rfl) rfl #[.agg #[.slice A0_0 l0_0.length c0_0,.int .i64 a0_1]] rfl tl ?_;(with_reducible refine(impl_IsInstrument.calls k _ _ l0_0 a0_1 false _ ?side1 ?side2 A4.out).mono ?_);(case side1=>exact cup (Kd.C_below HR0_0.out HB.out));(case side2=>exact HC0_0.out);rintro e w27 ⟨rfl,hb⟩;refine⟨_,rfl,?_⟩;replace BK438:=am (blk_below (bup BK438.out) hb);replace BK439:=am (blk_below (bup BK439.out) hb);replace HB:=am (below_step bl hb);(try clear hb)))
  go_ret
  exact⟨fin1,bl⟩

def impl_PlayedBy.f (k:Nat) (l0_0:List Int) (a0_1:Int) (l1:List (S60)) (a2_0:Int) (a2_1:Int) (a2_2:Int):Option ((List (S37))×Bool):=(impl_canBePlayed.f k l0_0 a0_1 l1 a2_0 a2_1 a2_2).bind fun t445=>(if t445=true then((impl_spoken.f k l0_0 a0_1 l1 a2_0 a2_1 a2_2).bind fun bt446=>(some (bt446.1,true))) else(some (([]:List (S37)),false)))
set_option maxHeartbeats 8000000 in
set_option maxRecDepth 100000 in
theorem impl_PlayedBy.calls (k:Nat) (A0_0:Option Addr) (c0_0:Nat) (l0_0:List Int) (a0_1:Int) (A1:Option Addr) (c1:Nat) (l1:List (S60)) (a2_0:Int) (a2_1:Int) (a2_2:Int) (r1:List (S37)) (r2:Bool) (w:World) (hr0_0:Kd.C (Kd.int .i64) w A0_0 l0_0.length l0_0) (hc0_0:l0_0.length≤c0_0) (hr1:Kd.C k60 w A1 l1.length l1) (hc1:l1.length≤c1) (h:impl_PlayedBy.f k l0_0 a0_1 l1 a2_0 a2_1 a2_2=some (r1,r2)) :
  Calls Try.prog 7 #[.agg #[.slice A0_0 l0_0.length c0_0,.int .i64 a0_1],.slice A1 l1.length c1,.agg #[.int .i64 a2_0,.int .i64 a2_1,.int .i64 a2_2]] w fun e w'=>∃ v0_:Value,e = .returned (.tuple #[v0_,.bool r2])∧Kd.R k37 37 w' w.heap.size (fun _=>True) v0_ r1∧Below w.heap.size w w':=by
 have hu24:=Try.underlying24
 have hu28:=Try.underlying28
 have HR0_0:=am hr0_0
 have HC0_0:=am hc0_0
 clear hr0_0 hc0_0
 have HR1:=am hr1
 have HC1:=am hc1
 clear hr1 hc1
 have HB:=am (Below.refl w.heap.size w)
 have H:((impl_canBePlayed.f k l0_0 a0_1 l1 a2_0 a2_1 a2_2).bind fun t445=>(if t445=true then((impl_spoken.f k l0_0 a0_1 l1 a2_0 a2_1 a2_2).bind fun bt446=>(some (bt446.1,true))) else(some (([]:List (S37)),false))))=some (r1,r2):=h
 clear h
 replace H:=Option.bind_eq_some_iff.mp H
 obtain⟨t445,A40,H⟩:=H
 replace H:(if t445=true then((impl_spoken.f k l0_0 a0_1 l1 a2_0 a2_1 a2_2).bind fun bt446=>(some (bt446.1,true))) else(some (([]:List (S37)),false)))=some (r1,r2):=H
 have A4:=am A40
 clear A40
 by_cases c5:t445=true
 ·subst c5
  replace H:=(if_pos rfl).symm.trans H
  replace H:=Option.bind_eq_some_iff.mp H
  obtain⟨⟨t446,t449⟩,A60,H⟩:=H
  replace H:(some (t446,true))=some (r1,r2):=H
  have A6:=am A60
  clear A60
  simp only[Option.some.injEq,Prod.mk.injEq] at H
  obtain⟨rfl,rfl⟩:=H
  go_enter Try.func7,Try.ntmps7
  go_wp2_with (first|((with_reducible refine gate_dst (N:=3) rfl ?_);refine box_event ?hg (N:=3) ?hd (cs := #[.slice A0_0 l0_0.length c0_0,.int .i64 a0_1]) (t:=24) ?hr ?_;(case hd=>rfl);(case hg=>rfl);(case hr=>first|(go_simp;done)|(go_simp;rfl));intro gb443 hg w7 hbox hb;have BK443:=am (hbox);have GW443:=am (ge_ bl hg);have GE443:=am (ge_ bl hg);replace HB:=am (below_step bl hb);clear hb hbox hg)|((with_reducible refine gate_dst (N:=5) rfl ?_);refine box_event ?hg (N:=5) ?hd (cs := #[.int .i64 a2_0,.int .i64 a2_1,.int .i64 a2_2]) (t:=28) ?hr ?_;(case hd=>rfl);(case hg=>rfl);(case hr=>first|(go_simp;done)|(go_simp;rfl));intro gb444 hg w8 hbox hb;have BK444:=am (hbox);have GW444:=am (ge_ bl hg);have GE444:=am (ge_ bl hg);replace HB:=am (below_step bl hb);have NB443_444:=am (nl (bup BK443.out) hg);have NB444_443:=am (ng (bup BK443.out) hg);replace BK443:=am (blk_below (bup BK443.out) hb);clear hb hbox hg;have hnb9:=NB443_444.out;have hnc9:=NB444_443.out;have hcz10_0:=bc BK443.out 0;have hcz10_1:=bc BK443.out 1;have hfz10_0:=blk_frozen BK443.out 0;have hfz10_1:=blk_frozen BK443.out 1;have hcz11_0:=bc BK444.out 0;have hcz11_1:=bc BK444.out 1;have hcz11_2:=bc BK444.out 2;have hfz11_0:=blk_frozen BK444.out 0;have hfz11_1:=blk_frozen BK444.out 1;have hfz11_2:=blk_frozen BK444.out 2)|((with_reducible refine gate_callee (f:=16) rfl ?_);refine goesL_ (some 13) rfl rfl Try.func16 (by kernel_rfl) rfl #[.agg #[.slice A0_0 l0_0.length c0_0,.int .i64 a0_1],.slice A1 l1.length c1,.agg #[.int .i64 a2_0,.int .i64 a2_1,.int .i64 a2_2]] rfl tl ?_;(with_reducible refine(impl_canBePlayed.calls k _ _ l0_0 a0_1 _ _ l1 a2_0 a2_1 a2_2 true _ ?side1 ?side2 ?side3 ?side4 A4.out).mono ?_);(case side1=>exact cup (Kd.C_below HR0_0.out HB.out));(case side2=>exact HC0_0.out);(case side3=>exact cup (Kd.C_below HR1.out HB.out));(case side4=>exact HC1.out);rintro e w12 ⟨rfl,hb⟩;refine⟨_,rfl,?_⟩;replace BK443:=am (blk_below (bup BK443.out) hb);replace BK444:=am (blk_below (bup BK444.out) hb);replace HB:=am (below_step bl hb);(try clear hb);have hcz13_0:=bc BK443.out 0;have hcz13_1:=bc BK443.out 1;have hfz13_0:=blk_frozen BK443.out 0;have hfz13_1:=blk_frozen BK443.out 1;have hcz14_0:=bc BK444.out 0;have hcz14_1:=bc BK444.out 1;have hcz14_2:=bc BK444.out 2;have hfz14_0:=blk_frozen BK444.out 0;have hfz14_1:=blk_frozen BK444.out 1;have hfz14_2:=blk_frozen BK444.out 2)|((with_reducible refine gate_callee (f:=14) rfl ?_);refine goesL_ (some 19) rfl rfl Try.func14 (by kernel_rfl) rfl #[.agg #[.slice A0_0 l0_0.length c0_0,.int .i64 a0_1],.slice A1 l1.length c1,.agg #[.int .i64 a2_0,.int .i64 a2_1,.int .i64 a2_2]] rfl tl ?_;(with_reducible refine(impl_spoken.calls k _ _ l0_0 a0_1 _ _ l1 a2_0 a2_1 a2_2 t446 t449 _ ?side1 ?side2 ?side3 ?side4 A6.out).mono ?_);(case side1=>exact cup (Kd.C_below HR0_0.out HB.out));(case side2=>exact HC0_0.out);(case side3=>exact cup (Kd.C_below HR1.out HB.out));(case side4=>exact HC1.out);rintro e w15 ⟨v447,v450,rfl,ho0,ho1,hb⟩;refine⟨_,rfl,?_⟩;have HO448:=am (Kd.R_lower ho0 (below_size bl));have HO451:=am (Kd.R_lower ho1 (below_size bl));replace BK443:=am (blk_below (bup BK443.out) hb);replace BK444:=am (blk_below (bup BK444.out) hb);replace HB:=am (below_step bl hb);(try clear hb);(try clear ho0);(try clear ho1)))
  go_ret2
  exact⟨_,fin1,by(with_reducible repeat(first|apply Kd.R_alloc|apply Kd.R_drewN|apply Kd.R_drew));exact HO448.out,bl⟩
 ·replace c5:=Bool.eq_false_iff.mpr c5
  subst c5
  replace H:=(if_neg Bool.false_ne_true).symm.trans H
  simp only[Option.some.injEq,Prod.mk.injEq] at H
  obtain⟨rfl,rfl⟩:=H
  go_enter Try.func7,Try.ntmps7
  go_wp2_with (first|((with_reducible refine gate_dst (N:=3) rfl ?_);refine box_event ?hg (N:=3) ?hd (cs := #[.slice A0_0 l0_0.length c0_0,.int .i64 a0_1]) (t:=24) ?hr ?_;(case hd=>rfl);(case hg=>rfl);(case hr=>first|(go_simp;done)|(go_simp;rfl));intro gb443 hg w16 hbox hb;have BK443:=am (hbox);have GW443:=am (ge_ bl hg);have GE443:=am (ge_ bl hg);replace HB:=am (below_step bl hb);clear hb hbox hg)|((with_reducible refine gate_dst (N:=5) rfl ?_);refine box_event ?hg (N:=5) ?hd (cs := #[.int .i64 a2_0,.int .i64 a2_1,.int .i64 a2_2]) (t:=28) ?hr ?_;(case hd=>rfl);(case hg=>rfl);(case hr=>first|(go_simp;done)|(go_simp;rfl));intro gb444 hg w17 hbox hb;have BK444:=am (hbox);have GW444:=am (ge_ bl hg);have GE444:=am (ge_ bl hg);replace HB:=am (below_step bl hb);have NB443_444:=am (nl (bup BK443.out) hg);have NB444_443:=am (ng (bup BK443.out) hg);replace BK443:=am (blk_below (bup BK443.out) hb);clear hb hbox hg;have hnb18:=NB443_444.out;have hnc18:=NB444_443.out;have hcz19_0:=bc BK443.out 0;have hcz19_1:=bc BK443.out 1;have hfz19_0:=blk_frozen BK443.out 0;have hfz19_1:=blk_frozen BK443.out 1;have hcz20_0:=bc BK444.out 0;have hcz20_1:=bc BK444.out 1;have hcz20_2:=bc BK444.out 2;have hfz20_0:=blk_frozen BK444.out 0;have hfz20_1:=blk_frozen BK444.out 1;have hfz20_2:=blk_frozen BK444.out 2)|((with_reducible refine gate_callee (f:=16) rfl ?_);refine goesL_ (some 13) rfl rfl Try.func16 (by kernel_rfl) rfl #[.agg #[.slice A0_0 l0_0.length c0_0,.int .i64 a0_1],.slice A1 l1.length c1,.agg #[.int .i64 a2_0,.int .i64 a2_1,.int .i64 a2_2]] rfl tl ?_;(with_reducible refine(impl_canBePlayed.calls k _ _ l0_0 a0_1 _ _ l1 a2_0 a2_1 a2_2 false _ ?side1 ?side2 ?side3 ?side4 A4.out).mono ?_);(case side1=>exact cup (Kd.C_below HR0_0.out HB.out));(case side2=>exact HC0_0.out);(case side3=>exact cup (Kd.C_below HR1.out HB.out));(case side4=>exact HC1.out);rintro e w21 ⟨rfl,hb⟩;refine⟨_,rfl,?_⟩;replace BK443:=am (blk_below (bup BK443.out) hb);replace BK444:=am (blk_below (bup BK444.out) hb);replace HB:=am (below_step bl hb);(try clear hb)))
  go_ret2
  exact⟨_,fin1,by first|exact Kd.R_nil _ _ _ _ _|exact Kd.N_nil _ _ _ _ _|exact Kd.V_nil _ _ _ _ _|exact Kd.Q_nil _ _ _ _ _|exact Kd.S_nil _ _ _ _ _,bl⟩

end Go.Proofs.Ytdcchnfndhkfaaa.PFnPassesPlays
