/- Walks of functions that FnPassesPlays reaches. No conditions beyond the arguments' being read. -/
import Derived.Test.YtdcchnfndhkfaaaSFnPassesPlays0
import Derived.Test.YtdcchnfndhkfaaaSFnPassesPlays9
import Derived.Test.YtdcchnfndhkfaaaSFnPassesPlays10
namespace Go.Proofs.Ytdcchnfndhkfaaa.PFnPassesPlays
open Go.RowKit Go.Proofs.YtdcchnfndhkfaaaW.PrintWords Go.Proofs.YtdcchnfndhkfaaaW.PrintLast Go.Proofs.YtdcchnfndhkfaaaW.PrintMore
attribute [local go_sem] max2_int min2_int max_two min_two max_three min_three max_four min_four
set_option linter.unusedVariables false
set_option linter.unusedSimpArgs false

def spec_inAsked.f (k:Nat) (l0_0:List Int) (a0_1:Int) (l1:List (S35)):Option (Bool):=(spec_inGood.f k l0_0 a0_1).bind fun t290=>(if t290=true then((spec_ntGood.f k l1).bind fun t291=>(some t291)) else(some false))
set_option maxHeartbeats 8000000 in
set_option maxRecDepth 100000 in
theorem spec_inAsked.calls (k:Nat) (A0_0:Option Addr) (c0_0:Nat) (l0_0:List Int) (a0_1:Int) (A1:Option Addr) (c1:Nat) (l1:List (S35)) (r:Bool) (w:World) (hr0_0:Kd.C (Kd.int .i64) w A0_0 l0_0.length l0_0) (hc0_0:l0_0.length≤c0_0) (hr1:Kd.C k35 w A1 l1.length l1) (hc1:l1.length≤c1) (h:spec_inAsked.f k l0_0 a0_1 l1=some r) :
  Calls Try.prog 33 #[.agg #[.slice A0_0 l0_0.length c0_0,.int .i64 a0_1],.slice A1 l1.length c1] w fun e w'=>e = .returned (.bool r)∧Below w.heap.size w w':=by
 have hu24:=Try.underlying24
 have HR0_0:=am hr0_0
 have HC0_0:=am hc0_0
 clear hr0_0 hc0_0
 have HR1:=am hr1
 have HC1:=am hc1
 clear hr1 hc1
 have HB:=am (Below.refl w.heap.size w)
 have H:((spec_inGood.f k l0_0 a0_1).bind fun t290=>(if t290=true then((spec_ntGood.f k l1).bind fun t291=>(some t291)) else(some false)))=some r:=h
 clear h
 obtain⟨t290,A3,H⟩:=bnd H
 by_cases c4:t290=true
 ·subst c4
  replace H:=(if_pos rfl).symm.trans H
  obtain⟨t291,A5,H⟩:=bnd H
  obtain rfl:=Option.some.inj H
  go_enter Try.func33,Try.ntmps33
  go_wp2_with (first|((with_reducible refine gate_dst (N:=2) rfl ?_);refine box_event ?hg (N:=2) ?hd (cs := #[.slice A0_0 l0_0.length c0_0,.int .i64 a0_1]) (t:=24) ?hr ?_;(case hd=>rfl);(case hg=>rfl);(case hr=>first|(go_simp;done)|(go_simp;rfl));intro gb289 hg w6 hbox hb;have BK289:=am (hbox);have GW289:=am (ge_ bl hg);have GE289:=am (ge_ bl hg);replace HB:=am (below_step bl hb);clear hb hbox hg;have hcz7_0:=bc BK289.out 0;have hcz7_1:=bc BK289.out 1;have hfz7_0:=blk_frozen BK289.out 0;have hfz7_1:=blk_frozen BK289.out 1)|((with_reducible refine gate_callee (f:=48) rfl ?_);refine goesL_ (some 6) rfl rfl Try.func48 (by kernel_rfl) rfl #[.agg #[.slice A0_0 l0_0.length c0_0,.int .i64 a0_1]] rfl tl ?_;(with_reducible refine(spec_inGood.calls k _ _ l0_0 a0_1 true _ ?side1 ?side2 A3.out).mono ?_);(case side1=>exact cup (Kd.C_below HR0_0.out HB.out));(case side2=>exact HC0_0.out);rintro e w8 ⟨rfl,hb⟩;refine⟨_,rfl,?_⟩;replace BK289:=am (blk_below (bup BK289.out) hb);replace HB:=am (below_step bl hb);(try clear hb))|(go_at_call 49;(with_reducible refine(spec_ntGood.calls k _ _ l1 t291 _ ?side1 ?side2 A5.out).mono ?_);(case side1=>exact cup (Kd.C_below HR1.out HB.out));(case side2=>exact HC1.out);rintro e w9 ⟨rfl,hb⟩;replace BK289:=am (blk_below (bup BK289.out) hb);replace HB:=am (below_step bl hb);(try clear hb)))
  go_ret
  exact⟨fin1,bl⟩
 ·replace c4:=Bool.eq_false_iff.mpr c4
  subst c4
  replace H:=(if_neg Bool.false_ne_true).symm.trans H
  obtain rfl:=Option.some.inj H
  go_enter Try.func33,Try.ntmps33
  go_wp2_with (first|((with_reducible refine gate_dst (N:=2) rfl ?_);refine box_event ?hg (N:=2) ?hd (cs := #[.slice A0_0 l0_0.length c0_0,.int .i64 a0_1]) (t:=24) ?hr ?_;(case hd=>rfl);(case hg=>rfl);(case hr=>first|(go_simp;done)|(go_simp;rfl));intro gb289 hg w10 hbox hb;have BK289:=am (hbox);have GW289:=am (ge_ bl hg);have GE289:=am (ge_ bl hg);replace HB:=am (below_step bl hb);clear hb hbox hg;have hcz11_0:=bc BK289.out 0;have hcz11_1:=bc BK289.out 1;have hfz11_0:=blk_frozen BK289.out 0;have hfz11_1:=blk_frozen BK289.out 1)|((with_reducible refine gate_callee (f:=48) rfl ?_);refine goesL_ (some 6) rfl rfl Try.func48 (by kernel_rfl) rfl #[.agg #[.slice A0_0 l0_0.length c0_0,.int .i64 a0_1]] rfl tl ?_;(with_reducible refine(spec_inGood.calls k _ _ l0_0 a0_1 false _ ?side1 ?side2 A3.out).mono ?_);(case side1=>exact cup (Kd.C_below HR0_0.out HB.out));(case side2=>exact HC0_0.out);rintro e w12 ⟨rfl,hb⟩;refine⟨_,rfl,?_⟩;replace BK289:=am (blk_below (bup BK289.out) hb);replace HB:=am (below_step bl hb);(try clear hb)))
  go_ret
  exact⟨fin1,bl⟩

def spec_shHole.f (a0_0:Int) (a0_1:Int) (a0_2:Int):Option (Bool):=(spec_l1In.f a0_0 0 19).bind fun t293=>(if t293=true then((spec_l1In.f a0_1 0 1999).bind fun t294=>(if t294=true then((spec_l1In.f a0_2 (wrap64 (a0_1+1)) 2000).bind fun t295=>(some t295)) else(some false))) else(some false))
set_option maxHeartbeats 8000000 in
set_option maxRecDepth 100000 in
theorem spec_shHole.calls (a0_0:Int) (a0_1:Int) (a0_2:Int) (r:Bool) (w:World) (h:spec_shHole.f a0_0 a0_1 a0_2=some r) :
  Calls Try.prog 50 #[.agg #[.int .i64 a0_0,.int .i64 a0_1,.int .i64 a0_2]] w fun e w'=>e = .returned (.bool r)∧Below w.heap.size w w':=by
 have hu60:=Try.underlying60
 have HB:=am (Below.refl w.heap.size w)
 have H:((spec_l1In.f a0_0 0 19).bind fun t293=>(if t293=true then((spec_l1In.f a0_1 0 1999).bind fun t294=>(if t294=true then((spec_l1In.f a0_2 (wrap64 (a0_1+1)) 2000).bind fun t295=>(some t295)) else(some false))) else(some false)))=some r:=h
 clear h
 obtain⟨t293,A2,H⟩:=bnd H
 by_cases c3:t293=true
 ·subst c3
  replace H:=(if_pos rfl).symm.trans H
  obtain⟨t294,A4,H⟩:=bnd H
  by_cases c5:t294=true
  ·subst c5
   replace H:=(if_pos rfl).symm.trans H
   obtain⟨t295,A6,H⟩:=bnd H
   obtain rfl:=Option.some.inj H
   go_enter Try.func50,Try.ntmps50
   go_wp2_with (first|((with_reducible refine gate_dst (N:=1) rfl ?_);refine box_event ?hg (N:=1) ?hd (cs := #[.int .i64 a0_0,.int .i64 a0_1,.int .i64 a0_2]) (t:=60) ?hr ?_;(case hd=>rfl);(case hg=>rfl);(case hr=>first|(go_simp;done)|(go_simp;rfl));intro gb292 hg w7 hbox hb;have BK292:=am (hbox);have GW292:=am (ge_ bl hg);have GE292:=am (ge_ bl hg);replace HB:=am (below_step bl hb);clear hb hbox hg;have hcz8_0:=bc BK292.out 0;have hcz8_1:=bc BK292.out 1;have hcz8_2:=bc BK292.out 2;have hfz8_0:=blk_frozen BK292.out 0;have hfz8_1:=blk_frozen BK292.out 1;have hfz8_2:=blk_frozen BK292.out 2)|((with_reducible refine gate_callee (f:=35) rfl ?_);refine goesL_ (some 5) rfl rfl Try.func35 (by kernel_rfl) rfl #[.int .i64 a0_0,.int .i64 0,.int .i64 19] rfl tl ?_;(with_reducible refine(spec_l1In.calls a0_0 0 19 true _ A2.out).mono ?_);rintro e w' ⟨rfl,⟨nd,rfl⟩⟩;refine⟨_,rfl,?_⟩)|(go_at_call 35;(with_reducible refine(spec_l1In.calls a0_1 0 1999 true _ A4.out).mono ?_);rintro e w' ⟨rfl,⟨nd,rfl⟩⟩)|(go_at_call 35;(with_reducible refine(spec_l1In.calls a0_2 (wrap64 (a0_1+1)) 2000 t295 _ A6.out).mono ?_);rintro e w' ⟨rfl,⟨nd,rfl⟩⟩))
   go_ret
   exact⟨fin1,bl⟩
  ·replace c5:=Bool.eq_false_iff.mpr c5
   subst c5
   replace H:=(if_neg Bool.false_ne_true).symm.trans H
   obtain rfl:=Option.some.inj H
   go_enter Try.func50,Try.ntmps50
   go_wp2_with (first|((with_reducible refine gate_dst (N:=1) rfl ?_);refine box_event ?hg (N:=1) ?hd (cs := #[.int .i64 a0_0,.int .i64 a0_1,.int .i64 a0_2]) (t:=60) ?hr ?_;(case hd=>rfl);(case hg=>rfl);(case hr=>first|(go_simp;done)|(go_simp;rfl));intro gb292 hg w9 hbox hb;have BK292:=am (hbox);have GW292:=am (ge_ bl hg);have GE292:=am (ge_ bl hg);replace HB:=am (below_step bl hb);clear hb hbox hg;have hcz10_0:=bc BK292.out 0;have hcz10_1:=bc BK292.out 1;have hcz10_2:=bc BK292.out 2;have hfz10_0:=blk_frozen BK292.out 0;have hfz10_1:=blk_frozen BK292.out 1;have hfz10_2:=blk_frozen BK292.out 2)|((with_reducible refine gate_callee (f:=35) rfl ?_);refine goesL_ (some 5) rfl rfl Try.func35 (by kernel_rfl) rfl #[.int .i64 a0_0,.int .i64 0,.int .i64 19] rfl tl ?_;(with_reducible refine(spec_l1In.calls a0_0 0 19 true _ A2.out).mono ?_);rintro e w' ⟨rfl,⟨nd,rfl⟩⟩;refine⟨_,rfl,?_⟩)|(go_at_call 35;(with_reducible refine(spec_l1In.calls a0_1 0 1999 false _ A4.out).mono ?_);rintro e w' ⟨rfl,⟨nd,rfl⟩⟩))
   go_ret
   exact⟨fin1,bl⟩
 ·replace c3:=Bool.eq_false_iff.mpr c3
  subst c3
  replace H:=(if_neg Bool.false_ne_true).symm.trans H
  obtain rfl:=Option.some.inj H
  go_enter Try.func50,Try.ntmps50
  go_wp2_with (first|((with_reducible refine gate_dst (N:=1) rfl ?_);refine box_event ?hg (N:=1) ?hd (cs := #[.int .i64 a0_0,.int .i64 a0_1,.int .i64 a0_2]) (t:=60) ?hr ?_;(case hd=>rfl);(case hg=>rfl);(case hr=>first|(go_simp;done)|(go_simp;rfl));intro gb292 hg w11 hbox hb;have BK292:=am (hbox);have GW292:=am (ge_ bl hg);have GE292:=am (ge_ bl hg);replace HB:=am (below_step bl hb);clear hb hbox hg;have hcz12_0:=bc BK292.out 0;have hcz12_1:=bc BK292.out 1;have hcz12_2:=bc BK292.out 2;have hfz12_0:=blk_frozen BK292.out 0;have hfz12_1:=blk_frozen BK292.out 1;have hfz12_2:=blk_frozen BK292.out 2)|((with_reducible refine gate_callee (f:=35) rfl ?_);refine goesL_ (some 5) rfl rfl Try.func35 (by kernel_rfl) rfl #[.int .i64 a0_0,.int .i64 0,.int .i64 19] rfl tl ?_;(with_reducible refine(spec_l1In.calls a0_0 0 19 false _ A2.out).mono ?_);rintro e w' ⟨rfl,⟨nd,rfl⟩⟩;refine⟨_,rfl,?_⟩))
  go_ret
  exact⟨fin1,bl⟩

def spec_shBefore.f (a0_0:Int) (a0_1:Int) (a0_2:Int) (a1_0:Int) (a1_1:Int) (a1_2:Int):Option (Bool):=if a0_1<a1_1 then(some true) else(if a0_1=a1_1 then(some (decide (a0_0<a1_0))) else(some false))
set_option maxHeartbeats 8000000 in
set_option maxRecDepth 100000 in
theorem spec_shBefore.calls (a0_0:Int) (a0_1:Int) (a0_2:Int) (a1_0:Int) (a1_1:Int) (a1_2:Int) (r:Bool) (w:World) (h:spec_shBefore.f a0_0 a0_1 a0_2 a1_0 a1_1 a1_2=some r) :
  Calls Try.prog 51 #[.agg #[.int .i64 a0_0,.int .i64 a0_1,.int .i64 a0_2],.agg #[.int .i64 a1_0,.int .i64 a1_1,.int .i64 a1_2]] w fun e w'=>e = .returned (.bool r)∧Below w.heap.size w w':=by
 have hu60:=Try.underlying60
 have HB:=am (Below.refl w.heap.size w)
 have H:(if a0_1<a1_1 then(some true) else(if a0_1=a1_1 then(some (decide (a0_0<a1_0))) else(some false)))=some r:=h
 clear h
 rcases itc H with⟨c3,H⟩|⟨c3,H⟩
 ·have c3b0:=decide_eq_true c3
  clear c3
  obtain rfl:=Option.some.inj H
  go_enter Try.func51,Try.ntmps51
  go_wp2_with (first|((with_reducible refine gate_dst (N:=2) rfl ?_);refine box_event ?hg (N:=2) ?hd (cs := #[.int .i64 a0_0,.int .i64 a0_1,.int .i64 a0_2]) (t:=60) ?hr ?_;(case hd=>rfl);(case hg=>rfl);(case hr=>first|(go_simp;done)|(go_simp;rfl));intro gb296 hg w4 hbox hb;have BK296:=am (hbox);have GW296:=am (ge_ bl hg);have GE296:=am (ge_ bl hg);replace HB:=am (below_step bl hb);clear hb hbox hg)|((with_reducible refine gate_dst (N:=3) rfl ?_);refine box_event ?hg (N:=3) ?hd (cs := #[.int .i64 a1_0,.int .i64 a1_1,.int .i64 a1_2]) (t:=60) ?hr ?_;(case hd=>rfl);(case hg=>rfl);(case hr=>first|(go_simp;done)|(go_simp;rfl));intro gb297 hg w5 hbox hb;have BK297:=am (hbox);have GW297:=am (ge_ bl hg);have GE297:=am (ge_ bl hg);replace HB:=am (below_step bl hb);have NB296_297:=am (nl (bup BK296.out) hg);have NB297_296:=am (ng (bup BK296.out) hg);replace BK296:=am (blk_below (bup BK296.out) hb);clear hb hbox hg;have hnb6:=NB296_297.out;have hnc6:=NB297_296.out;have hcz7_0:=bc BK296.out 0;have hcz7_1:=bc BK296.out 1;have hcz7_2:=bc BK296.out 2;have hfz7_0:=blk_frozen BK296.out 0;have hfz7_1:=blk_frozen BK296.out 1;have hfz7_2:=blk_frozen BK296.out 2;have hcz8_0:=bc BK297.out 0;have hcz8_1:=bc BK297.out 1;have hcz8_2:=bc BK297.out 2;have hfz8_0:=blk_frozen BK297.out 0;have hfz8_1:=blk_frozen BK297.out 1;have hfz8_2:=blk_frozen BK297.out 2))
  go_ret
  exact⟨fin1,bl⟩
 ·have c3b0:=decide_eq_false c3
  clear c3
  rcases itc H with⟨c9,H⟩|⟨c9,H⟩
  ·have c9b0:(a0_1 == a1_1)=true:=beq_iff_eq.mpr c9
   have c9b1:(a0_1 != a1_1)=false:=bne_eq_false_iff_eq.mpr c9
   clear c9
   obtain rfl:=Option.some.inj H
   go_enter Try.func51,Try.ntmps51
   go_wp2_with (first|((with_reducible refine gate_dst (N:=2) rfl ?_);refine box_event ?hg (N:=2) ?hd (cs := #[.int .i64 a0_0,.int .i64 a0_1,.int .i64 a0_2]) (t:=60) ?hr ?_;(case hd=>rfl);(case hg=>rfl);(case hr=>first|(go_simp;done)|(go_simp;rfl));intro gb296 hg w10 hbox hb;have BK296:=am (hbox);have GW296:=am (ge_ bl hg);have GE296:=am (ge_ bl hg);replace HB:=am (below_step bl hb);clear hb hbox hg)|((with_reducible refine gate_dst (N:=3) rfl ?_);refine box_event ?hg (N:=3) ?hd (cs := #[.int .i64 a1_0,.int .i64 a1_1,.int .i64 a1_2]) (t:=60) ?hr ?_;(case hd=>rfl);(case hg=>rfl);(case hr=>first|(go_simp;done)|(go_simp;rfl));intro gb297 hg w11 hbox hb;have BK297:=am (hbox);have GW297:=am (ge_ bl hg);have GE297:=am (ge_ bl hg);replace HB:=am (below_step bl hb);have NB296_297:=am (nl (bup BK296.out) hg);have NB297_296:=am (ng (bup BK296.out) hg);replace BK296:=am (blk_below (bup BK296.out) hb);clear hb hbox hg;have hnb12:=NB296_297.out;have hnc12:=NB297_296.out;have hcz13_0:=bc BK296.out 0;have hcz13_1:=bc BK296.out 1;have hcz13_2:=bc BK296.out 2;have hfz13_0:=blk_frozen BK296.out 0;have hfz13_1:=blk_frozen BK296.out 1;have hfz13_2:=blk_frozen BK296.out 2;have hcz14_0:=bc BK297.out 0;have hcz14_1:=bc BK297.out 1;have hcz14_2:=bc BK297.out 2;have hfz14_0:=blk_frozen BK297.out 0;have hfz14_1:=blk_frozen BK297.out 1;have hfz14_2:=blk_frozen BK297.out 2))
   go_ret
   exact⟨fin1,bl⟩
  ·have c9b0:(a0_1 == a1_1)=false:=beq_eq_false_iff_ne.mpr c9
   have c9b1:(a0_1 != a1_1)=true:=bne_iff_ne.mpr c9
   obtain rfl:=Option.some.inj H
   go_enter Try.func51,Try.ntmps51
   go_wp2_with (first|((with_reducible refine gate_dst (N:=2) rfl ?_);refine box_event ?hg (N:=2) ?hd (cs := #[.int .i64 a0_0,.int .i64 a0_1,.int .i64 a0_2]) (t:=60) ?hr ?_;(case hd=>rfl);(case hg=>rfl);(case hr=>first|(go_simp;done)|(go_simp;rfl));intro gb296 hg w15 hbox hb;have BK296:=am (hbox);have GW296:=am (ge_ bl hg);have GE296:=am (ge_ bl hg);replace HB:=am (below_step bl hb);clear hb hbox hg)|((with_reducible refine gate_dst (N:=3) rfl ?_);refine box_event ?hg (N:=3) ?hd (cs := #[.int .i64 a1_0,.int .i64 a1_1,.int .i64 a1_2]) (t:=60) ?hr ?_;(case hd=>rfl);(case hg=>rfl);(case hr=>first|(go_simp;done)|(go_simp;rfl));intro gb297 hg w16 hbox hb;have BK297:=am (hbox);have GW297:=am (ge_ bl hg);have GE297:=am (ge_ bl hg);replace HB:=am (below_step bl hb);have NB296_297:=am (nl (bup BK296.out) hg);have NB297_296:=am (ng (bup BK296.out) hg);replace BK296:=am (blk_below (bup BK296.out) hb);clear hb hbox hg;have hnb17:=NB296_297.out;have hnc17:=NB297_296.out;have hcz18_0:=bc BK296.out 0;have hcz18_1:=bc BK296.out 1;have hcz18_2:=bc BK296.out 2;have hfz18_0:=blk_frozen BK296.out 0;have hfz18_1:=blk_frozen BK296.out 1;have hfz18_2:=blk_frozen BK296.out 2;have hcz19_0:=bc BK297.out 0;have hcz19_1:=bc BK297.out 1;have hcz19_2:=bc BK297.out 2;have hfz19_0:=blk_frozen BK297.out 0;have hfz19_1:=blk_frozen BK297.out 1;have hfz19_2:=blk_frozen BK297.out 2))
   go_ret
   exact⟨fin1,bl⟩

end Go.Proofs.Ytdcchnfndhkfaaa.PFnPassesPlays
