/- Walks of functions that FnPassesPlays reaches. No conditions beyond the arguments' being read. -/
import Derived.Test.YtdcchnfndhkfaaaSFnPassesPlays0
import Derived.Test.YtdcchnfndhkfaaaSFnPassesPlays9
import Derived.Test.YtdcchnfndhkfaaaSFnPassesPlays11
import Derived.Test.YtdcchnfndhkfaaaSFnPassesPlays12
namespace Go.Proofs.Ytdcchnfndhkfaaa.PFnPassesPlays
open Go.RowKit Go.Proofs.YtdcchnfndhkfaaaW.PrintWords Go.Proofs.YtdcchnfndhkfaaaW.PrintLast Go.Proofs.YtdcchnfndhkfaaaW.PrintMore
attribute [local go_sem] max2_int min2_int max_two min_two max_three min_three max_four min_four
set_option linter.unusedVariables false
set_option linter.unusedSimpArgs false

def spec_vfAsked.f (k:Nat) (l0_0:List Int) (a0_1:Int) (l1:List (S35)) (l2:List (S60)):Option (Bool):=(spec_inAsked.f k l0_0 a0_1 l1).bind fun t310=>(if t310=true then((spec_shGood.f k l2).bind fun t311=>(some t311)) else(some false))
set_option maxHeartbeats 8000000 in
set_option maxRecDepth 100000 in
theorem spec_vfAsked.calls (k:Nat) (A0_0:Option Addr) (c0_0:Nat) (l0_0:List Int) (a0_1:Int) (A1:Option Addr) (c1:Nat) (l1:List (S35)) (A2:Option Addr) (c2:Nat) (l2:List (S60)) (r:Bool) (w:World) (hr0_0:Kd.C (Kd.int .i64) w A0_0 l0_0.length l0_0) (hc0_0:l0_0.length≤c0_0) (hr1:Kd.C k35 w A1 l1.length l1) (hc1:l1.length≤c1) (hr2:Kd.C k60 w A2 l2.length l2) (hc2:l2.length≤c2) (h:spec_vfAsked.f k l0_0 a0_1 l1 l2=some r) :
  Calls Try.prog 18 #[.agg #[.slice A0_0 l0_0.length c0_0,.int .i64 a0_1],.slice A1 l1.length c1,.slice A2 l2.length c2] w fun e w'=>e = .returned (.bool r)∧Below w.heap.size w w':=by
 have hu24:=Try.underlying24
 have HR0_0:=am hr0_0
 have HC0_0:=am hc0_0
 clear hr0_0 hc0_0
 have HR1:=am hr1
 have HC1:=am hc1
 clear hr1 hc1
 have HR2:=am hr2
 have HC2:=am hc2
 clear hr2 hc2
 have HB:=am (Below.refl w.heap.size w)
 have H:((spec_inAsked.f k l0_0 a0_1 l1).bind fun t310=>(if t310=true then((spec_shGood.f k l2).bind fun t311=>(some t311)) else(some false)))=some r:=h
 clear h
 obtain⟨t310,A4,H⟩:=bnd H
 by_cases c5:t310=true
 ·subst c5
  replace H:=(if_pos rfl).symm.trans H
  obtain⟨t311,A6,H⟩:=bnd H
  obtain rfl:=Option.some.inj H
  go_enter Try.func18,Try.ntmps18
  go_wp2_with (first|((with_reducible refine gate_dst (N:=3) rfl ?_);refine box_event ?hg (N:=3) ?hd (cs := #[.slice A0_0 l0_0.length c0_0,.int .i64 a0_1]) (t:=24) ?hr ?_;(case hd=>rfl);(case hg=>rfl);(case hr=>first|(go_simp;done)|(go_simp;rfl));intro gb309 hg w7 hbox hb;have BK309:=am (hbox);have GW309:=am (ge_ bl hg);have GE309:=am (ge_ bl hg);replace HB:=am (below_step bl hb);clear hb hbox hg;have hcz8_0:=bc BK309.out 0;have hcz8_1:=bc BK309.out 1;have hfz8_0:=blk_frozen BK309.out 0;have hfz8_1:=blk_frozen BK309.out 1)|((with_reducible refine gate_callee (f:=33) rfl ?_);refine goesL_ (some 9) rfl rfl Try.func33 (by kernel_rfl) rfl #[.agg #[.slice A0_0 l0_0.length c0_0,.int .i64 a0_1],.slice A1 l1.length c1] rfl tl ?_;(with_reducible refine(spec_inAsked.calls k _ _ l0_0 a0_1 _ _ l1 true _ ?side1 ?side2 ?side3 ?side4 A4.out).mono ?_);(case side1=>exact cup (Kd.C_below HR0_0.out HB.out));(case side2=>exact HC0_0.out);(case side3=>exact cup (Kd.C_below HR1.out HB.out));(case side4=>exact HC1.out);rintro e w9 ⟨rfl,hb⟩;refine⟨_,rfl,?_⟩;replace BK309:=am (blk_below (bup BK309.out) hb);replace HB:=am (below_step bl hb);(try clear hb))|(go_at_call 34;(with_reducible refine(spec_shGood.calls k _ _ l2 t311 _ ?side1 ?side2 A6.out).mono ?_);(case side1=>exact cup (Kd.C_below HR2.out HB.out));(case side2=>exact HC2.out);rintro e w10 ⟨rfl,hb⟩;replace BK309:=am (blk_below (bup BK309.out) hb);replace HB:=am (below_step bl hb);(try clear hb)))
  go_ret
  exact⟨fin1,bl⟩
 ·replace c5:=Bool.eq_false_iff.mpr c5
  subst c5
  replace H:=(if_neg Bool.false_ne_true).symm.trans H
  obtain rfl:=Option.some.inj H
  go_enter Try.func18,Try.ntmps18
  go_wp2_with (first|((with_reducible refine gate_dst (N:=3) rfl ?_);refine box_event ?hg (N:=3) ?hd (cs := #[.slice A0_0 l0_0.length c0_0,.int .i64 a0_1]) (t:=24) ?hr ?_;(case hd=>rfl);(case hg=>rfl);(case hr=>first|(go_simp;done)|(go_simp;rfl));intro gb309 hg w11 hbox hb;have BK309:=am (hbox);have GW309:=am (ge_ bl hg);have GE309:=am (ge_ bl hg);replace HB:=am (below_step bl hb);clear hb hbox hg;have hcz12_0:=bc BK309.out 0;have hcz12_1:=bc BK309.out 1;have hfz12_0:=blk_frozen BK309.out 0;have hfz12_1:=blk_frozen BK309.out 1)|((with_reducible refine gate_callee (f:=33) rfl ?_);refine goesL_ (some 9) rfl rfl Try.func33 (by kernel_rfl) rfl #[.agg #[.slice A0_0 l0_0.length c0_0,.int .i64 a0_1],.slice A1 l1.length c1] rfl tl ?_;(with_reducible refine(spec_inAsked.calls k _ _ l0_0 a0_1 _ _ l1 false _ ?side1 ?side2 ?side3 ?side4 A4.out).mono ?_);(case side1=>exact cup (Kd.C_below HR0_0.out HB.out));(case side2=>exact HC0_0.out);(case side3=>exact cup (Kd.C_below HR1.out HB.out));(case side4=>exact HC1.out);rintro e w13 ⟨rfl,hb⟩;refine⟨_,rfl,?_⟩;replace BK309:=am (blk_below (bup BK309.out) hb);replace HB:=am (below_step bl hb);(try clear hb)))
  go_ret
  exact⟨fin1,bl⟩

def spec_pyAction.f (a0_0:Int) (a0_1:Int) (a0_2:Int):Option (Bool):=(spec_l1In.f a0_0 0 40).bind fun t313=>(if t313=true then((spec_l1In.f a0_1 0 40).bind fun t314=>(if t314=true then((spec_l1In.f a0_2 0 40).bind fun t315=>(some t315)) else(some false))) else(some false))
set_option maxHeartbeats 8000000 in
set_option maxRecDepth 100000 in
theorem spec_pyAction.calls (a0_0:Int) (a0_1:Int) (a0_2:Int) (r:Bool) (w:World) (h:spec_pyAction.f a0_0 a0_1 a0_2=some r) :
  Calls Try.prog 19 #[.agg #[.int .i64 a0_0,.int .i64 a0_1,.int .i64 a0_2]] w fun e w'=>e = .returned (.bool r)∧Below w.heap.size w w':=by
 have hu28:=Try.underlying28
 have HB:=am (Below.refl w.heap.size w)
 have H:((spec_l1In.f a0_0 0 40).bind fun t313=>(if t313=true then((spec_l1In.f a0_1 0 40).bind fun t314=>(if t314=true then((spec_l1In.f a0_2 0 40).bind fun t315=>(some t315)) else(some false))) else(some false)))=some r:=h
 clear h
 obtain⟨t313,A2,H⟩:=bnd H
 by_cases c3:t313=true
 ·subst c3
  replace H:=(if_pos rfl).symm.trans H
  obtain⟨t314,A4,H⟩:=bnd H
  by_cases c5:t314=true
  ·subst c5
   replace H:=(if_pos rfl).symm.trans H
   obtain⟨t315,A6,H⟩:=bnd H
   obtain rfl:=Option.some.inj H
   go_enter Try.func19,Try.ntmps19
   go_wp2_with (first|((with_reducible refine gate_dst (N:=1) rfl ?_);refine box_event ?hg (N:=1) ?hd (cs := #[.int .i64 a0_0,.int .i64 a0_1,.int .i64 a0_2]) (t:=28) ?hr ?_;(case hd=>rfl);(case hg=>rfl);(case hr=>first|(go_simp;done)|(go_simp;rfl));intro gb312 hg w7 hbox hb;have BK312:=am (hbox);have GW312:=am (ge_ bl hg);have GE312:=am (ge_ bl hg);replace HB:=am (below_step bl hb);clear hb hbox hg;have hcz8_0:=bc BK312.out 0;have hcz8_1:=bc BK312.out 1;have hcz8_2:=bc BK312.out 2;have hfz8_0:=blk_frozen BK312.out 0;have hfz8_1:=blk_frozen BK312.out 1;have hfz8_2:=blk_frozen BK312.out 2)|((with_reducible refine gate_callee (f:=35) rfl ?_);refine goesL_ (some 5) rfl rfl Try.func35 (by kernel_rfl) rfl #[.int .i64 a0_0,.int .i64 0,.int .i64 40] rfl tl ?_;(with_reducible refine(spec_l1In.calls a0_0 0 40 true _ A2.out).mono ?_);rintro e w' ⟨rfl,⟨nd,rfl⟩⟩;refine⟨_,rfl,?_⟩)|(go_at_call 35;(with_reducible refine(spec_l1In.calls a0_1 0 40 true _ A4.out).mono ?_);rintro e w' ⟨rfl,⟨nd,rfl⟩⟩)|(go_at_call 35;(with_reducible refine(spec_l1In.calls a0_2 0 40 t315 _ A6.out).mono ?_);rintro e w' ⟨rfl,⟨nd,rfl⟩⟩))
   go_ret
   exact⟨fin1,bl⟩
  ·replace c5:=Bool.eq_false_iff.mpr c5
   subst c5
   replace H:=(if_neg Bool.false_ne_true).symm.trans H
   obtain rfl:=Option.some.inj H
   go_enter Try.func19,Try.ntmps19
   go_wp2_with (first|((with_reducible refine gate_dst (N:=1) rfl ?_);refine box_event ?hg (N:=1) ?hd (cs := #[.int .i64 a0_0,.int .i64 a0_1,.int .i64 a0_2]) (t:=28) ?hr ?_;(case hd=>rfl);(case hg=>rfl);(case hr=>first|(go_simp;done)|(go_simp;rfl));intro gb312 hg w9 hbox hb;have BK312:=am (hbox);have GW312:=am (ge_ bl hg);have GE312:=am (ge_ bl hg);replace HB:=am (below_step bl hb);clear hb hbox hg;have hcz10_0:=bc BK312.out 0;have hcz10_1:=bc BK312.out 1;have hcz10_2:=bc BK312.out 2;have hfz10_0:=blk_frozen BK312.out 0;have hfz10_1:=blk_frozen BK312.out 1;have hfz10_2:=blk_frozen BK312.out 2)|((with_reducible refine gate_callee (f:=35) rfl ?_);refine goesL_ (some 5) rfl rfl Try.func35 (by kernel_rfl) rfl #[.int .i64 a0_0,.int .i64 0,.int .i64 40] rfl tl ?_;(with_reducible refine(spec_l1In.calls a0_0 0 40 true _ A2.out).mono ?_);rintro e w' ⟨rfl,⟨nd,rfl⟩⟩;refine⟨_,rfl,?_⟩)|(go_at_call 35;(with_reducible refine(spec_l1In.calls a0_1 0 40 false _ A4.out).mono ?_);rintro e w' ⟨rfl,⟨nd,rfl⟩⟩))
   go_ret
   exact⟨fin1,bl⟩
 ·replace c3:=Bool.eq_false_iff.mpr c3
  subst c3
  replace H:=(if_neg Bool.false_ne_true).symm.trans H
  obtain rfl:=Option.some.inj H
  go_enter Try.func19,Try.ntmps19
  go_wp2_with (first|((with_reducible refine gate_dst (N:=1) rfl ?_);refine box_event ?hg (N:=1) ?hd (cs := #[.int .i64 a0_0,.int .i64 a0_1,.int .i64 a0_2]) (t:=28) ?hr ?_;(case hd=>rfl);(case hg=>rfl);(case hr=>first|(go_simp;done)|(go_simp;rfl));intro gb312 hg w11 hbox hb;have BK312:=am (hbox);have GW312:=am (ge_ bl hg);have GE312:=am (ge_ bl hg);replace HB:=am (below_step bl hb);clear hb hbox hg;have hcz12_0:=bc BK312.out 0;have hcz12_1:=bc BK312.out 1;have hcz12_2:=bc BK312.out 2;have hfz12_0:=blk_frozen BK312.out 0;have hfz12_1:=blk_frozen BK312.out 1;have hfz12_2:=blk_frozen BK312.out 2)|((with_reducible refine gate_callee (f:=35) rfl ?_);refine goesL_ (some 5) rfl rfl Try.func35 (by kernel_rfl) rfl #[.int .i64 a0_0,.int .i64 0,.int .i64 40] rfl tl ?_;(with_reducible refine(spec_l1In.calls a0_0 0 40 false _ A2.out).mono ?_);rintro e w' ⟨rfl,⟨nd,rfl⟩⟩;refine⟨_,rfl,?_⟩))
  go_ret
  exact⟨fin1,bl⟩

def spec_vfMost.f (a0:Int):Option (Bool):=(spec_l1In.f a0 0 50).bind fun t316=>(some t316)
set_option maxHeartbeats 8000000 in
set_option maxRecDepth 100000 in
theorem spec_vfMost.calls (a0:Int) (r:Bool) (w:World) (h:spec_vfMost.f a0=some r) :
  Calls Try.prog 20 #[.int .i64 a0] w fun e w'=>e = .returned (.bool r)∧Drawn0 w w':=by
 have H:((spec_l1In.f a0 0 50).bind fun t316=>(some t316))=some r:=h
 clear h
 obtain⟨t316,A2,H⟩:=bnd H
 obtain rfl:=Option.some.inj H
 go_enter Try.func20,Try.ntmps20
 go_wp2_with (first|((with_reducible refine gate_callee (f:=35) rfl ?_);refine goesL_ (some 4) rfl rfl Try.func35 (by kernel_rfl) rfl #[.int .i64 a0,.int .i64 0,.int .i64 50] rfl tl ?_;(with_reducible refine(spec_l1In.calls a0 0 50 t316 _ A2.out).mono ?_);rintro e w' ⟨rfl,⟨nd,rfl⟩⟩;refine⟨_,rfl,?_⟩))
 go_ret
 exact⟨by first|rfl|(simp;done)|(simp [*];done),by repeat(first|exact Drawn0.refl _|apply Drawn0.step)⟩

def spec_vfAll.f (k:Nat) (l0_0:List Int) (a0_1:Int) (l1:List (S35)) (l2:List (S60)) (a3_0:Int) (a3_1:Int) (a3_2:Int) (a4:Int):Option (Bool):=(spec_vfAsked.f k l0_0 a0_1 l1 l2).bind fun t319=>(if t319=true then((spec_pyAction.f a3_0 a3_1 a3_2).bind fun t320=>(if t320=true then((spec_vfMost.f a4).bind fun t321=>(some t321)) else(some false))) else(some false))
set_option maxHeartbeats 8000000 in
set_option maxRecDepth 100000 in
theorem spec_vfAll.calls (k:Nat) (A0_0:Option Addr) (c0_0:Nat) (l0_0:List Int) (a0_1:Int) (A1:Option Addr) (c1:Nat) (l1:List (S35)) (A2:Option Addr) (c2:Nat) (l2:List (S60)) (a3_0:Int) (a3_1:Int) (a3_2:Int) (a4:Int) (r:Bool) (w:World) (hr0_0:Kd.C (Kd.int .i64) w A0_0 l0_0.length l0_0) (hc0_0:l0_0.length≤c0_0) (hr1:Kd.C k35 w A1 l1.length l1) (hc1:l1.length≤c1) (hr2:Kd.C k60 w A2 l2.length l2) (hc2:l2.length≤c2) (h:spec_vfAll.f k l0_0 a0_1 l1 l2 a3_0 a3_1 a3_2 a4=some r) :
  Calls Try.prog 9 #[.agg #[.slice A0_0 l0_0.length c0_0,.int .i64 a0_1],.slice A1 l1.length c1,.slice A2 l2.length c2,.agg #[.int .i64 a3_0,.int .i64 a3_1,.int .i64 a3_2],.int .i64 a4] w fun e w'=>e = .returned (.bool r)∧Below w.heap.size w w':=by
 have hu24:=Try.underlying24
 have hu28:=Try.underlying28
 have HR0_0:=am hr0_0
 have HC0_0:=am hc0_0
 clear hr0_0 hc0_0
 have HR1:=am hr1
 have HC1:=am hc1
 clear hr1 hc1
 have HR2:=am hr2
 have HC2:=am hc2
 clear hr2 hc2
 have HB:=am (Below.refl w.heap.size w)
 have H:((spec_vfAsked.f k l0_0 a0_1 l1 l2).bind fun t319=>(if t319=true then((spec_pyAction.f a3_0 a3_1 a3_2).bind fun t320=>(if t320=true then((spec_vfMost.f a4).bind fun t321=>(some t321)) else(some false))) else(some false)))=some r:=h
 clear h
 obtain⟨t319,A6,H⟩:=bnd H
 by_cases c7:t319=true
 ·subst c7
  replace H:=(if_pos rfl).symm.trans H
  obtain⟨t320,A8,H⟩:=bnd H
  by_cases c9:t320=true
  ·subst c9
   replace H:=(if_pos rfl).symm.trans H
   obtain⟨t321,A10,H⟩:=bnd H
   obtain rfl:=Option.some.inj H
   go_enter Try.func9,Try.ntmps9
   go_wp2_with (first|((with_reducible refine gate_dst (N:=5) rfl ?_);refine box_event ?hg (N:=5) ?hd (cs := #[.slice A0_0 l0_0.length c0_0,.int .i64 a0_1]) (t:=24) ?hr ?_;(case hd=>rfl);(case hg=>rfl);(case hr=>first|(go_simp;done)|(go_simp;rfl));intro gb317 hg w11 hbox hb;have BK317:=am (hbox);have GW317:=am (ge_ bl hg);have GE317:=am (ge_ bl hg);replace HB:=am (below_step bl hb);clear hb hbox hg)|((with_reducible refine gate_dst (N:=8) rfl ?_);refine box_event ?hg (N:=8) ?hd (cs := #[.int .i64 a3_0,.int .i64 a3_1,.int .i64 a3_2]) (t:=28) ?hr ?_;(case hd=>rfl);(case hg=>rfl);(case hr=>first|(go_simp;done)|(go_simp;rfl));intro gb318 hg w12 hbox hb;have BK318:=am (hbox);have GW318:=am (ge_ bl hg);have GE318:=am (ge_ bl hg);replace HB:=am (below_step bl hb);have NB317_318:=am (nl (bup BK317.out) hg);have NB318_317:=am (ng (bup BK317.out) hg);replace BK317:=am (blk_below (bup BK317.out) hb);clear hb hbox hg;have hnb13:=NB317_318.out;have hnc13:=NB318_317.out;have hcz14_0:=bc BK317.out 0;have hcz14_1:=bc BK317.out 1;have hfz14_0:=blk_frozen BK317.out 0;have hfz14_1:=blk_frozen BK317.out 1)|((with_reducible refine gate_callee (f:=18) rfl ?_);refine goesL_ (some 14) rfl rfl Try.func18 (by kernel_rfl) rfl #[.agg #[.slice A0_0 l0_0.length c0_0,.int .i64 a0_1],.slice A1 l1.length c1,.slice A2 l2.length c2] rfl tl ?_;(with_reducible refine(spec_vfAsked.calls k _ _ l0_0 a0_1 _ _ l1 _ _ l2 true _ ?side1 ?side2 ?side3 ?side4 ?side5 ?side6 A6.out).mono ?_);(case side1=>exact cup (Kd.C_below HR0_0.out HB.out));(case side2=>exact HC0_0.out);(case side3=>exact cup (Kd.C_below HR1.out HB.out));(case side4=>exact HC1.out);(case side5=>exact cup (Kd.C_below HR2.out HB.out));(case side6=>exact HC2.out);rintro e w15 ⟨rfl,hb⟩;refine⟨_,rfl,?_⟩;replace BK317:=am (blk_below (bup BK317.out) hb);replace BK318:=am (blk_below (bup BK318.out) hb);replace HB:=am (below_step bl hb);(try clear hb);have hcz16_0:=bc BK318.out 0;have hcz16_1:=bc BK318.out 1;have hcz16_2:=bc BK318.out 2;have hfz16_0:=blk_frozen BK318.out 0;have hfz16_1:=blk_frozen BK318.out 1;have hfz16_2:=blk_frozen BK318.out 2)|(go_at_call 19;(with_reducible refine(spec_pyAction.calls a3_0 a3_1 a3_2 true _ A8.out).mono ?_);rintro e w17 ⟨rfl,hb⟩;replace BK317:=am (blk_below (bup BK317.out) hb);replace BK318:=am (blk_below (bup BK318.out) hb);replace HB:=am (below_step bl hb);(try clear hb))|(go_at_call 20;(with_reducible refine(spec_vfMost.calls a4 t321 _ A10.out).mono ?_);rintro e w' ⟨rfl,⟨nd,rfl⟩⟩))
   go_ret
   exact⟨fin1,bl⟩
  ·replace c9:=Bool.eq_false_iff.mpr c9
   subst c9
   replace H:=(if_neg Bool.false_ne_true).symm.trans H
   obtain rfl:=Option.some.inj H
   go_enter Try.func9,Try.ntmps9
   go_wp2_with (first|((with_reducible refine gate_dst (N:=5) rfl ?_);refine box_event ?hg (N:=5) ?hd (cs := #[.slice A0_0 l0_0.length c0_0,.int .i64 a0_1]) (t:=24) ?hr ?_;(case hd=>rfl);(case hg=>rfl);(case hr=>first|(go_simp;done)|(go_simp;rfl));intro gb317 hg w18 hbox hb;have BK317:=am (hbox);have GW317:=am (ge_ bl hg);have GE317:=am (ge_ bl hg);replace HB:=am (below_step bl hb);clear hb hbox hg)|((with_reducible refine gate_dst (N:=8) rfl ?_);refine box_event ?hg (N:=8) ?hd (cs := #[.int .i64 a3_0,.int .i64 a3_1,.int .i64 a3_2]) (t:=28) ?hr ?_;(case hd=>rfl);(case hg=>rfl);(case hr=>first|(go_simp;done)|(go_simp;rfl));intro gb318 hg w19 hbox hb;have BK318:=am (hbox);have GW318:=am (ge_ bl hg);have GE318:=am (ge_ bl hg);replace HB:=am (below_step bl hb);have NB317_318:=am (nl (bup BK317.out) hg);have NB318_317:=am (ng (bup BK317.out) hg);replace BK317:=am (blk_below (bup BK317.out) hb);clear hb hbox hg;have hnb20:=NB317_318.out;have hnc20:=NB318_317.out;have hcz21_0:=bc BK317.out 0;have hcz21_1:=bc BK317.out 1;have hfz21_0:=blk_frozen BK317.out 0;have hfz21_1:=blk_frozen BK317.out 1)|((with_reducible refine gate_callee (f:=18) rfl ?_);refine goesL_ (some 14) rfl rfl Try.func18 (by kernel_rfl) rfl #[.agg #[.slice A0_0 l0_0.length c0_0,.int .i64 a0_1],.slice A1 l1.length c1,.slice A2 l2.length c2] rfl tl ?_;(with_reducible refine(spec_vfAsked.calls k _ _ l0_0 a0_1 _ _ l1 _ _ l2 true _ ?side1 ?side2 ?side3 ?side4 ?side5 ?side6 A6.out).mono ?_);(case side1=>exact cup (Kd.C_below HR0_0.out HB.out));(case side2=>exact HC0_0.out);(case side3=>exact cup (Kd.C_below HR1.out HB.out));(case side4=>exact HC1.out);(case side5=>exact cup (Kd.C_below HR2.out HB.out));(case side6=>exact HC2.out);rintro e w22 ⟨rfl,hb⟩;refine⟨_,rfl,?_⟩;replace BK317:=am (blk_below (bup BK317.out) hb);replace BK318:=am (blk_below (bup BK318.out) hb);replace HB:=am (below_step bl hb);(try clear hb);have hcz23_0:=bc BK318.out 0;have hcz23_1:=bc BK318.out 1;have hcz23_2:=bc BK318.out 2;have hfz23_0:=blk_frozen BK318.out 0;have hfz23_1:=blk_frozen BK318.out 1;have hfz23_2:=blk_frozen BK318.out 2)|(go_at_call 19;(with_reducible refine(spec_pyAction.calls a3_0 a3_1 a3_2 false _ A8.out).mono ?_);rintro e w24 ⟨rfl,hb⟩;replace BK317:=am (blk_below (bup BK317.out) hb);replace BK318:=am (blk_below (bup BK318.out) hb);replace HB:=am (below_step bl hb);(try clear hb)))
   go_ret
   exact⟨fin1,bl⟩
 ·replace c7:=Bool.eq_false_iff.mpr c7
  subst c7
  replace H:=(if_neg Bool.false_ne_true).symm.trans H
  obtain rfl:=Option.some.inj H
  go_enter Try.func9,Try.ntmps9
  go_wp2_with (first|((with_reducible refine gate_dst (N:=5) rfl ?_);refine box_event ?hg (N:=5) ?hd (cs := #[.slice A0_0 l0_0.length c0_0,.int .i64 a0_1]) (t:=24) ?hr ?_;(case hd=>rfl);(case hg=>rfl);(case hr=>first|(go_simp;done)|(go_simp;rfl));intro gb317 hg w25 hbox hb;have BK317:=am (hbox);have GW317:=am (ge_ bl hg);have GE317:=am (ge_ bl hg);replace HB:=am (below_step bl hb);clear hb hbox hg)|((with_reducible refine gate_dst (N:=8) rfl ?_);refine box_event ?hg (N:=8) ?hd (cs := #[.int .i64 a3_0,.int .i64 a3_1,.int .i64 a3_2]) (t:=28) ?hr ?_;(case hd=>rfl);(case hg=>rfl);(case hr=>first|(go_simp;done)|(go_simp;rfl));intro gb318 hg w26 hbox hb;have BK318:=am (hbox);have GW318:=am (ge_ bl hg);have GE318:=am (ge_ bl hg);replace HB:=am (below_step bl hb);have NB317_318:=am (nl (bup BK317.out) hg);have NB318_317:=am (ng (bup BK317.out) hg);replace BK317:=am (blk_below (bup BK317.out) hb);clear hb hbox hg;have hnb27:=NB317_318.out;have hnc27:=NB318_317.out;have hcz28_0:=bc BK317.out 0;have hcz28_1:=bc BK317.out 1;have hfz28_0:=blk_frozen BK317.out 0;have hfz28_1:=blk_frozen BK317.out 1)|((with_reducible refine gate_callee (f:=18) rfl ?_);refine goesL_ (some 14) rfl rfl Try.func18 (by kernel_rfl) rfl #[.agg #[.slice A0_0 l0_0.length c0_0,.int .i64 a0_1],.slice A1 l1.length c1,.slice A2 l2.length c2] rfl tl ?_;(with_reducible refine(spec_vfAsked.calls k _ _ l0_0 a0_1 _ _ l1 _ _ l2 false _ ?side1 ?side2 ?side3 ?side4 ?side5 ?side6 A6.out).mono ?_);(case side1=>exact cup (Kd.C_below HR0_0.out HB.out));(case side2=>exact HC0_0.out);(case side3=>exact cup (Kd.C_below HR1.out HB.out));(case side4=>exact HC1.out);(case side5=>exact cup (Kd.C_below HR2.out HB.out));(case side6=>exact HC2.out);rintro e w29 ⟨rfl,hb⟩;refine⟨_,rfl,?_⟩;replace BK317:=am (blk_below (bup BK317.out) hb);replace BK318:=am (blk_below (bup BK318.out) hb);replace HB:=am (below_step bl hb);(try clear hb)))
  go_ret
  exact⟨fin1,bl⟩

def spec_inTrack.l0:Nat→Int→List Int→Int→Int→Option (Int)
 | 0,_,_,_,_=>none
 | k+1,x1,x8,x9,x10=>if x10<x9 then(if 0≤x10 then(if x10<(x8.length:Int) then(if(rd x8 x10)=x1 then(some x10) else(spec_inTrack.l0 k x1 x8 x9 (wrap64 (x10+1)))) else(none)) else(none)) else(some (-1))
def spec_inTrack.f (k:Nat) (l0_0:List Int) (a0_1:Int) (a1:Int):Option (Int):=spec_inTrack.l0 k a1 l0_0 (l0_0.length:Int) 0
set_option maxHeartbeats 8000000 in
set_option maxRecDepth 100000 in
theorem spec_inTrack.calls (k:Nat) (A0_0:Option Addr) (c0_0:Nat) (l0_0:List Int) (a0_1:Int) (a1:Int) (r:Int) (w:World) (hr0_0:Kd.C (Kd.int .i64) w A0_0 l0_0.length l0_0) (hc0_0:l0_0.length≤c0_0) (h:spec_inTrack.f k l0_0 a0_1 a1=some r) :
  Calls Try.prog 36 #[.agg #[.slice A0_0 l0_0.length c0_0,.int .i64 a0_1],.int .i64 a1] w fun e w'=>e = .returned (.int .i64 r)∧Below w.heap.size w w':=by
 have hu24:=Try.underlying24
 have HR0_0:=am hr0_0
 have HC0_0:=am hc0_0
 clear hr0_0 hc0_0
 have HB:=am (Below.refl w.heap.size w)
 have H:(spec_inTrack.l0 k a1 l0_0 (l0_0.length:Int) 0)=some r:=h
 clear h
 have H':=am H
 clear H
 go_enter Try.func36,Try.ntmps36
 go_wp2_with (first|((with_reducible refine gate_dst (N:=2) rfl ?_);refine box_event ?hg (N:=2) ?hd (cs := #[.slice A0_0 l0_0.length c0_0,.int .i64 a0_1]) (t:=24) ?hr ?_;(case hd=>rfl);(case hg=>rfl);(case hr=>first|(go_simp;done)|(go_simp;rfl));intro gb322 hg w3 hbox hb;have BK322:=am (hbox);have GW322:=am (ge_ bl hg);have GE322:=am (ge_ bl hg);replace HB:=am (below_step bl hb);clear hb hbox hg;have hcz4_0:=bc BK322.out 0;have hcz4_1:=bc BK322.out 1;have hfz4_0:=blk_frozen BK322.out 0;have hfz4_1:=blk_frozen BK322.out 1))
 go_loopg [10] k (fun kq v10 w'=>∃(x10_1:Int),v10 = .int .i64 x10_1∧Aside0 (spec_inTrack.l0 kq a1 l0_0 (l0_0.length:Int) x10_1=some r)∧Aside0 (kq≤k)∧Aside0 (w'.heap[gb322]?=some (.cells #[(.slice A0_0 l0_0.length c0_0),.int .i64 a0_1] 24 (0,0)))∧Aside0 (Below w.heap.size w w'))
 case atStart=>exact⟨(0),fin2,H',⟨Nat.le_refl _⟩,⟨bup BK322.out⟩,⟨bl⟩⟩
 case round =>
  clear H'
  try clear hcz4_0
  try clear hcz4_1
  try clear hfz4_0
  try clear hfz4_1
  obtain⟨x10_1,rfl,HA,HK1,BK322,HB⟩:=hrel
  cases gk with
  | zero=>exact absurd HA.out (by simp [spec_inTrack.l0])
  | succ k1 =>
   have H:=HA.out
   clear HA
   simp only[spec_inTrack.l0] at H
   rcases itc H with⟨c5,H⟩|⟨c5,H⟩
   ·have c5b0:=decide_eq_true c5
    clear c5
    obtain⟨c6b0,H⟩:=ifb H
    obtain⟨c7b0,H⟩:=ifb H
    rcases itc H with⟨c8,H⟩|⟨c8,H⟩
    ·have c8b0:((rd l0_0 x10_1) == a1)=true:=beq_iff_eq.mpr c8
     have c8b1:((rd l0_0 x10_1) != a1)=false:=bne_eq_false_iff_eq.mpr c8
     clear c8
     obtain rfl:=Option.some.inj H
     have p323:0≤(x10_1:Int):=od
     have q323:x10_1<(l0_0.length:Int):=od
     obtain⟨ad323,e323,hx323_0⟩:=Kd.at_int HR0_0.out x10_1 p323 q323
     cases e323
     replace hx323_0:=(HB.out.cell (World.block_lt_of_cell? w _ hx323_0)).trans hx323_0
     replace p323:=eq_true p323
     replace q323:=eq_true q323
     go_wp2
     go_ret
     exact⟨fin1,bl⟩
    ·have c8b0:((rd l0_0 x10_1) == a1)=false:=beq_eq_false_iff_ne.mpr c8
     have c8b1:((rd l0_0 x10_1) != a1)=true:=bne_iff_ne.mpr c8
     have H':=am H
     clear H
     have p323:0≤(x10_1:Int):=od
     have q323:x10_1<(l0_0.length:Int):=od
     obtain⟨ad323,e323,hx323_0⟩:=Kd.at_int HR0_0.out x10_1 p323 q323
     cases e323
     replace hx323_0:=(HB.out.cell (World.block_lt_of_cell? w _ hx323_0)).trans hx323_0
     replace p323:=eq_true p323
     replace q323:=eq_true q323
     go_wp2
     go_roundg k1
     case measure=>have:=HK1.out;omega
     case rel=>exact⟨(wrap64 (x10_1+1)),fin2,H',⟨by have:=HK1.out;omega⟩,⟨bup BK322.out⟩,⟨bl⟩⟩
   ·have c5b0:=decide_eq_false c5
    clear c5
    obtain rfl:=Option.some.inj H
    go_wp2
    go_ret
    exact⟨fin1,bl⟩

end Go.Proofs.Ytdcchnfndhkfaaa.PFnPassesPlays
