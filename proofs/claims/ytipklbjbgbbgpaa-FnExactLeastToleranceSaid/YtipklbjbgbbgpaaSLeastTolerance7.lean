/- The walks of functions that FnExactLeastTolerance reaches: what they return is what the plain functions of the same names say. Laid by a program of this session after the kit's print. No conditions beyond the arguments' being read. -/
import Derived.Test.YtipklbjbgbbgpaaSLeastTolerance0
import Derived.Test.YtipklbjbgbbgpaaSLeastTolerance2
import Derived.Test.YtipklbjbgbbgpaaSLeastTolerance5
import Derived.Test.YtipklbjbgbbgpaaSLeastTolerance6
namespace Go.Proofs.Ytipklbjbgbbgpaa.PFnExactLeastTolerance
open Go.RowKit Go.Proofs.YtipklbjbgbbgpaaW.PrintWords Go.Proofs.YtipklbjbgbbgpaaW.PrintLast Go.Proofs.YtipklbjbgbbgpaaW.PrintMore
attribute [local go_sem] max2_int min2_int max_two min_two max_three min_three max_four min_four   -- for this text's walks alone
set_option linter.unusedVariables false
set_option linter.unusedSimpArgs false

def spec_vfAsked.f (k:Nat) (l0_0:List Int) (a0_1:Int) (l1:List (S62)) (l2:List (S66)):Option (Bool):=(spec_inAsked.f k l0_0 a0_1 l1).bind fun t203=>(if t203=true then((spec_shGood.f k l2).bind fun t204=>(some t204)) else(some false))
set_option maxHeartbeats 8000000 in
set_option maxRecDepth 100000 in
theorem spec_vfAsked.calls (k:Nat) (A0_0:Option Addr) (c0_0:Nat) (l0_0:List Int) (a0_1:Int) (A1:Option Addr) (c1:Nat) (l1:List (S62)) (A2:Option Addr) (c2:Nat) (l2:List (S66)) (r:Bool) (w:World) (hr0_0:Kd.C (Kd.int .i64) w A0_0 l0_0.length l0_0) (hc0_0:l0_0.length≤c0_0) (hr1:Kd.C k62 w A1 l1.length l1) (hc1:l1.length≤c1) (hr2:Kd.C k66 w A2 l2.length l2) (hc2:l2.length≤c2) (h:spec_vfAsked.f k l0_0 a0_1 l1 l2=some r) :
  Calls Try.prog 43 #[.agg #[.slice A0_0 l0_0.length c0_0,.int .i64 a0_1],.slice A1 l1.length c1,.slice A2 l2.length c2] w fun e w'=>e = .returned (.bool r)∧Below w.heap.size w w':=by
 have hu34:=Try.underlying34
 have HR0_0:=am hr0_0
 have HC0_0:=am hc0_0
 clear hr0_0 hc0_0
 have HR1:=am hr1
 have HC1:=am hc1
 clear hr1 hc1
 have HR2:=am hr2
 have HC2:=am hc2
 clear hr2 hc2
 have HB:=am (Below.refl w.heap.size w)
 have H:((spec_inAsked.f k l0_0 a0_1 l1).bind fun t203=>(if t203=true then((spec_shGood.f k l2).bind fun t204=>(some t204)) else(some false)))=some r:=h
 clear h
 obtain⟨t203,A4,H⟩:=bnd H
 by_cases c5:t203=true
 ·subst c5
  replace H:=(if_pos rfl).symm.trans H
  obtain⟨t204,A6,H⟩:=bnd H
  obtain rfl:=Option.some.inj H
  go_enter Try.func43,Try.ntmps43
  go_wp2_with (first|((with_reducible refine gate_dst (N:=3) rfl ?_);refine box_event ?hg (N:=3) ?hd (cs := #[.slice A0_0 l0_0.length c0_0,.int .i64 a0_1]) (t:=34) ?hr ?_;(case hd=>rfl);(case hg=>rfl);(case hr=>first|(go_simp;done)|(go_simp;rfl));intro gb202 hg w7 hbox hb;have BK202:=am (hbox);have GW202:=am (ge_ bl hg);have GE202:=am (ge_ bl hg);replace HB:=am (below_step bl hb);clear hb hbox hg;have hcz8_0:=bc BK202.out 0;have hcz8_1:=bc BK202.out 1;have hfz8_0:=blk_frozen BK202.out 0;have hfz8_1:=blk_frozen BK202.out 1)|((with_reducible refine gate_callee (f:=59) rfl ?_);refine goesL_ (some 9) rfl rfl Try.func59 (by kernel_rfl) rfl #[.agg #[.slice A0_0 l0_0.length c0_0,.int .i64 a0_1],.slice A1 l1.length c1] rfl tl ?_;(with_reducible refine(spec_inAsked.calls k _ _ l0_0 a0_1 _ _ l1 true _ ?side1 ?side2 ?side3 ?side4 A4.out).mono ?_);(case side1=>exact cup (Kd.C_below HR0_0.out HB.out));(case side2=>exact HC0_0.out);(case side3=>exact cup (Kd.C_below HR1.out HB.out));(case side4=>exact HC1.out);rintro e w9 ⟨rfl,hb⟩;refine⟨_,rfl,?_⟩;replace BK202:=am (blk_below (bup BK202.out) hb);replace HB:=am (below_step bl hb);(try clear hb))|(go_at_call 60;(with_reducible refine(spec_shGood.calls k _ _ l2 t204 _ ?side1 ?side2 A6.out).mono ?_);(case side1=>exact cup (Kd.C_below HR2.out HB.out));(case side2=>exact HC2.out);rintro e w10 ⟨rfl,hb⟩;replace BK202:=am (blk_below (bup BK202.out) hb);replace HB:=am (below_step bl hb);(try clear hb)))
  go_ret
  exact⟨fin1,bl⟩
 ·replace c5:=Bool.eq_false_iff.mpr c5
  subst c5
  replace H:=(if_neg Bool.false_ne_true).symm.trans H
  obtain rfl:=Option.some.inj H
  go_enter Try.func43,Try.ntmps43
  go_wp2_with (first|((with_reducible refine gate_dst (N:=3) rfl ?_);refine box_event ?hg (N:=3) ?hd (cs := #[.slice A0_0 l0_0.length c0_0,.int .i64 a0_1]) (t:=34) ?hr ?_;(case hd=>rfl);(case hg=>rfl);(case hr=>first|(go_simp;done)|(go_simp;rfl));intro gb202 hg w11 hbox hb;have BK202:=am (hbox);have GW202:=am (ge_ bl hg);have GE202:=am (ge_ bl hg);replace HB:=am (below_step bl hb);clear hb hbox hg;have hcz12_0:=bc BK202.out 0;have hcz12_1:=bc BK202.out 1;have hfz12_0:=blk_frozen BK202.out 0;have hfz12_1:=blk_frozen BK202.out 1)|((with_reducible refine gate_callee (f:=59) rfl ?_);refine goesL_ (some 9) rfl rfl Try.func59 (by kernel_rfl) rfl #[.agg #[.slice A0_0 l0_0.length c0_0,.int .i64 a0_1],.slice A1 l1.length c1] rfl tl ?_;(with_reducible refine(spec_inAsked.calls k _ _ l0_0 a0_1 _ _ l1 false _ ?side1 ?side2 ?side3 ?side4 A4.out).mono ?_);(case side1=>exact cup (Kd.C_below HR0_0.out HB.out));(case side2=>exact HC0_0.out);(case side3=>exact cup (Kd.C_below HR1.out HB.out));(case side4=>exact HC1.out);rintro e w13 ⟨rfl,hb⟩;refine⟨_,rfl,?_⟩;replace BK202:=am (blk_below (bup BK202.out) hb);replace HB:=am (below_step bl hb);(try clear hb)))
  go_ret
  exact⟨fin1,bl⟩

def spec_pyAction.f (a0_0:Int) (a0_1:Int) (a0_2:Int):Option (Bool):=(spec_l1In.f a0_0 0 40).bind fun t206=>(if t206=true then((spec_l1In.f a0_1 0 40).bind fun t207=>(if t207=true then((spec_l1In.f a0_2 0 40).bind fun t208=>(some t208)) else(some false))) else(some false))
set_option maxHeartbeats 8000000 in
set_option maxRecDepth 100000 in
theorem spec_pyAction.calls (a0_0:Int) (a0_1:Int) (a0_2:Int) (r:Bool) (w:World) (h:spec_pyAction.f a0_0 a0_1 a0_2=some r) :
  Calls Try.prog 44 #[.agg #[.int .i64 a0_0,.int .i64 a0_1,.int .i64 a0_2]] w fun e w'=>e = .returned (.bool r)∧Below w.heap.size w w':=by
 have hu40:=Try.underlying40
 have HB:=am (Below.refl w.heap.size w)
 have H:((spec_l1In.f a0_0 0 40).bind fun t206=>(if t206=true then((spec_l1In.f a0_1 0 40).bind fun t207=>(if t207=true then((spec_l1In.f a0_2 0 40).bind fun t208=>(some t208)) else(some false))) else(some false)))=some r:=h
 clear h
 obtain⟨t206,A2,H⟩:=bnd H
 by_cases c3:t206=true
 ·subst c3
  replace H:=(if_pos rfl).symm.trans H
  obtain⟨t207,A4,H⟩:=bnd H
  by_cases c5:t207=true
  ·subst c5
   replace H:=(if_pos rfl).symm.trans H
   obtain⟨t208,A6,H⟩:=bnd H
   obtain rfl:=Option.some.inj H
   go_enter Try.func44,Try.ntmps44
   go_wp2_with (first|((with_reducible refine gate_dst (N:=1) rfl ?_);refine box_event ?hg (N:=1) ?hd (cs := #[.int .i64 a0_0,.int .i64 a0_1,.int .i64 a0_2]) (t:=40) ?hr ?_;(case hd=>rfl);(case hg=>rfl);(case hr=>first|(go_simp;done)|(go_simp;rfl));intro gb205 hg w7 hbox hb;have BK205:=am (hbox);have GW205:=am (ge_ bl hg);have GE205:=am (ge_ bl hg);replace HB:=am (below_step bl hb);clear hb hbox hg;have hcz8_0:=bc BK205.out 0;have hcz8_1:=bc BK205.out 1;have hcz8_2:=bc BK205.out 2;have hfz8_0:=blk_frozen BK205.out 0;have hfz8_1:=blk_frozen BK205.out 1;have hfz8_2:=blk_frozen BK205.out 2)|((with_reducible refine gate_callee (f:=61) rfl ?_);refine goesL_ (some 5) rfl rfl Try.func61 (by kernel_rfl) rfl #[.int .i64 a0_0,.int .i64 0,.int .i64 40] rfl tl ?_;(with_reducible refine(spec_l1In.calls a0_0 0 40 true _ A2.out).mono ?_);rintro e w' ⟨rfl,⟨nd,rfl⟩⟩;refine⟨_,rfl,?_⟩)|(go_at_call 61;(with_reducible refine(spec_l1In.calls a0_1 0 40 true _ A4.out).mono ?_);rintro e w' ⟨rfl,⟨nd,rfl⟩⟩)|(go_at_call 61;(with_reducible refine(spec_l1In.calls a0_2 0 40 t208 _ A6.out).mono ?_);rintro e w' ⟨rfl,⟨nd,rfl⟩⟩))
   go_ret
   exact⟨fin1,bl⟩
  ·replace c5:=Bool.eq_false_iff.mpr c5
   subst c5
   replace H:=(if_neg Bool.false_ne_true).symm.trans H
   obtain rfl:=Option.some.inj H
   go_enter Try.func44,Try.ntmps44
   go_wp2_with (first|((with_reducible refine gate_dst (N:=1) rfl ?_);refine box_event ?hg (N:=1) ?hd (cs := #[.int .i64 a0_0,.int .i64 a0_1,.int .i64 a0_2]) (t:=40) ?hr ?_;(case hd=>rfl);(case hg=>rfl);(case hr=>first|(go_simp;done)|(go_simp;rfl));intro gb205 hg w9 hbox hb;have BK205:=am (hbox);have GW205:=am (ge_ bl hg);have GE205:=am (ge_ bl hg);replace HB:=am (below_step bl hb);clear hb hbox hg;have hcz10_0:=bc BK205.out 0;have hcz10_1:=bc BK205.out 1;have hcz10_2:=bc BK205.out 2;have hfz10_0:=blk_frozen BK205.out 0;have hfz10_1:=blk_frozen BK205.out 1;have hfz10_2:=blk_frozen BK205.out 2)|((with_reducible refine gate_callee (f:=61) rfl ?_);refine goesL_ (some 5) rfl rfl Try.func61 (by kernel_rfl) rfl #[.int .i64 a0_0,.int .i64 0,.int .i64 40] rfl tl ?_;(with_reducible refine(spec_l1In.calls a0_0 0 40 true _ A2.out).mono ?_);rintro e w' ⟨rfl,⟨nd,rfl⟩⟩;refine⟨_,rfl,?_⟩)|(go_at_call 61;(with_reducible refine(spec_l1In.calls a0_1 0 40 false _ A4.out).mono ?_);rintro e w' ⟨rfl,⟨nd,rfl⟩⟩))
   go_ret
   exact⟨fin1,bl⟩
 ·replace c3:=Bool.eq_false_iff.mpr c3
  subst c3
  replace H:=(if_neg Bool.false_ne_true).symm.trans H
  obtain rfl:=Option.some.inj H
  go_enter Try.func44,Try.ntmps44
  go_wp2_with (first|((with_reducible refine gate_dst (N:=1) rfl ?_);refine box_event ?hg (N:=1) ?hd (cs := #[.int .i64 a0_0,.int .i64 a0_1,.int .i64 a0_2]) (t:=40) ?hr ?_;(case hd=>rfl);(case hg=>rfl);(case hr=>first|(go_simp;done)|(go_simp;rfl));intro gb205 hg w11 hbox hb;have BK205:=am (hbox);have GW205:=am (ge_ bl hg);have GE205:=am (ge_ bl hg);replace HB:=am (below_step bl hb);clear hb hbox hg;have hcz12_0:=bc BK205.out 0;have hcz12_1:=bc BK205.out 1;have hcz12_2:=bc BK205.out 2;have hfz12_0:=blk_frozen BK205.out 0;have hfz12_1:=blk_frozen BK205.out 1;have hfz12_2:=blk_frozen BK205.out 2)|((with_reducible refine gate_callee (f:=61) rfl ?_);refine goesL_ (some 5) rfl rfl Try.func61 (by kernel_rfl) rfl #[.int .i64 a0_0,.int .i64 0,.int .i64 40] rfl tl ?_;(with_reducible refine(spec_l1In.calls a0_0 0 40 false _ A2.out).mono ?_);rintro e w' ⟨rfl,⟨nd,rfl⟩⟩;refine⟨_,rfl,?_⟩))
  go_ret
  exact⟨fin1,bl⟩

def spec_vfMost.f (a0:Int):Option (Bool):=(spec_l1In.f a0 0 50).bind fun t209=>(some t209)
set_option maxHeartbeats 8000000 in
set_option maxRecDepth 100000 in
theorem spec_vfMost.calls (a0:Int) (r:Bool) (w:World) (h:spec_vfMost.f a0=some r) :
  Calls Try.prog 45 #[.int .i64 a0] w fun e w'=>e = .returned (.bool r)∧Drawn0 w w':=by
 have H:((spec_l1In.f a0 0 50).bind fun t209=>(some t209))=some r:=h
 clear h
 obtain⟨t209,A2,H⟩:=bnd H
 obtain rfl:=Option.some.inj H
 go_enter Try.func45,Try.ntmps45
 go_wp2_with (first|((with_reducible refine gate_callee (f:=61) rfl ?_);refine goesL_ (some 4) rfl rfl Try.func61 (by kernel_rfl) rfl #[.int .i64 a0,.int .i64 0,.int .i64 50] rfl tl ?_;(with_reducible refine(spec_l1In.calls a0 0 50 t209 _ A2.out).mono ?_);rintro e w' ⟨rfl,⟨nd,rfl⟩⟩;refine⟨_,rfl,?_⟩))
 go_ret
 exact⟨by first|rfl|(simp;done)|(simp [*];done),by repeat(first|exact Drawn0.refl _|apply Drawn0.step)⟩

def spec_vfAll.f (k:Nat) (l0_0:List Int) (a0_1:Int) (l1:List (S62)) (l2:List (S66)) (a3_0:Int) (a3_1:Int) (a3_2:Int) (a4:Int):Option (Bool):=(spec_vfAsked.f k l0_0 a0_1 l1 l2).bind fun t212=>(if t212=true then((spec_pyAction.f a3_0 a3_1 a3_2).bind fun t213=>(if t213=true then((spec_vfMost.f a4).bind fun t214=>(some t214)) else(some false))) else(some false))
set_option maxHeartbeats 8000000 in
set_option maxRecDepth 100000 in
theorem spec_vfAll.calls (k:Nat) (A0_0:Option Addr) (c0_0:Nat) (l0_0:List Int) (a0_1:Int) (A1:Option Addr) (c1:Nat) (l1:List (S62)) (A2:Option Addr) (c2:Nat) (l2:List (S66)) (a3_0:Int) (a3_1:Int) (a3_2:Int) (a4:Int) (r:Bool) (w:World) (hr0_0:Kd.C (Kd.int .i64) w A0_0 l0_0.length l0_0) (hc0_0:l0_0.length≤c0_0) (hr1:Kd.C k62 w A1 l1.length l1) (hc1:l1.length≤c1) (hr2:Kd.C k66 w A2 l2.length l2) (hc2:l2.length≤c2) (h:spec_vfAll.f k l0_0 a0_1 l1 l2 a3_0 a3_1 a3_2 a4=some r) :
  Calls Try.prog 29 #[.agg #[.slice A0_0 l0_0.length c0_0,.int .i64 a0_1],.slice A1 l1.length c1,.slice A2 l2.length c2,.agg #[.int .i64 a3_0,.int .i64 a3_1,.int .i64 a3_2],.int .i64 a4] w fun e w'=>e = .returned (.bool r)∧Below w.heap.size w w':=by
 have hu34:=Try.underlying34
 have hu40:=Try.underlying40
 have HR0_0:=am hr0_0
 have HC0_0:=am hc0_0
 clear hr0_0 hc0_0
 have HR1:=am hr1
 have HC1:=am hc1
 clear hr1 hc1
 have HR2:=am hr2
 have HC2:=am hc2
 clear hr2 hc2
 have HB:=am (Below.refl w.heap.size w)
 have H:((spec_vfAsked.f k l0_0 a0_1 l1 l2).bind fun t212=>(if t212=true then((spec_pyAction.f a3_0 a3_1 a3_2).bind fun t213=>(if t213=true then((spec_vfMost.f a4).bind fun t214=>(some t214)) else(some false))) else(some false)))=some r:=h
 clear h
 obtain⟨t212,A6,H⟩:=bnd H
 by_cases c7:t212=true
 ·subst c7
  replace H:=(if_pos rfl).symm.trans H
  obtain⟨t213,A8,H⟩:=bnd H
  by_cases c9:t213=true
  ·subst c9
   replace H:=(if_pos rfl).symm.trans H
   obtain⟨t214,A10,H⟩:=bnd H
   obtain rfl:=Option.some.inj H
   go_enter Try.func29,Try.ntmps29
   go_wp2_with (first|((with_reducible refine gate_dst (N:=5) rfl ?_);refine box_event ?hg (N:=5) ?hd (cs := #[.slice A0_0 l0_0.length c0_0,.int .i64 a0_1]) (t:=34) ?hr ?_;(case hd=>rfl);(case hg=>rfl);(case hr=>first|(go_simp;done)|(go_simp;rfl));intro gb210 hg w11 hbox hb;have BK210:=am (hbox);have GW210:=am (ge_ bl hg);have GE210:=am (ge_ bl hg);replace HB:=am (below_step bl hb);clear hb hbox hg)|((with_reducible refine gate_dst (N:=8) rfl ?_);refine box_event ?hg (N:=8) ?hd (cs := #[.int .i64 a3_0,.int .i64 a3_1,.int .i64 a3_2]) (t:=40) ?hr ?_;(case hd=>rfl);(case hg=>rfl);(case hr=>first|(go_simp;done)|(go_simp;rfl));intro gb211 hg w12 hbox hb;have BK211:=am (hbox);have GW211:=am (ge_ bl hg);have GE211:=am (ge_ bl hg);replace HB:=am (below_step bl hb);have NB210_211:=am (nl (bup BK210.out) hg);have NB211_210:=am (ng (bup BK210.out) hg);replace BK210:=am (blk_below (bup BK210.out) hb);clear hb hbox hg;have hnb13:=NB210_211.out;have hnc13:=NB211_210.out;have hcz14_0:=bc BK210.out 0;have hcz14_1:=bc BK210.out 1;have hfz14_0:=blk_frozen BK210.out 0;have hfz14_1:=blk_frozen BK210.out 1)|((with_reducible refine gate_callee (f:=43) rfl ?_);refine goesL_ (some 14) rfl rfl Try.func43 (by kernel_rfl) rfl #[.agg #[.slice A0_0 l0_0.length c0_0,.int .i64 a0_1],.slice A1 l1.length c1,.slice A2 l2.length c2] rfl tl ?_;(with_reducible refine(spec_vfAsked.calls k _ _ l0_0 a0_1 _ _ l1 _ _ l2 true _ ?side1 ?side2 ?side3 ?side4 ?side5 ?side6 A6.out).mono ?_);(case side1=>exact cup (Kd.C_below HR0_0.out HB.out));(case side2=>exact HC0_0.out);(case side3=>exact cup (Kd.C_below HR1.out HB.out));(case side4=>exact HC1.out);(case side5=>exact cup (Kd.C_below HR2.out HB.out));(case side6=>exact HC2.out);rintro e w15 ⟨rfl,hb⟩;refine⟨_,rfl,?_⟩;replace BK210:=am (blk_below (bup BK210.out) hb);replace BK211:=am (blk_below (bup BK211.out) hb);replace HB:=am (below_step bl hb);(try clear hb);have hcz16_0:=bc BK211.out 0;have hcz16_1:=bc BK211.out 1;have hcz16_2:=bc BK211.out 2;have hfz16_0:=blk_frozen BK211.out 0;have hfz16_1:=blk_frozen BK211.out 1;have hfz16_2:=blk_frozen BK211.out 2)|(go_at_call 44;(with_reducible refine(spec_pyAction.calls a3_0 a3_1 a3_2 true _ A8.out).mono ?_);rintro e w17 ⟨rfl,hb⟩;replace BK210:=am (blk_below (bup BK210.out) hb);replace BK211:=am (blk_below (bup BK211.out) hb);replace HB:=am (below_step bl hb);(try clear hb))|(go_at_call 45;(with_reducible refine(spec_vfMost.calls a4 t214 _ A10.out).mono ?_);rintro e w' ⟨rfl,⟨nd,rfl⟩⟩))
   go_ret
   exact⟨fin1,bl⟩
  ·replace c9:=Bool.eq_false_iff.mpr c9
   subst c9
   replace H:=(if_neg Bool.false_ne_true).symm.trans H
   obtain rfl:=Option.some.inj H
   go_enter Try.func29,Try.ntmps29
   go_wp2_with (first|((with_reducible refine gate_dst (N:=5) rfl ?_);refine box_event ?hg (N:=5) ?hd (cs := #[.slice A0_0 l0_0.length c0_0,.int .i64 a0_1]) (t:=34) ?hr ?_;(case hd=>rfl);(case hg=>rfl);(case hr=>first|(go_simp;done)|(go_simp;rfl));intro gb210 hg w18 hbox hb;have BK210:=am (hbox);have GW210:=am (ge_ bl hg);have GE210:=am (ge_ bl hg);replace HB:=am (below_step bl hb);clear hb hbox hg)|((with_reducible refine gate_dst (N:=8) rfl ?_);refine box_event ?hg (N:=8) ?hd (cs := #[.int .i64 a3_0,.int .i64 a3_1,.int .i64 a3_2]) (t:=40) ?hr ?_;(case hd=>rfl);(case hg=>rfl);(case hr=>first|(go_simp;done)|(go_simp;rfl));intro gb211 hg w19 hbox hb;have BK211:=am (hbox);have GW211:=am (ge_ bl hg);have GE211:=am (ge_ bl hg);replace HB:=am (below_step bl hb);have NB210_211:=am (nl (bup BK210.out) hg);have NB211_210:=am (ng (bup BK210.out) hg);replace BK210:=am (blk_below (bup BK210.out) hb);clear hb hbox hg;have hnb20:=NB210_211.out;have hnc20:=NB211_210.out;have hcz21_0:=bc BK210.out 0;have hcz21_1:=bc BK210.out 1;have hfz21_0:=blk_frozen BK210.out 0;have hfz21_1:=blk_frozen BK210.out 1)|((with_reducible refine gate_callee (f:=43) rfl ?_);refine goesL_ (some 14) rfl rfl Try.func43 (by kernel_rfl) rfl #[.agg #[.slice A0_0 l0_0.length c0_0,.int .i64 a0_1],.slice A1 l1.length c1,.slice A2 l2.length c2] rfl tl ?_;(with_reducible refine(spec_vfAsked.calls k _ _ l0_0 a0_1 _ _ l1 _ _ l2 true _ ?side1 ?side2 ?side3 ?side4 ?side5 ?side6 A6.out).mono ?_);(case side1=>exact cup (Kd.C_below HR0_0.out HB.out));(case side2=>exact HC0_0.out);(case side3=>exact cup (Kd.C_below HR1.out HB.out));(case side4=>exact HC1.out);(case side5=>exact cup (Kd.C_below HR2.out HB.out));(case side6=>exact HC2.out);rintro e w22 ⟨rfl,hb⟩;refine⟨_,rfl,?_⟩;replace BK210:=am (blk_below (bup BK210.out) hb);replace BK211:=am (blk_below (bup BK211.out) hb);replace HB:=am (below_step bl hb);(try clear hb);have hcz23_0:=bc BK211.out 0;have hcz23_1:=bc BK211.out 1;have hcz23_2:=bc BK211.out 2;have hfz23_0:=blk_frozen BK211.out 0;have hfz23_1:=blk_frozen BK211.out 1;have hfz23_2:=blk_frozen BK211.out 2)|(go_at_call 44;(with_reducible refine(spec_pyAction.calls a3_0 a3_1 a3_2 false _ A8.out).mono ?_);rintro e w24 ⟨rfl,hb⟩;replace BK210:=am (blk_below (bup BK210.out) hb);replace BK211:=am (blk_below (bup BK211.out) hb);replace HB:=am (below_step bl hb);(try clear hb)))
   go_ret
   exact⟨fin1,bl⟩
 ·replace c7:=Bool.eq_false_iff.mpr c7
  subst c7
  replace H:=(if_neg Bool.false_ne_true).symm.trans H
  obtain rfl:=Option.some.inj H
  go_enter Try.func29,Try.ntmps29
  go_wp2_with (first|((with_reducible refine gate_dst (N:=5) rfl ?_);refine box_event ?hg (N:=5) ?hd (cs := #[.slice A0_0 l0_0.length c0_0,.int .i64 a0_1]) (t:=34) ?hr ?_;(case hd=>rfl);(case hg=>rfl);(case hr=>first|(go_simp;done)|(go_simp;rfl));intro gb210 hg w25 hbox hb;have BK210:=am (hbox);have GW210:=am (ge_ bl hg);have GE210:=am (ge_ bl hg);replace HB:=am (below_step bl hb);clear hb hbox hg)|((with_reducible refine gate_dst (N:=8) rfl ?_);refine box_event ?hg (N:=8) ?hd (cs := #[.int .i64 a3_0,.int .i64 a3_1,.int .i64 a3_2]) (t:=40) ?hr ?_;(case hd=>rfl);(case hg=>rfl);(case hr=>first|(go_simp;done)|(go_simp;rfl));intro gb211 hg w26 hbox hb;have BK211:=am (hbox);have GW211:=am (ge_ bl hg);have GE211:=am (ge_ bl hg);replace HB:=am (below_step bl hb);have NB210_211:=am (nl (bup BK210.out) hg);have NB211_210:=am (ng (bup BK210.out) hg);replace BK210:=am (blk_below (bup BK210.out) hb);clear hb hbox hg;have hnb27:=NB210_211.out;have hnc27:=NB211_210.out;have hcz28_0:=bc BK210.out 0;have hcz28_1:=bc BK210.out 1;have hfz28_0:=blk_frozen BK210.out 0;have hfz28_1:=blk_frozen BK210.out 1)|((with_reducible refine gate_callee (f:=43) rfl ?_);refine goesL_ (some 14) rfl rfl Try.func43 (by kernel_rfl) rfl #[.agg #[.slice A0_0 l0_0.length c0_0,.int .i64 a0_1],.slice A1 l1.length c1,.slice A2 l2.length c2] rfl tl ?_;(with_reducible refine(spec_vfAsked.calls k _ _ l0_0 a0_1 _ _ l1 _ _ l2 false _ ?side1 ?side2 ?side3 ?side4 ?side5 ?side6 A6.out).mono ?_);(case side1=>exact cup (Kd.C_below HR0_0.out HB.out));(case side2=>exact HC0_0.out);(case side3=>exact cup (Kd.C_below HR1.out HB.out));(case side4=>exact HC1.out);(case side5=>exact cup (Kd.C_below HR2.out HB.out));(case side6=>exact HC2.out);rintro e w29 ⟨rfl,hb⟩;refine⟨_,rfl,?_⟩;replace BK210:=am (blk_below (bup BK210.out) hb);replace BK211:=am (blk_below (bup BK211.out) hb);replace HB:=am (below_step bl hb);(try clear hb)))
  go_ret
  exact⟨fin1,bl⟩

def spec_inTrack.l0:Nat→Int→List Int→Int→Int→Option (Int)
 | 0,_,_,_,_=>none
 | k+1,x1,x8,x9,x10=>if x10<x9 then(if 0≤x10 then(if x10<(x8.length:Int) then(if(rd x8 x10)=x1 then(some x10) else(spec_inTrack.l0 k x1 x8 x9 (wrap64 (x10+1)))) else(none)) else(none)) else(some (-1))
def spec_inTrack.f (k:Nat) (l0_0:List Int) (a0_1:Int) (a1:Int):Option (Int):=spec_inTrack.l0 k a1 l0_0 (l0_0.length:Int) 0
set_option maxHeartbeats 8000000 in
set_option maxRecDepth 100000 in
theorem spec_inTrack.calls (k:Nat) (A0_0:Option Addr) (c0_0:Nat) (l0_0:List Int) (a0_1:Int) (a1:Int) (r:Int) (w:World) (hr0_0:Kd.C (Kd.int .i64) w A0_0 l0_0.length l0_0) (hc0_0:l0_0.length≤c0_0) (h:spec_inTrack.f k l0_0 a0_1 a1=some r) :
  Calls Try.prog 62 #[.agg #[.slice A0_0 l0_0.length c0_0,.int .i64 a0_1],.int .i64 a1] w fun e w'=>e = .returned (.int .i64 r)∧Below w.heap.size w w':=by
 have hu34:=Try.underlying34
 have HR0_0:=am hr0_0
 have HC0_0:=am hc0_0
 clear hr0_0 hc0_0
 have HB:=am (Below.refl w.heap.size w)
 have H:(spec_inTrack.l0 k a1 l0_0 (l0_0.length:Int) 0)=some r:=h
 clear h
 have H':=am H
 clear H
 go_enter Try.func62,Try.ntmps62
 go_wp2_with (first|((with_reducible refine gate_dst (N:=2) rfl ?_);refine box_event ?hg (N:=2) ?hd (cs := #[.slice A0_0 l0_0.length c0_0,.int .i64 a0_1]) (t:=34) ?hr ?_;(case hd=>rfl);(case hg=>rfl);(case hr=>first|(go_simp;done)|(go_simp;rfl));intro gb215 hg w3 hbox hb;have BK215:=am (hbox);have GW215:=am (ge_ bl hg);have GE215:=am (ge_ bl hg);replace HB:=am (below_step bl hb);clear hb hbox hg;have hcz4_0:=bc BK215.out 0;have hcz4_1:=bc BK215.out 1;have hfz4_0:=blk_frozen BK215.out 0;have hfz4_1:=blk_frozen BK215.out 1))
 go_loopg [10] k (fun kq v10 w'=>∃(x10_1:Int),v10 = .int .i64 x10_1∧Aside0 (spec_inTrack.l0 kq a1 l0_0 (l0_0.length:Int) x10_1=some r)∧Aside0 (kq≤k)∧Aside0 (w'.heap[gb215]?=some (.cells #[(.slice A0_0 l0_0.length c0_0),.int .i64 a0_1] 34 (0,0)))∧Aside0 (Below w.heap.size w w'))
 case atStart=>exact⟨(0),fin2,H',⟨Nat.le_refl _⟩,⟨bup BK215.out⟩,⟨bl⟩⟩
 case round =>
  clear H'
  try clear p2
  try clear hcz4_0
  try clear hcz4_1
  try clear hfz4_0
  try clear hfz4_1
  obtain⟨x10_1,rfl,HA,HK1,BK215,HB⟩:=hrel
  cases gk with
  | zero=>exact absurd HA.out (by simp [spec_inTrack.l0])
  | succ k1 =>
   have H:=HA.out
   clear HA
   simp only[spec_inTrack.l0] at H
   rcases itc H with⟨c5,H⟩|⟨c5,H⟩
   ·have c5b0:=decide_eq_true c5
    clear c5
    obtain⟨c6b0,H⟩:=ifb H
    obtain⟨c7b0,H⟩:=ifb H
    rcases itc H with⟨c8,H⟩|⟨c8,H⟩
    ·have c8b0:((rd l0_0 x10_1) == a1)=true:=beq_iff_eq.mpr c8
     have c8b1:((rd l0_0 x10_1) != a1)=false:=bne_eq_false_iff_eq.mpr c8
     clear c8
     obtain rfl:=Option.some.inj H
     have p216:0≤(x10_1:Int):=od
     have q216:x10_1<(l0_0.length:Int):=od
     obtain⟨ad216,e216,hx216_0⟩:=Kd.at_int HR0_0.out x10_1 p216 q216
     cases e216
     replace hx216_0:=(HB.out.cell (World.block_lt_of_cell? w _ hx216_0)).trans hx216_0
     replace p216:=eq_true p216
     replace q216:=eq_true q216
     go_wp2
     go_ret
     exact⟨fin1,bl⟩
    ·have c8b0:((rd l0_0 x10_1) == a1)=false:=beq_eq_false_iff_ne.mpr c8
     have c8b1:((rd l0_0 x10_1) != a1)=true:=bne_iff_ne.mpr c8
     have H':=am H
     clear H
     have p216:0≤(x10_1:Int):=od
     have q216:x10_1<(l0_0.length:Int):=od
     obtain⟨ad216,e216,hx216_0⟩:=Kd.at_int HR0_0.out x10_1 p216 q216
     cases e216
     replace hx216_0:=(HB.out.cell (World.block_lt_of_cell? w _ hx216_0)).trans hx216_0
     replace p216:=eq_true p216
     replace q216:=eq_true q216
     go_wp2
     go_roundg k1
     case measure=>have:=HK1.out;omega
     case rel=>exact⟨(wrap64 (x10_1+1)),fin2,H',⟨by have:=HK1.out;omega⟩,⟨bup BK215.out⟩,⟨bl⟩⟩
   ·have c5b0:=decide_eq_false c5
    clear c5
    obtain rfl:=Option.some.inj H
    go_wp2
    go_ret
    exact⟨fin1,bl⟩

end Go.Proofs.Ytipklbjbgbbgpaa.PFnExactLeastTolerance
