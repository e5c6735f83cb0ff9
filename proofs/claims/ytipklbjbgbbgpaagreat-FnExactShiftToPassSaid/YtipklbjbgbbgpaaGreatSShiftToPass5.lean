/- Walks of functions that FnExactShiftToPass reaches. No conditions beyond the arguments' being read. -/
import Derived.Test.YtipklbjbgbbgpaaGreatSShiftToPass0
import Derived.Test.YtipklbjbgbbgpaaGreatSShiftToPass1
import Derived.Test.YtipklbjbgbbgpaaGreatSShiftToPass2
import Derived.Test.YtipklbjbgbbgpaaGreatSShiftToPass3
import Derived.Test.YtipklbjbgbbgpaaGreatSShiftToPass4
namespace Go.Proofs.YtipklbjbgbbgpaaGreat.PFnExactShiftToPass
open Go.RowKit Go.Proofs.YtipklbjbgbbgpaaGreatW.PrintWords Go.Proofs.YtipklbjbgbbgpaaGreatW.PrintLast Go.Proofs.YtipklbjbgbbgpaaGreatW.PrintMore
attribute [local go_sem] max2_int min2_int max_two min_two max_three min_three max_four min_four
set_option linter.unusedVariables false
set_option linter.unusedSimpArgs false

def spec_inAsked.f (k:Nat) (l0_0:List Int) (a0_1:Int) (l1:List (S55)):Option (Bool):=(spec_inGood.f k l0_0 a0_1).bind fun t149=>(if t149=true then((spec_ntGood.f k l1).bind fun t150=>(some t150)) else(some false))
set_option maxHeartbeats 8000000 in
set_option maxRecDepth 100000 in
theorem spec_inAsked.calls (k:Nat) (A0_0:Option Addr) (c0_0:Nat) (l0_0:List Int) (a0_1:Int) (A1:Option Addr) (c1:Nat) (l1:List (S55)) (r:Bool) (w:World) (hr0_0:Kd.C (Kd.int .i64) w A0_0 l0_0.length l0_0) (hc0_0:l0_0.length≤c0_0) (hr1:Kd.C k55 w A1 l1.length l1) (hc1:l1.length≤c1) (h:spec_inAsked.f k l0_0 a0_1 l1=some r) :
  Calls Tryz.prog 52 #[.agg #[.slice A0_0 l0_0.length c0_0,.int .i64 a0_1],.slice A1 l1.length c1] w fun e w'=>e = .returned (.bool r)∧Below w.heap.size w w':=by
 have hu34:=Tryz.underlying34
 have HR0_0:=am hr0_0
 have HC0_0:=am hc0_0
 clear hr0_0 hc0_0
 have HR1:=am hr1
 have HC1:=am hc1
 clear hr1 hc1
 have HB:=am (Below.refl w.heap.size w)
 have H:((spec_inGood.f k l0_0 a0_1).bind fun t149=>(if t149=true then((spec_ntGood.f k l1).bind fun t150=>(some t150)) else(some false)))=some r:=h
 clear h
 obtain⟨t149,A3,H⟩:=bnd H
 by_cases c4:t149=true
 ·subst c4
  replace H:=(if_pos rfl).symm.trans H
  obtain⟨t150,A5,H⟩:=bnd H
  obtain rfl:=Option.some.inj H
  go_enter Tryz.func52,Tryz.ntmps52
  go_wp2_with (first|((with_reducible refine gate_dst (N:=2) rfl ?_);refine box_event ?hg (N:=2) ?hd (cs := #[.slice A0_0 l0_0.length c0_0,.int .i64 a0_1]) (t:=34) ?hr ?_;(case hd=>rfl);(case hg=>rfl);(case hr=>first|(go_simp;done)|(go_simp;rfl));intro gb148 hg w6 hbox hb;have BK148:=am (hbox);have GW148:=am (ge_ bl hg);have GE148:=am (ge_ bl hg);replace HB:=am (below_step bl hb);clear hb hbox hg;have hcz7_0:=bc BK148.out 0;have hcz7_1:=bc BK148.out 1;have hfz7_0:=blk_frozen BK148.out 0;have hfz7_1:=blk_frozen BK148.out 1)|((with_reducible refine gate_callee (f:=69) rfl ?_);refine goesL_ (some 6) rfl rfl Tryz.func69 (by kernel_rfl) rfl #[.agg #[.slice A0_0 l0_0.length c0_0,.int .i64 a0_1]] rfl tl ?_;(with_reducible refine(spec_inGood.calls k _ _ l0_0 a0_1 true _ ?side1 ?side2 A3.out).mono ?_);(case side1=>exact cup (Kd.C_below HR0_0.out HB.out));(case side2=>exact HC0_0.out);rintro e w8 ⟨rfl,hb⟩;refine⟨_,rfl,?_⟩;replace BK148:=am (blk_below (bup BK148.out) hb);replace HB:=am (below_step bl hb);(try clear hb))|(go_at_call 70;(with_reducible refine(spec_ntGood.calls k _ _ l1 t150 _ ?side1 ?side2 A5.out).mono ?_);(case side1=>exact cup (Kd.C_below HR1.out HB.out));(case side2=>exact HC1.out);rintro e w9 ⟨rfl,hb⟩;replace BK148:=am (blk_below (bup BK148.out) hb);replace HB:=am (below_step bl hb);(try clear hb)))
  go_ret
  exact⟨fin1,bl⟩
 ·replace c4:=Bool.eq_false_iff.mpr c4
  subst c4
  replace H:=(if_neg Bool.false_ne_true).symm.trans H
  obtain rfl:=Option.some.inj H
  go_enter Tryz.func52,Tryz.ntmps52
  go_wp2_with (first|((with_reducible refine gate_dst (N:=2) rfl ?_);refine box_event ?hg (N:=2) ?hd (cs := #[.slice A0_0 l0_0.length c0_0,.int .i64 a0_1]) (t:=34) ?hr ?_;(case hd=>rfl);(case hg=>rfl);(case hr=>first|(go_simp;done)|(go_simp;rfl));intro gb148 hg w10 hbox hb;have BK148:=am (hbox);have GW148:=am (ge_ bl hg);have GE148:=am (ge_ bl hg);replace HB:=am (below_step bl hb);clear hb hbox hg;have hcz11_0:=bc BK148.out 0;have hcz11_1:=bc BK148.out 1;have hfz11_0:=blk_frozen BK148.out 0;have hfz11_1:=blk_frozen BK148.out 1)|((with_reducible refine gate_callee (f:=69) rfl ?_);refine goesL_ (some 6) rfl rfl Tryz.func69 (by kernel_rfl) rfl #[.agg #[.slice A0_0 l0_0.length c0_0,.int .i64 a0_1]] rfl tl ?_;(with_reducible refine(spec_inGood.calls k _ _ l0_0 a0_1 false _ ?side1 ?side2 A3.out).mono ?_);(case side1=>exact cup (Kd.C_below HR0_0.out HB.out));(case side2=>exact HC0_0.out);rintro e w12 ⟨rfl,hb⟩;refine⟨_,rfl,?_⟩;replace BK148:=am (blk_below (bup BK148.out) hb);replace HB:=am (below_step bl hb);(try clear hb)))
  go_ret
  exact⟨fin1,bl⟩

def spec_vfAsked.f (k:Nat) (l0_0:List Int) (a0_1:Int) (l1:List (S55)) (l2:List (S59)):Option (Bool):=(spec_inAsked.f k l0_0 a0_1 l1).bind fun t152=>(if t152=true then((spec_shGood.f k l2).bind fun t153=>(some t153)) else(some false))
set_option maxHeartbeats 8000000 in
set_option maxRecDepth 100000 in
theorem spec_vfAsked.calls (k:Nat) (A0_0:Option Addr) (c0_0:Nat) (l0_0:List Int) (a0_1:Int) (A1:Option Addr) (c1:Nat) (l1:List (S55)) (A2:Option Addr) (c2:Nat) (l2:List (S59)) (r:Bool) (w:World) (hr0_0:Kd.C (Kd.int .i64) w A0_0 l0_0.length l0_0) (hc0_0:l0_0.length≤c0_0) (hr1:Kd.C k55 w A1 l1.length l1) (hc1:l1.length≤c1) (hr2:Kd.C k59 w A2 l2.length l2) (hc2:l2.length≤c2) (h:spec_vfAsked.f k l0_0 a0_1 l1 l2=some r) :
  Calls Tryz.prog 32 #[.agg #[.slice A0_0 l0_0.length c0_0,.int .i64 a0_1],.slice A1 l1.length c1,.slice A2 l2.length c2] w fun e w'=>e = .returned (.bool r)∧Below w.heap.size w w':=by
 have hu34:=Tryz.underlying34
 have HR0_0:=am hr0_0
 have HC0_0:=am hc0_0
 clear hr0_0 hc0_0
 have HR1:=am hr1
 have HC1:=am hc1
 clear hr1 hc1
 have HR2:=am hr2
 have HC2:=am hc2
 clear hr2 hc2
 have HB:=am (Below.refl w.heap.size w)
 have H:((spec_inAsked.f k l0_0 a0_1 l1).bind fun t152=>(if t152=true then((spec_shGood.f k l2).bind fun t153=>(some t153)) else(some false)))=some r:=h
 clear h
 obtain⟨t152,A4,H⟩:=bnd H
 by_cases c5:t152=true
 ·subst c5
  replace H:=(if_pos rfl).symm.trans H
  obtain⟨t153,A6,H⟩:=bnd H
  obtain rfl:=Option.some.inj H
  go_enter Tryz.func32,Tryz.ntmps32
  go_wp2_with (first|((with_reducible refine gate_dst (N:=3) rfl ?_);refine box_event ?hg (N:=3) ?hd (cs := #[.slice A0_0 l0_0.length c0_0,.int .i64 a0_1]) (t:=34) ?hr ?_;(case hd=>rfl);(case hg=>rfl);(case hr=>first|(go_simp;done)|(go_simp;rfl));intro gb151 hg w7 hbox hb;have BK151:=am (hbox);have GW151:=am (ge_ bl hg);have GE151:=am (ge_ bl hg);replace HB:=am (below_step bl hb);clear hb hbox hg;have hcz8_0:=bc BK151.out 0;have hcz8_1:=bc BK151.out 1;have hfz8_0:=blk_frozen BK151.out 0;have hfz8_1:=blk_frozen BK151.out 1)|((with_reducible refine gate_callee (f:=52) rfl ?_);refine goesL_ (some 9) rfl rfl Tryz.func52 (by kernel_rfl) rfl #[.agg #[.slice A0_0 l0_0.length c0_0,.int .i64 a0_1],.slice A1 l1.length c1] rfl tl ?_;(with_reducible refine(spec_inAsked.calls k _ _ l0_0 a0_1 _ _ l1 true _ ?side1 ?side2 ?side3 ?side4 A4.out).mono ?_);(case side1=>exact cup (Kd.C_below HR0_0.out HB.out));(case side2=>exact HC0_0.out);(case side3=>exact cup (Kd.C_below HR1.out HB.out));(case side4=>exact HC1.out);rintro e w9 ⟨rfl,hb⟩;refine⟨_,rfl,?_⟩;replace BK151:=am (blk_below (bup BK151.out) hb);replace HB:=am (below_step bl hb);(try clear hb))|(go_at_call 35;(with_reducible refine(spec_shGood.calls k _ _ l2 t153 _ ?side1 ?side2 A6.out).mono ?_);(case side1=>exact cup (Kd.C_below HR2.out HB.out));(case side2=>exact HC2.out);rintro e w10 ⟨rfl,hb⟩;replace BK151:=am (blk_below (bup BK151.out) hb);replace HB:=am (below_step bl hb);(try clear hb)))
  go_ret
  exact⟨fin1,bl⟩
 ·replace c5:=Bool.eq_false_iff.mpr c5
  subst c5
  replace H:=(if_neg Bool.false_ne_true).symm.trans H
  obtain rfl:=Option.some.inj H
  go_enter Tryz.func32,Tryz.ntmps32
  go_wp2_with (first|((with_reducible refine gate_dst (N:=3) rfl ?_);refine box_event ?hg (N:=3) ?hd (cs := #[.slice A0_0 l0_0.length c0_0,.int .i64 a0_1]) (t:=34) ?hr ?_;(case hd=>rfl);(case hg=>rfl);(case hr=>first|(go_simp;done)|(go_simp;rfl));intro gb151 hg w11 hbox hb;have BK151:=am (hbox);have GW151:=am (ge_ bl hg);have GE151:=am (ge_ bl hg);replace HB:=am (below_step bl hb);clear hb hbox hg;have hcz12_0:=bc BK151.out 0;have hcz12_1:=bc BK151.out 1;have hfz12_0:=blk_frozen BK151.out 0;have hfz12_1:=blk_frozen BK151.out 1)|((with_reducible refine gate_callee (f:=52) rfl ?_);refine goesL_ (some 9) rfl rfl Tryz.func52 (by kernel_rfl) rfl #[.agg #[.slice A0_0 l0_0.length c0_0,.int .i64 a0_1],.slice A1 l1.length c1] rfl tl ?_;(with_reducible refine(spec_inAsked.calls k _ _ l0_0 a0_1 _ _ l1 false _ ?side1 ?side2 ?side3 ?side4 A4.out).mono ?_);(case side1=>exact cup (Kd.C_below HR0_0.out HB.out));(case side2=>exact HC0_0.out);(case side3=>exact cup (Kd.C_below HR1.out HB.out));(case side4=>exact HC1.out);rintro e w13 ⟨rfl,hb⟩;refine⟨_,rfl,?_⟩;replace BK151:=am (blk_below (bup BK151.out) hb);replace HB:=am (below_step bl hb);(try clear hb)))
  go_ret
  exact⟨fin1,bl⟩

def spec_pyAction.f (a0_0:Int) (a0_1:Int) (a0_2:Int):Option (Bool):=(spec_l1In.f a0_0 0 40).bind fun t155=>(if t155=true then((spec_l1In.f a0_1 0 40).bind fun t156=>(if t156=true then((spec_l1In.f a0_2 0 40).bind fun t157=>(some t157)) else(some false))) else(some false))
set_option maxHeartbeats 8000000 in
set_option maxRecDepth 100000 in
theorem spec_pyAction.calls (a0_0:Int) (a0_1:Int) (a0_2:Int) (r:Bool) (w:World) (h:spec_pyAction.f a0_0 a0_1 a0_2=some r) :
  Calls Tryz.prog 33 #[.agg #[.int .i64 a0_0,.int .i64 a0_1,.int .i64 a0_2]] w fun e w'=>e = .returned (.bool r)∧Below w.heap.size w w':=by
 have hu40:=Tryz.underlying40
 have HB:=am (Below.refl w.heap.size w)
 have H:((spec_l1In.f a0_0 0 40).bind fun t155=>(if t155=true then((spec_l1In.f a0_1 0 40).bind fun t156=>(if t156=true then((spec_l1In.f a0_2 0 40).bind fun t157=>(some t157)) else(some false))) else(some false)))=some r:=h
 clear h
 obtain⟨t155,A2,H⟩:=bnd H
 by_cases c3:t155=true
 ·subst c3
  replace H:=(if_pos rfl).symm.trans H
  obtain⟨t156,A4,H⟩:=bnd H
  by_cases c5:t156=true
  ·subst c5
   replace H:=(if_pos rfl).symm.trans H
   obtain⟨t157,A6,H⟩:=bnd H
   obtain rfl:=Option.some.inj H
   go_enter Tryz.func33,Tryz.ntmps33
   go_wp2_with (first|((with_reducible refine gate_dst (N:=1) rfl ?_);refine box_event ?hg (N:=1) ?hd (cs := #[.int .i64 a0_0,.int .i64 a0_1,.int .i64 a0_2]) (t:=40) ?hr ?_;(case hd=>rfl);(case hg=>rfl);(case hr=>first|(go_simp;done)|(go_simp;rfl));intro gb154 hg w7 hbox hb;have BK154:=am (hbox);have GW154:=am (ge_ bl hg);have GE154:=am (ge_ bl hg);replace HB:=am (below_step bl hb);clear hb hbox hg;have hcz8_0:=bc BK154.out 0;have hcz8_1:=bc BK154.out 1;have hcz8_2:=bc BK154.out 2;have hfz8_0:=blk_frozen BK154.out 0;have hfz8_1:=blk_frozen BK154.out 1;have hfz8_2:=blk_frozen BK154.out 2)|((with_reducible refine gate_callee (f:=36) rfl ?_);refine goesL_ (some 5) rfl rfl Tryz.func36 (by kernel_rfl) rfl #[.int .i64 a0_0,.int .i64 0,.int .i64 40] rfl tl ?_;(with_reducible refine(spec_l1In.calls a0_0 0 40 true _ A2.out).mono ?_);rintro e w' ⟨rfl,⟨nd,rfl⟩⟩;refine⟨_,rfl,?_⟩)|(go_at_call 36;(with_reducible refine(spec_l1In.calls a0_1 0 40 true _ A4.out).mono ?_);rintro e w' ⟨rfl,⟨nd,rfl⟩⟩)|(go_at_call 36;(with_reducible refine(spec_l1In.calls a0_2 0 40 t157 _ A6.out).mono ?_);rintro e w' ⟨rfl,⟨nd,rfl⟩⟩))
   go_ret
   exact⟨fin1,bl⟩
  ·replace c5:=Bool.eq_false_iff.mpr c5
   subst c5
   replace H:=(if_neg Bool.false_ne_true).symm.trans H
   obtain rfl:=Option.some.inj H
   go_enter Tryz.func33,Tryz.ntmps33
   go_wp2_with (first|((with_reducible refine gate_dst (N:=1) rfl ?_);refine box_event ?hg (N:=1) ?hd (cs := #[.int .i64 a0_0,.int .i64 a0_1,.int .i64 a0_2]) (t:=40) ?hr ?_;(case hd=>rfl);(case hg=>rfl);(case hr=>first|(go_simp;done)|(go_simp;rfl));intro gb154 hg w9 hbox hb;have BK154:=am (hbox);have GW154:=am (ge_ bl hg);have GE154:=am (ge_ bl hg);replace HB:=am (below_step bl hb);clear hb hbox hg;have hcz10_0:=bc BK154.out 0;have hcz10_1:=bc BK154.out 1;have hcz10_2:=bc BK154.out 2;have hfz10_0:=blk_frozen BK154.out 0;have hfz10_1:=blk_frozen BK154.out 1;have hfz10_2:=blk_frozen BK154.out 2)|((with_reducible refine gate_callee (f:=36) rfl ?_);refine goesL_ (some 5) rfl rfl Tryz.func36 (by kernel_rfl) rfl #[.int .i64 a0_0,.int .i64 0,.int .i64 40] rfl tl ?_;(with_reducible refine(spec_l1In.calls a0_0 0 40 true _ A2.out).mono ?_);rintro e w' ⟨rfl,⟨nd,rfl⟩⟩;refine⟨_,rfl,?_⟩)|(go_at_call 36;(with_reducible refine(spec_l1In.calls a0_1 0 40 false _ A4.out).mono ?_);rintro e w' ⟨rfl,⟨nd,rfl⟩⟩))
   go_ret
   exact⟨fin1,bl⟩
 ·replace c3:=Bool.eq_false_iff.mpr c3
  subst c3
  replace H:=(if_neg Bool.false_ne_true).symm.trans H
  obtain rfl:=Option.some.inj H
  go_enter Tryz.func33,Tryz.ntmps33
  go_wp2_with (first|((with_reducible refine gate_dst (N:=1) rfl ?_);refine box_event ?hg (N:=1) ?hd (cs := #[.int .i64 a0_0,.int .i64 a0_1,.int .i64 a0_2]) (t:=40) ?hr ?_;(case hd=>rfl);(case hg=>rfl);(case hr=>first|(go_simp;done)|(go_simp;rfl));intro gb154 hg w11 hbox hb;have BK154:=am (hbox);have GW154:=am (ge_ bl hg);have GE154:=am (ge_ bl hg);replace HB:=am (below_step bl hb);clear hb hbox hg;have hcz12_0:=bc BK154.out 0;have hcz12_1:=bc BK154.out 1;have hcz12_2:=bc BK154.out 2;have hfz12_0:=blk_frozen BK154.out 0;have hfz12_1:=blk_frozen BK154.out 1;have hfz12_2:=blk_frozen BK154.out 2)|((with_reducible refine gate_callee (f:=36) rfl ?_);refine goesL_ (some 5) rfl rfl Tryz.func36 (by kernel_rfl) rfl #[.int .i64 a0_0,.int .i64 0,.int .i64 40] rfl tl ?_;(with_reducible refine(spec_l1In.calls a0_0 0 40 false _ A2.out).mono ?_);rintro e w' ⟨rfl,⟨nd,rfl⟩⟩;refine⟨_,rfl,?_⟩))
  go_ret
  exact⟨fin1,bl⟩

def spec_vfMost.f (a0:Int):Option (Bool):=(spec_l1In.f a0 0 50).bind fun t158=>(some t158)
set_option maxHeartbeats 8000000 in
set_option maxRecDepth 100000 in
theorem spec_vfMost.calls (a0:Int) (r:Bool) (w:World) (h:spec_vfMost.f a0=some r) :
  Calls Tryz.prog 34 #[.int .i64 a0] w fun e w'=>e = .returned (.bool r)∧Drawn0 w w':=by
 have H:((spec_l1In.f a0 0 50).bind fun t158=>(some t158))=some r:=h
 clear h
 obtain⟨t158,A2,H⟩:=bnd H
 obtain rfl:=Option.some.inj H
 go_enter Tryz.func34,Tryz.ntmps34
 go_wp2_with (first|((with_reducible refine gate_callee (f:=36) rfl ?_);refine goesL_ (some 4) rfl rfl Tryz.func36 (by kernel_rfl) rfl #[.int .i64 a0,.int .i64 0,.int .i64 50] rfl tl ?_;(with_reducible refine(spec_l1In.calls a0 0 50 t158 _ A2.out).mono ?_);rintro e w' ⟨rfl,⟨nd,rfl⟩⟩;refine⟨_,rfl,?_⟩))
 go_ret
 exact⟨by first|rfl|(simp;done)|(simp [*];done),by repeat(first|exact Drawn0.refl _|apply Drawn0.step)⟩

def spec_vfAll.f (k:Nat) (l0_0:List Int) (a0_1:Int) (l1:List (S55)) (l2:List (S59)) (a3_0:Int) (a3_1:Int) (a3_2:Int) (a4:Int):Option (Bool):=(spec_vfAsked.f k l0_0 a0_1 l1 l2).bind fun t161=>(if t161=true then((spec_pyAction.f a3_0 a3_1 a3_2).bind fun t162=>(if t162=true then((spec_vfMost.f a4).bind fun t163=>(some t163)) else(some false))) else(some false))
set_option maxHeartbeats 8000000 in
set_option maxRecDepth 100000 in
theorem spec_vfAll.calls (k:Nat) (A0_0:Option Addr) (c0_0:Nat) (l0_0:List Int) (a0_1:Int) (A1:Option Addr) (c1:Nat) (l1:List (S55)) (A2:Option Addr) (c2:Nat) (l2:List (S59)) (a3_0:Int) (a3_1:Int) (a3_2:Int) (a4:Int) (r:Bool) (w:World) (hr0_0:Kd.C (Kd.int .i64) w A0_0 l0_0.length l0_0) (hc0_0:l0_0.length≤c0_0) (hr1:Kd.C k55 w A1 l1.length l1) (hc1:l1.length≤c1) (hr2:Kd.C k59 w A2 l2.length l2) (hc2:l2.length≤c2) (h:spec_vfAll.f k l0_0 a0_1 l1 l2 a3_0 a3_1 a3_2 a4=some r) :
  Calls Tryz.prog 17 #[.agg #[.slice A0_0 l0_0.length c0_0,.int .i64 a0_1],.slice A1 l1.length c1,.slice A2 l2.length c2,.agg #[.int .i64 a3_0,.int .i64 a3_1,.int .i64 a3_2],.int .i64 a4] w fun e w'=>e = .returned (.bool r)∧Below w.heap.size w w':=by
 have hu34:=Tryz.underlying34
 have hu40:=Tryz.underlying40
 have HR0_0:=am hr0_0
 have HC0_0:=am hc0_0
 clear hr0_0 hc0_0
 have HR1:=am hr1
 have HC1:=am hc1
 clear hr1 hc1
 have HR2:=am hr2
 have HC2:=am hc2
 clear hr2 hc2
 have HB:=am (Below.refl w.heap.size w)
 have H:((spec_vfAsked.f k l0_0 a0_1 l1 l2).bind fun t161=>(if t161=true then((spec_pyAction.f a3_0 a3_1 a3_2).bind fun t162=>(if t162=true then((spec_vfMost.f a4).bind fun t163=>(some t163)) else(some false))) else(some false)))=some r:=h
 clear h
 obtain⟨t161,A6,H⟩:=bnd H
 by_cases c7:t161=true
 ·subst c7
  replace H:=(if_pos rfl).symm.trans H
  obtain⟨t162,A8,H⟩:=bnd H
  by_cases c9:t162=true
  ·subst c9
   replace H:=(if_pos rfl).symm.trans H
   obtain⟨t163,A10,H⟩:=bnd H
   obtain rfl:=Option.some.inj H
   go_enter Tryz.func17,Tryz.ntmps17
   go_wp2_with (first|((with_reducible refine gate_dst (N:=5) rfl ?_);refine box_event ?hg (N:=5) ?hd (cs := #[.slice A0_0 l0_0.length c0_0,.int .i64 a0_1]) (t:=34) ?hr ?_;(case hd=>rfl);(case hg=>rfl);(case hr=>first|(go_simp;done)|(go_simp;rfl));intro gb159 hg w11 hbox hb;have BK159:=am (hbox);have GW159:=am (ge_ bl hg);have GE159:=am (ge_ bl hg);replace HB:=am (below_step bl hb);clear hb hbox hg)|((with_reducible refine gate_dst (N:=8) rfl ?_);refine box_event ?hg (N:=8) ?hd (cs := #[.int .i64 a3_0,.int .i64 a3_1,.int .i64 a3_2]) (t:=40) ?hr ?_;(case hd=>rfl);(case hg=>rfl);(case hr=>first|(go_simp;done)|(go_simp;rfl));intro gb160 hg w12 hbox hb;have BK160:=am (hbox);have GW160:=am (ge_ bl hg);have GE160:=am (ge_ bl hg);replace HB:=am (below_step bl hb);have NB159_160:=am (nl (bup BK159.out) hg);have NB160_159:=am (ng (bup BK159.out) hg);replace BK159:=am (blk_below (bup BK159.out) hb);clear hb hbox hg;have hnb13:=NB159_160.out;have hnc13:=NB160_159.out;have hcz14_0:=bc BK159.out 0;have hcz14_1:=bc BK159.out 1;have hfz14_0:=blk_frozen BK159.out 0;have hfz14_1:=blk_frozen BK159.out 1)|((with_reducible refine gate_callee (f:=32) rfl ?_);refine goesL_ (some 14) rfl rfl Tryz.func32 (by kernel_rfl) rfl #[.agg #[.slice A0_0 l0_0.length c0_0,.int .i64 a0_1],.slice A1 l1.length c1,.slice A2 l2.length c2] rfl tl ?_;(with_reducible refine(spec_vfAsked.calls k _ _ l0_0 a0_1 _ _ l1 _ _ l2 true _ ?side1 ?side2 ?side3 ?side4 ?side5 ?side6 A6.out).mono ?_);(case side1=>exact cup (Kd.C_below HR0_0.out HB.out));(case side2=>exact HC0_0.out);(case side3=>exact cup (Kd.C_below HR1.out HB.out));(case side4=>exact HC1.out);(case side5=>exact cup (Kd.C_below HR2.out HB.out));(case side6=>exact HC2.out);rintro e w15 ⟨rfl,hb⟩;refine⟨_,rfl,?_⟩;replace BK159:=am (blk_below (bup BK159.out) hb);replace BK160:=am (blk_below (bup BK160.out) hb);replace HB:=am (below_step bl hb);(try clear hb);have hcz16_0:=bc BK160.out 0;have hcz16_1:=bc BK160.out 1;have hcz16_2:=bc BK160.out 2;have hfz16_0:=blk_frozen BK160.out 0;have hfz16_1:=blk_frozen BK160.out 1;have hfz16_2:=blk_frozen BK160.out 2)|(go_at_call 33;(with_reducible refine(spec_pyAction.calls a3_0 a3_1 a3_2 true _ A8.out).mono ?_);rintro e w17 ⟨rfl,hb⟩;replace BK159:=am (blk_below (bup BK159.out) hb);replace BK160:=am (blk_below (bup BK160.out) hb);replace HB:=am (below_step bl hb);(try clear hb))|(go_at_call 34;(with_reducible refine(spec_vfMost.calls a4 t163 _ A10.out).mono ?_);rintro e w' ⟨rfl,⟨nd,rfl⟩⟩))
   go_ret
   exact⟨fin1,bl⟩
  ·replace c9:=Bool.eq_false_iff.mpr c9
   subst c9
   replace H:=(if_neg Bool.false_ne_true).symm.trans H
   obtain rfl:=Option.some.inj H
   go_enter Tryz.func17,Tryz.ntmps17
   go_wp2_with (first|((with_reducible refine gate_dst (N:=5) rfl ?_);refine box_event ?hg (N:=5) ?hd (cs := #[.slice A0_0 l0_0.length c0_0,.int .i64 a0_1]) (t:=34) ?hr ?_;(case hd=>rfl);(case hg=>rfl);(case hr=>first|(go_simp;done)|(go_simp;rfl));intro gb159 hg w18 hbox hb;have BK159:=am (hbox);have GW159:=am (ge_ bl hg);have GE159:=am (ge_ bl hg);replace HB:=am (below_step bl hb);clear hb hbox hg)|((with_reducible refine gate_dst (N:=8) rfl ?_);refine box_event ?hg (N:=8) ?hd (cs := #[.int .i64 a3_0,.int .i64 a3_1,.int .i64 a3_2]) (t:=40) ?hr ?_;(case hd=>rfl);(case hg=>rfl);(case hr=>first|(go_simp;done)|(go_simp;rfl));intro gb160 hg w19 hbox hb;have BK160:=am (hbox);have GW160:=am (ge_ bl hg);have GE160:=am (ge_ bl hg);replace HB:=am (below_step bl hb);have NB159_160:=am (nl (bup BK159.out) hg);have NB160_159:=am (ng (bup BK159.out) hg);replace BK159:=am (blk_below (bup BK159.out) hb);clear hb hbox hg;have hnb20:=NB159_160.out;have hnc20:=NB160_159.out;have hcz21_0:=bc BK159.out 0;have hcz21_1:=bc BK159.out 1;have hfz21_0:=blk_frozen BK159.out 0;have hfz21_1:=blk_frozen BK159.out 1)|((with_reducible refine gate_callee (f:=32) rfl ?_);refine goesL_ (some 14) rfl rfl Tryz.func32 (by kernel_rfl) rfl #[.agg #[.slice A0_0 l0_0.length c0_0,.int .i64 a0_1],.slice A1 l1.length c1,.slice A2 l2.length c2] rfl tl ?_;(with_reducible refine(spec_vfAsked.calls k _ _ l0_0 a0_1 _ _ l1 _ _ l2 true _ ?side1 ?side2 ?side3 ?side4 ?side5 ?side6 A6.out).mono ?_);(case side1=>exact cup (Kd.C_below HR0_0.out HB.out));(case side2=>exact HC0_0.out);(case side3=>exact cup (Kd.C_below HR1.out HB.out));(case side4=>exact HC1.out);(case side5=>exact cup (Kd.C_below HR2.out HB.out));(case side6=>exact HC2.out);rintro e w22 ⟨rfl,hb⟩;refine⟨_,rfl,?_⟩;replace BK159:=am (blk_below (bup BK159.out) hb);replace BK160:=am (blk_below (bup BK160.out) hb);replace HB:=am (below_step bl hb);(try clear hb);have hcz23_0:=bc BK160.out 0;have hcz23_1:=bc BK160.out 1;have hcz23_2:=bc BK160.out 2;have hfz23_0:=blk_frozen BK160.out 0;have hfz23_1:=blk_frozen BK160.out 1;have hfz23_2:=blk_frozen BK160.out 2)|(go_at_call 33;(with_reducible refine(spec_pyAction.calls a3_0 a3_1 a3_2 false _ A8.out).mono ?_);rintro e w24 ⟨rfl,hb⟩;replace BK159:=am (blk_below (bup BK159.out) hb);replace BK160:=am (blk_below (bup BK160.out) hb);replace HB:=am (below_step bl hb);(try clear hb)))
   go_ret
   exact⟨fin1,bl⟩
 ·replace c7:=Bool.eq_false_iff.mpr c7
  subst c7
  replace H:=(if_neg Bool.false_ne_true).symm.trans H
  obtain rfl:=Option.some.inj H
  go_enter Tryz.func17,Tryz.ntmps17
  go_wp2_with (first|((with_reducible refine gate_dst (N:=5) rfl ?_);refine box_event ?hg (N:=5) ?hd (cs := #[.slice A0_0 l0_0.length c0_0,.int .i64 a0_1]) (t:=34) ?hr ?_;(case hd=>rfl);(case hg=>rfl);(case hr=>first|(go_simp;done)|(go_simp;rfl));intro gb159 hg w25 hbox hb;have BK159:=am (hbox);have GW159:=am (ge_ bl hg);have GE159:=am (ge_ bl hg);replace HB:=am (below_step bl hb);clear hb hbox hg)|((with_reducible refine gate_dst (N:=8) rfl ?_);refine box_event ?hg (N:=8) ?hd (cs := #[.int .i64 a3_0,.int .i64 a3_1,.int .i64 a3_2]) (t:=40) ?hr ?_;(case hd=>rfl);(case hg=>rfl);(case hr=>first|(go_simp;done)|(go_simp;rfl));intro gb160 hg w26 hbox hb;have BK160:=am (hbox);have GW160:=am (ge_ bl hg);have GE160:=am (ge_ bl hg);replace HB:=am (below_step bl hb);have NB159_160:=am (nl (bup BK159.out) hg);have NB160_159:=am (ng (bup BK159.out) hg);replace BK159:=am (blk_below (bup BK159.out) hb);clear hb hbox hg;have hnb27:=NB159_160.out;have hnc27:=NB160_159.out;have hcz28_0:=bc BK159.out 0;have hcz28_1:=bc BK159.out 1;have hfz28_0:=blk_frozen BK159.out 0;have hfz28_1:=blk_frozen BK159.out 1)|((with_reducible refine gate_callee (f:=32) rfl ?_);refine goesL_ (some 14) rfl rfl Tryz.func32 (by kernel_rfl) rfl #[.agg #[.slice A0_0 l0_0.length c0_0,.int .i64 a0_1],.slice A1 l1.length c1,.slice A2 l2.length c2] rfl tl ?_;(with_reducible refine(spec_vfAsked.calls k _ _ l0_0 a0_1 _ _ l1 _ _ l2 false _ ?side1 ?side2 ?side3 ?side4 ?side5 ?side6 A6.out).mono ?_);(case side1=>exact cup (Kd.C_below HR0_0.out HB.out));(case side2=>exact HC0_0.out);(case side3=>exact cup (Kd.C_below HR1.out HB.out));(case side4=>exact HC1.out);(case side5=>exact cup (Kd.C_below HR2.out HB.out));(case side6=>exact HC2.out);rintro e w29 ⟨rfl,hb⟩;refine⟨_,rfl,?_⟩;replace BK159:=am (blk_below (bup BK159.out) hb);replace BK160:=am (blk_below (bup BK160.out) hb);replace HB:=am (below_step bl hb);(try clear hb)))
  go_ret
  exact⟨fin1,bl⟩

def spec_trOrder.l0:Nat→Int→List Int→Int→Option (List Int)
 | 0,_,_,_=>none
 | k+1,x0,x3,x4=>if x4≤x0 then((some (([wrap64 (-x4),x4]:List Int):List Int)).bind fun y167=>(if x3.length+y167.length<17592186044416 then(spec_trOrder.l0 k x0 (x3 ++ y167) (wrap64 (x4+1))) else(none))) else(some x3)
def spec_trOrder.f (k:Nat) (a0:Int):Option (List Int):=spec_trOrder.l0 k a0 (([0]:List Int)) 1
set_option maxHeartbeats 8000000 in
set_option maxRecDepth 100000 in
theorem spec_trOrder.calls (k:Nat) (a0:Int) (r:List Int) (w:World) (h:spec_trOrder.f k a0=some r) :
  Calls Tryz.prog 18 #[.int .i64 a0] w fun e w'=>∃ v0_:Value,e = .returned (v0_)∧Kd.R (Kd.int .i64) 3 w' w.heap.size (fun _=>True) v0_ r∧Below w.heap.size w w':=by
 have HB:=am (Below.refl w.heap.size w)
 have H:(spec_trOrder.l0 k a0 (([0]:List Int)) 1)=some r:=h
 clear h
 obtain⟨y164,hy164⟩:∃ y_:List Int,y_=(([0]:List Int)):=⟨_,rfl⟩
 replace H:(spec_trOrder.l0 k a0 y164 1)=some r:=by subst hy164;exact H
 have Ny164:=am hy164
 clear hy164
 have H':=am H
 clear H
 go_enter Tryz.func18,Tryz.ntmps18
 go_wp2_with (first|((with_reducible refine gate_dst (N:=5) rfl ?_);refine Kd.R_lit (Kd.int .i64) _ 3 ?hg (N:=5) ?hd (xs:=([0]:List Int)) (inner:=[.int .i64 0]) (ok:=fun _=>True) (okp:=fun _=>True) ?hr ?hp (fun _ hk=>hk) trivial (Below.refl _ _) (Nat.le_refl _) (by simp) ?_;(case hd=>rfl);(case hg=>rfl);(case hr=>first|(go_simp;done)|(go_simp;rfl));(case hp=>exact(Reps.one (show Kd.M (Kd.int .i64) _ _ _ 0 [.int .i64 0] from rfl) (Reps.none _ _)));intro v165 w2 ho3 hb hg_ hnew_;clear hg_ hnew_;(first|rw[← Ny164.out] at ho3|(simp only[Int.reduceToNat] at ho3;rw[← Ny164.out] at ho3));have HO166:=am (Kd.R_lower ho3 (below_size bl));replace HB:=am (below_step bl hb);clear hb ho3))
 go_loopg [3,4] k (fun kq v3 v4 w'=>∃(x3_1:List Int) (x4_1:Int),v4 = .int .i64 x4_1∧Aside0 (spec_trOrder.l0 kq a0 x3_1 x4_1=some r)∧Aside0 (kq≤k)∧Aside0 (Kd.R (Kd.int .i64) 3 w' w.heap.size (fun _=>True) v3 x3_1)∧Aside0 (Below w.heap.size w w'))
 case atStart=>exact⟨(y164),(1),fin2,H',⟨Nat.le_refl _⟩,⟨rup HO166.out⟩,⟨bl⟩⟩
 case round =>
  clear H'
  obtain⟨x3_1,x4_1,rfl,HA,HK1,HO_3,HB⟩:=hrel
  cases gk with
  | zero=>exact absurd HA.out (by simp [spec_trOrder.l0])
  | succ k1 =>
   have H:=HA.out
   clear HA
   simp only[spec_trOrder.l0] at H
   rcases itc H with⟨c4,H⟩|⟨c4,H⟩
   ·have c4b0:=decide_eq_true c4
    clear c4
    obtain⟨y167,hy167⟩:∃ y_:List Int,y_=(([wrap64 (-x4_1),x4_1]:List Int)):=⟨_,rfl⟩
    replace H:(if x3_1.length+y167.length<17592186044416 then(spec_trOrder.l0 k1 a0 (x3_1 ++ y167) (wrap64 (x4_1+1))) else(none))=some r:=by subst hy167;exact H
    have Ny167:=am hy167
    clear hy167
    obtain⟨c5,H⟩:=ifp H
    have LMc5:=am c5
    clear c5
    obtain⟨y170,hy170⟩:∃ y_:List Int,y_=(x3_1 ++ y167):=⟨_,rfl⟩
    replace H:(spec_trOrder.l0 k1 a0 y170 (wrap64 (x4_1+1)))=some r:=by subst hy170;exact H
    have Ny170:=am hy170
    clear hy170
    have H':=am H
    clear H
    go_wp2_with (first|((with_reducible refine gate_dst (N:=15) rfl ?_);refine Kd.R_lit (Kd.int .i64) _ 3 ?hg (N:=15) ?hd (xs:=([wrap64 (-x4_1),x4_1]:List Int)) (inner:=[.int .i64 (wrap64 (-x4_1)),.int .i64 x4_1]) (ok:=fun _=>True) (okp:=fun _=>True) ?hr ?hp (fun _ hk=>hk) trivial (Below.refl _ _) (Nat.le_refl _) (by simp) ?_;(case hd=>rfl);(case hg=>rfl);(case hr=>first|(go_simp;done)|(go_simp;rfl));(case hp=>exact(Reps.one (show Kd.M (Kd.int .i64) _ _ _ (wrap64 (-x4_1)) [.int .i64 (wrap64 (-x4_1))] from rfl) (Reps.one (show Kd.M (Kd.int .i64) _ _ _ x4_1 [.int .i64 x4_1] from rfl) (Reps.none _ _))));intro v168 w6 ho7 hb hg_ hnew_;clear hg_ hnew_;(first|rw[← Ny167.out] at ho7|(simp only[Int.reduceToNat] at ho7;rw[← Ny167.out] at ho7));have HO169:=am (Kd.R_lower (Kd.R_new' ho7 (Kd.R_lt (rup HO_3.out))) (below_size bl));replace HO_3:=am (Kd.R_elder' (rup HO_3.out) (Kd.R_base ho7) hb);replace HB:=am (below_step bl hb);clear hb ho7;obtain⟨Ao9,co9,eo9⟩:=Kd.R_slice HO169.out;subst eo9)|((with_reducible refine gate_builtin (b := .append) (xs := #[.tmp 11,.tmp 15]) rfl ?_);at_builtin;refine Kd.R_append_rows (Kd.int .i64) (w0:=w) w.heap.size rfl (.tmp 11) (.tmp 15) 22 3 (.int .i64 0) 8 rfl Tryz.underlying22 info3 rfl (by decide) (by omega) u3 x3_1 y167 _ _ _ (fun k_=>some k_≠(.slice Ao9 y167.length co9:Value).ownBlock) (fun _=>False) rfl rfl ?aO ?aR (fun _ _ h=>h) (fun _ h=>h.elim) ?aF ?aB ?aS ?aL ?_;(case aR=>repeat(first|exact(Kd.R_reads' HO169.out).2.2|(with_reducible refine Kd.C_alloc ?_ _)|(with_reducible refine Kd.C_drewN ?_ _)|(with_reducible refine Kd.C_drew ?_)));(case aB=>exact bl);(case aF=>exact(fun k_ hk=>Kd.fresh' (Kd.R_lt (rup HO169.out)) k_ hk));(case aO=>exact(rup (Kd.R_mono HO_3.out (fun _ hk=>hk.2))));(case aS=>exact(below_size bl));(case aL=>have:=LMc5.out;omega);intro v171 w8 ho hb hg hat;rw[← Ny170.out] at ho;replace HO169:=am (Kd.R_after (ok:=(fun _=>True)) (rup HO169.out) hg hat);replace HB:=am (hb);have HO172:=am (ho);clear HO_3 ho hb hg hat))
    go_roundg k1
    case measure=>have:=HK1.out;omega
    case rel=>exact⟨(y170),(wrap64 (x4_1+1)),fin2,H',⟨by have:=HK1.out;omega⟩,⟨rup (Kd.R_mono HO172.out (fun _ hk=>trivial))⟩,⟨bl⟩⟩
   ·have c4b0:=decide_eq_false c4
    clear c4
    obtain rfl:=Option.some.inj H
    go_wp2
    go_ret
    exact⟨_,fin1,by(with_reducible repeat(first|apply Kd.R_alloc|apply Kd.R_drewN|apply Kd.R_drew));exact HO_3.out,bl⟩

mutual
def spec_MoveSheet.j0:Nat→List (S59)→Int→Bool→Option ((List (S59))×Bool)
 | 0,_,_,_=>none
 | k+1,x0,x1,x16=>if x16=true then(some (([]:List (S59)),false)) else(spec_MoveSheet.l0 k x1 ([]:List (S59)) x0 (x0.length:Int) 0)
def spec_MoveSheet.l0:Nat→Int→List (S59)→List (S59)→Int→Int→Option ((List (S59))×Bool)
 | 0,_,_,_,_,_=>none
 | k+1,x1,x6,x17,x18,x19=>if x19<x18 then(if 0≤x19 then(if x19<(x17.length:Int) then(if x6.length<5864062014805 then(spec_MoveSheet.l0 k x1 (x6 ++ [(⟨(rd_T59 x17 x19).f0,wrap64 (((rd_T59 x17 x19).f1)+x1),wrap64 (((rd_T59 x17 x19).f2)+x1)⟩:S59)]) x17 x18 (wrap64 (x19+1))) else(none)) else(none)) else(none)) else((spec_shGood.f k x6).bind fun t180=>(if t180=true then(some (x6,true)) else(some (([]:List (S59)),false))))
end
def spec_MoveSheet.f (k:Nat) (l0:List (S59)) (a1:Int):Option ((List (S59))×Bool):=(spec_shGood.f k l0).bind fun t173=>(if t173=true then((spec_l1In.f a1 (-2000) 2000).bind fun t174=>(spec_MoveSheet.j0 k l0 a1 (!t174))) else(spec_MoveSheet.j0 k l0 a1 true))
set_option maxHeartbeats 8000000 in
set_option maxRecDepth 100000 in
theorem spec_MoveSheet.calls (k:Nat) (A0:Option Addr) (c0:Nat) (l0:List (S59)) (a1:Int) (r1:List (S59)) (r2:Bool) (w:World) (hr0:Kd.C k59 w A0 l0.length l0) (hc0:l0.length≤c0) (h:spec_MoveSheet.f k l0 a1=some (r1,r2)) :
  Calls Tryz.prog 19 #[.slice A0 l0.length c0,.int .i64 a1] w fun e w'=>∃ v0_:Value,e = .returned (.tuple #[v0_,.bool r2])∧Kd.R k59 59 w' w.heap.size (fun _=>True) v0_ r1∧Below w.heap.size w w':=by
 have hu59:=Tryz.underlying59
 have HR0:=am hr0
 have HC0:=am hc0
 clear hr0 hc0
 have HB:=am (Below.refl w.heap.size w)
 have H:((spec_shGood.f k l0).bind fun t173=>(if t173=true then((spec_l1In.f a1 (-2000) 2000).bind fun t174=>(spec_MoveSheet.j0 k l0 a1 (!t174))) else(spec_MoveSheet.j0 k l0 a1 true)))=some (r1,r2):=h
 clear h
 have HC3:=am H
 clear H
 go_enter Tryz.func19,Tryz.ntmps19
 go_upto_region 1 with(fail)
 go_cut [16] (fun v16 wc=>∃(kq:Nat) (x16_2:Bool),v16 = .bool x16_2∧Aside0 (spec_MoveSheet.j0 kq l0 a1 x16_2=some (r1,r2))∧Aside0 (kq≤k)∧Aside0 (Below w.heap.size w wc))
 case first =>
  have H:=HC3.out
  clear HC3
  replace H:=Option.bind_eq_some_iff.mp H
  obtain⟨t173,A40,H⟩:=H
  replace H:(if t173=true then((spec_l1In.f a1 (-2000) 2000).bind fun t174=>(spec_MoveSheet.j0 k l0 a1 (!t174))) else(spec_MoveSheet.j0 k l0 a1 true))=some (r1,r2):=H
  have A4:=am A40
  clear A40
  by_cases c5:t173=true
  ·subst c5
   replace H:=(if_pos rfl).symm.trans H
   replace H:=Option.bind_eq_some_iff.mp H
   obtain⟨t174,A60,H⟩:=H
   replace H:(spec_MoveSheet.j0 k l0 a1 (!t174))=some (r1,r2):=H
   have A6:=am A60
   clear A60
   have H':=am H
   clear H
   go_wp2_with (first|((with_reducible refine gate_callee (f:=35) rfl ?_);refine goesL_ (some 10) rfl rfl Tryz.func35 (by kernel_rfl) rfl #[.slice A0 l0.length c0] rfl tl ?_;(with_reducible refine(spec_shGood.calls k _ _ l0 true _ ?side1 ?side2 A4.out).mono ?_);(case side1=>exact cup (Kd.C_below HR0.out HB.out));(case side2=>exact HC0.out);rintro e w7 ⟨rfl,hb⟩;refine⟨_,rfl,?_⟩;replace HB:=am (below_step bl hb);(try clear hb))|(go_at_call 36;(with_reducible refine(spec_l1In.calls a1 (-2000) 2000 t174 _ A6.out).mono ?_);rintro e w' ⟨rfl,⟨nd,rfl⟩⟩))
   go_meet
   case rel=>exact⟨_,(!t174),fin2,H',⟨by first|omega|exact Nat.le_refl _⟩,⟨bl⟩⟩
  ·replace c5:=Bool.eq_false_iff.mpr c5
   subst c5
   replace H:=(if_neg Bool.false_ne_true).symm.trans H
   have H':=am H
   clear H
   go_wp2_with (first|((with_reducible refine gate_callee (f:=35) rfl ?_);refine goesL_ (some 10) rfl rfl Tryz.func35 (by kernel_rfl) rfl #[.slice A0 l0.length c0] rfl tl ?_;(with_reducible refine(spec_shGood.calls k _ _ l0 false _ ?side1 ?side2 A4.out).mono ?_);(case side1=>exact cup (Kd.C_below HR0.out HB.out));(case side2=>exact HC0.out);rintro e w8 ⟨rfl,hb⟩;refine⟨_,rfl,?_⟩;replace HB:=am (below_step bl hb);(try clear hb)))
   go_meet
   case rel=>exact⟨_,(true),fin2,H',⟨by first|omega|exact Nat.le_refl _⟩,⟨bl⟩⟩
 case rest =>
  clear HC3
  obtain⟨kq,x16_2,rfl,HA,HJ2,HB⟩:=hcut
  cases kq with
  | zero=>exact absurd HA.out (by simp [spec_MoveSheet.j0])
  | succ kj2 =>
   have H:=HA.out
   clear HA
   simp only[spec_MoveSheet.j0] at H
   by_cases c9:x16_2=true
   ·subst c9
    replace H:=(if_pos rfl).symm.trans H
    simp only[Option.some.injEq,Prod.mk.injEq] at H
    obtain⟨rfl,rfl⟩:=H
    go_wp2
    go_ret2
    exact⟨_,fin1,by first|exact Kd.R_nil _ _ _ _ _|exact Kd.N_nil _ _ _ _ _|exact Kd.V_nil _ _ _ _ _|exact Kd.Q_nil _ _ _ _ _|exact Kd.S_nil _ _ _ _ _,bl⟩
   ·replace c9:=Bool.eq_false_iff.mpr c9
    subst c9
    replace H:=(if_neg Bool.false_ne_true).symm.trans H
    have H':=am H
    clear H
    go_wp2
    go_loopg [6,19] kj2 (fun kq v6 v19 w'=>∃(x6_2:List (S59)) (x19_2:Int),v19 = .int .i64 x19_2∧Aside0 (spec_MoveSheet.l0 kq a1 x6_2 l0 (l0.length:Int) x19_2=some (r1,r2))∧Aside0 (kq≤kj2)∧Aside0 (Kd.R k59 59 w' w.heap.size (fun _=>True) v6 x6_2)∧Aside0 (Below w.heap.size w w'))
    case atStart=>exact⟨(([]:List (S59))),(0),fin2,H',⟨Nat.le_refl _⟩,⟨by first|exact Kd.R_nil _ _ _ _ _|exact Kd.N_nil _ _ _ _ _|exact Kd.V_nil _ _ _ _ _|exact Kd.Q_nil _ _ _ _ _|exact Kd.S_nil _ _ _ _ _⟩,⟨bl⟩⟩
    case round =>
     clear H'
     try clear c9
     obtain⟨x6_2,x19_2,rfl,HA,HK2,HO_6,HB⟩:=hrel
     cases gk with
     | zero=>exact absurd HA.out (by simp [spec_MoveSheet.l0])
     | succ k2 =>
      have H:=HA.out
      clear HA
      simp only[spec_MoveSheet.l0] at H
      rcases itc H with⟨c10,H⟩|⟨c10,H⟩
      ·have c10b0:=decide_eq_true c10
       clear c10
       obtain⟨c11b0,H⟩:=ifb H
       obtain⟨c12b0,H⟩:=ifb H
       obtain⟨c13,H⟩:=ifp H
       have LMc13:=am c13
       clear c13
       obtain⟨y177,hy177⟩:∃ y_:List (S59),y_=(x6_2 ++ [(⟨(rd_T59 l0 x19_2).f0,wrap64 (((rd_T59 l0 x19_2).f1)+a1),wrap64 (((rd_T59 l0 x19_2).f2)+a1)⟩:S59)]):=⟨_,rfl⟩
       replace H:(spec_MoveSheet.l0 k2 a1 y177 l0 (l0.length:Int) (wrap64 (x19_2+1)))=some (r1,r2):=by subst hy177;exact H
       have Ny177:=am hy177
       clear hy177
       have H':=am H
       clear H
       have p175:0≤(x19_2:Int):=od
       have q175:x19_2<(l0.length:Int):=od
       obtain⟨ad175,e175,hx175_0,hx175_1,hx175_2⟩:=at_T59 HR0.out x19_2 p175 q175
       cases e175
       replace hx175_0:=(HB.out.cell (World.block_lt_of_cell? w _ hx175_0)).trans hx175_0
       replace hx175_1:=(HB.out.cell (World.block_lt_of_cell? w _ hx175_1)).trans hx175_1
       replace hx175_2:=(HB.out.cell (World.block_lt_of_cell? w _ hx175_2)).trans hx175_2
       replace p175:=eq_true p175
       replace q175:=eq_true q175
       go_wp2_with (first|((with_reducible refine gate_dst (N:=8) rfl ?_);refine box_event ?hg (N:=8) ?hd (cs := #[.int .i64 0,.int .i64 0,.int .i64 0]) (t:=59) ?hr ?_;(case hd=>rfl);(case hg=>rfl);(case hr=>first|(go_simp;done)|(go_simp;rfl));intro gb176 hg w14 hbox hb;replace HO_6:=am (Kd.R_below (Kd.R_elderB (rup HO_6.out) gb176 (Nat.le_of_eq hg.symm)) hb);have BK176:=am (hbox);have GW176:=am (ge_ bl hg);have GE176:=am (ge_ bl hg);replace HB:=am (below_step bl hb);clear hb hbox hg;have hcz15_0:=bc BK176.out 0;have hcz15_1:=bc BK176.out 1;have hcz15_2:=bc BK176.out 2;have hfz15_0:=blk_frozen BK176.out 0;have hfz15_1:=blk_frozen BK176.out 1;have hfz15_2:=blk_frozen BK176.out 2)|((with_reducible refine gate_builtin (b := .append) (xs := #[.tmp 23,.tmp 35]) rfl ?_);at_builtin;refine Kd.R_append k59 (w0:=w) w.heap.size rfl (.tmp 23) (.tmp 35) 38 59 (.agg #[(.int .i64 0),(.int .i64 0),(.int .i64 0)]) 24 rfl Tryz.underlying38 info59 rfl (by decide) (by omega) u6 x6_2 (⟨(rd_T59 l0 x19_2).f0,wrap64 (((rd_T59 l0 x19_2).f1)+a1),wrap64 (((rd_T59 l0 x19_2).f2)+a1)⟩:S59) [.int .i64 ((rd_T59 l0 x19_2).f0),.int .i64 (wrap64 (((rd_T59 l0 x19_2).f1)+a1)),.int .i64 (wrap64 (((rd_T59 l0 x19_2).f2)+a1))] (fun k_=>k_≠gb176) (fun _=>False) rfl (by first|(go_simp;done)|(go_simp;rfl)) ?aP (fun _ hk=>hk.elim) ?aF ?aO ?aB ?aS ?aL ?_;(case aP=>exact k59_mkM _ _ _ (⟨(rd_T59 l0 x19_2).f0,wrap64 (((rd_T59 l0 x19_2).f1)+a1),wrap64 (((rd_T59 l0 x19_2).f2)+a1)⟩:S59));(case aB=>exact bl);(case aF=>exact(fun k_ hk=>Kd.freshB (g:=gb176) (o := .cells #[.int .i64 ((rd_T59 l0 x19_2).f0),.int .i64 ((rd_T59 l0 x19_2).f1),.int .i64 ((rd_T59 l0 x19_2).f2)] 59 (0,0)) (by(with_reducible repeat(first|refine bN_ ?_ _|refine bD_ ?_|refine bA_ ?_ _));refine blk_put (cs := #[.int .i64 ((rd_T59 l0 x19_2).f0),.int .i64 ((rd_T59 l0 x19_2).f1),.int .i64 0]) ?_ 2 _ rfl;(with_reducible repeat(first|refine bN_ ?_ _|refine bD_ ?_|refine bA_ ?_ _));refine blk_put (cs := #[.int .i64 ((rd_T59 l0 x19_2).f0),.int .i64 0,.int .i64 0]) ?_ 1 _ rfl;(with_reducible repeat(first|refine bN_ ?_ _|refine bD_ ?_|refine bA_ ?_ _));refine blk_put (cs := #[.int .i64 0,.int .i64 0,.int .i64 0]) ?_ 0 _ rfl;exact bup BK176.out) k_ hk));(case aO=>exact(rup (Kd.R_mono (Kd.R_far (p:=⟨gb176,2,none⟩) (Kd.R_far (p:=⟨gb176,1,none⟩) (Kd.R_far (p:=⟨gb176,0,none⟩) (Kd.R_mono HO_6.out (fun k_ hk=>(⟨hk,hk.2⟩:_∧k_≠gb176))) (fun _ hk=>hk.2) (.int .i64 ((rd_T59 l0 x19_2).f0))) (fun _ hk=>hk.2) (.int .i64 ((rd_T59 l0 x19_2).f1))) (fun _ hk=>hk.2) (.int .i64 ((rd_T59 l0 x19_2).f2))) (fun _ hk=>hk.1.2))));(case aS=>exact(below_size bl));(case aL=>have:=LMc13.out;omega);intro v178 w16 ho hb hg hat;rw[← Ny177.out] at ho;replace BK176:=am (blk_grown (g:=gb176) (o := .cells #[.int .i64 ((rd_T59 l0 x19_2).f0),.int .i64 ((rd_T59 l0 x19_2).f1),.int .i64 ((rd_T59 l0 x19_2).f2)] 59 (0,0)) (by(with_reducible repeat(first|refine bN_ ?_ _|refine bD_ ?_|refine bA_ ?_ _));refine blk_put (cs := #[.int .i64 ((rd_T59 l0 x19_2).f0),.int .i64 ((rd_T59 l0 x19_2).f1),.int .i64 0]) ?_ 2 _ rfl;(with_reducible repeat(first|refine bN_ ?_ _|refine bD_ ?_|refine bA_ ?_ _));refine blk_put (cs := #[.int .i64 ((rd_T59 l0 x19_2).f0),.int .i64 0,.int .i64 0]) ?_ 1 _ rfl;(with_reducible repeat(first|refine bN_ ?_ _|refine bD_ ?_|refine bA_ ?_ _));refine blk_put (cs := #[.int .i64 0,.int .i64 0,.int .i64 0]) ?_ 0 _ rfl;exact bup BK176.out) hg (Kd.R_away HO_6.out (fun _ hk=>hk.2)));replace HB:=am (hb);have HO179:=am (ho);clear HO_6 ho hb hg hat))
       go_roundg k2
       case measure=>have:=HJ2.out;have:=HK2.out;omega
       case rel=>exact⟨(y177),(wrap64 (x19_2+1)),fin2,H',⟨by have:=HJ2.out;have:=HK2.out;omega⟩,⟨rup (Kd.R_mono HO179.out (fun _ hk=>trivial))⟩,⟨bl⟩⟩
      ·have c10b0:=decide_eq_false c10
       clear c10
       replace H:=Option.bind_eq_some_iff.mp H
       obtain⟨t180,A170,H⟩:=H
       replace H:(if t180=true then(some (x6_2,true)) else(some (([]:List (S59)),false)))=some (r1,r2):=H
       have A17:=am A170
       clear A170
       by_cases c18:t180=true
       ·subst c18
        replace H:=(if_pos rfl).symm.trans H
        simp only[Option.some.injEq,Prod.mk.injEq] at H
        obtain⟨rfl,rfl⟩:=H
        obtain⟨Ao19,co19,eo19⟩:=Kd.R_slice HO_6.out
        subst eo19
        go_wp2_with (first|((with_reducible refine gate_callee (f:=35) rfl ?_);refine goesL_ (some 39) rfl rfl Tryz.func35 (by kernel_rfl) rfl #[.slice Ao19 x6_2.length co19] rfl tl ?_;(with_reducible refine(spec_shGood.calls k2 _ _ x6_2 true _ ?side1 ?side2 A17.out).mono ?_);(case side1=>repeat(first|exact(Kd.R_reads' HO_6.out).2.2|(with_reducible refine Kd.C_alloc ?_ _)|(with_reducible refine Kd.C_drewN ?_ _)|(with_reducible refine Kd.C_drew ?_)));(case side2=>exact(Kd.R_reads' HO_6.out).2.1);rintro e w20 ⟨rfl,hb⟩;refine⟨_,rfl,?_⟩;replace HO_6:=am (Kd.R_below (rup HO_6.out) hb);replace HB:=am (below_step bl hb);(try clear hb)))
        go_ret2
        exact⟨_,fin1,by(with_reducible repeat(first|apply Kd.R_alloc|apply Kd.R_drewN|apply Kd.R_drew));exact HO_6.out,bl⟩
       ·replace c18:=Bool.eq_false_iff.mpr c18
        subst c18
        replace H:=(if_neg Bool.false_ne_true).symm.trans H
        simp only[Option.some.injEq,Prod.mk.injEq] at H
        obtain⟨rfl,rfl⟩:=H
        obtain⟨Ao21,co21,eo21⟩:=Kd.R_slice HO_6.out
        subst eo21
        go_wp2_with (first|((with_reducible refine gate_callee (f:=35) rfl ?_);refine goesL_ (some 39) rfl rfl Tryz.func35 (by kernel_rfl) rfl #[.slice Ao21 x6_2.length co21] rfl tl ?_;(with_reducible refine(spec_shGood.calls k2 _ _ x6_2 false _ ?side1 ?side2 A17.out).mono ?_);(case side1=>repeat(first|exact(Kd.R_reads' HO_6.out).2.2|(with_reducible refine Kd.C_alloc ?_ _)|(with_reducible refine Kd.C_drewN ?_ _)|(with_reducible refine Kd.C_drew ?_)));(case side2=>exact(Kd.R_reads' HO_6.out).2.1);rintro e w22 ⟨rfl,hb⟩;refine⟨_,rfl,?_⟩;replace HO_6:=am (Kd.R_below (rup HO_6.out) hb);replace HB:=am (below_step bl hb);(try clear hb)))
        go_ret2
        exact⟨_,fin1,by first|exact Kd.R_nil _ _ _ _ _|exact Kd.N_nil _ _ _ _ _|exact Kd.V_nil _ _ _ _ _|exact Kd.Q_nil _ _ _ _ _|exact Kd.S_nil _ _ _ _ _,bl⟩

def spec_inTrack.l0:Nat→Int→List Int→Int→Int→Option (Int)
 | 0,_,_,_,_=>none
 | k+1,x1,x8,x9,x10=>if x10<x9 then(if 0≤x10 then(if x10<(x8.length:Int) then(if(rd x8 x10)=x1 then(some x10) else(spec_inTrack.l0 k x1 x8 x9 (wrap64 (x10+1)))) else(none)) else(none)) else(some (-1))
def spec_inTrack.f (k:Nat) (l0_0:List Int) (a0_1:Int) (a1:Int):Option (Int):=spec_inTrack.l0 k a1 l0_0 (l0_0.length:Int) 0
set_option maxHeartbeats 8000000 in
set_option maxRecDepth 100000 in
theorem spec_inTrack.calls (k:Nat) (A0_0:Option Addr) (c0_0:Nat) (l0_0:List Int) (a0_1:Int) (a1:Int) (r:Int) (w:World) (hr0_0:Kd.C (Kd.int .i64) w A0_0 l0_0.length l0_0) (hc0_0:l0_0.length≤c0_0) (h:spec_inTrack.f k l0_0 a0_1 a1=some r) :
  Calls Tryz.prog 55 #[.agg #[.slice A0_0 l0_0.length c0_0,.int .i64 a0_1],.int .i64 a1] w fun e w'=>e = .returned (.int .i64 r)∧Below w.heap.size w w':=by
 have hu34:=Tryz.underlying34
 have HR0_0:=am hr0_0
 have HC0_0:=am hc0_0
 clear hr0_0 hc0_0
 have HB:=am (Below.refl w.heap.size w)
 have H:(spec_inTrack.l0 k a1 l0_0 (l0_0.length:Int) 0)=some r:=h
 clear h
 have H':=am H
 clear H
 go_enter Tryz.func55,Tryz.ntmps55
 go_wp2_with (first|((with_reducible refine gate_dst (N:=2) rfl ?_);refine box_event ?hg (N:=2) ?hd (cs := #[.slice A0_0 l0_0.length c0_0,.int .i64 a0_1]) (t:=34) ?hr ?_;(case hd=>rfl);(case hg=>rfl);(case hr=>first|(go_simp;done)|(go_simp;rfl));intro gb181 hg w3 hbox hb;have BK181:=am (hbox);have GW181:=am (ge_ bl hg);have GE181:=am (ge_ bl hg);replace HB:=am (below_step bl hb);clear hb hbox hg;have hcz4_0:=bc BK181.out 0;have hcz4_1:=bc BK181.out 1;have hfz4_0:=blk_frozen BK181.out 0;have hfz4_1:=blk_frozen BK181.out 1))
 go_loopg [10] k (fun kq v10 w'=>∃(x10_1:Int),v10 = .int .i64 x10_1∧Aside0 (spec_inTrack.l0 kq a1 l0_0 (l0_0.length:Int) x10_1=some r)∧Aside0 (kq≤k)∧Aside0 (w'.heap[gb181]?=some (.cells #[(.slice A0_0 l0_0.length c0_0),.int .i64 a0_1] 34 (0,0)))∧Aside0 (Below w.heap.size w w'))
 case atStart=>exact⟨(0),fin2,H',⟨Nat.le_refl _⟩,⟨bup BK181.out⟩,⟨bl⟩⟩
 case round =>
  clear H'
  try clear hcz4_0
  try clear hcz4_1
  try clear hfz4_0
  try clear hfz4_1
  obtain⟨x10_1,rfl,HA,HK1,BK181,HB⟩:=hrel
  cases gk with
  | zero=>exact absurd HA.out (by simp [spec_inTrack.l0])
  | succ k1 =>
   have H:=HA.out
   clear HA
   simp only[spec_inTrack.l0] at H
   rcases itc H with⟨c5,H⟩|⟨c5,H⟩
   ·have c5b0:=decide_eq_true c5
    clear c5
    obtain⟨c6b0,H⟩:=ifb H
    obtain⟨c7b0,H⟩:=ifb H
    rcases itc H with⟨c8,H⟩|⟨c8,H⟩
    ·have c8b0:((rd l0_0 x10_1) == a1)=true:=beq_iff_eq.mpr c8
     have c8b1:((rd l0_0 x10_1) != a1)=false:=bne_eq_false_iff_eq.mpr c8
     clear c8
     obtain rfl:=Option.some.inj H
     have p182:0≤(x10_1:Int):=od
     have q182:x10_1<(l0_0.length:Int):=od
     obtain⟨ad182,e182,hx182_0⟩:=Kd.at_int HR0_0.out x10_1 p182 q182
     cases e182
     replace hx182_0:=(HB.out.cell (World.block_lt_of_cell? w _ hx182_0)).trans hx182_0
     replace p182:=eq_true p182
     replace q182:=eq_true q182
     go_wp2
     go_ret
     exact⟨fin1,bl⟩
    ·have c8b0:((rd l0_0 x10_1) == a1)=false:=beq_eq_false_iff_ne.mpr c8
     have c8b1:((rd l0_0 x10_1) != a1)=true:=bne_iff_ne.mpr c8
     have H':=am H
     clear H
     have p182:0≤(x10_1:Int):=od
     have q182:x10_1<(l0_0.length:Int):=od
     obtain⟨ad182,e182,hx182_0⟩:=Kd.at_int HR0_0.out x10_1 p182 q182
     cases e182
     replace hx182_0:=(HB.out.cell (World.block_lt_of_cell? w _ hx182_0)).trans hx182_0
     replace p182:=eq_true p182
     replace q182:=eq_true q182
     go_wp2
     go_roundg k1
     case measure=>have:=HK1.out;omega
     case rel=>exact⟨(wrap64 (x10_1+1)),fin2,H',⟨by have:=HK1.out;omega⟩,⟨bup BK181.out⟩,⟨bl⟩⟩
   ·have c5b0:=decide_eq_false c5
    clear c5
    obtain rfl:=Option.some.inj H
    go_wp2
    go_ret
    exact⟨fin1,bl⟩

end Go.Proofs.YtipklbjbgbbgpaaGreat.PFnExactShiftToPass
