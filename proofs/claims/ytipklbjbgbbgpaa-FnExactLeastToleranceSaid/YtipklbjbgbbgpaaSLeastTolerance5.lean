/- The walks of functions that FnExactLeastTolerance reaches: what they return is what the plain functions of the same names say. Laid by a program of this session after the kit's print. No conditions beyond the arguments' being read. -/
import Derived.Test.YtipklbjbgbbgpaaSLeastTolerance0
import Derived.Test.YtipklbjbgbbgpaaSLeastTolerance2
import Derived.Test.YtipklbjbgbbgpaaSLeastTolerance3
import Derived.Test.YtipklbjbgbbgpaaSLeastTolerance4
namespace Go.Proofs.Ytipklbjbgbbgpaa.PFnExactLeastTolerance
open Go.RowKit Go.Proofs.YtipklbjbgbbgpaaW.PrintWords Go.Proofs.YtipklbjbgbbgpaaW.PrintLast Go.Proofs.YtipklbjbgbbgpaaW.PrintMore
attribute [local go_sem] max2_int min2_int max_two min_two max_three min_three max_four min_four   -- for this text's walks alone
set_option linter.unusedVariables false
set_option linter.unusedSimpArgs false

def spec_inAsked.f (k:Nat) (l0_0:List Int) (a0_1:Int) (l1:List (S62)):Option (Bool):=(spec_inGood.f k l0_0 a0_1).bind fun t183=>(if t183=true then((spec_ntGood.f k l1).bind fun t184=>(some t184)) else(some false))
set_option maxHeartbeats 8000000 in
set_option maxRecDepth 100000 in
theorem spec_inAsked.calls (k:Nat) (A0_0:Option Addr) (c0_0:Nat) (l0_0:List Int) (a0_1:Int) (A1:Option Addr) (c1:Nat) (l1:List (S62)) (r:Bool) (w:World) (hr0_0:Kd.C (Kd.int .i64) w A0_0 l0_0.length l0_0) (hc0_0:l0_0.length≤c0_0) (hr1:Kd.C k62 w A1 l1.length l1) (hc1:l1.length≤c1) (h:spec_inAsked.f k l0_0 a0_1 l1=some r) :
  Calls Try.prog 59 #[.agg #[.slice A0_0 l0_0.length c0_0,.int .i64 a0_1],.slice A1 l1.length c1] w fun e w'=>e = .returned (.bool r)∧Below w.heap.size w w':=by
 have hu34:=Try.underlying34
 have HR0_0:=am hr0_0
 have HC0_0:=am hc0_0
 clear hr0_0 hc0_0
 have HR1:=am hr1
 have HC1:=am hc1
 clear hr1 hc1
 have HB:=am (Below.refl w.heap.size w)
 have H:((spec_inGood.f k l0_0 a0_1).bind fun t183=>(if t183=true then((spec_ntGood.f k l1).bind fun t184=>(some t184)) else(some false)))=some r:=h
 clear h
 obtain⟨t183,A3,H⟩:=bnd H
 by_cases c4:t183=true
 ·subst c4
  replace H:=(if_pos rfl).symm.trans H
  obtain⟨t184,A5,H⟩:=bnd H
  obtain rfl:=Option.some.inj H
  go_enter Try.func59,Try.ntmps59
  go_wp2_with (first|((with_reducible refine gate_dst (N:=2) rfl ?_);refine box_event ?hg (N:=2) ?hd (cs := #[.slice A0_0 l0_0.length c0_0,.int .i64 a0_1]) (t:=34) ?hr ?_;(case hd=>rfl);(case hg=>rfl);(case hr=>first|(go_simp;done)|(go_simp;rfl));intro gb182 hg w6 hbox hb;have BK182:=am (hbox);have GW182:=am (ge_ bl hg);have GE182:=am (ge_ bl hg);replace HB:=am (below_step bl hb);clear hb hbox hg;have hcz7_0:=bc BK182.out 0;have hcz7_1:=bc BK182.out 1;have hfz7_0:=blk_frozen BK182.out 0;have hfz7_1:=blk_frozen BK182.out 1)|((with_reducible refine gate_callee (f:=74) rfl ?_);refine goesL_ (some 6) rfl rfl Try.func74 (by kernel_rfl) rfl #[.agg #[.slice A0_0 l0_0.length c0_0,.int .i64 a0_1]] rfl tl ?_;(with_reducible refine(spec_inGood.calls k _ _ l0_0 a0_1 true _ ?side1 ?side2 A3.out).mono ?_);(case side1=>exact cup (Kd.C_below HR0_0.out HB.out));(case side2=>exact HC0_0.out);rintro e w8 ⟨rfl,hb⟩;refine⟨_,rfl,?_⟩;replace BK182:=am (blk_below (bup BK182.out) hb);replace HB:=am (below_step bl hb);(try clear hb))|(go_at_call 75;(with_reducible refine(spec_ntGood.calls k _ _ l1 t184 _ ?side1 ?side2 A5.out).mono ?_);(case side1=>exact cup (Kd.C_below HR1.out HB.out));(case side2=>exact HC1.out);rintro e w9 ⟨rfl,hb⟩;replace BK182:=am (blk_below (bup BK182.out) hb);replace HB:=am (below_step bl hb);(try clear hb)))
  go_ret
  exact⟨fin1,bl⟩
 ·replace c4:=Bool.eq_false_iff.mpr c4
  subst c4
  replace H:=(if_neg Bool.false_ne_true).symm.trans H
  obtain rfl:=Option.some.inj H
  go_enter Try.func59,Try.ntmps59
  go_wp2_with (first|((with_reducible refine gate_dst (N:=2) rfl ?_);refine box_event ?hg (N:=2) ?hd (cs := #[.slice A0_0 l0_0.length c0_0,.int .i64 a0_1]) (t:=34) ?hr ?_;(case hd=>rfl);(case hg=>rfl);(case hr=>first|(go_simp;done)|(go_simp;rfl));intro gb182 hg w10 hbox hb;have BK182:=am (hbox);have GW182:=am (ge_ bl hg);have GE182:=am (ge_ bl hg);replace HB:=am (below_step bl hb);clear hb hbox hg;have hcz11_0:=bc BK182.out 0;have hcz11_1:=bc BK182.out 1;have hfz11_0:=blk_frozen BK182.out 0;have hfz11_1:=blk_frozen BK182.out 1)|((with_reducible refine gate_callee (f:=74) rfl ?_);refine goesL_ (some 6) rfl rfl Try.func74 (by kernel_rfl) rfl #[.agg #[.slice A0_0 l0_0.length c0_0,.int .i64 a0_1]] rfl tl ?_;(with_reducible refine(spec_inGood.calls k _ _ l0_0 a0_1 false _ ?side1 ?side2 A3.out).mono ?_);(case side1=>exact cup (Kd.C_below HR0_0.out HB.out));(case side2=>exact HC0_0.out);rintro e w12 ⟨rfl,hb⟩;refine⟨_,rfl,?_⟩;replace BK182:=am (blk_below (bup BK182.out) hb);replace HB:=am (below_step bl hb);(try clear hb)))
  go_ret
  exact⟨fin1,bl⟩

def spec_shHole.f (a0_0:Int) (a0_1:Int) (a0_2:Int):Option (Bool):=(spec_l1In.f a0_0 0 19).bind fun t186=>(if t186=true then((spec_l1In.f a0_1 0 1999).bind fun t187=>(if t187=true then((spec_l1In.f a0_2 (wrap64 (a0_1+1)) 2000).bind fun t188=>(some t188)) else(some false))) else(some false))
set_option maxHeartbeats 8000000 in
set_option maxRecDepth 100000 in
theorem spec_shHole.calls (a0_0:Int) (a0_1:Int) (a0_2:Int) (r:Bool) (w:World) (h:spec_shHole.f a0_0 a0_1 a0_2=some r) :
  Calls Try.prog 76 #[.agg #[.int .i64 a0_0,.int .i64 a0_1,.int .i64 a0_2]] w fun e w'=>e = .returned (.bool r)∧Below w.heap.size w w':=by
 have hu66:=Try.underlying66
 have HB:=am (Below.refl w.heap.size w)
 have H:((spec_l1In.f a0_0 0 19).bind fun t186=>(if t186=true then((spec_l1In.f a0_1 0 1999).bind fun t187=>(if t187=true then((spec_l1In.f a0_2 (wrap64 (a0_1+1)) 2000).bind fun t188=>(some t188)) else(some false))) else(some false)))=some r:=h
 clear h
 obtain⟨t186,A2,H⟩:=bnd H
 by_cases c3:t186=true
 ·subst c3
  replace H:=(if_pos rfl).symm.trans H
  obtain⟨t187,A4,H⟩:=bnd H
  by_cases c5:t187=true
  ·subst c5
   replace H:=(if_pos rfl).symm.trans H
   obtain⟨t188,A6,H⟩:=bnd H
   obtain rfl:=Option.some.inj H
   go_enter Try.func76,Try.ntmps76
   go_wp2_with (first|((with_reducible refine gate_dst (N:=1) rfl ?_);refine box_event ?hg (N:=1) ?hd (cs := #[.int .i64 a0_0,.int .i64 a0_1,.int .i64 a0_2]) (t:=66) ?hr ?_;(case hd=>rfl);(case hg=>rfl);(case hr=>first|(go_simp;done)|(go_simp;rfl));intro gb185 hg w7 hbox hb;have BK185:=am (hbox);have GW185:=am (ge_ bl hg);have GE185:=am (ge_ bl hg);replace HB:=am (below_step bl hb);clear hb hbox hg;have hcz8_0:=bc BK185.out 0;have hcz8_1:=bc BK185.out 1;have hcz8_2:=bc BK185.out 2;have hfz8_0:=blk_frozen BK185.out 0;have hfz8_1:=blk_frozen BK185.out 1;have hfz8_2:=blk_frozen BK185.out 2)|((with_reducible refine gate_callee (f:=61) rfl ?_);refine goesL_ (some 5) rfl rfl Try.func61 (by kernel_rfl) rfl #[.int .i64 a0_0,.int .i64 0,.int .i64 19] rfl tl ?_;(with_reducible refine(spec_l1In.calls a0_0 0 19 true _ A2.out).mono ?_);rintro e w' ⟨rfl,⟨nd,rfl⟩⟩;refine⟨_,rfl,?_⟩)|(go_at_call 61;(with_reducible refine(spec_l1In.calls a0_1 0 1999 true _ A4.out).mono ?_);rintro e w' ⟨rfl,⟨nd,rfl⟩⟩)|(go_at_call 61;(with_reducible refine(spec_l1In.calls a0_2 (wrap64 (a0_1+1)) 2000 t188 _ A6.out).mono ?_);rintro e w' ⟨rfl,⟨nd,rfl⟩⟩))
   go_ret
   exact⟨fin1,bl⟩
  ·replace c5:=Bool.eq_false_iff.mpr c5
   subst c5
   replace H:=(if_neg Bool.false_ne_true).symm.trans H
   obtain rfl:=Option.some.inj H
   go_enter Try.func76,Try.ntmps76
   go_wp2_with (first|((with_reducible refine gate_dst (N:=1) rfl ?_);refine box_event ?hg (N:=1) ?hd (cs := #[.int .i64 a0_0,.int .i64 a0_1,.int .i64 a0_2]) (t:=66) ?hr ?_;(case hd=>rfl);(case hg=>rfl);(case hr=>first|(go_simp;done)|(go_simp;rfl));intro gb185 hg w9 hbox hb;have BK185:=am (hbox);have GW185:=am (ge_ bl hg);have GE185:=am (ge_ bl hg);replace HB:=am (below_step bl hb);clear hb hbox hg;have hcz10_0:=bc BK185.out 0;have hcz10_1:=bc BK185.out 1;have hcz10_2:=bc BK185.out 2;have hfz10_0:=blk_frozen BK185.out 0;have hfz10_1:=blk_frozen BK185.out 1;have hfz10_2:=blk_frozen BK185.out 2)|((with_reducible refine gate_callee (f:=61) rfl ?_);refine goesL_ (some 5) rfl rfl Try.func61 (by kernel_rfl) rfl #[.int .i64 a0_0,.int .i64 0,.int .i64 19] rfl tl ?_;(with_reducible refine(spec_l1In.calls a0_0 0 19 true _ A2.out).mono ?_);rintro e w' ⟨rfl,⟨nd,rfl⟩⟩;refine⟨_,rfl,?_⟩)|(go_at_call 61;(with_reducible refine(spec_l1In.calls a0_1 0 1999 false _ A4.out).mono ?_);rintro e w' ⟨rfl,⟨nd,rfl⟩⟩))
   go_ret
   exact⟨fin1,bl⟩
 ·replace c3:=Bool.eq_false_iff.mpr c3
  subst c3
  replace H:=(if_neg Bool.false_ne_true).symm.trans H
  obtain rfl:=Option.some.inj H
  go_enter Try.func76,Try.ntmps76
  go_wp2_with (first|((with_reducible refine gate_dst (N:=1) rfl ?_);refine box_event ?hg (N:=1) ?hd (cs := #[.int .i64 a0_0,.int .i64 a0_1,.int .i64 a0_2]) (t:=66) ?hr ?_;(case hd=>rfl);(case hg=>rfl);(case hr=>first|(go_simp;done)|(go_simp;rfl));intro gb185 hg w11 hbox hb;have BK185:=am (hbox);have GW185:=am (ge_ bl hg);have GE185:=am (ge_ bl hg);replace HB:=am (below_step bl hb);clear hb hbox hg;have hcz12_0:=bc BK185.out 0;have hcz12_1:=bc BK185.out 1;have hcz12_2:=bc BK185.out 2;have hfz12_0:=blk_frozen BK185.out 0;have hfz12_1:=blk_frozen BK185.out 1;have hfz12_2:=blk_frozen BK185.out 2)|((with_reducible refine gate_callee (f:=61) rfl ?_);refine goesL_ (some 5) rfl rfl Try.func61 (by kernel_rfl) rfl #[.int .i64 a0_0,.int .i64 0,.int .i64 19] rfl tl ?_;(with_reducible refine(spec_l1In.calls a0_0 0 19 false _ A2.out).mono ?_);rintro e w' ⟨rfl,⟨nd,rfl⟩⟩;refine⟨_,rfl,?_⟩))
  go_ret
  exact⟨fin1,bl⟩

def spec_shBefore.f (a0_0:Int) (a0_1:Int) (a0_2:Int) (a1_0:Int) (a1_1:Int) (a1_2:Int):Option (Bool):=if a0_1<a1_1 then(some true) else(if a0_1=a1_1 then(some (decide (a0_0<a1_0))) else(some false))
set_option maxHeartbeats 8000000 in
set_option maxRecDepth 100000 in
theorem spec_shBefore.calls (a0_0:Int) (a0_1:Int) (a0_2:Int) (a1_0:Int) (a1_1:Int) (a1_2:Int) (r:Bool) (w:World) (h:spec_shBefore.f a0_0 a0_1 a0_2 a1_0 a1_1 a1_2=some r) :
  Calls Try.prog 77 #[.agg #[.int .i64 a0_0,.int .i64 a0_1,.int .i64 a0_2],.agg #[.int .i64 a1_0,.int .i64 a1_1,.int .i64 a1_2]] w fun e w'=>e = .returned (.bool r)∧Below w.heap.size w w':=by
 have hu66:=Try.underlying66
 have HB:=am (Below.refl w.heap.size w)
 have H:(if a0_1<a1_1 then(some true) else(if a0_1=a1_1 then(some (decide (a0_0<a1_0))) else(some false)))=some r:=h
 clear h
 rcases itc H with⟨c3,H⟩|⟨c3,H⟩
 ·have c3b0:=decide_eq_true c3
  clear c3
  obtain rfl:=Option.some.inj H
  go_enter Try.func77,Try.ntmps77
  go_wp2_with (first|((with_reducible refine gate_dst (N:=2) rfl ?_);refine box_event ?hg (N:=2) ?hd (cs := #[.int .i64 a0_0,.int .i64 a0_1,.int .i64 a0_2]) (t:=66) ?hr ?_;(case hd=>rfl);(case hg=>rfl);(case hr=>first|(go_simp;done)|(go_simp;rfl));intro gb189 hg w4 hbox hb;have BK189:=am (hbox);have GW189:=am (ge_ bl hg);have GE189:=am (ge_ bl hg);replace HB:=am (below_step bl hb);clear hb hbox hg)|((with_reducible refine gate_dst (N:=3) rfl ?_);refine box_event ?hg (N:=3) ?hd (cs := #[.int .i64 a1_0,.int .i64 a1_1,.int .i64 a1_2]) (t:=66) ?hr ?_;(case hd=>rfl);(case hg=>rfl);(case hr=>first|(go_simp;done)|(go_simp;rfl));intro gb190 hg w5 hbox hb;have BK190:=am (hbox);have GW190:=am (ge_ bl hg);have GE190:=am (ge_ bl hg);replace HB:=am (below_step bl hb);have NB189_190:=am (nl (bup BK189.out) hg);have NB190_189:=am (ng (bup BK189.out) hg);replace BK189:=am (blk_below (bup BK189.out) hb);clear hb hbox hg;have hnb6:=NB189_190.out;have hnc6:=NB190_189.out;have hcz7_0:=bc BK189.out 0;have hcz7_1:=bc BK189.out 1;have hcz7_2:=bc BK189.out 2;have hfz7_0:=blk_frozen BK189.out 0;have hfz7_1:=blk_frozen BK189.out 1;have hfz7_2:=blk_frozen BK189.out 2;have hcz8_0:=bc BK190.out 0;have hcz8_1:=bc BK190.out 1;have hcz8_2:=bc BK190.out 2;have hfz8_0:=blk_frozen BK190.out 0;have hfz8_1:=blk_frozen BK190.out 1;have hfz8_2:=blk_frozen BK190.out 2))
  go_ret
  exact⟨fin1,bl⟩
 ·have c3b0:=decide_eq_false c3
  clear c3
  rcases itc H with⟨c9,H⟩|⟨c9,H⟩
  ·have c9b0:(a0_1 == a1_1)=true:=beq_iff_eq.mpr c9
   have c9b1:(a0_1 != a1_1)=false:=bne_eq_false_iff_eq.mpr c9
   clear c9
   obtain rfl:=Option.some.inj H
   go_enter Try.func77,Try.ntmps77
   go_wp2_with (first|((with_reducible refine gate_dst (N:=2) rfl ?_);refine box_event ?hg (N:=2) ?hd (cs := #[.int .i64 a0_0,.int .i64 a0_1,.int .i64 a0_2]) (t:=66) ?hr ?_;(case hd=>rfl);(case hg=>rfl);(case hr=>first|(go_simp;done)|(go_simp;rfl));intro gb189 hg w10 hbox hb;have BK189:=am (hbox);have GW189:=am (ge_ bl hg);have GE189:=am (ge_ bl hg);replace HB:=am (below_step bl hb);clear hb hbox hg)|((with_reducible refine gate_dst (N:=3) rfl ?_);refine box_event ?hg (N:=3) ?hd (cs := #[.int .i64 a1_0,.int .i64 a1_1,.int .i64 a1_2]) (t:=66) ?hr ?_;(case hd=>rfl);(case hg=>rfl);(case hr=>first|(go_simp;done)|(go_simp;rfl));intro gb190 hg w11 hbox hb;have BK190:=am (hbox);have GW190:=am (ge_ bl hg);have GE190:=am (ge_ bl hg);replace HB:=am (below_step bl hb);have NB189_190:=am (nl (bup BK189.out) hg);have NB190_189:=am (ng (bup BK189.out) hg);replace BK189:=am (blk_below (bup BK189.out) hb);clear hb hbox hg;have hnb12:=NB189_190.out;have hnc12:=NB190_189.out;have hcz13_0:=bc BK189.out 0;have hcz13_1:=bc BK189.out 1;have hcz13_2:=bc BK189.out 2;have hfz13_0:=blk_frozen BK189.out 0;have hfz13_1:=blk_frozen BK189.out 1;have hfz13_2:=blk_frozen BK189.out 2;have hcz14_0:=bc BK190.out 0;have hcz14_1:=bc BK190.out 1;have hcz14_2:=bc BK190.out 2;have hfz14_0:=blk_frozen BK190.out 0;have hfz14_1:=blk_frozen BK190.out 1;have hfz14_2:=blk_frozen BK190.out 2))
   go_ret
   exact⟨fin1,bl⟩
  ·have c9b0:(a0_1 == a1_1)=false:=beq_eq_false_iff_ne.mpr c9
   have c9b1:(a0_1 != a1_1)=true:=bne_iff_ne.mpr c9
   obtain rfl:=Option.some.inj H
   go_enter Try.func77,Try.ntmps77
   go_wp2_with (first|((with_reducible refine gate_dst (N:=2) rfl ?_);refine box_event ?hg (N:=2) ?hd (cs := #[.int .i64 a0_0,.int .i64 a0_1,.int .i64 a0_2]) (t:=66) ?hr ?_;(case hd=>rfl);(case hg=>rfl);(case hr=>first|(go_simp;done)|(go_simp;rfl));intro gb189 hg w15 hbox hb;have BK189:=am (hbox);have GW189:=am (ge_ bl hg);have GE189:=am (ge_ bl hg);replace HB:=am (below_step bl hb);clear hb hbox hg)|((with_reducible refine gate_dst (N:=3) rfl ?_);refine box_event ?hg (N:=3) ?hd (cs := #[.int .i64 a1_0,.int .i64 a1_1,.int .i64 a1_2]) (t:=66) ?hr ?_;(case hd=>rfl);(case hg=>rfl);(case hr=>first|(go_simp;done)|(go_simp;rfl));intro gb190 hg w16 hbox hb;have BK190:=am (hbox);have GW190:=am (ge_ bl hg);have GE190:=am (ge_ bl hg);replace HB:=am (below_step bl hb);have NB189_190:=am (nl (bup BK189.out) hg);have NB190_189:=am (ng (bup BK189.out) hg);replace BK189:=am (blk_below (bup BK189.out) hb);clear hb hbox hg;have hnb17:=NB189_190.out;have hnc17:=NB190_189.out;have hcz18_0:=bc BK189.out 0;have hcz18_1:=bc BK189.out 1;have hcz18_2:=bc BK189.out 2;have hfz18_0:=blk_frozen BK189.out 0;have hfz18_1:=blk_frozen BK189.out 1;have hfz18_2:=blk_frozen BK189.out 2;have hcz19_0:=bc BK190.out 0;have hcz19_1:=bc BK190.out 1;have hcz19_2:=bc BK190.out 2;have hfz19_0:=blk_frozen BK190.out 0;have hfz19_1:=blk_frozen BK190.out 1;have hfz19_2:=blk_frozen BK190.out 2))
   go_ret
   exact⟨fin1,bl⟩

end Go.Proofs.Ytipklbjbgbbgpaa.PFnExactLeastTolerance
