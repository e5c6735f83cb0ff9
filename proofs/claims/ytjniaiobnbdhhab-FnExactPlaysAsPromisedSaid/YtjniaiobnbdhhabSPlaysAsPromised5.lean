/- The walks of functions that FnExactPlaysAsPromised reaches: what they return is what the plain functions of the same names say. Made by a program of this session after the kit's print. No conditions beyond the arguments' being read. -/
import Derived.Test.YtjniaiobnbdhhabSPlaysAsPromised0
import Derived.Test.YtjniaiobnbdhhabSPlaysAsPromised1
import Derived.Test.YtjniaiobnbdhhabSPlaysAsPromised2
import Derived.Test.YtjniaiobnbdhhabSPlaysAsPromised3
import Derived.Test.YtjniaiobnbdhhabSPlaysAsPromised4
namespace Go.Proofs.Ytjniaiobnbdhhab.PFnExactPlaysAsPromised
open Go.RowKit Go.Proofs.YtjniaiobnbdhhabW.PrintWords Go.Proofs.YtjniaiobnbdhhabW.PrintLast Go.Proofs.YtjniaiobnbdhhabW.PrintMore
attribute [local go_sem] max2_int min2_int max_two min_two max_three min_three max_four min_four   -- for this text's walks alone
set_option linter.unusedVariables false
set_option linter.unusedSimpArgs false

/-! ### spec_inAsked: function 98 -/
def spec_inAsked.f (k:Nat) (l0_0:List Int) (a0_1:Int) (l1:List (S95)):Option (Bool):=(spec_inGood.f k l0_0 a0_1).bind fun t165=>(if t165=true then((spec_ntGood.f k l1).bind fun t166=>(some t166)) else(some false))
set_option maxHeartbeats 8000000 in
set_option maxRecDepth 100000 in
theorem spec_inAsked.calls (k:Nat) (A0_0:Option Addr) (c0_0:Nat) (l0_0:List Int) (a0_1:Int) (A1:Option Addr) (c1:Nat) (l1:List (S95)) (r:Bool) (w:World) (hr0_0:Kd.C (Kd.int .i64) w A0_0 l0_0.length l0_0) (hc0_0:l0_0.length≤c0_0) (hr1:Kd.C k95 w A1 l1.length l1) (hc1:l1.length≤c1) (h:spec_inAsked.f k l0_0 a0_1 l1=some r) :
  Calls Try.prog 98 #[.agg #[.slice A0_0 l0_0.length c0_0,.int .i64 a0_1],.slice A1 l1.length c1] w fun e w'=>e = .returned (.bool r)∧Below w.heap.size w w':=by
 have hu44:=Try.underlying44
 have HR0_0:=am hr0_0
 have HC0_0:=am hc0_0
 clear hr0_0 hc0_0
 have HR1:=am hr1
 have HC1:=am hc1
 clear hr1 hc1
 have HB:=am (Below.refl w.heap.size w)
 have H:((spec_inGood.f k l0_0 a0_1).bind fun t165=>(if t165=true then((spec_ntGood.f k l1).bind fun t166=>(some t166)) else(some false)))=some r:=h
 clear h
 replace H:=Option.bind_eq_some_iff.mp H
 obtain⟨t165,A30,H⟩:=H
 replace H:(if t165=true then((spec_ntGood.f k l1).bind fun t166=>(some t166)) else(some false))=some r:=H
 have A3:=am A30
 clear A30
 by_cases c4:t165=true
 ·subst c4
  have H1:((spec_ntGood.f k l1).bind fun t166=>(some t166))=some r:=by rw[if_pos rfl] at H;exact H
  clear H
  have H:=H1
  clear H1
  replace H:=Option.bind_eq_some_iff.mp H
  obtain⟨t166,A50,H⟩:=H
  replace H:(some t166)=some r:=H
  have A5:=am A50
  clear A50
  obtain rfl:=Option.some.inj H
  go_enter Try.func98,Try.ntmps98
  go_wp2_with (first|((with_reducible refine gate_dst (N:=2) rfl ?_);refine box_event ?hg (N:=2) ?hd (cs := #[.slice A0_0 l0_0.length c0_0,.int .i64 a0_1]) (t:=44) ?hr ?_;(case hd=>rfl);(case hg=>rfl);(case hr=>first|(go_simp;done)|(go_simp;rfl));intro gb164 hg w6 hbox hb;have n0_:=am (below_step bl hb);have n1_:=am (hbox);have n2_:=am ((by rw[hg];exact(below_size bl):w.heap.size≤gb164));have n3_:=am ((by rw[hg];exact(below_size bl):w.heap.size≤gb164));clear HB;have HB:=n0_;have BK164:=n1_;have GW164:=n2_;have GE164:=n3_;clear n0_ n1_ n2_ n3_ hb hbox hg;have hcz7_0:w6.cell? ⟨gb164,0,none⟩=some (.slice A0_0 l0_0.length c0_0):=(blk_cell BK164.out 0).trans rfl;have hcz7_1:w6.cell? ⟨gb164,1,none⟩=some (.int .i64 a0_1):=(blk_cell BK164.out 1).trans rfl;have hfz7_0:=blk_frozen BK164.out 0;have hfz7_1:=blk_frozen BK164.out 1)|((with_reducible refine gate_callee (f:=112) rfl ?_);refine goesL_ (some 6) rfl rfl Try.func112 (by kernel_rfl) rfl #[.agg #[.slice A0_0 l0_0.length c0_0,.int .i64 a0_1]] rfl (by(try simp only[List.map_toArray,List.map_cons,List.map_nil]);first|done|rfl|(simp only[List.length_drop,List.length_take];rfl)) ?_;(with_reducible refine(spec_inGood.calls k _ _ l0_0 a0_1 true _ ?side1 ?side2 A3.out).mono ?_);(case side1=>repeat(first|exact(Kd.C_below HR0_0.out HB.out)|(with_reducible refine Kd.C_alloc ?_ _)|(with_reducible refine Kd.C_drewN ?_ _)|(with_reducible refine Kd.C_drew ?_)));(case side2=>exact HC0_0.out);rintro e w8 ⟨rfl,hb⟩;refine⟨_,rfl,?_⟩;have n0_:=am (blk_below (g:=gb164) (o := .cells #[.slice A0_0 l0_0.length c0_0,.int .i64 a0_1] 44 (0,0)) (bup BK164.out) hb);have n1_:=am (below_step bl hb);clear BK164 HB;have BK164:=n0_;have HB:=n1_;clear n0_ n1_;(try clear hb);(try clear hb2);(try clear hk);(try clear hi))|(go_at_call 113;(with_reducible refine(spec_ntGood.calls k _ _ l1 t166 _ ?side1 ?side2 A5.out).mono ?_);(case side1=>repeat(first|exact(Kd.C_below HR1.out HB.out)|(with_reducible refine Kd.C_alloc ?_ _)|(with_reducible refine Kd.C_drewN ?_ _)|(with_reducible refine Kd.C_drew ?_)));(case side2=>exact HC1.out);rintro e w9 ⟨rfl,hb⟩;have n0_:=am (blk_below (g:=gb164) (o := .cells #[.slice A0_0 l0_0.length c0_0,.int .i64 a0_1] 44 (0,0)) (bup BK164.out) hb);have n1_:=am (below_step bl hb);clear BK164 HB;have BK164:=n0_;have HB:=n1_;clear n0_ n1_;(try clear hb);(try clear hb2);(try clear hk);(try clear hi)))
  go_ret
  exact⟨fin1,bl⟩
 ·replace c4:=Bool.eq_false_iff.mpr c4
  subst c4
  have H1:(some false)=some r:=by rw[if_neg (show ¬ (false=true) by decide)] at H;exact H
  clear H
  have H:=H1
  clear H1
  obtain rfl:=Option.some.inj H
  go_enter Try.func98,Try.ntmps98
  go_wp2_with (first|((with_reducible refine gate_dst (N:=2) rfl ?_);refine box_event ?hg (N:=2) ?hd (cs := #[.slice A0_0 l0_0.length c0_0,.int .i64 a0_1]) (t:=44) ?hr ?_;(case hd=>rfl);(case hg=>rfl);(case hr=>first|(go_simp;done)|(go_simp;rfl));intro gb164 hg w10 hbox hb;have n0_:=am (below_step bl hb);have n1_:=am (hbox);have n2_:=am ((by rw[hg];exact(below_size bl):w.heap.size≤gb164));have n3_:=am ((by rw[hg];exact(below_size bl):w.heap.size≤gb164));clear HB;have HB:=n0_;have BK164:=n1_;have GW164:=n2_;have GE164:=n3_;clear n0_ n1_ n2_ n3_ hb hbox hg;have hcz11_0:w10.cell? ⟨gb164,0,none⟩=some (.slice A0_0 l0_0.length c0_0):=(blk_cell BK164.out 0).trans rfl;have hcz11_1:w10.cell? ⟨gb164,1,none⟩=some (.int .i64 a0_1):=(blk_cell BK164.out 1).trans rfl;have hfz11_0:=blk_frozen BK164.out 0;have hfz11_1:=blk_frozen BK164.out 1)|((with_reducible refine gate_callee (f:=112) rfl ?_);refine goesL_ (some 6) rfl rfl Try.func112 (by kernel_rfl) rfl #[.agg #[.slice A0_0 l0_0.length c0_0,.int .i64 a0_1]] rfl (by(try simp only[List.map_toArray,List.map_cons,List.map_nil]);first|done|rfl|(simp only[List.length_drop,List.length_take];rfl)) ?_;(with_reducible refine(spec_inGood.calls k _ _ l0_0 a0_1 false _ ?side1 ?side2 A3.out).mono ?_);(case side1=>repeat(first|exact(Kd.C_below HR0_0.out HB.out)|(with_reducible refine Kd.C_alloc ?_ _)|(with_reducible refine Kd.C_drewN ?_ _)|(with_reducible refine Kd.C_drew ?_)));(case side2=>exact HC0_0.out);rintro e w12 ⟨rfl,hb⟩;refine⟨_,rfl,?_⟩;have n0_:=am (blk_below (g:=gb164) (o := .cells #[.slice A0_0 l0_0.length c0_0,.int .i64 a0_1] 44 (0,0)) (bup BK164.out) hb);have n1_:=am (below_step bl hb);clear BK164 HB;have BK164:=n0_;have HB:=n1_;clear n0_ n1_;(try clear hb);(try clear hb2);(try clear hk);(try clear hi)))
  go_ret
  exact⟨fin1,bl⟩

/-! ### spec_vfAsked: function 74 -/
def spec_vfAsked.f (k:Nat) (l0_0:List Int) (a0_1:Int) (l1:List (S95)) (l2:List (S80)):Option (Bool):=(spec_inAsked.f k l0_0 a0_1 l1).bind fun t168=>(if t168=true then((spec_shGood.f k l2).bind fun t169=>(some t169)) else(some false))
set_option maxHeartbeats 8000000 in
set_option maxRecDepth 100000 in
theorem spec_vfAsked.calls (k:Nat) (A0_0:Option Addr) (c0_0:Nat) (l0_0:List Int) (a0_1:Int) (A1:Option Addr) (c1:Nat) (l1:List (S95)) (A2:Option Addr) (c2:Nat) (l2:List (S80)) (r:Bool) (w:World) (hr0_0:Kd.C (Kd.int .i64) w A0_0 l0_0.length l0_0) (hc0_0:l0_0.length≤c0_0) (hr1:Kd.C k95 w A1 l1.length l1) (hc1:l1.length≤c1) (hr2:Kd.C k80 w A2 l2.length l2) (hc2:l2.length≤c2) (h:spec_vfAsked.f k l0_0 a0_1 l1 l2=some r) :
  Calls Try.prog 74 #[.agg #[.slice A0_0 l0_0.length c0_0,.int .i64 a0_1],.slice A1 l1.length c1,.slice A2 l2.length c2] w fun e w'=>e = .returned (.bool r)∧Below w.heap.size w w':=by
 have hu44:=Try.underlying44
 have HR0_0:=am hr0_0
 have HC0_0:=am hc0_0
 clear hr0_0 hc0_0
 have HR1:=am hr1
 have HC1:=am hc1
 clear hr1 hc1
 have HR2:=am hr2
 have HC2:=am hc2
 clear hr2 hc2
 have HB:=am (Below.refl w.heap.size w)
 have H:((spec_inAsked.f k l0_0 a0_1 l1).bind fun t168=>(if t168=true then((spec_shGood.f k l2).bind fun t169=>(some t169)) else(some false)))=some r:=h
 clear h
 replace H:=Option.bind_eq_some_iff.mp H
 obtain⟨t168,A40,H⟩:=H
 replace H:(if t168=true then((spec_shGood.f k l2).bind fun t169=>(some t169)) else(some false))=some r:=H
 have A4:=am A40
 clear A40
 by_cases c5:t168=true
 ·subst c5
  have H1:((spec_shGood.f k l2).bind fun t169=>(some t169))=some r:=by rw[if_pos rfl] at H;exact H
  clear H
  have H:=H1
  clear H1
  replace H:=Option.bind_eq_some_iff.mp H
  obtain⟨t169,A60,H⟩:=H
  replace H:(some t169)=some r:=H
  have A6:=am A60
  clear A60
  obtain rfl:=Option.some.inj H
  go_enter Try.func74,Try.ntmps74
  go_wp2_with (first|((with_reducible refine gate_dst (N:=3) rfl ?_);refine box_event ?hg (N:=3) ?hd (cs := #[.slice A0_0 l0_0.length c0_0,.int .i64 a0_1]) (t:=44) ?hr ?_;(case hd=>rfl);(case hg=>rfl);(case hr=>first|(go_simp;done)|(go_simp;rfl));intro gb167 hg w7 hbox hb;have n0_:=am (below_step bl hb);have n1_:=am (hbox);have n2_:=am ((by rw[hg];exact(below_size bl):w.heap.size≤gb167));have n3_:=am ((by rw[hg];exact(below_size bl):w.heap.size≤gb167));clear HB;have HB:=n0_;have BK167:=n1_;have GW167:=n2_;have GE167:=n3_;clear n0_ n1_ n2_ n3_ hb hbox hg;have hcz8_0:w7.cell? ⟨gb167,0,none⟩=some (.slice A0_0 l0_0.length c0_0):=(blk_cell BK167.out 0).trans rfl;have hcz8_1:w7.cell? ⟨gb167,1,none⟩=some (.int .i64 a0_1):=(blk_cell BK167.out 1).trans rfl;have hfz8_0:=blk_frozen BK167.out 0;have hfz8_1:=blk_frozen BK167.out 1)|((with_reducible refine gate_callee (f:=98) rfl ?_);refine goesL_ (some 9) rfl rfl Try.func98 (by kernel_rfl) rfl #[.agg #[.slice A0_0 l0_0.length c0_0,.int .i64 a0_1],.slice A1 l1.length c1] rfl (by(try simp only[List.map_toArray,List.map_cons,List.map_nil]);first|done|rfl|(simp only[List.length_drop,List.length_take];rfl)) ?_;(with_reducible refine(spec_inAsked.calls k _ _ l0_0 a0_1 _ _ l1 true _ ?side1 ?side2 ?side3 ?side4 A4.out).mono ?_);(case side1=>repeat(first|exact(Kd.C_below HR0_0.out HB.out)|(with_reducible refine Kd.C_alloc ?_ _)|(with_reducible refine Kd.C_drewN ?_ _)|(with_reducible refine Kd.C_drew ?_)));(case side2=>exact HC0_0.out);(case side3=>repeat(first|exact(Kd.C_below HR1.out HB.out)|(with_reducible refine Kd.C_alloc ?_ _)|(with_reducible refine Kd.C_drewN ?_ _)|(with_reducible refine Kd.C_drew ?_)));(case side4=>exact HC1.out);rintro e w9 ⟨rfl,hb⟩;refine⟨_,rfl,?_⟩;have n0_:=am (blk_below (g:=gb167) (o := .cells #[.slice A0_0 l0_0.length c0_0,.int .i64 a0_1] 44 (0,0)) (bup BK167.out) hb);have n1_:=am (below_step bl hb);clear BK167 HB;have BK167:=n0_;have HB:=n1_;clear n0_ n1_;(try clear hb);(try clear hb2);(try clear hk);(try clear hi))|(go_at_call 85;(with_reducible refine(spec_shGood.calls k _ _ l2 t169 _ ?side1 ?side2 A6.out).mono ?_);(case side1=>repeat(first|exact(Kd.C_below HR2.out HB.out)|(with_reducible refine Kd.C_alloc ?_ _)|(with_reducible refine Kd.C_drewN ?_ _)|(with_reducible refine Kd.C_drew ?_)));(case side2=>exact HC2.out);rintro e w10 ⟨rfl,hb⟩;have n0_:=am (blk_below (g:=gb167) (o := .cells #[.slice A0_0 l0_0.length c0_0,.int .i64 a0_1] 44 (0,0)) (bup BK167.out) hb);have n1_:=am (below_step bl hb);clear BK167 HB;have BK167:=n0_;have HB:=n1_;clear n0_ n1_;(try clear hb);(try clear hb2);(try clear hk);(try clear hi)))
  go_ret
  exact⟨fin1,bl⟩
 ·replace c5:=Bool.eq_false_iff.mpr c5
  subst c5
  have H1:(some false)=some r:=by rw[if_neg (show ¬ (false=true) by decide)] at H;exact H
  clear H
  have H:=H1
  clear H1
  obtain rfl:=Option.some.inj H
  go_enter Try.func74,Try.ntmps74
  go_wp2_with (first|((with_reducible refine gate_dst (N:=3) rfl ?_);refine box_event ?hg (N:=3) ?hd (cs := #[.slice A0_0 l0_0.length c0_0,.int .i64 a0_1]) (t:=44) ?hr ?_;(case hd=>rfl);(case hg=>rfl);(case hr=>first|(go_simp;done)|(go_simp;rfl));intro gb167 hg w11 hbox hb;have n0_:=am (below_step bl hb);have n1_:=am (hbox);have n2_:=am ((by rw[hg];exact(below_size bl):w.heap.size≤gb167));have n3_:=am ((by rw[hg];exact(below_size bl):w.heap.size≤gb167));clear HB;have HB:=n0_;have BK167:=n1_;have GW167:=n2_;have GE167:=n3_;clear n0_ n1_ n2_ n3_ hb hbox hg;have hcz12_0:w11.cell? ⟨gb167,0,none⟩=some (.slice A0_0 l0_0.length c0_0):=(blk_cell BK167.out 0).trans rfl;have hcz12_1:w11.cell? ⟨gb167,1,none⟩=some (.int .i64 a0_1):=(blk_cell BK167.out 1).trans rfl;have hfz12_0:=blk_frozen BK167.out 0;have hfz12_1:=blk_frozen BK167.out 1)|((with_reducible refine gate_callee (f:=98) rfl ?_);refine goesL_ (some 9) rfl rfl Try.func98 (by kernel_rfl) rfl #[.agg #[.slice A0_0 l0_0.length c0_0,.int .i64 a0_1],.slice A1 l1.length c1] rfl (by(try simp only[List.map_toArray,List.map_cons,List.map_nil]);first|done|rfl|(simp only[List.length_drop,List.length_take];rfl)) ?_;(with_reducible refine(spec_inAsked.calls k _ _ l0_0 a0_1 _ _ l1 false _ ?side1 ?side2 ?side3 ?side4 A4.out).mono ?_);(case side1=>repeat(first|exact(Kd.C_below HR0_0.out HB.out)|(with_reducible refine Kd.C_alloc ?_ _)|(with_reducible refine Kd.C_drewN ?_ _)|(with_reducible refine Kd.C_drew ?_)));(case side2=>exact HC0_0.out);(case side3=>repeat(first|exact(Kd.C_below HR1.out HB.out)|(with_reducible refine Kd.C_alloc ?_ _)|(with_reducible refine Kd.C_drewN ?_ _)|(with_reducible refine Kd.C_drew ?_)));(case side4=>exact HC1.out);rintro e w13 ⟨rfl,hb⟩;refine⟨_,rfl,?_⟩;have n0_:=am (blk_below (g:=gb167) (o := .cells #[.slice A0_0 l0_0.length c0_0,.int .i64 a0_1] 44 (0,0)) (bup BK167.out) hb);have n1_:=am (below_step bl hb);clear BK167 HB;have BK167:=n0_;have HB:=n1_;clear n0_ n1_;(try clear hb);(try clear hb2);(try clear hk);(try clear hi)))
  go_ret
  exact⟨fin1,bl⟩

/-! ### spec_pyAction: function 94 -/
def spec_pyAction.f (a0_0:Int) (a0_1:Int) (a0_2:Int):Option (Bool):=(spec_l1In.f a0_0 0 40).bind fun t171=>(if t171=true then((spec_l1In.f a0_1 0 40).bind fun t172=>(if t172=true then((spec_l1In.f a0_2 0 40).bind fun t173=>(some t173)) else(some false))) else(some false))
set_option maxHeartbeats 8000000 in
set_option maxRecDepth 100000 in
theorem spec_pyAction.calls (a0_0:Int) (a0_1:Int) (a0_2:Int) (r:Bool) (w:World) (h:spec_pyAction.f a0_0 a0_1 a0_2=some r) :
  Calls Try.prog 94 #[.agg #[.int .i64 a0_0,.int .i64 a0_1,.int .i64 a0_2]] w fun e w'=>e = .returned (.bool r)∧Below w.heap.size w w':=by
 have hu48:=Try.underlying48
 have HB:=am (Below.refl w.heap.size w)
 have H:((spec_l1In.f a0_0 0 40).bind fun t171=>(if t171=true then((spec_l1In.f a0_1 0 40).bind fun t172=>(if t172=true then((spec_l1In.f a0_2 0 40).bind fun t173=>(some t173)) else(some false))) else(some false)))=some r:=h
 clear h
 replace H:=Option.bind_eq_some_iff.mp H
 obtain⟨t171,A20,H⟩:=H
 replace H:(if t171=true then((spec_l1In.f a0_1 0 40).bind fun t172=>(if t172=true then((spec_l1In.f a0_2 0 40).bind fun t173=>(some t173)) else(some false))) else(some false))=some r:=H
 have A2:=am A20
 clear A20
 by_cases c3:t171=true
 ·subst c3
  have H1:((spec_l1In.f a0_1 0 40).bind fun t172=>(if t172=true then((spec_l1In.f a0_2 0 40).bind fun t173=>(some t173)) else(some false)))=some r:=by rw[if_pos rfl] at H;exact H
  clear H
  have H:=H1
  clear H1
  replace H:=Option.bind_eq_some_iff.mp H
  obtain⟨t172,A40,H⟩:=H
  replace H:(if t172=true then((spec_l1In.f a0_2 0 40).bind fun t173=>(some t173)) else(some false))=some r:=H
  have A4:=am A40
  clear A40
  by_cases c5:t172=true
  ·subst c5
   have H1:((spec_l1In.f a0_2 0 40).bind fun t173=>(some t173))=some r:=by rw[if_pos rfl] at H;exact H
   clear H
   have H:=H1
   clear H1
   replace H:=Option.bind_eq_some_iff.mp H
   obtain⟨t173,A60,H⟩:=H
   replace H:(some t173)=some r:=H
   have A6:=am A60
   clear A60
   obtain rfl:=Option.some.inj H
   go_enter Try.func94,Try.ntmps94
   go_wp2_with (first|((with_reducible refine gate_dst (N:=1) rfl ?_);refine box_event ?hg (N:=1) ?hd (cs := #[.int .i64 a0_0,.int .i64 a0_1,.int .i64 a0_2]) (t:=48) ?hr ?_;(case hd=>rfl);(case hg=>rfl);(case hr=>first|(go_simp;done)|(go_simp;rfl));intro gb170 hg w7 hbox hb;have n0_:=am (below_step bl hb);have n1_:=am (hbox);have n2_:=am ((by rw[hg];exact(below_size bl):w.heap.size≤gb170));have n3_:=am ((by rw[hg];exact(below_size bl):w.heap.size≤gb170));clear HB;have HB:=n0_;have BK170:=n1_;have GW170:=n2_;have GE170:=n3_;clear n0_ n1_ n2_ n3_ hb hbox hg;have hcz8_0:w7.cell? ⟨gb170,0,none⟩=some (.int .i64 a0_0):=(blk_cell BK170.out 0).trans rfl;have hcz8_1:w7.cell? ⟨gb170,1,none⟩=some (.int .i64 a0_1):=(blk_cell BK170.out 1).trans rfl;have hcz8_2:w7.cell? ⟨gb170,2,none⟩=some (.int .i64 a0_2):=(blk_cell BK170.out 2).trans rfl;have hfz8_0:=blk_frozen BK170.out 0;have hfz8_1:=blk_frozen BK170.out 1;have hfz8_2:=blk_frozen BK170.out 2)|((with_reducible refine gate_callee (f:=65) rfl ?_);refine goesL_ (some 5) rfl rfl Try.func65 (by kernel_rfl) rfl #[.int .i64 a0_0,.int .i64 0,.int .i64 40] rfl (by(try simp only[List.map_toArray,List.map_cons,List.map_nil]);first|done|rfl|(simp only[List.length_drop,List.length_take];rfl)) ?_;(with_reducible refine(spec_l1In.calls a0_0 0 40 true _ A2.out).mono ?_);rintro e w' ⟨rfl,⟨nd,rfl⟩⟩;refine⟨_,rfl,?_⟩)|(go_at_call 65;(with_reducible refine(spec_l1In.calls a0_1 0 40 true _ A4.out).mono ?_);rintro e w' ⟨rfl,⟨nd,rfl⟩⟩)|(go_at_call 65;(with_reducible refine(spec_l1In.calls a0_2 0 40 t173 _ A6.out).mono ?_);rintro e w' ⟨rfl,⟨nd,rfl⟩⟩))
   go_ret
   exact⟨fin1,bl⟩
  ·replace c5:=Bool.eq_false_iff.mpr c5
   subst c5
   have H1:(some false)=some r:=by rw[if_neg (show ¬ (false=true) by decide)] at H;exact H
   clear H
   have H:=H1
   clear H1
   obtain rfl:=Option.some.inj H
   go_enter Try.func94,Try.ntmps94
   go_wp2_with (first|((with_reducible refine gate_dst (N:=1) rfl ?_);refine box_event ?hg (N:=1) ?hd (cs := #[.int .i64 a0_0,.int .i64 a0_1,.int .i64 a0_2]) (t:=48) ?hr ?_;(case hd=>rfl);(case hg=>rfl);(case hr=>first|(go_simp;done)|(go_simp;rfl));intro gb170 hg w9 hbox hb;have n0_:=am (below_step bl hb);have n1_:=am (hbox);have n2_:=am ((by rw[hg];exact(below_size bl):w.heap.size≤gb170));have n3_:=am ((by rw[hg];exact(below_size bl):w.heap.size≤gb170));clear HB;have HB:=n0_;have BK170:=n1_;have GW170:=n2_;have GE170:=n3_;clear n0_ n1_ n2_ n3_ hb hbox hg;have hcz10_0:w9.cell? ⟨gb170,0,none⟩=some (.int .i64 a0_0):=(blk_cell BK170.out 0).trans rfl;have hcz10_1:w9.cell? ⟨gb170,1,none⟩=some (.int .i64 a0_1):=(blk_cell BK170.out 1).trans rfl;have hcz10_2:w9.cell? ⟨gb170,2,none⟩=some (.int .i64 a0_2):=(blk_cell BK170.out 2).trans rfl;have hfz10_0:=blk_frozen BK170.out 0;have hfz10_1:=blk_frozen BK170.out 1;have hfz10_2:=blk_frozen BK170.out 2)|((with_reducible refine gate_callee (f:=65) rfl ?_);refine goesL_ (some 5) rfl rfl Try.func65 (by kernel_rfl) rfl #[.int .i64 a0_0,.int .i64 0,.int .i64 40] rfl (by(try simp only[List.map_toArray,List.map_cons,List.map_nil]);first|done|rfl|(simp only[List.length_drop,List.length_take];rfl)) ?_;(with_reducible refine(spec_l1In.calls a0_0 0 40 true _ A2.out).mono ?_);rintro e w' ⟨rfl,⟨nd,rfl⟩⟩;refine⟨_,rfl,?_⟩)|(go_at_call 65;(with_reducible refine(spec_l1In.calls a0_1 0 40 false _ A4.out).mono ?_);rintro e w' ⟨rfl,⟨nd,rfl⟩⟩))
   go_ret
   exact⟨fin1,bl⟩
 ·replace c3:=Bool.eq_false_iff.mpr c3
  subst c3
  have H1:(some false)=some r:=by rw[if_neg (show ¬ (false=true) by decide)] at H;exact H
  clear H
  have H:=H1
  clear H1
  obtain rfl:=Option.some.inj H
  go_enter Try.func94,Try.ntmps94
  go_wp2_with (first|((with_reducible refine gate_dst (N:=1) rfl ?_);refine box_event ?hg (N:=1) ?hd (cs := #[.int .i64 a0_0,.int .i64 a0_1,.int .i64 a0_2]) (t:=48) ?hr ?_;(case hd=>rfl);(case hg=>rfl);(case hr=>first|(go_simp;done)|(go_simp;rfl));intro gb170 hg w11 hbox hb;have n0_:=am (below_step bl hb);have n1_:=am (hbox);have n2_:=am ((by rw[hg];exact(below_size bl):w.heap.size≤gb170));have n3_:=am ((by rw[hg];exact(below_size bl):w.heap.size≤gb170));clear HB;have HB:=n0_;have BK170:=n1_;have GW170:=n2_;have GE170:=n3_;clear n0_ n1_ n2_ n3_ hb hbox hg;have hcz12_0:w11.cell? ⟨gb170,0,none⟩=some (.int .i64 a0_0):=(blk_cell BK170.out 0).trans rfl;have hcz12_1:w11.cell? ⟨gb170,1,none⟩=some (.int .i64 a0_1):=(blk_cell BK170.out 1).trans rfl;have hcz12_2:w11.cell? ⟨gb170,2,none⟩=some (.int .i64 a0_2):=(blk_cell BK170.out 2).trans rfl;have hfz12_0:=blk_frozen BK170.out 0;have hfz12_1:=blk_frozen BK170.out 1;have hfz12_2:=blk_frozen BK170.out 2)|((with_reducible refine gate_callee (f:=65) rfl ?_);refine goesL_ (some 5) rfl rfl Try.func65 (by kernel_rfl) rfl #[.int .i64 a0_0,.int .i64 0,.int .i64 40] rfl (by(try simp only[List.map_toArray,List.map_cons,List.map_nil]);first|done|rfl|(simp only[List.length_drop,List.length_take];rfl)) ?_;(with_reducible refine(spec_l1In.calls a0_0 0 40 false _ A2.out).mono ?_);rintro e w' ⟨rfl,⟨nd,rfl⟩⟩;refine⟨_,rfl,?_⟩))
  go_ret
  exact⟨fin1,bl⟩

/-! ### spec_vfMost: function 95 -/
def spec_vfMost.f (a0:Int):Option (Bool):=(spec_l1In.f a0 0 50).bind fun t174=>(some t174)
set_option maxHeartbeats 8000000 in
set_option maxRecDepth 100000 in
theorem spec_vfMost.calls (a0:Int) (r:Bool) (w:World) (h:spec_vfMost.f a0=some r) :
  Calls Try.prog 95 #[.int .i64 a0] w fun e w'=>e = .returned (.bool r)∧Drawn0 w w':=by
 have H:((spec_l1In.f a0 0 50).bind fun t174=>(some t174))=some r:=h
 clear h
 replace H:=Option.bind_eq_some_iff.mp H
 obtain⟨t174,A20,H⟩:=H
 replace H:(some t174)=some r:=H
 have A2:=am A20
 clear A20
 obtain rfl:=Option.some.inj H
 go_enter Try.func95,Try.ntmps95
 go_wp2_with (first|((with_reducible refine gate_callee (f:=65) rfl ?_);refine goesL_ (some 4) rfl rfl Try.func65 (by kernel_rfl) rfl #[.int .i64 a0,.int .i64 0,.int .i64 50] rfl (by(try simp only[List.map_toArray,List.map_cons,List.map_nil]);first|done|rfl|(simp only[List.length_drop,List.length_take];rfl)) ?_;(with_reducible refine(spec_l1In.calls a0 0 50 t174 _ A2.out).mono ?_);rintro e w' ⟨rfl,⟨nd,rfl⟩⟩;refine⟨_,rfl,?_⟩))
 go_ret
 exact⟨by first|rfl|(simp;done)|(simp [*];done),by repeat(first|exact Drawn0.refl _|apply Drawn0.step)⟩

/-! ### spec_vfAll: function 62 -/
def spec_vfAll.f (k:Nat) (l0_0:List Int) (a0_1:Int) (l1:List (S95)) (l2:List (S80)) (a3_0:Int) (a3_1:Int) (a3_2:Int) (a4:Int):Option (Bool):=(spec_vfAsked.f k l0_0 a0_1 l1 l2).bind fun t177=>(if t177=true then((spec_pyAction.f a3_0 a3_1 a3_2).bind fun t178=>(if t178=true then((spec_vfMost.f a4).bind fun t179=>(some t179)) else(some false))) else(some false))
set_option maxHeartbeats 8000000 in
set_option maxRecDepth 100000 in
theorem spec_vfAll.calls (k:Nat) (A0_0:Option Addr) (c0_0:Nat) (l0_0:List Int) (a0_1:Int) (A1:Option Addr) (c1:Nat) (l1:List (S95)) (A2:Option Addr) (c2:Nat) (l2:List (S80)) (a3_0:Int) (a3_1:Int) (a3_2:Int) (a4:Int) (r:Bool) (w:World) (hr0_0:Kd.C (Kd.int .i64) w A0_0 l0_0.length l0_0) (hc0_0:l0_0.length≤c0_0) (hr1:Kd.C k95 w A1 l1.length l1) (hc1:l1.length≤c1) (hr2:Kd.C k80 w A2 l2.length l2) (hc2:l2.length≤c2) (h:spec_vfAll.f k l0_0 a0_1 l1 l2 a3_0 a3_1 a3_2 a4=some r) :
  Calls Try.prog 62 #[.agg #[.slice A0_0 l0_0.length c0_0,.int .i64 a0_1],.slice A1 l1.length c1,.slice A2 l2.length c2,.agg #[.int .i64 a3_0,.int .i64 a3_1,.int .i64 a3_2],.int .i64 a4] w fun e w'=>e = .returned (.bool r)∧Below w.heap.size w w':=by
 have hu44:=Try.underlying44
 have hu48:=Try.underlying48
 have HR0_0:=am hr0_0
 have HC0_0:=am hc0_0
 clear hr0_0 hc0_0
 have HR1:=am hr1
 have HC1:=am hc1
 clear hr1 hc1
 have HR2:=am hr2
 have HC2:=am hc2
 clear hr2 hc2
 have HB:=am (Below.refl w.heap.size w)
 have H:((spec_vfAsked.f k l0_0 a0_1 l1 l2).bind fun t177=>(if t177=true then((spec_pyAction.f a3_0 a3_1 a3_2).bind fun t178=>(if t178=true then((spec_vfMost.f a4).bind fun t179=>(some t179)) else(some false))) else(some false)))=some r:=h
 clear h
 replace H:=Option.bind_eq_some_iff.mp H
 obtain⟨t177,A60,H⟩:=H
 replace H:(if t177=true then((spec_pyAction.f a3_0 a3_1 a3_2).bind fun t178=>(if t178=true then((spec_vfMost.f a4).bind fun t179=>(some t179)) else(some false))) else(some false))=some r:=H
 have A6:=am A60
 clear A60
 by_cases c7:t177=true
 ·subst c7
  have H1:((spec_pyAction.f a3_0 a3_1 a3_2).bind fun t178=>(if t178=true then((spec_vfMost.f a4).bind fun t179=>(some t179)) else(some false)))=some r:=by rw[if_pos rfl] at H;exact H
  clear H
  have H:=H1
  clear H1
  replace H:=Option.bind_eq_some_iff.mp H
  obtain⟨t178,A80,H⟩:=H
  replace H:(if t178=true then((spec_vfMost.f a4).bind fun t179=>(some t179)) else(some false))=some r:=H
  have A8:=am A80
  clear A80
  by_cases c9:t178=true
  ·subst c9
   have H1:((spec_vfMost.f a4).bind fun t179=>(some t179))=some r:=by rw[if_pos rfl] at H;exact H
   clear H
   have H:=H1
   clear H1
   replace H:=Option.bind_eq_some_iff.mp H
   obtain⟨t179,A100,H⟩:=H
   replace H:(some t179)=some r:=H
   have A10:=am A100
   clear A100
   obtain rfl:=Option.some.inj H
   go_enter Try.func62,Try.ntmps62
   go_wp2_with (first|((with_reducible refine gate_dst (N:=5) rfl ?_);refine box_event ?hg (N:=5) ?hd (cs := #[.slice A0_0 l0_0.length c0_0,.int .i64 a0_1]) (t:=44) ?hr ?_;(case hd=>rfl);(case hg=>rfl);(case hr=>first|(go_simp;done)|(go_simp;rfl));intro gb175 hg w11 hbox hb;have n0_:=am (below_step bl hb);have n1_:=am (hbox);have n2_:=am ((by rw[hg];exact(below_size bl):w.heap.size≤gb175));have n3_:=am ((by rw[hg];exact(below_size bl):w.heap.size≤gb175));clear HB;have HB:=n0_;have BK175:=n1_;have GW175:=n2_;have GE175:=n3_;clear n0_ n1_ n2_ n3_ hb hbox hg)|((with_reducible refine gate_dst (N:=8) rfl ?_);refine box_event ?hg (N:=8) ?hd (cs := #[.int .i64 a3_0,.int .i64 a3_1,.int .i64 a3_2]) (t:=48) ?hr ?_;(case hd=>rfl);(case hg=>rfl);(case hr=>first|(go_simp;done)|(go_simp;rfl));intro gb176 hg w12 hbox hb;have n0_:=am (blk_below (g:=gb175) (o := .cells #[.slice A0_0 l0_0.length c0_0,.int .i64 a0_1] 44 (0,0)) (bup BK175.out) hb);have n1_:=am (below_step bl hb);have n2_:=am (hbox);have n3_:=am ((by rw[hg];exact(below_size bl):w.heap.size≤gb176));have n4_:=am ((by rw[hg];exact(below_size bl):w.heap.size≤gb176));have n5_:=am ((by rw[hg];exact Nat.ne_of_lt (blk_lt (g:=gb175) (o := .cells #[.slice A0_0 l0_0.length c0_0,.int .i64 a0_1] 44 (0,0)) (bup BK175.out)):gb175≠gb176));have n6_:=am ((by rw[hg];exact Nat.ne_of_gt (blk_lt (g:=gb175) (o := .cells #[.slice A0_0 l0_0.length c0_0,.int .i64 a0_1] 44 (0,0)) (bup BK175.out)):gb176≠gb175));clear BK175 HB;have BK175:=n0_;have HB:=n1_;have BK176:=n2_;have GW176:=n3_;have GE176:=n4_;have NB175_176:=n5_;have NB176_175:=n6_;clear n0_ n1_ n2_ n3_ n4_ n5_ n6_ hb hbox hg;have hnb13:=NB175_176.out;have hnc13:=NB176_175.out;have hcz14_0:w12.cell? ⟨gb175,0,none⟩=some (.slice A0_0 l0_0.length c0_0):=(blk_cell BK175.out 0).trans rfl;have hcz14_1:w12.cell? ⟨gb175,1,none⟩=some (.int .i64 a0_1):=(blk_cell BK175.out 1).trans rfl;have hfz14_0:=blk_frozen BK175.out 0;have hfz14_1:=blk_frozen BK175.out 1)|((with_reducible refine gate_callee (f:=74) rfl ?_);refine goesL_ (some 14) rfl rfl Try.func74 (by kernel_rfl) rfl #[.agg #[.slice A0_0 l0_0.length c0_0,.int .i64 a0_1],.slice A1 l1.length c1,.slice A2 l2.length c2] rfl (by(try simp only[List.map_toArray,List.map_cons,List.map_nil]);first|done|rfl|(simp only[List.length_drop,List.length_take];rfl)) ?_;(with_reducible refine(spec_vfAsked.calls k _ _ l0_0 a0_1 _ _ l1 _ _ l2 true _ ?side1 ?side2 ?side3 ?side4 ?side5 ?side6 A6.out).mono ?_);(case side1=>repeat(first|exact(Kd.C_below HR0_0.out HB.out)|(with_reducible refine Kd.C_alloc ?_ _)|(with_reducible refine Kd.C_drewN ?_ _)|(with_reducible refine Kd.C_drew ?_)));(case side2=>exact HC0_0.out);(case side3=>repeat(first|exact(Kd.C_below HR1.out HB.out)|(with_reducible refine Kd.C_alloc ?_ _)|(with_reducible refine Kd.C_drewN ?_ _)|(with_reducible refine Kd.C_drew ?_)));(case side4=>exact HC1.out);(case side5=>repeat(first|exact(Kd.C_below HR2.out HB.out)|(with_reducible refine Kd.C_alloc ?_ _)|(with_reducible refine Kd.C_drewN ?_ _)|(with_reducible refine Kd.C_drew ?_)));(case side6=>exact HC2.out);rintro e w15 ⟨rfl,hb⟩;refine⟨_,rfl,?_⟩;have n0_:=am (blk_below (g:=gb175) (o := .cells #[.slice A0_0 l0_0.length c0_0,.int .i64 a0_1] 44 (0,0)) (bup BK175.out) hb);have n1_:=am (blk_below (g:=gb176) (o := .cells #[.int .i64 a3_0,.int .i64 a3_1,.int .i64 a3_2] 48 (0,0)) (bup BK176.out) hb);have n2_:=am (below_step bl hb);clear BK175 BK176 HB;have BK175:=n0_;have BK176:=n1_;have HB:=n2_;clear n0_ n1_ n2_;(try clear hb);(try clear hb2);(try clear hk);(try clear hi);have hcz16_0:w15.cell? ⟨gb176,0,none⟩=some (.int .i64 a3_0):=(blk_cell BK176.out 0).trans rfl;have hcz16_1:w15.cell? ⟨gb176,1,none⟩=some (.int .i64 a3_1):=(blk_cell BK176.out 1).trans rfl;have hcz16_2:w15.cell? ⟨gb176,2,none⟩=some (.int .i64 a3_2):=(blk_cell BK176.out 2).trans rfl;have hfz16_0:=blk_frozen BK176.out 0;have hfz16_1:=blk_frozen BK176.out 1;have hfz16_2:=blk_frozen BK176.out 2)|(go_at_call 94;(with_reducible refine(spec_pyAction.calls a3_0 a3_1 a3_2 true _ A8.out).mono ?_);rintro e w17 ⟨rfl,hb⟩;have n0_:=am (blk_below (g:=gb175) (o := .cells #[.slice A0_0 l0_0.length c0_0,.int .i64 a0_1] 44 (0,0)) (bup BK175.out) hb);have n1_:=am (blk_below (g:=gb176) (o := .cells #[.int .i64 a3_0,.int .i64 a3_1,.int .i64 a3_2] 48 (0,0)) (bup BK176.out) hb);have n2_:=am (below_step bl hb);clear BK175 BK176 HB;have BK175:=n0_;have BK176:=n1_;have HB:=n2_;clear n0_ n1_ n2_;(try clear hb);(try clear hb2);(try clear hk);(try clear hi))|(go_at_call 95;(with_reducible refine(spec_vfMost.calls a4 t179 _ A10.out).mono ?_);rintro e w' ⟨rfl,⟨nd,rfl⟩⟩))
   go_ret
   exact⟨fin1,bl⟩
  ·replace c9:=Bool.eq_false_iff.mpr c9
   subst c9
   have H1:(some false)=some r:=by rw[if_neg (show ¬ (false=true) by decide)] at H;exact H
   clear H
   have H:=H1
   clear H1
   obtain rfl:=Option.some.inj H
   go_enter Try.func62,Try.ntmps62
   go_wp2_with (first|((with_reducible refine gate_dst (N:=5) rfl ?_);refine box_event ?hg (N:=5) ?hd (cs := #[.slice A0_0 l0_0.length c0_0,.int .i64 a0_1]) (t:=44) ?hr ?_;(case hd=>rfl);(case hg=>rfl);(case hr=>first|(go_simp;done)|(go_simp;rfl));intro gb175 hg w18 hbox hb;have n0_:=am (below_step bl hb);have n1_:=am (hbox);have n2_:=am ((by rw[hg];exact(below_size bl):w.heap.size≤gb175));have n3_:=am ((by rw[hg];exact(below_size bl):w.heap.size≤gb175));clear HB;have HB:=n0_;have BK175:=n1_;have GW175:=n2_;have GE175:=n3_;clear n0_ n1_ n2_ n3_ hb hbox hg)|((with_reducible refine gate_dst (N:=8) rfl ?_);refine box_event ?hg (N:=8) ?hd (cs := #[.int .i64 a3_0,.int .i64 a3_1,.int .i64 a3_2]) (t:=48) ?hr ?_;(case hd=>rfl);(case hg=>rfl);(case hr=>first|(go_simp;done)|(go_simp;rfl));intro gb176 hg w19 hbox hb;have n0_:=am (blk_below (g:=gb175) (o := .cells #[.slice A0_0 l0_0.length c0_0,.int .i64 a0_1] 44 (0,0)) (bup BK175.out) hb);have n1_:=am (below_step bl hb);have n2_:=am (hbox);have n3_:=am ((by rw[hg];exact(below_size bl):w.heap.size≤gb176));have n4_:=am ((by rw[hg];exact(below_size bl):w.heap.size≤gb176));have n5_:=am ((by rw[hg];exact Nat.ne_of_lt (blk_lt (g:=gb175) (o := .cells #[.slice A0_0 l0_0.length c0_0,.int .i64 a0_1] 44 (0,0)) (bup BK175.out)):gb175≠gb176));have n6_:=am ((by rw[hg];exact Nat.ne_of_gt (blk_lt (g:=gb175) (o := .cells #[.slice A0_0 l0_0.length c0_0,.int .i64 a0_1] 44 (0,0)) (bup BK175.out)):gb176≠gb175));clear BK175 HB;have BK175:=n0_;have HB:=n1_;have BK176:=n2_;have GW176:=n3_;have GE176:=n4_;have NB175_176:=n5_;have NB176_175:=n6_;clear n0_ n1_ n2_ n3_ n4_ n5_ n6_ hb hbox hg;have hnb20:=NB175_176.out;have hnc20:=NB176_175.out;have hcz21_0:w19.cell? ⟨gb175,0,none⟩=some (.slice A0_0 l0_0.length c0_0):=(blk_cell BK175.out 0).trans rfl;have hcz21_1:w19.cell? ⟨gb175,1,none⟩=some (.int .i64 a0_1):=(blk_cell BK175.out 1).trans rfl;have hfz21_0:=blk_frozen BK175.out 0;have hfz21_1:=blk_frozen BK175.out 1)|((with_reducible refine gate_callee (f:=74) rfl ?_);refine goesL_ (some 14) rfl rfl Try.func74 (by kernel_rfl) rfl #[.agg #[.slice A0_0 l0_0.length c0_0,.int .i64 a0_1],.slice A1 l1.length c1,.slice A2 l2.length c2] rfl (by(try simp only[List.map_toArray,List.map_cons,List.map_nil]);first|done|rfl|(simp only[List.length_drop,List.length_take];rfl)) ?_;(with_reducible refine(spec_vfAsked.calls k _ _ l0_0 a0_1 _ _ l1 _ _ l2 true _ ?side1 ?side2 ?side3 ?side4 ?side5 ?side6 A6.out).mono ?_);(case side1=>repeat(first|exact(Kd.C_below HR0_0.out HB.out)|(with_reducible refine Kd.C_alloc ?_ _)|(with_reducible refine Kd.C_drewN ?_ _)|(with_reducible refine Kd.C_drew ?_)));(case side2=>exact HC0_0.out);(case side3=>repeat(first|exact(Kd.C_below HR1.out HB.out)|(with_reducible refine Kd.C_alloc ?_ _)|(with_reducible refine Kd.C_drewN ?_ _)|(with_reducible refine Kd.C_drew ?_)));(case side4=>exact HC1.out);(case side5=>repeat(first|exact(Kd.C_below HR2.out HB.out)|(with_reducible refine Kd.C_alloc ?_ _)|(with_reducible refine Kd.C_drewN ?_ _)|(with_reducible refine Kd.C_drew ?_)));(case side6=>exact HC2.out);rintro e w22 ⟨rfl,hb⟩;refine⟨_,rfl,?_⟩;have n0_:=am (blk_below (g:=gb175) (o := .cells #[.slice A0_0 l0_0.length c0_0,.int .i64 a0_1] 44 (0,0)) (bup BK175.out) hb);have n1_:=am (blk_below (g:=gb176) (o := .cells #[.int .i64 a3_0,.int .i64 a3_1,.int .i64 a3_2] 48 (0,0)) (bup BK176.out) hb);have n2_:=am (below_step bl hb);clear BK175 BK176 HB;have BK175:=n0_;have BK176:=n1_;have HB:=n2_;clear n0_ n1_ n2_;(try clear hb);(try clear hb2);(try clear hk);(try clear hi);have hcz23_0:w22.cell? ⟨gb176,0,none⟩=some (.int .i64 a3_0):=(blk_cell BK176.out 0).trans rfl;have hcz23_1:w22.cell? ⟨gb176,1,none⟩=some (.int .i64 a3_1):=(blk_cell BK176.out 1).trans rfl;have hcz23_2:w22.cell? ⟨gb176,2,none⟩=some (.int .i64 a3_2):=(blk_cell BK176.out 2).trans rfl;have hfz23_0:=blk_frozen BK176.out 0;have hfz23_1:=blk_frozen BK176.out 1;have hfz23_2:=blk_frozen BK176.out 2)|(go_at_call 94;(with_reducible refine(spec_pyAction.calls a3_0 a3_1 a3_2 false _ A8.out).mono ?_);rintro e w24 ⟨rfl,hb⟩;have n0_:=am (blk_below (g:=gb175) (o := .cells #[.slice A0_0 l0_0.length c0_0,.int .i64 a0_1] 44 (0,0)) (bup BK175.out) hb);have n1_:=am (blk_below (g:=gb176) (o := .cells #[.int .i64 a3_0,.int .i64 a3_1,.int .i64 a3_2] 48 (0,0)) (bup BK176.out) hb);have n2_:=am (below_step bl hb);clear BK175 BK176 HB;have BK175:=n0_;have BK176:=n1_;have HB:=n2_;clear n0_ n1_ n2_;(try clear hb);(try clear hb2);(try clear hk);(try clear hi)))
   go_ret
   exact⟨fin1,bl⟩
 ·replace c7:=Bool.eq_false_iff.mpr c7
  subst c7
  have H1:(some false)=some r:=by rw[if_neg (show ¬ (false=true) by decide)] at H;exact H
  clear H
  have H:=H1
  clear H1
  obtain rfl:=Option.some.inj H
  go_enter Try.func62,Try.ntmps62
  go_wp2_with (first|((with_reducible refine gate_dst (N:=5) rfl ?_);refine box_event ?hg (N:=5) ?hd (cs := #[.slice A0_0 l0_0.length c0_0,.int .i64 a0_1]) (t:=44) ?hr ?_;(case hd=>rfl);(case hg=>rfl);(case hr=>first|(go_simp;done)|(go_simp;rfl));intro gb175 hg w25 hbox hb;have n0_:=am (below_step bl hb);have n1_:=am (hbox);have n2_:=am ((by rw[hg];exact(below_size bl):w.heap.size≤gb175));have n3_:=am ((by rw[hg];exact(below_size bl):w.heap.size≤gb175));clear HB;have HB:=n0_;have BK175:=n1_;have GW175:=n2_;have GE175:=n3_;clear n0_ n1_ n2_ n3_ hb hbox hg)|((with_reducible refine gate_dst (N:=8) rfl ?_);refine box_event ?hg (N:=8) ?hd (cs := #[.int .i64 a3_0,.int .i64 a3_1,.int .i64 a3_2]) (t:=48) ?hr ?_;(case hd=>rfl);(case hg=>rfl);(case hr=>first|(go_simp;done)|(go_simp;rfl));intro gb176 hg w26 hbox hb;have n0_:=am (blk_below (g:=gb175) (o := .cells #[.slice A0_0 l0_0.length c0_0,.int .i64 a0_1] 44 (0,0)) (bup BK175.out) hb);have n1_:=am (below_step bl hb);have n2_:=am (hbox);have n3_:=am ((by rw[hg];exact(below_size bl):w.heap.size≤gb176));have n4_:=am ((by rw[hg];exact(below_size bl):w.heap.size≤gb176));have n5_:=am ((by rw[hg];exact Nat.ne_of_lt (blk_lt (g:=gb175) (o := .cells #[.slice A0_0 l0_0.length c0_0,.int .i64 a0_1] 44 (0,0)) (bup BK175.out)):gb175≠gb176));have n6_:=am ((by rw[hg];exact Nat.ne_of_gt (blk_lt (g:=gb175) (o := .cells #[.slice A0_0 l0_0.length c0_0,.int .i64 a0_1] 44 (0,0)) (bup BK175.out)):gb176≠gb175));clear BK175 HB;have BK175:=n0_;have HB:=n1_;have BK176:=n2_;have GW176:=n3_;have GE176:=n4_;have NB175_176:=n5_;have NB176_175:=n6_;clear n0_ n1_ n2_ n3_ n4_ n5_ n6_ hb hbox hg;have hnb27:=NB175_176.out;have hnc27:=NB176_175.out;have hcz28_0:w26.cell? ⟨gb175,0,none⟩=some (.slice A0_0 l0_0.length c0_0):=(blk_cell BK175.out 0).trans rfl;have hcz28_1:w26.cell? ⟨gb175,1,none⟩=some (.int .i64 a0_1):=(blk_cell BK175.out 1).trans rfl;have hfz28_0:=blk_frozen BK175.out 0;have hfz28_1:=blk_frozen BK175.out 1)|((with_reducible refine gate_callee (f:=74) rfl ?_);refine goesL_ (some 14) rfl rfl Try.func74 (by kernel_rfl) rfl #[.agg #[.slice A0_0 l0_0.length c0_0,.int .i64 a0_1],.slice A1 l1.length c1,.slice A2 l2.length c2] rfl (by(try simp only[List.map_toArray,List.map_cons,List.map_nil]);first|done|rfl|(simp only[List.length_drop,List.length_take];rfl)) ?_;(with_reducible refine(spec_vfAsked.calls k _ _ l0_0 a0_1 _ _ l1 _ _ l2 false _ ?side1 ?side2 ?side3 ?side4 ?side5 ?side6 A6.out).mono ?_);(case side1=>repeat(first|exact(Kd.C_below HR0_0.out HB.out)|(with_reducible refine Kd.C_alloc ?_ _)|(with_reducible refine Kd.C_drewN ?_ _)|(with_reducible refine Kd.C_drew ?_)));(case side2=>exact HC0_0.out);(case side3=>repeat(first|exact(Kd.C_below HR1.out HB.out)|(with_reducible refine Kd.C_alloc ?_ _)|(with_reducible refine Kd.C_drewN ?_ _)|(with_reducible refine Kd.C_drew ?_)));(case side4=>exact HC1.out);(case side5=>repeat(first|exact(Kd.C_below HR2.out HB.out)|(with_reducible refine Kd.C_alloc ?_ _)|(with_reducible refine Kd.C_drewN ?_ _)|(with_reducible refine Kd.C_drew ?_)));(case side6=>exact HC2.out);rintro e w29 ⟨rfl,hb⟩;refine⟨_,rfl,?_⟩;have n0_:=am (blk_below (g:=gb175) (o := .cells #[.slice A0_0 l0_0.length c0_0,.int .i64 a0_1] 44 (0,0)) (bup BK175.out) hb);have n1_:=am (blk_below (g:=gb176) (o := .cells #[.int .i64 a3_0,.int .i64 a3_1,.int .i64 a3_2] 48 (0,0)) (bup BK176.out) hb);have n2_:=am (below_step bl hb);clear BK175 BK176 HB;have BK175:=n0_;have BK176:=n1_;have HB:=n2_;clear n0_ n1_ n2_;(try clear hb);(try clear hb2);(try clear hk);(try clear hi)))
  go_ret
  exact⟨fin1,bl⟩

/-! ### spec_pyAll: function 63 -/
mutual
def spec_pyAll.l0:Nat→List (S80)→List Int→Int→Int→List Int→Int→Int→Int→Int→Option ((List (S97))×List Int)
 | 0,_,_,_,_,_,_,_,_,_=>none
 | k+1,x1,x10,x18,x19,x181000,x181001,x182000,x182001,x182002=>if x19<x18 then(if 0≤x19 then(if x19<(x10.length:Int) then(spec_pyAll.l0 k x1 (x10.set (x19:Int).toNat (-40)) x18 (wrap64 (x19+1)) x181000 x181001 x182000 x182001 x182002) else(none)) else(none)) else(spec_pyAll.l1 k ([]:List (S97)) ([]:List Int) x10 x1 (x1.length:Int) 0 x181000 x181001 x182000 x182001 x182002)
def spec_pyAll.l1:Nat→List (S97)→List Int→List Int→List (S80)→Int→Int→List Int→Int→Int→Int→Int→Option ((List (S97))×List Int)
 | 0,_,_,_,_,_,_,_,_,_,_,_=>none
 | k+1,x8,x9,x10,x26,x27,x28,x181000,x181001,x182000,x182001,x182002=>if x28<x27 then(if 0≤x28 then(if x28<(x26.length:Int) then(if((rd_T80 x26 x28).f0)≥(x181000.length:Int) then(if x9.length<17592186044416 then(spec_pyAll.l1 k x8 (x9 ++ [x28]) x10 x26 x27 (wrap64 (x28+1)) x181000 x181001 x182000 x182001 x182002) else(none)) else(if(wrap64 (((rd_T80 x26 x28).f2) - ((rd_T80 x26 x28).f1)))<x182002 then(if x9.length<17592186044416 then(spec_pyAll.l1 k x8 (x9 ++ [x28]) x10 x26 x27 (wrap64 (x28+1)) x181000 x181001 x182000 x182001 x182002) else(none)) else(if 0≤((rd_T80 x26 x28).f0) then(if((rd_T80 x26 x28).f0)<(x10.length:Int) then(if(wrap64 (((rd_T80 x26 x28).f1) - (rd x10 ((rd_T80 x26 x28).f0))))<(wrap64 (2*x181001)) then(if x9.length<17592186044416 then(spec_pyAll.l1 k x8 (x9 ++ [x28]) x10 x26 x27 (wrap64 (x28+1)) x181000 x181001 x182000 x182001 x182002) else(none)) else(if(wrap64 (((rd_T80 x26 x28).f1)+x182000))≥(wrap64 (((rd_T80 x26 x28).f2)+x182001)) then(if x9.length<17592186044416 then(spec_pyAll.l1 k x8 (x9 ++ [x28]) x10 x26 x27 (wrap64 (x28+1)) x181000 x181001 x182000 x182001 x182002) else(none)) else(if((rd_T80 x26 x28).f0)<(x181000.length:Int) then(if x8.length<5864062014805 then(spec_pyAll.l1 k (x8 ++ [(⟨rd x181000 ((rd_T80 x26 x28).f0),wrap64 (((rd_T80 x26 x28).f1)+x182000),wrap64 (((rd_T80 x26 x28).f2)+x182001)⟩:S97)]) x9 (x10.set (((rd_T80 x26 x28).f0):Int).toNat ((rd_T80 x26 x28).f1)) x26 x27 (wrap64 (x28+1)) x181000 x181001 x182000 x182001 x182002) else(none)) else(none)))) else(none)) else(none)))) else(none)) else(none)) else(some (x8,x9))
end
def spec_pyAll.f (k:Nat) (l0_0:List Int) (a0_1:Int) (l1:List (S80)) (a2_0:Int) (a2_1:Int) (a2_2:Int):Option ((List (S97))×List Int):=if 20≤35184372088832 then((some (List.replicate 20 0:List Int)).bind fun y182=>(spec_pyAll.l0 k l1 y182 (y182.length:Int) 0 l0_0 a0_1 a2_0 a2_1 a2_2)) else(none)
set_option maxHeartbeats 8000000 in
set_option maxRecDepth 100000 in
theorem spec_pyAll.calls (k:Nat) (A0_0:Option Addr) (c0_0:Nat) (l0_0:List Int) (a0_1:Int) (A1:Option Addr) (c1:Nat) (l1:List (S80)) (a2_0:Int) (a2_1:Int) (a2_2:Int) (r1:List (S97)) (r2:List Int) (w:World) (hr0_0:Kd.C (Kd.int .i64) w A0_0 l0_0.length l0_0) (hc0_0:l0_0.length≤c0_0) (hr1:Kd.C k80 w A1 l1.length l1) (hc1:l1.length≤c1) (h:spec_pyAll.f k l0_0 a0_1 l1 a2_0 a2_1 a2_2=some (r1,r2)) :
  Calls Try.prog 63 #[.agg #[.slice A0_0 l0_0.length c0_0,.int .i64 a0_1],.slice A1 l1.length c1,.agg #[.int .i64 a2_0,.int .i64 a2_1,.int .i64 a2_2]] w fun e w'=>∃ v0_ v1_:Value,e = .returned (.tuple #[v0_,v1_])∧Kd.R k97 97 w' w.heap.size (fun _=>True) v0_ r1∧Kd.R (Kd.int .i64) 3 w' w.heap.size (fun _=>True) v1_ r2∧Below w.heap.size w w':=by
 have hu44:=Try.underlying44
 have hu48:=Try.underlying48
 have hu80:=Try.underlying80
 have hu97:=Try.underlying97
 have HR0_0:=am hr0_0
 have HC0_0:=am hc0_0
 clear hr0_0 hc0_0
 have HR1:=am hr1
 have HC1:=am hc1
 clear hr1 hc1
 have HB:=am (Below.refl w.heap.size w)
 have H:(if 20≤35184372088832 then((some (List.replicate 20 0:List Int)).bind fun y182=>(spec_pyAll.l0 k l1 y182 (y182.length:Int) 0 l0_0 a0_1 a2_0 a2_1 a2_2)) else(none))=some (r1,r2):=h
 clear h
 by_cases c4:20≤35184372088832
 ·rw[if_pos c4] at H
  have c4b0:=eq_true c4
  have c4b1:decide (20≤35184372088832)=true:=decide_eq_true c4
  clear c4
  obtain⟨y182,hy182⟩:∃ y_:List Int,y_=(List.replicate 20 0):=⟨_,rfl⟩
  replace H:(spec_pyAll.l0 k l1 y182 (y182.length:Int) 0 l0_0 a0_1 a2_0 a2_1 a2_2)=some (r1,r2):=by first|(rw[hy182];with_reducible exact H)|(have H2_:=(Option.bind_some _ _).symm.trans H;rw[hy182];with_reducible exact H2_)|(have H2_:=(Option.bind_some _ _).symm.trans H;with_reducible exact H2_)|with_reducible exact H|(rw[hy182];exact H)|exact H
  have Ny182:=am hy182
  clear hy182
  have H':=am H
  clear H
  go_enter Try.func63,Try.ntmps63
  iterate 3 ((try go_quiet (fail));(try go_wp2_with (first|((with_reducible refine gate_dst (N:=3) rfl ?_);refine box_event ?hg (N:=3) ?hd (cs := #[.slice A0_0 l0_0.length c0_0,.int .i64 a0_1]) (t:=44) ?hr ?_;(case hd=>rfl);(case hg=>rfl);(case hr=>first|(go_simp;done)|(go_simp;rfl));intro gb180 hg w5 hbox hb;have n0_:=am (below_step bl hb);have n1_:=am (hbox);have n2_:=am ((by rw[hg];exact(below_size bl):w.heap.size≤gb180));have n3_:=am ((by rw[hg];exact(below_size bl):w.heap.size≤gb180));clear HB;have HB:=n0_;have BK180:=n1_;have GW180:=n2_;have GE180:=n3_;clear n0_ n1_ n2_ n3_ hb hbox hg)|((with_reducible refine gate_dst (N:=5) rfl ?_);refine box_event ?hg (N:=5) ?hd (cs := #[.int .i64 a2_0,.int .i64 a2_1,.int .i64 a2_2]) (t:=48) ?hr ?_;(case hd=>rfl);(case hg=>rfl);(case hr=>first|(go_simp;done)|(go_simp;rfl));intro gb181 hg w6 hbox hb;have n0_:=am (blk_below (g:=gb180) (o := .cells #[.slice A0_0 l0_0.length c0_0,.int .i64 a0_1] 44 (0,0)) (bup BK180.out) hb);have n1_:=am (below_step bl hb);have n2_:=am (hbox);have n3_:=am ((by rw[hg];exact(below_size bl):w.heap.size≤gb181));have n4_:=am ((by rw[hg];exact(below_size bl):w.heap.size≤gb181));have n5_:=am ((by rw[hg];exact Nat.ne_of_lt (blk_lt (g:=gb180) (o := .cells #[.slice A0_0 l0_0.length c0_0,.int .i64 a0_1] 44 (0,0)) (bup BK180.out)):gb180≠gb181));have n6_:=am ((by rw[hg];exact Nat.ne_of_gt (blk_lt (g:=gb180) (o := .cells #[.slice A0_0 l0_0.length c0_0,.int .i64 a0_1] 44 (0,0)) (bup BK180.out)):gb181≠gb180));clear BK180 HB;have BK180:=n0_;have HB:=n1_;have BK181:=n2_;have GW181:=n3_;have GE181:=n4_;have NB180_181:=n5_;have NB181_180:=n6_;clear n0_ n1_ n2_ n3_ n4_ n5_ n6_ hb hbox hg)|((with_reducible refine gate_dst (N:=16) rfl ?_);refine Kd.R_make (Kd.int .i64) _ 3 rfl (N:=16) rfl 34 _ _ rfl 20 rfl rfl Try.underlying34 (.int .i64 0) 8 info3 rfl (by decide) (by omega) 0 (ok:=fun _=>True) (okp:=fun _=>True) rfl (fun _ hk=>hk) trivial (by omega) (by omega) (Below.refl _ _) (Nat.le_refl _) ?_;intro v183 w7 ho8 hb hg_ hnew_;clear hg_ hnew_;(first|rw[← Ny182.out] at ho8|(simp only[Int.reduceToNat] at ho8;rw[← Ny182.out] at ho8));have n0_:=am (Kd.R_lower ho8 (below_size bl));have n1_:=am (blk_below (g:=gb180) (o := .cells #[.slice A0_0 l0_0.length c0_0,.int .i64 a0_1] 44 (0,0)) (bup BK180.out) hb);have n2_:=am (blk_below (g:=gb181) (o := .cells #[.int .i64 a2_0,.int .i64 a2_1,.int .i64 a2_2] 48 (0,0)) (bup BK181.out) hb);have n3_:=am (below_step bl hb);clear BK180 BK181 HB;have HO184:=n0_;have BK180:=n1_;have BK181:=n2_;have HB:=n3_;clear n0_ n1_ n2_ n3_ hb ho8;obtain⟨Ao9,co9,eo9⟩:=Kd.R_slice HO184.out;subst eo9))))
  go_loopg [19] k (fun kq v19 w'=>∃(x10_1:List Int) (x19_1:Int),v19 = .int .i64 x19_1∧Aside0 (spec_pyAll.l0 kq l1 x10_1 (y182.length:Int) x19_1 l0_0 a0_1 a2_0 a2_1 a2_2=some (r1,r2))∧Aside0 (kq≤k)∧Aside0 (Kd.R (Kd.int .i64) 3 w' w.heap.size (fun _=>True) (.slice Ao9 y182.length co9) x10_1)∧Aside0 (w'.heap[gb180]?=some (.cells #[(.slice A0_0 l0_0.length c0_0),.int .i64 a0_1] 44 (0,0)))∧Aside0 (w'.heap[gb181]?=some (.cells #[.int .i64 a2_0,.int .i64 a2_1,.int .i64 a2_2] 48 (0,0)))∧Aside0 (Below w.heap.size w w'))
  case atStart=>exact⟨(y182),(0),fin2,H',⟨Nat.le_refl _⟩,⟨rup HO184.out⟩,⟨bup BK180.out⟩,⟨bup BK181.out⟩,⟨bl⟩⟩
  case round =>
   clear H'
   try clear c1
   try clear p2
   try clear c4
   try clear c4b0
   try clear c4b1
   try clear c6
   obtain⟨x10_1,x19_1,rfl,HA,HK1,HO_10,BK180,BK181,HB⟩:=hrel
   have hl10_1:=(Kd.R_reads' HO_10.out).1
   rw[hl10_1] at HO_10
   (try simp only[hl10_1])
   (try simp only[hl10_1] at BK180)
   (try simp only[hl10_1] at BK181)
   cases gk with
   | zero=>exact absurd HA.out (by simp [spec_pyAll.l0])
   | succ k1 =>
    have H:=HA.out
    clear HA
    simp only[spec_pyAll.l0] at H
    by_cases c10:x19_1<(y182.length:Int)
    ·rw[if_pos c10] at H
     have c10b0:decide (x19_1<(y182.length:Int))=true:=decide_eq_true c10
     clear c10
     by_cases c11:0≤x19_1
     ·rw[if_pos c11] at H
      have c11b0:decide (0≤x19_1)=true:=decide_eq_true c11
      clear c11
      by_cases c12:x19_1<(x10_1.length:Int)
      ·rw[if_pos c12] at H
       have c12b0:decide (x19_1<(x10_1.length:Int))=true:=decide_eq_true c12
       clear c12
       obtain⟨y185,hy185⟩:∃ y_:List Int,y_=(x10_1.set (x19_1:Int).toNat (-40)):=⟨_,rfl⟩
       replace H:(spec_pyAll.l0 k1 l1 y185 (y182.length:Int) (wrap64 (x19_1+1)) l0_0 a0_1 a2_0 a2_1 a2_2)=some (r1,r2):=by first|(rw[hy185];with_reducible exact H)|(have H2_:=(Option.bind_some _ _).symm.trans H;rw[hy185];with_reducible exact H2_)|(have H2_:=(Option.bind_some _ _).symm.trans H;with_reducible exact H2_)|with_reducible exact H|(rw[hy185];exact H)|exact H
       have Ny185:=am hy185
       clear hy185
       have H':=am H
       clear H
       have p13:0≤(x19_1:Int):=od
       have q13:(x19_1:Int)<((x10_1.length:Int):Int):=od
       obtain⟨go13,co13,eo13,gb13,gl13,cl13,HG13⟩:=Kd.R_form HO_10.out (by omega)
       (first|cases eo13|(injection eo13 with ea_ en_ ec_;(first|subst ea_|(injection ea_ with ea_;subst ea_));subst ec_;clear en_))
       have GB13:=am gb13
       have GG13:=am HG13
       clear gb13 gl13 HG13
       obtain⟨hx13_0,hf13_0⟩:=Kd.R_celln 0 HO_10.out (x19_1:Int) p13 q13
       replace p13:=eq_true p13
       replace q13:=eq_true q13
       have HP14:=Kd.R_putg HO_10.out (x19_1:Int) (-40)
       iterate 3 ((try go_quiet (fail));(try go_wp2_with (first|((with_reducible refine gate_store (t:=3) (p:=24) rfl ?_);(try(rw[drewN_self wr];generalize hq_:World.drewN wr _=wr;have n0_:=am (Kd.R_at hq_ HO_10.out);have n1_:=am (blk_at hq_ BK180.out);have n2_:=am (blk_at hq_ BK181.out);have n3_:=am (below_at hq_ HB.out);clear hq_ HO_10 BK180 BK181 HB;have HO_10:=n0_;have BK180:=n1_;have BK181:=n2_;have HB:=n3_;clear n0_ n1_ n2_ n3_;(try(have HP14:=Kd.R_putg HO_10.out (x19_1:Int) (-40)))));refine store_event (t:=3) (p:=24) (v:=?vo_w15) (w1:=(wr.setCell ⟨go13,(x19_1:Int).toNat,none⟩ (.int .i64 (-40)))) ?hg ?ho ?hn ?hr ?_;(case ho=>rfl);(case hg=>rfl);(case hn=>rfl);(case hr=>first|(go_simp;done)|(go_simp;rfl));intro w15 hw;have hg:wr.grownBy w15 (some go13):=(by rw[hw];exact HP14.2);have hp_:Kd.R (Kd.int .i64) 3 w15 w.heap.size (fun _=>True) (.slice (some ⟨go13,0,none⟩) x10_1.length co9) y185:=(by rw[hw,Ny185.out];exact HP14.1);clear HP14;have n0_:=am (hp_);have n1_:=am (blk_grown (g:=gb180) (o := .cells #[.slice A0_0 l0_0.length c0_0,.int .i64 a0_1] 44 (0,0)) (bup BK180.out) hg (Kd.R_ne HO_10.out BK180.out (by decide)));have n2_:=am (blk_grown (g:=gb181) (o := .cells #[.int .i64 a2_0,.int .i64 a2_1,.int .i64 a2_2] 48 (0,0)) (bup BK181.out) hg (Kd.R_ne HO_10.out BK181.out (by decide)));have n3_:=am ((by rw[hw];exact below_set (HB.out) GB13.out:Below w.heap.size w w15));clear HO_10 BK180 BK181 HB;have HO_10:=n0_;have BK180:=n1_;have BK181:=n2_;have HB:=n3_;clear n0_ n1_ n2_ n3_ hg hw hp_))))
       (try simp only[← hl10_1])
       go_roundg k1
       case measure=>have:=HK1.out;omega
       case rel=>exact⟨(y185),(wrap64 (x19_1+1)),fin2,H',⟨by have:=HK1.out;omega⟩,⟨by(try simp only[hl10_1]);(with_reducible repeat(first|apply Kd.R_alloc|apply Kd.R_drewN|apply Kd.R_drew));exact HO_10.out⟩,⟨by(try simp only[hl10_1]);exact bup BK180.out⟩,⟨by(try simp only[hl10_1]);exact bup BK181.out⟩,⟨bl⟩⟩
      ·rw[if_neg c12] at H
       exact absurd H (by simp)
     ·rw[if_neg c11] at H
      exact absurd H (by simp)
    ·rw[if_neg c10] at H
     have c10b0:decide (x19_1<(y182.length:Int))=false:=decide_eq_false c10
     (try rw[hl10_1] at c10b0)
     clear c10
     have H':=am H
     clear H
     go_wp2
     repeat(go_quiet (fail);try go_wp2)
     go_loopg [8,9,28] k1 (fun kq v8 v9 v28 w'=>∃(x8_2:List (S97)) (x9_2:List Int) (x10_2:List Int) (x28_2:Int),v28 = .int .i64 x28_2∧Aside0 (spec_pyAll.l1 kq x8_2 x9_2 x10_2 l1 (l1.length:Int) x28_2 l0_0 a0_1 a2_0 a2_1 a2_2=some (r1,r2))∧Aside0 (kq≤k1)∧Aside0 (Kd.R k97 97 w' w.heap.size (fun _=>True) v8 x8_2)∧Aside0 (Kd.R (Kd.int .i64) 3 w' w.heap.size (fun k_=>some k_≠((.slice Ao9 x10_1.length co9):Value).ownBlock) v9 x9_2)∧Aside0 (Kd.R (Kd.int .i64) 3 w' w.heap.size (fun k_=>some k_≠(v9:Value).ownBlock) (.slice Ao9 x10_1.length co9) x10_2)∧Aside0 (w'.heap[gb180]?=some (.cells #[(.slice A0_0 l0_0.length c0_0),.int .i64 a0_1] 44 (0,0)))∧Aside0 (w'.heap[gb181]?=some (.cells #[.int .i64 a2_0,.int .i64 a2_1,.int .i64 a2_2] 48 (0,0)))∧Aside0 (Below w.heap.size w w'))
     case atStart=>exact⟨(([]:List (S97))),(([]:List Int)),(x10_1),(0),fin2,H',⟨Nat.le_refl _⟩,⟨by(try simp only[hl10_1]);first|exact Kd.R_nil _ _ _ _ _|exact Kd.N_nil _ _ _ _ _|exact Kd.V_nil _ _ _ _ _|exact Kd.Q_nil _ _ _ _ _|exact Kd.S_nil _ _ _ _ _⟩,⟨by(try simp only[hl10_1]);first|exact Kd.R_nil _ _ _ _ _|exact Kd.N_nil _ _ _ _ _|exact Kd.V_nil _ _ _ _ _|exact Kd.Q_nil _ _ _ _ _|exact Kd.S_nil _ _ _ _ _⟩,⟨by(try simp only[hl10_1]);(with_reducible repeat(first|apply Kd.R_alloc|apply Kd.R_drewN|apply Kd.R_drew));exact Kd.R_mono HO_10.out (fun _ hk=>(by simp [Value.ownBlock]))⟩,⟨by(try simp only[hl10_1]);exact bup BK180.out⟩,⟨by(try simp only[hl10_1]);exact bup BK181.out⟩,⟨bl⟩⟩
     case round =>
      clear H'
      try clear c1
      try clear p1
      try clear q1
      try clear hx1
      try clear p2
      try clear c4
      try clear c4b0
      try clear c4b1
      try clear c6
      try clear p6
      try clear c10
      try clear c10b0
      try clear c11
      try clear c11b0
      try clear c12
      try clear c12b0
      try clear p13
      try clear q13
      try clear hx13
      try clear hf13
      try clear hx13_0
      try clear p13
      try clear p2
      try clear q13
      obtain⟨x8_2,x9_2,x10_2,x28_2,rfl,HA,HK2,HO_8,HO_9,HO_10,BK180,BK181,HB⟩:=hrel
      have hl10_2:=(Kd.R_reads' HO_10.out).1
      rw[hl10_2] at HO_10
      (try simp only[hl10_2])
      (try simp only[hl10_2] at BK180)
      (try simp only[hl10_2] at BK181)
      (try simp only[hl10_2] at HO_8)
      (try simp only[hl10_2] at HO_9)
      cases gk with
      | zero=>exact absurd HA.out (by simp [spec_pyAll.l1])
      | succ k2 =>
       have H:=HA.out
       clear HA
       simp only[spec_pyAll.l1] at H
       by_cases c16:x28_2<(l1.length:Int)
       ·rw[if_pos c16] at H
        have c16b0:decide (x28_2<(l1.length:Int))=true:=decide_eq_true c16
        clear c16
        by_cases c17:0≤x28_2
        ·rw[if_pos c17] at H
         have c17b0:decide (0≤x28_2)=true:=decide_eq_true c17
         clear c17
         by_cases c18:x28_2<(l1.length:Int)
         ·rw[if_pos c18] at H
          have c18b0:decide (x28_2<(l1.length:Int))=true:=decide_eq_true c18
          clear c18
          by_cases c19:((rd_T80 l1 x28_2).f0)≥(l0_0.length:Int)
          ·rw[if_pos c19] at H
           have c19b0:decide ((l0_0.length:Int)≤((rd_T80 l1 x28_2).f0))=true:=decide_eq_true c19
           clear c19
           by_cases c20:x9_2.length<17592186044416
           ·rw[if_pos c20] at H
            have LMc20:=am c20
            clear c20
            obtain⟨y188,hy188⟩:∃ y_:List Int,y_=(x9_2 ++ [x28_2]):=⟨_,rfl⟩
            replace H:(spec_pyAll.l1 k2 x8_2 y188 x10_2 l1 (l1.length:Int) (wrap64 (x28_2+1)) l0_0 a0_1 a2_0 a2_1 a2_2)=some (r1,r2):=by first|(rw[hy188];with_reducible exact H)|(have H2_:=(Option.bind_some _ _).symm.trans H;rw[hy188];with_reducible exact H2_)|(have H2_:=(Option.bind_some _ _).symm.trans H;with_reducible exact H2_)|with_reducible exact H|(rw[hy188];exact H)|exact H
            have Ny188:=am hy188
            clear hy188
            have H':=am H
            clear H
            have p186:0≤(x28_2:Int):=od
            have q186:x28_2<(l1.length:Int):=od
            obtain⟨ad186,e186,hx186_0,hx186_1,hx186_2⟩:=at_T80 HR1.out x28_2 p186 q186
            cases e186
            replace hx186_0:=(HB.out.cell (World.block_lt_of_cell? w _ hx186_0)).trans hx186_0
            replace hx186_1:=(HB.out.cell (World.block_lt_of_cell? w _ hx186_1)).trans hx186_1
            replace hx186_2:=(HB.out.cell (World.block_lt_of_cell? w _ hx186_2)).trans hx186_2
            replace p186:=eq_true p186
            replace q186:=eq_true q186
            iterate 3 ((try go_quiet (fail));(try go_wp2_with (first|((with_reducible refine gate_dst (N:=13) rfl ?_);refine box_event ?hg (N:=13) ?hd (cs := #[.int .i64 0,.int .i64 0,.int .i64 0]) (t:=80) ?hr ?_;(case hd=>rfl);(case hg=>rfl);(case hr=>first|(go_simp;done)|(go_simp;rfl));intro gb187 hg w21 hbox hb;have n0_:=am (Kd.R_below (rup HO_8.out) hb);have n1_:=am (Kd.R_below (rup HO_9.out) hb);have n2_:=am (Kd.R_below (rup HO_10.out) hb);have n3_:=am (blk_below (g:=gb180) (o := .cells #[.slice A0_0 l0_0.length c0_0,.int .i64 a0_1] 44 (0,0)) (bup BK180.out) hb);have n4_:=am (blk_below (g:=gb181) (o := .cells #[.int .i64 a2_0,.int .i64 a2_1,.int .i64 a2_2] 48 (0,0)) (bup BK181.out) hb);have n5_:=am (below_step bl hb);have n6_:=am (hbox);have n7_:=am ((by rw[hg];exact(below_size bl):w.heap.size≤gb187));have n8_:=am ((by rw[hg];exact(below_size bl):w.heap.size≤gb187));have n9_:=am ((by rw[hg];exact Nat.ne_of_lt (blk_lt (g:=gb180) (o := .cells #[.slice A0_0 l0_0.length c0_0,.int .i64 a0_1] 44 (0,0)) (bup BK180.out)):gb180≠gb187));have n10_:=am ((by rw[hg];exact Nat.ne_of_gt (blk_lt (g:=gb180) (o := .cells #[.slice A0_0 l0_0.length c0_0,.int .i64 a0_1] 44 (0,0)) (bup BK180.out)):gb187≠gb180));have n11_:=am ((by rw[hg];exact Nat.ne_of_lt (blk_lt (g:=gb181) (o := .cells #[.int .i64 a2_0,.int .i64 a2_1,.int .i64 a2_2] 48 (0,0)) (bup BK181.out)):gb181≠gb187));have n12_:=am ((by rw[hg];exact Nat.ne_of_gt (blk_lt (g:=gb181) (o := .cells #[.int .i64 a2_0,.int .i64 a2_1,.int .i64 a2_2] 48 (0,0)) (bup BK181.out)):gb187≠gb181));clear HO_8 HO_9 HO_10 BK180 BK181 HB;have HO_8:=n0_;have HO_9:=n1_;have HO_10:=n2_;have BK180:=n3_;have BK181:=n4_;have HB:=n5_;have BK187:=n6_;have GW187:=n7_;have GE187:=n8_;have NB180_187:=n9_;have NB187_180:=n10_;have NB181_187:=n11_;have NB187_181:=n12_;clear n0_ n1_ n2_ n3_ n4_ n5_ n6_ n7_ n8_ n9_ n10_ n11_ n12_ hb hbox hg;have hnb22:=NB187_180.out;have hnc22:=NB180_187.out;have hnb23:=NB187_181.out;have hnc23:=NB181_187.out;have hcz24_0:w21.cell? ⟨gb187,0,none⟩=some (.int .i64 0):=(blk_cell BK187.out 0).trans rfl;have hcz24_1:w21.cell? ⟨gb187,1,none⟩=some (.int .i64 0):=(blk_cell BK187.out 1).trans rfl;have hcz24_2:w21.cell? ⟨gb187,2,none⟩=some (.int .i64 0):=(blk_cell BK187.out 2).trans rfl;have hfz24_0:=blk_frozen BK187.out 0;have hfz24_1:=blk_frozen BK187.out 1;have hfz24_2:=blk_frozen BK187.out 2;have hnb25:=NB181_180.out;have hnc25:=NB180_181.out;have hcz26_0:w21.cell? ⟨gb181,0,none⟩=some (.int .i64 a2_0):=(blk_cell BK181.out 0).trans rfl;have hcz26_1:w21.cell? ⟨gb181,1,none⟩=some (.int .i64 a2_1):=(blk_cell BK181.out 1).trans rfl;have hcz26_2:w21.cell? ⟨gb181,2,none⟩=some (.int .i64 a2_2):=(blk_cell BK181.out 2).trans rfl;have hfz26_0:=blk_frozen BK181.out 0;have hfz26_1:=blk_frozen BK181.out 1;have hfz26_2:=blk_frozen BK181.out 2;have hcz27_0:w21.cell? ⟨gb180,0,none⟩=some (.slice A0_0 l0_0.length c0_0):=(blk_cell BK180.out 0).trans rfl;have hcz27_1:w21.cell? ⟨gb180,1,none⟩=some (.int .i64 a0_1):=(blk_cell BK180.out 1).trans rfl;have hfz27_0:=blk_frozen BK180.out 0;have hfz27_1:=blk_frozen BK180.out 1)|((with_reducible refine gate_builtin (b := .append) (xs := #[.tmp 78,.tmp 80]) rfl ?_);at_builtin;refine Kd.R_append (Kd.int .i64) (w0:=w) w.heap.size rfl (.tmp 78) (.tmp 80) 34 3 (.int .i64 0) 8 rfl Try.underlying34 info3 rfl (by decide) (by omega) u9 x9_2 x28_2 [.int .i64 x28_2] (fun k_=>some k_≠(.slice Ao9 x10_2.length co9:Value).ownBlock) (fun _=>False) rfl (by first|(go_simp;done)|(go_simp;rfl)) ?aP (fun _ hk=>hk.elim) ?aF ?aO ?aB ?aS ?aL ?_;(case aP=>exact rfl);(case aB=>exact bl);(case aF=>exact(fun k_ hk=>Kd.fresh' (Kd.R_lt (by(with_reducible repeat(first|apply Kd.R_alloc|apply Kd.R_drewN|apply Kd.R_drew));exact(Kd.R_mono (Kd.R_far (p:=⟨gb187,2,none⟩) (Kd.R_far (p:=⟨gb187,1,none⟩) (Kd.R_far (p:=⟨gb187,0,none⟩) (Kd.R_types HO_10.out BK187.out (by decide)) (fun _ hk=>hk.2) (.int .i64 ((rd_T80 l1 x28_2).f0))) (fun _ hk=>hk.2) (.int .i64 ((rd_T80 l1 x28_2).f1))) (fun _ hk=>hk.2) (.int .i64 ((rd_T80 l1 x28_2).f2))) (fun _ h_=>h_.1)))) k_ hk));(case aO=>exact(by(with_reducible repeat(first|apply Kd.R_alloc|apply Kd.R_drewN|apply Kd.R_drew));exact Kd.R_mono (Kd.R_far (p:=⟨gb187,2,none⟩) (Kd.R_far (p:=⟨gb187,1,none⟩) (Kd.R_far (p:=⟨gb187,0,none⟩) (Kd.R_types HO_9.out BK187.out (by decide)) (fun _ hk=>hk.2) (.int .i64 ((rd_T80 l1 x28_2).f0))) (fun _ hk=>hk.2) (.int .i64 ((rd_T80 l1 x28_2).f1))) (fun _ hk=>hk.2) (.int .i64 ((rd_T80 l1 x28_2).f2))) (fun _ hk=>hk.1)));(case aS=>exact(below_size bl));(case aL=>have:=LMc20.out;omega);intro v189 w28 ho hb hg hat;rw[← Ny188.out] at ho;have n0_:=am (Kd.R_over' (by(with_reducible repeat(first|apply Kd.R_alloc|apply Kd.R_drewN|apply Kd.R_drew));exact(Kd.R_mono (Kd.R_far (p:=⟨gb187,2,none⟩) (Kd.R_far (p:=⟨gb187,1,none⟩) (Kd.R_far (p:=⟨gb187,0,none⟩) (Kd.R_types HO_8.out BK187.out (by decide)) (fun _ hk=>hk.2) (.int .i64 ((rd_T80 l1 x28_2).f0))) (fun _ hk=>hk.2) (.int .i64 ((rd_T80 l1 x28_2).f1))) (fun _ hk=>hk.2) (.int .i64 ((rd_T80 l1 x28_2).f2))) (fun _ h_=>h_.1))) (Kd.R_typed (by(with_reducible repeat(first|apply Kd.R_alloc|apply Kd.R_drewN|apply Kd.R_drew));exact(Kd.R_mono (Kd.R_far (p:=⟨gb187,2,none⟩) (Kd.R_far (p:=⟨gb187,1,none⟩) (Kd.R_far (p:=⟨gb187,0,none⟩) (Kd.R_types HO_9.out BK187.out (by decide)) (fun _ hk=>hk.2) (.int .i64 ((rd_T80 l1 x28_2).f0))) (fun _ hk=>hk.2) (.int .i64 ((rd_T80 l1 x28_2).f1))) (fun _ hk=>hk.2) (.int .i64 ((rd_T80 l1 x28_2).f2))) (fun _ h_=>h_.1)))) (by decide) hg);have n1_:=am (Kd.R_after (ok:=(fun _=>True)) (by(with_reducible repeat(first|apply Kd.R_alloc|apply Kd.R_drewN|apply Kd.R_drew));exact Kd.R_mono (Kd.R_far (p:=⟨gb187,2,none⟩) (Kd.R_far (p:=⟨gb187,1,none⟩) (Kd.R_far (p:=⟨gb187,0,none⟩) (Kd.R_types HO_10.out BK187.out (by decide)) (fun _ hk=>hk.2) (.int .i64 ((rd_T80 l1 x28_2).f0))) (fun _ hk=>hk.2) (.int .i64 ((rd_T80 l1 x28_2).f1))) (fun _ hk=>hk.2) (.int .i64 ((rd_T80 l1 x28_2).f2))) (fun _ hk=>⟨trivial,hk.1⟩)) hg hat);have n2_:=am (blk_grown (g:=gb180) (o := .cells #[.slice A0_0 l0_0.length c0_0,.int .i64 a0_1] 44 (0,0)) (by(with_reducible repeat(first|refine bN_ ?_ _|refine bD_ ?_|refine bA_ ?_ _));refine blk_far ?_ NB180_187.out _;(with_reducible repeat(first|refine bN_ ?_ _|refine bD_ ?_|refine bA_ ?_ _));refine blk_far ?_ NB180_187.out _;(with_reducible repeat(first|refine bN_ ?_ _|refine bD_ ?_|refine bA_ ?_ _));refine blk_far ?_ NB180_187.out _;exact bup BK180.out) hg (Kd.R_ne HO_9.out BK180.out (by decide)));have n3_:=am (blk_grown (g:=gb181) (o := .cells #[.int .i64 a2_0,.int .i64 a2_1,.int .i64 a2_2] 48 (0,0)) (by(with_reducible repeat(first|refine bN_ ?_ _|refine bD_ ?_|refine bA_ ?_ _));refine blk_far ?_ NB181_187.out _;(with_reducible repeat(first|refine bN_ ?_ _|refine bD_ ?_|refine bA_ ?_ _));refine blk_far ?_ NB181_187.out _;(with_reducible repeat(first|refine bN_ ?_ _|refine bD_ ?_|refine bA_ ?_ _));refine blk_far ?_ NB181_187.out _;exact bup BK181.out) hg (Kd.R_ne HO_9.out BK181.out (by decide)));have n4_:=am (blk_grown (g:=gb187) (o := .cells #[.int .i64 ((rd_T80 l1 x28_2).f0),.int .i64 ((rd_T80 l1 x28_2).f1),.int .i64 ((rd_T80 l1 x28_2).f2)] 80 (0,0)) (by(with_reducible repeat(first|refine bN_ ?_ _|refine bD_ ?_|refine bA_ ?_ _));refine blk_put (cs := #[.int .i64 ((rd_T80 l1 x28_2).f0),.int .i64 ((rd_T80 l1 x28_2).f1),.int .i64 0]) ?_ 2 _ rfl;(with_reducible repeat(first|refine bN_ ?_ _|refine bD_ ?_|refine bA_ ?_ _));refine blk_put (cs := #[.int .i64 ((rd_T80 l1 x28_2).f0),.int .i64 0,.int .i64 0]) ?_ 1 _ rfl;(with_reducible repeat(first|refine bN_ ?_ _|refine bD_ ?_|refine bA_ ?_ _));refine blk_put (cs := #[.int .i64 0,.int .i64 0,.int .i64 0]) ?_ 0 _ rfl;exact bup BK187.out) hg (Kd.R_ne HO_9.out BK187.out (by decide)));have n5_:=am (hb);have n6_:=am (ho);clear HO_8 HO_10 BK180 BK181 BK187 HB HO_9;have HO_8:=n0_;have HO_10:=n1_;have BK180:=n2_;have BK181:=n3_;have BK187:=n4_;have HB:=n5_;have HO190:=n6_;clear n0_ n1_ n2_ n3_ n4_ n5_ n6_ ho hb hg hat))))
            (try simp only[← hl10_2])
            go_roundg k2
            case measure=>have:=HK1.out;have:=HK2.out;omega
            case rel=>exact⟨(x8_2),(y188),(x10_2),(wrap64 (x28_2+1)),fin2,H',⟨by have:=HK1.out;have:=HK2.out;omega⟩,⟨by(try simp only[hl10_1]);(try simp only[hl10_2]);(with_reducible repeat(first|apply Kd.R_alloc|apply Kd.R_drewN|apply Kd.R_drew));exact HO_8.out⟩,⟨by(try simp only[hl10_1]);(try simp only[hl10_2]);(with_reducible repeat(first|apply Kd.R_alloc|apply Kd.R_drewN|apply Kd.R_drew));exact HO190.out⟩,⟨by(try simp only[hl10_1]);(try simp only[hl10_2]);(with_reducible repeat(first|apply Kd.R_alloc|apply Kd.R_drewN|apply Kd.R_drew));exact Kd.R_mono HO_10.out (fun _ hk=>hk.2)⟩,⟨by(try simp only[hl10_1]);(try simp only[hl10_2]);exact bup BK180.out⟩,⟨by(try simp only[hl10_1]);(try simp only[hl10_2]);exact bup BK181.out⟩,⟨bl⟩⟩
           ·rw[if_neg c20] at H
            exact absurd H (by simp)
          ·rw[if_neg c19] at H
           have c19b0:decide ((l0_0.length:Int)≤((rd_T80 l1 x28_2).f0))=false:=decide_eq_false c19
           clear c19
           by_cases c29:(wrap64 (((rd_T80 l1 x28_2).f2) - ((rd_T80 l1 x28_2).f1)))<a2_2
           ·rw[if_pos c29] at H
            have c29b0:decide ((wrap64 (((rd_T80 l1 x28_2).f2) - ((rd_T80 l1 x28_2).f1)))<a2_2)=true:=decide_eq_true c29
            clear c29
            by_cases c30:x9_2.length<17592186044416
            ·rw[if_pos c30] at H
             have LMc30:=am c30
             clear c30
             obtain⟨y191,hy191⟩:∃ y_:List Int,y_=(x9_2 ++ [x28_2]):=⟨_,rfl⟩
             replace H:(spec_pyAll.l1 k2 x8_2 y191 x10_2 l1 (l1.length:Int) (wrap64 (x28_2+1)) l0_0 a0_1 a2_0 a2_1 a2_2)=some (r1,r2):=by first|(rw[hy191];with_reducible exact H)|(have H2_:=(Option.bind_some _ _).symm.trans H;rw[hy191];with_reducible exact H2_)|(have H2_:=(Option.bind_some _ _).symm.trans H;with_reducible exact H2_)|with_reducible exact H|(rw[hy191];exact H)|exact H
             have Ny191:=am hy191
             clear hy191
             have H':=am H
             clear H
             have p186:0≤(x28_2:Int):=od
             have q186:x28_2<(l1.length:Int):=od
             obtain⟨ad186,e186,hx186_0,hx186_1,hx186_2⟩:=at_T80 HR1.out x28_2 p186 q186
             cases e186
             replace hx186_0:=(HB.out.cell (World.block_lt_of_cell? w _ hx186_0)).trans hx186_0
             replace hx186_1:=(HB.out.cell (World.block_lt_of_cell? w _ hx186_1)).trans hx186_1
             replace hx186_2:=(HB.out.cell (World.block_lt_of_cell? w _ hx186_2)).trans hx186_2
             replace p186:=eq_true p186
             replace q186:=eq_true q186
             iterate 3 ((try go_quiet (fail));(try go_wp2_with (first|((with_reducible refine gate_dst (N:=13) rfl ?_);refine box_event ?hg (N:=13) ?hd (cs := #[.int .i64 0,.int .i64 0,.int .i64 0]) (t:=80) ?hr ?_;(case hd=>rfl);(case hg=>rfl);(case hr=>first|(go_simp;done)|(go_simp;rfl));intro gb187 hg w31 hbox hb;have n0_:=am (Kd.R_below (rup HO_8.out) hb);have n1_:=am (Kd.R_below (rup HO_9.out) hb);have n2_:=am (Kd.R_below (rup HO_10.out) hb);have n3_:=am (blk_below (g:=gb180) (o := .cells #[.slice A0_0 l0_0.length c0_0,.int .i64 a0_1] 44 (0,0)) (bup BK180.out) hb);have n4_:=am (blk_below (g:=gb181) (o := .cells #[.int .i64 a2_0,.int .i64 a2_1,.int .i64 a2_2] 48 (0,0)) (bup BK181.out) hb);have n5_:=am (below_step bl hb);have n6_:=am (hbox);have n7_:=am ((by rw[hg];exact(below_size bl):w.heap.size≤gb187));have n8_:=am ((by rw[hg];exact(below_size bl):w.heap.size≤gb187));have n9_:=am ((by rw[hg];exact Nat.ne_of_lt (blk_lt (g:=gb180) (o := .cells #[.slice A0_0 l0_0.length c0_0,.int .i64 a0_1] 44 (0,0)) (bup BK180.out)):gb180≠gb187));have n10_:=am ((by rw[hg];exact Nat.ne_of_gt (blk_lt (g:=gb180) (o := .cells #[.slice A0_0 l0_0.length c0_0,.int .i64 a0_1] 44 (0,0)) (bup BK180.out)):gb187≠gb180));have n11_:=am ((by rw[hg];exact Nat.ne_of_lt (blk_lt (g:=gb181) (o := .cells #[.int .i64 a2_0,.int .i64 a2_1,.int .i64 a2_2] 48 (0,0)) (bup BK181.out)):gb181≠gb187));have n12_:=am ((by rw[hg];exact Nat.ne_of_gt (blk_lt (g:=gb181) (o := .cells #[.int .i64 a2_0,.int .i64 a2_1,.int .i64 a2_2] 48 (0,0)) (bup BK181.out)):gb187≠gb181));clear HO_8 HO_9 HO_10 BK180 BK181 HB;have HO_8:=n0_;have HO_9:=n1_;have HO_10:=n2_;have BK180:=n3_;have BK181:=n4_;have HB:=n5_;have BK187:=n6_;have GW187:=n7_;have GE187:=n8_;have NB180_187:=n9_;have NB187_180:=n10_;have NB181_187:=n11_;have NB187_181:=n12_;clear n0_ n1_ n2_ n3_ n4_ n5_ n6_ n7_ n8_ n9_ n10_ n11_ n12_ hb hbox hg;have hnb32:=NB187_180.out;have hnc32:=NB180_187.out;have hnb33:=NB187_181.out;have hnc33:=NB181_187.out;have hcz34_0:w31.cell? ⟨gb187,0,none⟩=some (.int .i64 0):=(blk_cell BK187.out 0).trans rfl;have hcz34_1:w31.cell? ⟨gb187,1,none⟩=some (.int .i64 0):=(blk_cell BK187.out 1).trans rfl;have hcz34_2:w31.cell? ⟨gb187,2,none⟩=some (.int .i64 0):=(blk_cell BK187.out 2).trans rfl;have hfz34_0:=blk_frozen BK187.out 0;have hfz34_1:=blk_frozen BK187.out 1;have hfz34_2:=blk_frozen BK187.out 2;have hnb35:=NB181_180.out;have hnc35:=NB180_181.out;have hcz36_0:w31.cell? ⟨gb181,0,none⟩=some (.int .i64 a2_0):=(blk_cell BK181.out 0).trans rfl;have hcz36_1:w31.cell? ⟨gb181,1,none⟩=some (.int .i64 a2_1):=(blk_cell BK181.out 1).trans rfl;have hcz36_2:w31.cell? ⟨gb181,2,none⟩=some (.int .i64 a2_2):=(blk_cell BK181.out 2).trans rfl;have hfz36_0:=blk_frozen BK181.out 0;have hfz36_1:=blk_frozen BK181.out 1;have hfz36_2:=blk_frozen BK181.out 2;have hcz37_0:w31.cell? ⟨gb180,0,none⟩=some (.slice A0_0 l0_0.length c0_0):=(blk_cell BK180.out 0).trans rfl;have hcz37_1:w31.cell? ⟨gb180,1,none⟩=some (.int .i64 a0_1):=(blk_cell BK180.out 1).trans rfl;have hfz37_0:=blk_frozen BK180.out 0;have hfz37_1:=blk_frozen BK180.out 1)|((with_reducible refine gate_builtin (b := .append) (xs := #[.tmp 78,.tmp 80]) rfl ?_);at_builtin;refine Kd.R_append (Kd.int .i64) (w0:=w) w.heap.size rfl (.tmp 78) (.tmp 80) 34 3 (.int .i64 0) 8 rfl Try.underlying34 info3 rfl (by decide) (by omega) u9 x9_2 x28_2 [.int .i64 x28_2] (fun k_=>some k_≠(.slice Ao9 x10_2.length co9:Value).ownBlock) (fun _=>False) rfl (by first|(go_simp;done)|(go_simp;rfl)) ?aP (fun _ hk=>hk.elim) ?aF ?aO ?aB ?aS ?aL ?_;(case aP=>exact rfl);(case aB=>exact bl);(case aF=>exact(fun k_ hk=>Kd.fresh' (Kd.R_lt (by(with_reducible repeat(first|apply Kd.R_alloc|apply Kd.R_drewN|apply Kd.R_drew));exact(Kd.R_mono (Kd.R_far (p:=⟨gb187,2,none⟩) (Kd.R_far (p:=⟨gb187,1,none⟩) (Kd.R_far (p:=⟨gb187,0,none⟩) (Kd.R_types HO_10.out BK187.out (by decide)) (fun _ hk=>hk.2) (.int .i64 ((rd_T80 l1 x28_2).f0))) (fun _ hk=>hk.2) (.int .i64 ((rd_T80 l1 x28_2).f1))) (fun _ hk=>hk.2) (.int .i64 ((rd_T80 l1 x28_2).f2))) (fun _ h_=>h_.1)))) k_ hk));(case aO=>exact(by(with_reducible repeat(first|apply Kd.R_alloc|apply Kd.R_drewN|apply Kd.R_drew));exact Kd.R_mono (Kd.R_far (p:=⟨gb187,2,none⟩) (Kd.R_far (p:=⟨gb187,1,none⟩) (Kd.R_far (p:=⟨gb187,0,none⟩) (Kd.R_types HO_9.out BK187.out (by decide)) (fun _ hk=>hk.2) (.int .i64 ((rd_T80 l1 x28_2).f0))) (fun _ hk=>hk.2) (.int .i64 ((rd_T80 l1 x28_2).f1))) (fun _ hk=>hk.2) (.int .i64 ((rd_T80 l1 x28_2).f2))) (fun _ hk=>hk.1)));(case aS=>exact(below_size bl));(case aL=>have:=LMc30.out;omega);intro v192 w38 ho hb hg hat;rw[← Ny191.out] at ho;have n0_:=am (Kd.R_over' (by(with_reducible repeat(first|apply Kd.R_alloc|apply Kd.R_drewN|apply Kd.R_drew));exact(Kd.R_mono (Kd.R_far (p:=⟨gb187,2,none⟩) (Kd.R_far (p:=⟨gb187,1,none⟩) (Kd.R_far (p:=⟨gb187,0,none⟩) (Kd.R_types HO_8.out BK187.out (by decide)) (fun _ hk=>hk.2) (.int .i64 ((rd_T80 l1 x28_2).f0))) (fun _ hk=>hk.2) (.int .i64 ((rd_T80 l1 x28_2).f1))) (fun _ hk=>hk.2) (.int .i64 ((rd_T80 l1 x28_2).f2))) (fun _ h_=>h_.1))) (Kd.R_typed (by(with_reducible repeat(first|apply Kd.R_alloc|apply Kd.R_drewN|apply Kd.R_drew));exact(Kd.R_mono (Kd.R_far (p:=⟨gb187,2,none⟩) (Kd.R_far (p:=⟨gb187,1,none⟩) (Kd.R_far (p:=⟨gb187,0,none⟩) (Kd.R_types HO_9.out BK187.out (by decide)) (fun _ hk=>hk.2) (.int .i64 ((rd_T80 l1 x28_2).f0))) (fun _ hk=>hk.2) (.int .i64 ((rd_T80 l1 x28_2).f1))) (fun _ hk=>hk.2) (.int .i64 ((rd_T80 l1 x28_2).f2))) (fun _ h_=>h_.1)))) (by decide) hg);have n1_:=am (Kd.R_after (ok:=(fun _=>True)) (by(with_reducible repeat(first|apply Kd.R_alloc|apply Kd.R_drewN|apply Kd.R_drew));exact Kd.R_mono (Kd.R_far (p:=⟨gb187,2,none⟩) (Kd.R_far (p:=⟨gb187,1,none⟩) (Kd.R_far (p:=⟨gb187,0,none⟩) (Kd.R_types HO_10.out BK187.out (by decide)) (fun _ hk=>hk.2) (.int .i64 ((rd_T80 l1 x28_2).f0))) (fun _ hk=>hk.2) (.int .i64 ((rd_T80 l1 x28_2).f1))) (fun _ hk=>hk.2) (.int .i64 ((rd_T80 l1 x28_2).f2))) (fun _ hk=>⟨trivial,hk.1⟩)) hg hat);have n2_:=am (blk_grown (g:=gb180) (o := .cells #[.slice A0_0 l0_0.length c0_0,.int .i64 a0_1] 44 (0,0)) (by(with_reducible repeat(first|refine bN_ ?_ _|refine bD_ ?_|refine bA_ ?_ _));refine blk_far ?_ NB180_187.out _;(with_reducible repeat(first|refine bN_ ?_ _|refine bD_ ?_|refine bA_ ?_ _));refine blk_far ?_ NB180_187.out _;(with_reducible repeat(first|refine bN_ ?_ _|refine bD_ ?_|refine bA_ ?_ _));refine blk_far ?_ NB180_187.out _;exact bup BK180.out) hg (Kd.R_ne HO_9.out BK180.out (by decide)));have n3_:=am (blk_grown (g:=gb181) (o := .cells #[.int .i64 a2_0,.int .i64 a2_1,.int .i64 a2_2] 48 (0,0)) (by(with_reducible repeat(first|refine bN_ ?_ _|refine bD_ ?_|refine bA_ ?_ _));refine blk_far ?_ NB181_187.out _;(with_reducible repeat(first|refine bN_ ?_ _|refine bD_ ?_|refine bA_ ?_ _));refine blk_far ?_ NB181_187.out _;(with_reducible repeat(first|refine bN_ ?_ _|refine bD_ ?_|refine bA_ ?_ _));refine blk_far ?_ NB181_187.out _;exact bup BK181.out) hg (Kd.R_ne HO_9.out BK181.out (by decide)));have n4_:=am (blk_grown (g:=gb187) (o := .cells #[.int .i64 ((rd_T80 l1 x28_2).f0),.int .i64 ((rd_T80 l1 x28_2).f1),.int .i64 ((rd_T80 l1 x28_2).f2)] 80 (0,0)) (by(with_reducible repeat(first|refine bN_ ?_ _|refine bD_ ?_|refine bA_ ?_ _));refine blk_put (cs := #[.int .i64 ((rd_T80 l1 x28_2).f0),.int .i64 ((rd_T80 l1 x28_2).f1),.int .i64 0]) ?_ 2 _ rfl;(with_reducible repeat(first|refine bN_ ?_ _|refine bD_ ?_|refine bA_ ?_ _));refine blk_put (cs := #[.int .i64 ((rd_T80 l1 x28_2).f0),.int .i64 0,.int .i64 0]) ?_ 1 _ rfl;(with_reducible repeat(first|refine bN_ ?_ _|refine bD_ ?_|refine bA_ ?_ _));refine blk_put (cs := #[.int .i64 0,.int .i64 0,.int .i64 0]) ?_ 0 _ rfl;exact bup BK187.out) hg (Kd.R_ne HO_9.out BK187.out (by decide)));have n5_:=am (hb);have n6_:=am (ho);clear HO_8 HO_10 BK180 BK181 BK187 HB HO_9;have HO_8:=n0_;have HO_10:=n1_;have BK180:=n2_;have BK181:=n3_;have BK187:=n4_;have HB:=n5_;have HO193:=n6_;clear n0_ n1_ n2_ n3_ n4_ n5_ n6_ ho hb hg hat))))
             (try simp only[← hl10_2])
             go_roundg k2
             case measure=>have:=HK1.out;have:=HK2.out;omega
             case rel=>exact⟨(x8_2),(y191),(x10_2),(wrap64 (x28_2+1)),fin2,H',⟨by have:=HK1.out;have:=HK2.out;omega⟩,⟨by(try simp only[hl10_1]);(try simp only[hl10_2]);(with_reducible repeat(first|apply Kd.R_alloc|apply Kd.R_drewN|apply Kd.R_drew));exact HO_8.out⟩,⟨by(try simp only[hl10_1]);(try simp only[hl10_2]);(with_reducible repeat(first|apply Kd.R_alloc|apply Kd.R_drewN|apply Kd.R_drew));exact HO193.out⟩,⟨by(try simp only[hl10_1]);(try simp only[hl10_2]);(with_reducible repeat(first|apply Kd.R_alloc|apply Kd.R_drewN|apply Kd.R_drew));exact Kd.R_mono HO_10.out (fun _ hk=>hk.2)⟩,⟨by(try simp only[hl10_1]);(try simp only[hl10_2]);exact bup BK180.out⟩,⟨by(try simp only[hl10_1]);(try simp only[hl10_2]);exact bup BK181.out⟩,⟨bl⟩⟩
            ·rw[if_neg c30] at H
             exact absurd H (by simp)
           ·rw[if_neg c29] at H
            have c29b0:decide ((wrap64 (((rd_T80 l1 x28_2).f2) - ((rd_T80 l1 x28_2).f1)))<a2_2)=false:=decide_eq_false c29
            clear c29
            by_cases c39:0≤((rd_T80 l1 x28_2).f0)
            ·rw[if_pos c39] at H
             have c39b0:decide (0≤((rd_T80 l1 x28_2).f0))=true:=decide_eq_true c39
             clear c39
             by_cases c40:((rd_T80 l1 x28_2).f0)<(x10_2.length:Int)
             ·rw[if_pos c40] at H
              have c40b0:decide (((rd_T80 l1 x28_2).f0)<(x10_2.length:Int))=true:=decide_eq_true c40
              clear c40
              by_cases c41:(wrap64 (((rd_T80 l1 x28_2).f1) - (rd x10_2 ((rd_T80 l1 x28_2).f0))))<(wrap64 (2*a0_1))
              ·rw[if_pos c41] at H
               have c41b0:decide ((wrap64 (((rd_T80 l1 x28_2).f1) - (rd x10_2 ((rd_T80 l1 x28_2).f0))))<(wrap64 (2*a0_1)))=true:=decide_eq_true c41
               clear c41
               by_cases c42:x9_2.length<17592186044416
               ·rw[if_pos c42] at H
                have LMc42:=am c42
                clear c42
                obtain⟨y195,hy195⟩:∃ y_:List Int,y_=(x9_2 ++ [x28_2]):=⟨_,rfl⟩
                replace H:(spec_pyAll.l1 k2 x8_2 y195 x10_2 l1 (l1.length:Int) (wrap64 (x28_2+1)) l0_0 a0_1 a2_0 a2_1 a2_2)=some (r1,r2):=by first|(rw[hy195];with_reducible exact H)|(have H2_:=(Option.bind_some _ _).symm.trans H;rw[hy195];with_reducible exact H2_)|(have H2_:=(Option.bind_some _ _).symm.trans H;with_reducible exact H2_)|with_reducible exact H|(rw[hy195];exact H)|exact H
                have Ny195:=am hy195
                clear hy195
                have H':=am H
                clear H
                have p186:0≤(x28_2:Int):=od
                have q186:x28_2<(l1.length:Int):=od
                obtain⟨ad186,e186,hx186_0,hx186_1,hx186_2⟩:=at_T80 HR1.out x28_2 p186 q186
                cases e186
                replace hx186_0:=(HB.out.cell (World.block_lt_of_cell? w _ hx186_0)).trans hx186_0
                replace hx186_1:=(HB.out.cell (World.block_lt_of_cell? w _ hx186_1)).trans hx186_1
                replace hx186_2:=(HB.out.cell (World.block_lt_of_cell? w _ hx186_2)).trans hx186_2
                replace p186:=eq_true p186
                replace q186:=eq_true q186
                iterate 3 ((try go_quiet (fail));(try go_wp2_with (first|((with_reducible refine gate_dst (N:=13) rfl ?_);refine box_event ?hg (N:=13) ?hd (cs := #[.int .i64 0,.int .i64 0,.int .i64 0]) (t:=80) ?hr ?_;(case hd=>rfl);(case hg=>rfl);(case hr=>first|(go_simp;done)|(go_simp;rfl));intro gb187 hg w43 hbox hb;have n0_:=am (Kd.R_below (rup HO_8.out) hb);have n1_:=am (Kd.R_below (rup HO_9.out) hb);have n2_:=am (Kd.R_below (rup HO_10.out) hb);have n3_:=am (blk_below (g:=gb180) (o := .cells #[.slice A0_0 l0_0.length c0_0,.int .i64 a0_1] 44 (0,0)) (bup BK180.out) hb);have n4_:=am (blk_below (g:=gb181) (o := .cells #[.int .i64 a2_0,.int .i64 a2_1,.int .i64 a2_2] 48 (0,0)) (bup BK181.out) hb);have n5_:=am (below_step bl hb);have n6_:=am (hbox);have n7_:=am ((by rw[hg];exact(below_size bl):w.heap.size≤gb187));have n8_:=am ((by rw[hg];exact(below_size bl):w.heap.size≤gb187));have n9_:=am ((by rw[hg];exact Nat.ne_of_lt (blk_lt (g:=gb180) (o := .cells #[.slice A0_0 l0_0.length c0_0,.int .i64 a0_1] 44 (0,0)) (bup BK180.out)):gb180≠gb187));have n10_:=am ((by rw[hg];exact Nat.ne_of_gt (blk_lt (g:=gb180) (o := .cells #[.slice A0_0 l0_0.length c0_0,.int .i64 a0_1] 44 (0,0)) (bup BK180.out)):gb187≠gb180));have n11_:=am ((by rw[hg];exact Nat.ne_of_lt (blk_lt (g:=gb181) (o := .cells #[.int .i64 a2_0,.int .i64 a2_1,.int .i64 a2_2] 48 (0,0)) (bup BK181.out)):gb181≠gb187));have n12_:=am ((by rw[hg];exact Nat.ne_of_gt (blk_lt (g:=gb181) (o := .cells #[.int .i64 a2_0,.int .i64 a2_1,.int .i64 a2_2] 48 (0,0)) (bup BK181.out)):gb187≠gb181));clear HO_8 HO_9 HO_10 BK180 BK181 HB;have HO_8:=n0_;have HO_9:=n1_;have HO_10:=n2_;have BK180:=n3_;have BK181:=n4_;have HB:=n5_;have BK187:=n6_;have GW187:=n7_;have GE187:=n8_;have NB180_187:=n9_;have NB187_180:=n10_;have NB181_187:=n11_;have NB187_181:=n12_;clear n0_ n1_ n2_ n3_ n4_ n5_ n6_ n7_ n8_ n9_ n10_ n11_ n12_ hb hbox hg;have hnb44:=NB187_180.out;have hnc44:=NB180_187.out;have hnb45:=NB187_181.out;have hnc45:=NB181_187.out;have hcz46_0:w43.cell? ⟨gb187,0,none⟩=some (.int .i64 0):=(blk_cell BK187.out 0).trans rfl;have hcz46_1:w43.cell? ⟨gb187,1,none⟩=some (.int .i64 0):=(blk_cell BK187.out 1).trans rfl;have hcz46_2:w43.cell? ⟨gb187,2,none⟩=some (.int .i64 0):=(blk_cell BK187.out 2).trans rfl;have hfz46_0:=blk_frozen BK187.out 0;have hfz46_1:=blk_frozen BK187.out 1;have hfz46_2:=blk_frozen BK187.out 2;have hnb47:=NB181_180.out;have hnc47:=NB180_181.out;have hcz48_0:w43.cell? ⟨gb181,0,none⟩=some (.int .i64 a2_0):=(blk_cell BK181.out 0).trans rfl;have hcz48_1:w43.cell? ⟨gb181,1,none⟩=some (.int .i64 a2_1):=(blk_cell BK181.out 1).trans rfl;have hcz48_2:w43.cell? ⟨gb181,2,none⟩=some (.int .i64 a2_2):=(blk_cell BK181.out 2).trans rfl;have hfz48_0:=blk_frozen BK181.out 0;have hfz48_1:=blk_frozen BK181.out 1;have hfz48_2:=blk_frozen BK181.out 2;have hcz49_0:w43.cell? ⟨gb180,0,none⟩=some (.slice A0_0 l0_0.length c0_0):=(blk_cell BK180.out 0).trans rfl;have hcz49_1:w43.cell? ⟨gb180,1,none⟩=some (.int .i64 a0_1):=(blk_cell BK180.out 1).trans rfl;have hfz49_0:=blk_frozen BK180.out 0;have hfz49_1:=blk_frozen BK180.out 1;have p194:0≤(((rd_T80 l1 x28_2).f0):Int):=od;have q194:((rd_T80 l1 x28_2).f0)<(x10_2.length:Int):=od;obtain⟨ad194,e194,hx194_0⟩:=Kd.at_int (Kd.R_reads' HO_10.out).2.2 ((rd_T80 l1 x28_2).f0) p194 q194;cases e194;have hn194_0:ad194.block≠gb187:=Kd.own_blk (Kd.R_ne HO_10.out BK187.out (by decide));have hn194_1:ad194.block≠gb187:=Kd.own_blk (Kd.R_ne HO_10.out BK187.out (by decide));have hn194_2:ad194.block≠gb187:=Kd.own_blk (Kd.R_ne HO_10.out BK187.out (by decide));replace hx194_0:=(cell_far (p:=⟨gb187,0,none⟩) (by first|(rw[add_block];exact hn194_0)|(show(Addr.add _ _).block≠_;rw[add_block];exact hn194_0)|exact hn194_0) (.int .i64 ((rd_T80 l1 x28_2).f0))).trans hx194_0;replace hx194_0:=(cell_far (p:=⟨gb187,1,none⟩) (by first|(rw[add_block];exact hn194_1)|(show(Addr.add _ _).block≠_;rw[add_block];exact hn194_1)|exact hn194_1) (.int .i64 ((rd_T80 l1 x28_2).f1))).trans hx194_0;replace hx194_0:=(cell_far (p:=⟨gb187,2,none⟩) (by first|(rw[add_block];exact hn194_2)|(show(Addr.add _ _).block≠_;rw[add_block];exact hn194_2)|exact hn194_2) (.int .i64 ((rd_T80 l1 x28_2).f2))).trans hx194_0;(try have hy194_0:=fun(n_:Nat)=>(show(((((w43.drewN n_).setCell ⟨gb187,0,none⟩ (.int .i64 ((rd_T80 l1 x28_2).f0))).setCell ⟨gb187,1,none⟩ (.int .i64 ((rd_T80 l1 x28_2).f1))).setCell ⟨gb187,2,none⟩ (.int .i64 ((rd_T80 l1 x28_2).f2)))).cell? _=some _ from hx194_0));clear hn194_0 hn194_1 hn194_2;replace p194:=eq_true p194;replace q194:=eq_true q194)|((with_reducible refine gate_builtin (b := .append) (xs := #[.tmp 78,.tmp 80]) rfl ?_);at_builtin;refine Kd.R_append (Kd.int .i64) (w0:=w) w.heap.size rfl (.tmp 78) (.tmp 80) 34 3 (.int .i64 0) 8 rfl Try.underlying34 info3 rfl (by decide) (by omega) u9 x9_2 x28_2 [.int .i64 x28_2] (fun k_=>some k_≠(.slice (some ad194) x10_2.length co9:Value).ownBlock) (fun _=>False) rfl (by first|(go_simp;done)|(go_simp;rfl)) ?aP (fun _ hk=>hk.elim) ?aF ?aO ?aB ?aS ?aL ?_;(case aP=>exact rfl);(case aB=>exact bl);(case aF=>exact(fun k_ hk=>Kd.fresh' (Kd.R_lt (by(with_reducible repeat(first|apply Kd.R_alloc|apply Kd.R_drewN|apply Kd.R_drew));exact(Kd.R_mono (Kd.R_far (p:=⟨gb187,2,none⟩) (Kd.R_far (p:=⟨gb187,1,none⟩) (Kd.R_far (p:=⟨gb187,0,none⟩) (Kd.R_types HO_10.out BK187.out (by decide)) (fun _ hk=>hk.2) (.int .i64 ((rd_T80 l1 x28_2).f0))) (fun _ hk=>hk.2) (.int .i64 ((rd_T80 l1 x28_2).f1))) (fun _ hk=>hk.2) (.int .i64 ((rd_T80 l1 x28_2).f2))) (fun _ h_=>h_.1)))) k_ hk));(case aO=>exact(by(with_reducible repeat(first|apply Kd.R_alloc|apply Kd.R_drewN|apply Kd.R_drew));exact Kd.R_mono (Kd.R_far (p:=⟨gb187,2,none⟩) (Kd.R_far (p:=⟨gb187,1,none⟩) (Kd.R_far (p:=⟨gb187,0,none⟩) (Kd.R_types HO_9.out BK187.out (by decide)) (fun _ hk=>hk.2) (.int .i64 ((rd_T80 l1 x28_2).f0))) (fun _ hk=>hk.2) (.int .i64 ((rd_T80 l1 x28_2).f1))) (fun _ hk=>hk.2) (.int .i64 ((rd_T80 l1 x28_2).f2))) (fun _ hk=>hk.1)));(case aS=>exact(below_size bl));(case aL=>have:=LMc42.out;omega);intro v196 w50 ho hb hg hat;rw[← Ny195.out] at ho;have n0_:=am (Kd.R_over' (by(with_reducible repeat(first|apply Kd.R_alloc|apply Kd.R_drewN|apply Kd.R_drew));exact(Kd.R_mono (Kd.R_far (p:=⟨gb187,2,none⟩) (Kd.R_far (p:=⟨gb187,1,none⟩) (Kd.R_far (p:=⟨gb187,0,none⟩) (Kd.R_types HO_8.out BK187.out (by decide)) (fun _ hk=>hk.2) (.int .i64 ((rd_T80 l1 x28_2).f0))) (fun _ hk=>hk.2) (.int .i64 ((rd_T80 l1 x28_2).f1))) (fun _ hk=>hk.2) (.int .i64 ((rd_T80 l1 x28_2).f2))) (fun _ h_=>h_.1))) (Kd.R_typed (by(with_reducible repeat(first|apply Kd.R_alloc|apply Kd.R_drewN|apply Kd.R_drew));exact(Kd.R_mono (Kd.R_far (p:=⟨gb187,2,none⟩) (Kd.R_far (p:=⟨gb187,1,none⟩) (Kd.R_far (p:=⟨gb187,0,none⟩) (Kd.R_types HO_9.out BK187.out (by decide)) (fun _ hk=>hk.2) (.int .i64 ((rd_T80 l1 x28_2).f0))) (fun _ hk=>hk.2) (.int .i64 ((rd_T80 l1 x28_2).f1))) (fun _ hk=>hk.2) (.int .i64 ((rd_T80 l1 x28_2).f2))) (fun _ h_=>h_.1)))) (by decide) hg);have n1_:=am (Kd.R_after (ok:=(fun _=>True)) (by(with_reducible repeat(first|apply Kd.R_alloc|apply Kd.R_drewN|apply Kd.R_drew));exact Kd.R_mono (Kd.R_far (p:=⟨gb187,2,none⟩) (Kd.R_far (p:=⟨gb187,1,none⟩) (Kd.R_far (p:=⟨gb187,0,none⟩) (Kd.R_types HO_10.out BK187.out (by decide)) (fun _ hk=>hk.2) (.int .i64 ((rd_T80 l1 x28_2).f0))) (fun _ hk=>hk.2) (.int .i64 ((rd_T80 l1 x28_2).f1))) (fun _ hk=>hk.2) (.int .i64 ((rd_T80 l1 x28_2).f2))) (fun _ hk=>⟨trivial,hk.1⟩)) hg hat);have n2_:=am (blk_grown (g:=gb180) (o := .cells #[.slice A0_0 l0_0.length c0_0,.int .i64 a0_1] 44 (0,0)) (by(with_reducible repeat(first|refine bN_ ?_ _|refine bD_ ?_|refine bA_ ?_ _));refine blk_far ?_ NB180_187.out _;(with_reducible repeat(first|refine bN_ ?_ _|refine bD_ ?_|refine bA_ ?_ _));refine blk_far ?_ NB180_187.out _;(with_reducible repeat(first|refine bN_ ?_ _|refine bD_ ?_|refine bA_ ?_ _));refine blk_far ?_ NB180_187.out _;exact bup BK180.out) hg (Kd.R_ne HO_9.out BK180.out (by decide)));have n3_:=am (blk_grown (g:=gb181) (o := .cells #[.int .i64 a2_0,.int .i64 a2_1,.int .i64 a2_2] 48 (0,0)) (by(with_reducible repeat(first|refine bN_ ?_ _|refine bD_ ?_|refine bA_ ?_ _));refine blk_far ?_ NB181_187.out _;(with_reducible repeat(first|refine bN_ ?_ _|refine bD_ ?_|refine bA_ ?_ _));refine blk_far ?_ NB181_187.out _;(with_reducible repeat(first|refine bN_ ?_ _|refine bD_ ?_|refine bA_ ?_ _));refine blk_far ?_ NB181_187.out _;exact bup BK181.out) hg (Kd.R_ne HO_9.out BK181.out (by decide)));have n4_:=am (blk_grown (g:=gb187) (o := .cells #[.int .i64 ((rd_T80 l1 x28_2).f0),.int .i64 ((rd_T80 l1 x28_2).f1),.int .i64 ((rd_T80 l1 x28_2).f2)] 80 (0,0)) (by(with_reducible repeat(first|refine bN_ ?_ _|refine bD_ ?_|refine bA_ ?_ _));refine blk_put (cs := #[.int .i64 ((rd_T80 l1 x28_2).f0),.int .i64 ((rd_T80 l1 x28_2).f1),.int .i64 0]) ?_ 2 _ rfl;(with_reducible repeat(first|refine bN_ ?_ _|refine bD_ ?_|refine bA_ ?_ _));refine blk_put (cs := #[.int .i64 ((rd_T80 l1 x28_2).f0),.int .i64 0,.int .i64 0]) ?_ 1 _ rfl;(with_reducible repeat(first|refine bN_ ?_ _|refine bD_ ?_|refine bA_ ?_ _));refine blk_put (cs := #[.int .i64 0,.int .i64 0,.int .i64 0]) ?_ 0 _ rfl;exact bup BK187.out) hg (Kd.R_ne HO_9.out BK187.out (by decide)));have n5_:=am (hb);have n6_:=am (ho);clear HO_8 HO_10 BK180 BK181 BK187 HB HO_9;have HO_8:=n0_;have HO_10:=n1_;have BK180:=n2_;have BK181:=n3_;have BK187:=n4_;have HB:=n5_;have HO197:=n6_;clear n0_ n1_ n2_ n3_ n4_ n5_ n6_ ho hb hg hat))))
                (try simp only[← hl10_2])
                go_roundg k2
                case measure=>have:=HK1.out;have:=HK2.out;omega
                case rel=>exact⟨(x8_2),(y195),(x10_2),(wrap64 (x28_2+1)),fin2,H',⟨by have:=HK1.out;have:=HK2.out;omega⟩,⟨by(try simp only[hl10_1]);(try simp only[hl10_2]);(with_reducible repeat(first|apply Kd.R_alloc|apply Kd.R_drewN|apply Kd.R_drew));exact HO_8.out⟩,⟨by(try simp only[hl10_1]);(try simp only[hl10_2]);(with_reducible repeat(first|apply Kd.R_alloc|apply Kd.R_drewN|apply Kd.R_drew));exact HO197.out⟩,⟨by(try simp only[hl10_1]);(try simp only[hl10_2]);(with_reducible repeat(first|apply Kd.R_alloc|apply Kd.R_drewN|apply Kd.R_drew));exact Kd.R_mono HO_10.out (fun _ hk=>hk.2)⟩,⟨by(try simp only[hl10_1]);(try simp only[hl10_2]);exact bup BK180.out⟩,⟨by(try simp only[hl10_1]);(try simp only[hl10_2]);exact bup BK181.out⟩,⟨bl⟩⟩
               ·rw[if_neg c42] at H
                exact absurd H (by simp)
              ·rw[if_neg c41] at H
               have c41b0:decide ((wrap64 (((rd_T80 l1 x28_2).f1) - (rd x10_2 ((rd_T80 l1 x28_2).f0))))<(wrap64 (2*a0_1)))=false:=decide_eq_false c41
               clear c41
               by_cases c51:(wrap64 (((rd_T80 l1 x28_2).f1)+a2_0))≥(wrap64 (((rd_T80 l1 x28_2).f2)+a2_1))
               ·rw[if_pos c51] at H
                have c51b0:decide ((wrap64 (((rd_T80 l1 x28_2).f2)+a2_1))≤(wrap64 (((rd_T80 l1 x28_2).f1)+a2_0)))=true:=decide_eq_true c51
                clear c51
                by_cases c52:x9_2.length<17592186044416
                ·rw[if_pos c52] at H
                 have LMc52:=am c52
                 clear c52
                 obtain⟨y198,hy198⟩:∃ y_:List Int,y_=(x9_2 ++ [x28_2]):=⟨_,rfl⟩
                 replace H:(spec_pyAll.l1 k2 x8_2 y198 x10_2 l1 (l1.length:Int) (wrap64 (x28_2+1)) l0_0 a0_1 a2_0 a2_1 a2_2)=some (r1,r2):=by first|(rw[hy198];with_reducible exact H)|(have H2_:=(Option.bind_some _ _).symm.trans H;rw[hy198];with_reducible exact H2_)|(have H2_:=(Option.bind_some _ _).symm.trans H;with_reducible exact H2_)|with_reducible exact H|(rw[hy198];exact H)|exact H
                 have Ny198:=am hy198
                 clear hy198
                 have H':=am H
                 clear H
                 have p186:0≤(x28_2:Int):=od
                 have q186:x28_2<(l1.length:Int):=od
                 obtain⟨ad186,e186,hx186_0,hx186_1,hx186_2⟩:=at_T80 HR1.out x28_2 p186 q186
                 cases e186
                 replace hx186_0:=(HB.out.cell (World.block_lt_of_cell? w _ hx186_0)).trans hx186_0
                 replace hx186_1:=(HB.out.cell (World.block_lt_of_cell? w _ hx186_1)).trans hx186_1
                 replace hx186_2:=(HB.out.cell (World.block_lt_of_cell? w _ hx186_2)).trans hx186_2
                 replace p186:=eq_true p186
                 replace q186:=eq_true q186
                 iterate 3 ((try go_quiet (fail));(try go_wp2_with (first|((with_reducible refine gate_dst (N:=13) rfl ?_);refine box_event ?hg (N:=13) ?hd (cs := #[.int .i64 0,.int .i64 0,.int .i64 0]) (t:=80) ?hr ?_;(case hd=>rfl);(case hg=>rfl);(case hr=>first|(go_simp;done)|(go_simp;rfl));intro gb187 hg w53 hbox hb;have n0_:=am (Kd.R_below (rup HO_8.out) hb);have n1_:=am (Kd.R_below (rup HO_9.out) hb);have n2_:=am (Kd.R_below (rup HO_10.out) hb);have n3_:=am (blk_below (g:=gb180) (o := .cells #[.slice A0_0 l0_0.length c0_0,.int .i64 a0_1] 44 (0,0)) (bup BK180.out) hb);have n4_:=am (blk_below (g:=gb181) (o := .cells #[.int .i64 a2_0,.int .i64 a2_1,.int .i64 a2_2] 48 (0,0)) (bup BK181.out) hb);have n5_:=am (below_step bl hb);have n6_:=am (hbox);have n7_:=am ((by rw[hg];exact(below_size bl):w.heap.size≤gb187));have n8_:=am ((by rw[hg];exact(below_size bl):w.heap.size≤gb187));have n9_:=am ((by rw[hg];exact Nat.ne_of_lt (blk_lt (g:=gb180) (o := .cells #[.slice A0_0 l0_0.length c0_0,.int .i64 a0_1] 44 (0,0)) (bup BK180.out)):gb180≠gb187));have n10_:=am ((by rw[hg];exact Nat.ne_of_gt (blk_lt (g:=gb180) (o := .cells #[.slice A0_0 l0_0.length c0_0,.int .i64 a0_1] 44 (0,0)) (bup BK180.out)):gb187≠gb180));have n11_:=am ((by rw[hg];exact Nat.ne_of_lt (blk_lt (g:=gb181) (o := .cells #[.int .i64 a2_0,.int .i64 a2_1,.int .i64 a2_2] 48 (0,0)) (bup BK181.out)):gb181≠gb187));have n12_:=am ((by rw[hg];exact Nat.ne_of_gt (blk_lt (g:=gb181) (o := .cells #[.int .i64 a2_0,.int .i64 a2_1,.int .i64 a2_2] 48 (0,0)) (bup BK181.out)):gb187≠gb181));clear HO_8 HO_9 HO_10 BK180 BK181 HB;have HO_8:=n0_;have HO_9:=n1_;have HO_10:=n2_;have BK180:=n3_;have BK181:=n4_;have HB:=n5_;have BK187:=n6_;have GW187:=n7_;have GE187:=n8_;have NB180_187:=n9_;have NB187_180:=n10_;have NB181_187:=n11_;have NB187_181:=n12_;clear n0_ n1_ n2_ n3_ n4_ n5_ n6_ n7_ n8_ n9_ n10_ n11_ n12_ hb hbox hg;have hnb54:=NB187_180.out;have hnc54:=NB180_187.out;have hnb55:=NB187_181.out;have hnc55:=NB181_187.out;have hcz56_0:w53.cell? ⟨gb187,0,none⟩=some (.int .i64 0):=(blk_cell BK187.out 0).trans rfl;have hcz56_1:w53.cell? ⟨gb187,1,none⟩=some (.int .i64 0):=(blk_cell BK187.out 1).trans rfl;have hcz56_2:w53.cell? ⟨gb187,2,none⟩=some (.int .i64 0):=(blk_cell BK187.out 2).trans rfl;have hfz56_0:=blk_frozen BK187.out 0;have hfz56_1:=blk_frozen BK187.out 1;have hfz56_2:=blk_frozen BK187.out 2;have hnb57:=NB181_180.out;have hnc57:=NB180_181.out;have hcz58_0:w53.cell? ⟨gb181,0,none⟩=some (.int .i64 a2_0):=(blk_cell BK181.out 0).trans rfl;have hcz58_1:w53.cell? ⟨gb181,1,none⟩=some (.int .i64 a2_1):=(blk_cell BK181.out 1).trans rfl;have hcz58_2:w53.cell? ⟨gb181,2,none⟩=some (.int .i64 a2_2):=(blk_cell BK181.out 2).trans rfl;have hfz58_0:=blk_frozen BK181.out 0;have hfz58_1:=blk_frozen BK181.out 1;have hfz58_2:=blk_frozen BK181.out 2;have hcz59_0:w53.cell? ⟨gb180,0,none⟩=some (.slice A0_0 l0_0.length c0_0):=(blk_cell BK180.out 0).trans rfl;have hcz59_1:w53.cell? ⟨gb180,1,none⟩=some (.int .i64 a0_1):=(blk_cell BK180.out 1).trans rfl;have hfz59_0:=blk_frozen BK180.out 0;have hfz59_1:=blk_frozen BK180.out 1;have p194:0≤(((rd_T80 l1 x28_2).f0):Int):=od;have q194:((rd_T80 l1 x28_2).f0)<(x10_2.length:Int):=od;obtain⟨ad194,e194,hx194_0⟩:=Kd.at_int (Kd.R_reads' HO_10.out).2.2 ((rd_T80 l1 x28_2).f0) p194 q194;cases e194;have hn194_0:ad194.block≠gb187:=Kd.own_blk (Kd.R_ne HO_10.out BK187.out (by decide));have hn194_1:ad194.block≠gb187:=Kd.own_blk (Kd.R_ne HO_10.out BK187.out (by decide));have hn194_2:ad194.block≠gb187:=Kd.own_blk (Kd.R_ne HO_10.out BK187.out (by decide));replace hx194_0:=(cell_far (p:=⟨gb187,0,none⟩) (by first|(rw[add_block];exact hn194_0)|(show(Addr.add _ _).block≠_;rw[add_block];exact hn194_0)|exact hn194_0) (.int .i64 ((rd_T80 l1 x28_2).f0))).trans hx194_0;replace hx194_0:=(cell_far (p:=⟨gb187,1,none⟩) (by first|(rw[add_block];exact hn194_1)|(show(Addr.add _ _).block≠_;rw[add_block];exact hn194_1)|exact hn194_1) (.int .i64 ((rd_T80 l1 x28_2).f1))).trans hx194_0;replace hx194_0:=(cell_far (p:=⟨gb187,2,none⟩) (by first|(rw[add_block];exact hn194_2)|(show(Addr.add _ _).block≠_;rw[add_block];exact hn194_2)|exact hn194_2) (.int .i64 ((rd_T80 l1 x28_2).f2))).trans hx194_0;(try have hy194_0:=fun(n_:Nat)=>(show(((((w53.drewN n_).setCell ⟨gb187,0,none⟩ (.int .i64 ((rd_T80 l1 x28_2).f0))).setCell ⟨gb187,1,none⟩ (.int .i64 ((rd_T80 l1 x28_2).f1))).setCell ⟨gb187,2,none⟩ (.int .i64 ((rd_T80 l1 x28_2).f2)))).cell? _=some _ from hx194_0));clear hn194_0 hn194_1 hn194_2;replace p194:=eq_true p194;replace q194:=eq_true q194)|((with_reducible refine gate_builtin (b := .append) (xs := #[.tmp 78,.tmp 80]) rfl ?_);at_builtin;refine Kd.R_append (Kd.int .i64) (w0:=w) w.heap.size rfl (.tmp 78) (.tmp 80) 34 3 (.int .i64 0) 8 rfl Try.underlying34 info3 rfl (by decide) (by omega) u9 x9_2 x28_2 [.int .i64 x28_2] (fun k_=>some k_≠(.slice (some ad194) x10_2.length co9:Value).ownBlock) (fun _=>False) rfl (by first|(go_simp;done)|(go_simp;rfl)) ?aP (fun _ hk=>hk.elim) ?aF ?aO ?aB ?aS ?aL ?_;(case aP=>exact rfl);(case aB=>exact bl);(case aF=>exact(fun k_ hk=>Kd.fresh' (Kd.R_lt (by(with_reducible repeat(first|apply Kd.R_alloc|apply Kd.R_drewN|apply Kd.R_drew));exact(Kd.R_mono (Kd.R_far (p:=⟨gb187,2,none⟩) (Kd.R_far (p:=⟨gb187,1,none⟩) (Kd.R_far (p:=⟨gb187,0,none⟩) (Kd.R_types HO_10.out BK187.out (by decide)) (fun _ hk=>hk.2) (.int .i64 ((rd_T80 l1 x28_2).f0))) (fun _ hk=>hk.2) (.int .i64 ((rd_T80 l1 x28_2).f1))) (fun _ hk=>hk.2) (.int .i64 ((rd_T80 l1 x28_2).f2))) (fun _ h_=>h_.1)))) k_ hk));(case aO=>exact(by(with_reducible repeat(first|apply Kd.R_alloc|apply Kd.R_drewN|apply Kd.R_drew));exact Kd.R_mono (Kd.R_far (p:=⟨gb187,2,none⟩) (Kd.R_far (p:=⟨gb187,1,none⟩) (Kd.R_far (p:=⟨gb187,0,none⟩) (Kd.R_types HO_9.out BK187.out (by decide)) (fun _ hk=>hk.2) (.int .i64 ((rd_T80 l1 x28_2).f0))) (fun _ hk=>hk.2) (.int .i64 ((rd_T80 l1 x28_2).f1))) (fun _ hk=>hk.2) (.int .i64 ((rd_T80 l1 x28_2).f2))) (fun _ hk=>hk.1)));(case aS=>exact(below_size bl));(case aL=>have:=LMc52.out;omega);intro v199 w60 ho hb hg hat;rw[← Ny198.out] at ho;have n0_:=am (Kd.R_over' (by(with_reducible repeat(first|apply Kd.R_alloc|apply Kd.R_drewN|apply Kd.R_drew));exact(Kd.R_mono (Kd.R_far (p:=⟨gb187,2,none⟩) (Kd.R_far (p:=⟨gb187,1,none⟩) (Kd.R_far (p:=⟨gb187,0,none⟩) (Kd.R_types HO_8.out BK187.out (by decide)) (fun _ hk=>hk.2) (.int .i64 ((rd_T80 l1 x28_2).f0))) (fun _ hk=>hk.2) (.int .i64 ((rd_T80 l1 x28_2).f1))) (fun _ hk=>hk.2) (.int .i64 ((rd_T80 l1 x28_2).f2))) (fun _ h_=>h_.1))) (Kd.R_typed (by(with_reducible repeat(first|apply Kd.R_alloc|apply Kd.R_drewN|apply Kd.R_drew));exact(Kd.R_mono (Kd.R_far (p:=⟨gb187,2,none⟩) (Kd.R_far (p:=⟨gb187,1,none⟩) (Kd.R_far (p:=⟨gb187,0,none⟩) (Kd.R_types HO_9.out BK187.out (by decide)) (fun _ hk=>hk.2) (.int .i64 ((rd_T80 l1 x28_2).f0))) (fun _ hk=>hk.2) (.int .i64 ((rd_T80 l1 x28_2).f1))) (fun _ hk=>hk.2) (.int .i64 ((rd_T80 l1 x28_2).f2))) (fun _ h_=>h_.1)))) (by decide) hg);have n1_:=am (Kd.R_after (ok:=(fun _=>True)) (by(with_reducible repeat(first|apply Kd.R_alloc|apply Kd.R_drewN|apply Kd.R_drew));exact Kd.R_mono (Kd.R_far (p:=⟨gb187,2,none⟩) (Kd.R_far (p:=⟨gb187,1,none⟩) (Kd.R_far (p:=⟨gb187,0,none⟩) (Kd.R_types HO_10.out BK187.out (by decide)) (fun _ hk=>hk.2) (.int .i64 ((rd_T80 l1 x28_2).f0))) (fun _ hk=>hk.2) (.int .i64 ((rd_T80 l1 x28_2).f1))) (fun _ hk=>hk.2) (.int .i64 ((rd_T80 l1 x28_2).f2))) (fun _ hk=>⟨trivial,hk.1⟩)) hg hat);have n2_:=am (blk_grown (g:=gb180) (o := .cells #[.slice A0_0 l0_0.length c0_0,.int .i64 a0_1] 44 (0,0)) (by(with_reducible repeat(first|refine bN_ ?_ _|refine bD_ ?_|refine bA_ ?_ _));refine blk_far ?_ NB180_187.out _;(with_reducible repeat(first|refine bN_ ?_ _|refine bD_ ?_|refine bA_ ?_ _));refine blk_far ?_ NB180_187.out _;(with_reducible repeat(first|refine bN_ ?_ _|refine bD_ ?_|refine bA_ ?_ _));refine blk_far ?_ NB180_187.out _;exact bup BK180.out) hg (Kd.R_ne HO_9.out BK180.out (by decide)));have n3_:=am (blk_grown (g:=gb181) (o := .cells #[.int .i64 a2_0,.int .i64 a2_1,.int .i64 a2_2] 48 (0,0)) (by(with_reducible repeat(first|refine bN_ ?_ _|refine bD_ ?_|refine bA_ ?_ _));refine blk_far ?_ NB181_187.out _;(with_reducible repeat(first|refine bN_ ?_ _|refine bD_ ?_|refine bA_ ?_ _));refine blk_far ?_ NB181_187.out _;(with_reducible repeat(first|refine bN_ ?_ _|refine bD_ ?_|refine bA_ ?_ _));refine blk_far ?_ NB181_187.out _;exact bup BK181.out) hg (Kd.R_ne HO_9.out BK181.out (by decide)));have n4_:=am (blk_grown (g:=gb187) (o := .cells #[.int .i64 ((rd_T80 l1 x28_2).f0),.int .i64 ((rd_T80 l1 x28_2).f1),.int .i64 ((rd_T80 l1 x28_2).f2)] 80 (0,0)) (by(with_reducible repeat(first|refine bN_ ?_ _|refine bD_ ?_|refine bA_ ?_ _));refine blk_put (cs := #[.int .i64 ((rd_T80 l1 x28_2).f0),.int .i64 ((rd_T80 l1 x28_2).f1),.int .i64 0]) ?_ 2 _ rfl;(with_reducible repeat(first|refine bN_ ?_ _|refine bD_ ?_|refine bA_ ?_ _));refine blk_put (cs := #[.int .i64 ((rd_T80 l1 x28_2).f0),.int .i64 0,.int .i64 0]) ?_ 1 _ rfl;(with_reducible repeat(first|refine bN_ ?_ _|refine bD_ ?_|refine bA_ ?_ _));refine blk_put (cs := #[.int .i64 0,.int .i64 0,.int .i64 0]) ?_ 0 _ rfl;exact bup BK187.out) hg (Kd.R_ne HO_9.out BK187.out (by decide)));have n5_:=am (hb);have n6_:=am (ho);clear HO_8 HO_10 BK180 BK181 BK187 HB HO_9;have HO_8:=n0_;have HO_10:=n1_;have BK180:=n2_;have BK181:=n3_;have BK187:=n4_;have HB:=n5_;have HO200:=n6_;clear n0_ n1_ n2_ n3_ n4_ n5_ n6_ ho hb hg hat))))
                 (try simp only[← hl10_2])
                 go_roundg k2
                 case measure=>have:=HK1.out;have:=HK2.out;omega
                 case rel=>exact⟨(x8_2),(y198),(x10_2),(wrap64 (x28_2+1)),fin2,H',⟨by have:=HK1.out;have:=HK2.out;omega⟩,⟨by(try simp only[hl10_1]);(try simp only[hl10_2]);(with_reducible repeat(first|apply Kd.R_alloc|apply Kd.R_drewN|apply Kd.R_drew));exact HO_8.out⟩,⟨by(try simp only[hl10_1]);(try simp only[hl10_2]);(with_reducible repeat(first|apply Kd.R_alloc|apply Kd.R_drewN|apply Kd.R_drew));exact HO200.out⟩,⟨by(try simp only[hl10_1]);(try simp only[hl10_2]);(with_reducible repeat(first|apply Kd.R_alloc|apply Kd.R_drewN|apply Kd.R_drew));exact Kd.R_mono HO_10.out (fun _ hk=>hk.2)⟩,⟨by(try simp only[hl10_1]);(try simp only[hl10_2]);exact bup BK180.out⟩,⟨by(try simp only[hl10_1]);(try simp only[hl10_2]);exact bup BK181.out⟩,⟨bl⟩⟩
                ·rw[if_neg c52] at H
                 exact absurd H (by simp)
               ·rw[if_neg c51] at H
                have c51b0:decide ((wrap64 (((rd_T80 l1 x28_2).f2)+a2_1))≤(wrap64 (((rd_T80 l1 x28_2).f1)+a2_0)))=false:=decide_eq_false c51
                clear c51
                obtain⟨y201,hy201⟩:∃ y_:List Int,y_=(x10_2.set (((rd_T80 l1 x28_2).f0):Int).toNat ((rd_T80 l1 x28_2).f1)):=⟨_,rfl⟩
                replace H:(if((rd_T80 l1 x28_2).f0)<(l0_0.length:Int) then(if x8_2.length<5864062014805 then(spec_pyAll.l1 k2 (x8_2 ++ [(⟨rd l0_0 ((rd_T80 l1 x28_2).f0),wrap64 (((rd_T80 l1 x28_2).f1)+a2_0),wrap64 (((rd_T80 l1 x28_2).f2)+a2_1)⟩:S97)]) x9_2 y201 l1 (l1.length:Int) (wrap64 (x28_2+1)) l0_0 a0_1 a2_0 a2_1 a2_2) else(none)) else(none))=some (r1,r2):=by first|(rw[hy201];with_reducible exact H)|(have H2_:=(Option.bind_some _ _).symm.trans H;rw[hy201];with_reducible exact H2_)|(have H2_:=(Option.bind_some _ _).symm.trans H;with_reducible exact H2_)|with_reducible exact H|(rw[hy201];exact H)|exact H
                have Ny201:=am hy201
                clear hy201
                by_cases c62:((rd_T80 l1 x28_2).f0)<(l0_0.length:Int)
                ·rw[if_pos c62] at H
                 have c62b0:decide (((rd_T80 l1 x28_2).f0)<(l0_0.length:Int))=true:=decide_eq_true c62
                 clear c62
                 by_cases c63:x8_2.length<5864062014805
                 ·rw[if_pos c63] at H
                  have LMc63:=am c63
                  clear c63
                  obtain⟨y203,hy203⟩:∃ y_:List (S97),y_=(x8_2 ++ [(⟨rd l0_0 ((rd_T80 l1 x28_2).f0),wrap64 (((rd_T80 l1 x28_2).f1)+a2_0),wrap64 (((rd_T80 l1 x28_2).f2)+a2_1)⟩:S97)]):=⟨_,rfl⟩
                  replace H:(spec_pyAll.l1 k2 y203 x9_2 y201 l1 (l1.length:Int) (wrap64 (x28_2+1)) l0_0 a0_1 a2_0 a2_1 a2_2)=some (r1,r2):=by first|(rw[hy203];with_reducible exact H)|(have H2_:=(Option.bind_some _ _).symm.trans H;rw[hy203];with_reducible exact H2_)|(have H2_:=(Option.bind_some _ _).symm.trans H;with_reducible exact H2_)|with_reducible exact H|(rw[hy203];exact H)|exact H
                  have Ny203:=am hy203
                  clear hy203
                  have H':=am H
                  clear H
                  have p186:0≤(x28_2:Int):=od
                  have q186:x28_2<(l1.length:Int):=od
                  obtain⟨ad186,e186,hx186_0,hx186_1,hx186_2⟩:=at_T80 HR1.out x28_2 p186 q186
                  cases e186
                  replace hx186_0:=(HB.out.cell (World.block_lt_of_cell? w _ hx186_0)).trans hx186_0
                  replace hx186_1:=(HB.out.cell (World.block_lt_of_cell? w _ hx186_1)).trans hx186_1
                  replace hx186_2:=(HB.out.cell (World.block_lt_of_cell? w _ hx186_2)).trans hx186_2
                  replace p186:=eq_true p186
                  replace q186:=eq_true q186
                  iterate 3 ((try go_quiet (fail));(try go_wp2_with (first|((with_reducible refine gate_dst (N:=13) rfl ?_);refine box_event ?hg (N:=13) ?hd (cs := #[.int .i64 0,.int .i64 0,.int .i64 0]) (t:=80) ?hr ?_;(case hd=>rfl);(case hg=>rfl);(case hr=>first|(go_simp;done)|(go_simp;rfl));intro gb187 hg w64 hbox hb;have n0_:=am (Kd.R_below (rup HO_8.out) hb);have n1_:=am (Kd.R_below (rup HO_9.out) hb);have n2_:=am (Kd.R_below (rup HO_10.out) hb);have n3_:=am (blk_below (g:=gb180) (o := .cells #[.slice A0_0 l0_0.length c0_0,.int .i64 a0_1] 44 (0,0)) (bup BK180.out) hb);have n4_:=am (blk_below (g:=gb181) (o := .cells #[.int .i64 a2_0,.int .i64 a2_1,.int .i64 a2_2] 48 (0,0)) (bup BK181.out) hb);have n5_:=am (below_step bl hb);have n6_:=am (hbox);have n7_:=am ((by rw[hg];exact(below_size bl):w.heap.size≤gb187));have n8_:=am ((by rw[hg];exact(below_size bl):w.heap.size≤gb187));have n9_:=am ((by rw[hg];exact Nat.ne_of_lt (blk_lt (g:=gb180) (o := .cells #[.slice A0_0 l0_0.length c0_0,.int .i64 a0_1] 44 (0,0)) (bup BK180.out)):gb180≠gb187));have n10_:=am ((by rw[hg];exact Nat.ne_of_gt (blk_lt (g:=gb180) (o := .cells #[.slice A0_0 l0_0.length c0_0,.int .i64 a0_1] 44 (0,0)) (bup BK180.out)):gb187≠gb180));have n11_:=am ((by rw[hg];exact Nat.ne_of_lt (blk_lt (g:=gb181) (o := .cells #[.int .i64 a2_0,.int .i64 a2_1,.int .i64 a2_2] 48 (0,0)) (bup BK181.out)):gb181≠gb187));have n12_:=am ((by rw[hg];exact Nat.ne_of_gt (blk_lt (g:=gb181) (o := .cells #[.int .i64 a2_0,.int .i64 a2_1,.int .i64 a2_2] 48 (0,0)) (bup BK181.out)):gb187≠gb181));clear HO_8 HO_9 HO_10 BK180 BK181 HB;have HO_8:=n0_;have HO_9:=n1_;have HO_10:=n2_;have BK180:=n3_;have BK181:=n4_;have HB:=n5_;have BK187:=n6_;have GW187:=n7_;have GE187:=n8_;have NB180_187:=n9_;have NB187_180:=n10_;have NB181_187:=n11_;have NB187_181:=n12_;clear n0_ n1_ n2_ n3_ n4_ n5_ n6_ n7_ n8_ n9_ n10_ n11_ n12_ hb hbox hg;have hnb65:=NB187_180.out;have hnc65:=NB180_187.out;have hnb66:=NB187_181.out;have hnc66:=NB181_187.out;have hcz67_0:w64.cell? ⟨gb187,0,none⟩=some (.int .i64 0):=(blk_cell BK187.out 0).trans rfl;have hcz67_1:w64.cell? ⟨gb187,1,none⟩=some (.int .i64 0):=(blk_cell BK187.out 1).trans rfl;have hcz67_2:w64.cell? ⟨gb187,2,none⟩=some (.int .i64 0):=(blk_cell BK187.out 2).trans rfl;have hfz67_0:=blk_frozen BK187.out 0;have hfz67_1:=blk_frozen BK187.out 1;have hfz67_2:=blk_frozen BK187.out 2)|((with_reducible refine gate_store (t:=80) (p:=13) rfl ?_);(try(rw[drewN_self w64];generalize hq_:World.drewN w64 _=w64;have n0_:=am (Kd.R_at hq_ HO_8.out);have n1_:=am (Kd.R_at hq_ HO_9.out);have n2_:=am (Kd.R_at hq_ HO_10.out);have n3_:=am (blk_at hq_ BK180.out);have n4_:=am (blk_at hq_ BK181.out);have n5_:=am (blk_at hq_ BK187.out);have n6_:=am (below_at hq_ HB.out);clear hq_ HO_8 HO_9 HO_10 BK180 BK181 BK187 HB;have HO_8:=n0_;have HO_9:=n1_;have HO_10:=n2_;have BK180:=n3_;have BK181:=n4_;have BK187:=n5_;have HB:=n6_;clear n0_ n1_ n2_ n3_ n4_ n5_ n6_));refine store_event (t:=80) (p:=13) (v:=?vo_w68) (w1:=(((w64.setCell ⟨gb187,0,none⟩ (.int .i64 ((rd_T80 l1 x28_2).f0))).setCell ⟨gb187,1,none⟩ (.int .i64 ((rd_T80 l1 x28_2).f1))).setCell ⟨gb187,2,none⟩ (.int .i64 ((rd_T80 l1 x28_2).f2)))) ?hg ?ho ?hn ?hr ?_;(case ho=>rfl);(case hg=>rfl);(case hn=>rfl);(case hr=>first|(go_simp;done)|(go_simp;rfl));intro w68 hw;have n0_:Aside0 (Kd.R k97 97 w68 w.heap.size (fun _=>True) u8 x8_2):=⟨(by rw[hw];exact(by(with_reducible repeat(first|apply Kd.R_alloc|apply Kd.R_drewN|apply Kd.R_drew));exact Kd.R_mono (Kd.R_far (p:=⟨gb187,2,none⟩) (Kd.R_far (p:=⟨gb187,1,none⟩) (Kd.R_far (p:=⟨gb187,0,none⟩) (Kd.R_types HO_8.out BK187.out (by decide)) (fun _ hk=>hk.2) (.int .i64 ((rd_T80 l1 x28_2).f0))) (fun _ hk=>hk.2) (.int .i64 ((rd_T80 l1 x28_2).f1))) (fun _ hk=>hk.2) (.int .i64 ((rd_T80 l1 x28_2).f2))) (fun _ hk=>trivial)))⟩;have n1_:Aside0 (Kd.R (Kd.int .i64) 3 w68 w.heap.size (fun k_=>some k_≠(.slice Ao9 x10_2.length co9:Value).ownBlock) u9 x9_2):=⟨(by rw[hw];exact(by(with_reducible repeat(first|apply Kd.R_alloc|apply Kd.R_drewN|apply Kd.R_drew));exact Kd.R_mono (Kd.R_far (p:=⟨gb187,2,none⟩) (Kd.R_far (p:=⟨gb187,1,none⟩) (Kd.R_far (p:=⟨gb187,0,none⟩) (Kd.R_types HO_9.out BK187.out (by decide)) (fun _ hk=>hk.2) (.int .i64 ((rd_T80 l1 x28_2).f0))) (fun _ hk=>hk.2) (.int .i64 ((rd_T80 l1 x28_2).f1))) (fun _ hk=>hk.2) (.int .i64 ((rd_T80 l1 x28_2).f2))) (fun _ hk=>hk.1)))⟩;have n2_:Aside0 (Kd.R (Kd.int .i64) 3 w68 w.heap.size (fun k_=>some k_≠(u9:Value).ownBlock) (.slice Ao9 x10_2.length co9) x10_2):=⟨(by rw[hw];exact(by(with_reducible repeat(first|apply Kd.R_alloc|apply Kd.R_drewN|apply Kd.R_drew));exact Kd.R_mono (Kd.R_far (p:=⟨gb187,2,none⟩) (Kd.R_far (p:=⟨gb187,1,none⟩) (Kd.R_far (p:=⟨gb187,0,none⟩) (Kd.R_types HO_10.out BK187.out (by decide)) (fun _ hk=>hk.2) (.int .i64 ((rd_T80 l1 x28_2).f0))) (fun _ hk=>hk.2) (.int .i64 ((rd_T80 l1 x28_2).f1))) (fun _ hk=>hk.2) (.int .i64 ((rd_T80 l1 x28_2).f2))) (fun _ hk=>hk.1)))⟩;have n3_:Aside0 (w68.heap[gb180]?=some (.cells #[.slice A0_0 l0_0.length c0_0,.int .i64 a0_1] 44 (0,0))):=⟨(by rw[hw];exact(by(with_reducible repeat(first|refine bN_ ?_ _|refine bD_ ?_|refine bA_ ?_ _));refine blk_far ?_ NB180_187.out _;(with_reducible repeat(first|refine bN_ ?_ _|refine bD_ ?_|refine bA_ ?_ _));refine blk_far ?_ NB180_187.out _;(with_reducible repeat(first|refine bN_ ?_ _|refine bD_ ?_|refine bA_ ?_ _));refine blk_far ?_ NB180_187.out _;exact bup BK180.out))⟩;have n4_:Aside0 (w68.heap[gb181]?=some (.cells #[.int .i64 a2_0,.int .i64 a2_1,.int .i64 a2_2] 48 (0,0))):=⟨(by rw[hw];exact(by(with_reducible repeat(first|refine bN_ ?_ _|refine bD_ ?_|refine bA_ ?_ _));refine blk_far ?_ NB181_187.out _;(with_reducible repeat(first|refine bN_ ?_ _|refine bD_ ?_|refine bA_ ?_ _));refine blk_far ?_ NB181_187.out _;(with_reducible repeat(first|refine bN_ ?_ _|refine bD_ ?_|refine bA_ ?_ _));refine blk_far ?_ NB181_187.out _;exact bup BK181.out))⟩;have n5_:Aside0 (w68.heap[gb187]?=some (.cells #[.int .i64 ((rd_T80 l1 x28_2).f0),.int .i64 ((rd_T80 l1 x28_2).f1),.int .i64 ((rd_T80 l1 x28_2).f2)] 80 (0,0))):=⟨(by rw[hw];exact(by(with_reducible repeat(first|refine bN_ ?_ _|refine bD_ ?_|refine bA_ ?_ _));refine blk_put (cs := #[.int .i64 ((rd_T80 l1 x28_2).f0),.int .i64 ((rd_T80 l1 x28_2).f1),.int .i64 0]) ?_ 2 _ rfl;(with_reducible repeat(first|refine bN_ ?_ _|refine bD_ ?_|refine bA_ ?_ _));refine blk_put (cs := #[.int .i64 ((rd_T80 l1 x28_2).f0),.int .i64 0,.int .i64 0]) ?_ 1 _ rfl;(with_reducible repeat(first|refine bN_ ?_ _|refine bD_ ?_|refine bA_ ?_ _));refine blk_put (cs := #[.int .i64 0,.int .i64 0,.int .i64 0]) ?_ 0 _ rfl;exact bup BK187.out))⟩;have n6_:Aside0 (Below w.heap.size w w68):=⟨(by rw[hw];exact bl)⟩;clear hw HO_8 HO_9 HO_10 BK180 BK181 BK187 HB;have HO_8:=n0_;have HO_9:=n1_;have HO_10:=n2_;have BK180:=n3_;have BK181:=n4_;have BK187:=n5_;have HB:=n6_;clear n0_ n1_ n2_ n3_ n4_ n5_ n6_;have hcz69_0:w68.cell? ⟨gb187,0,none⟩=some (.int .i64 ((rd_T80 l1 x28_2).f0)):=(blk_cell BK187.out 0).trans rfl;have hcz69_1:w68.cell? ⟨gb187,1,none⟩=some (.int .i64 ((rd_T80 l1 x28_2).f1)):=(blk_cell BK187.out 1).trans rfl;have hcz69_2:w68.cell? ⟨gb187,2,none⟩=some (.int .i64 ((rd_T80 l1 x28_2).f2)):=(blk_cell BK187.out 2).trans rfl;have hfz69_0:=blk_frozen BK187.out 0;have hfz69_1:=blk_frozen BK187.out 1;have hfz69_2:=blk_frozen BK187.out 2;have hnb70:=NB181_180.out;have hnc70:=NB180_181.out;have hcz71_0:w68.cell? ⟨gb181,0,none⟩=some (.int .i64 a2_0):=(blk_cell BK181.out 0).trans rfl;have hcz71_1:w68.cell? ⟨gb181,1,none⟩=some (.int .i64 a2_1):=(blk_cell BK181.out 1).trans rfl;have hcz71_2:w68.cell? ⟨gb181,2,none⟩=some (.int .i64 a2_2):=(blk_cell BK181.out 2).trans rfl;have hfz71_0:=blk_frozen BK181.out 0;have hfz71_1:=blk_frozen BK181.out 1;have hfz71_2:=blk_frozen BK181.out 2;have hcz72_0:w68.cell? ⟨gb180,0,none⟩=some (.slice A0_0 l0_0.length c0_0):=(blk_cell BK180.out 0).trans rfl;have hcz72_1:w68.cell? ⟨gb180,1,none⟩=some (.int .i64 a0_1):=(blk_cell BK180.out 1).trans rfl;have hfz72_0:=blk_frozen BK180.out 0;have hfz72_1:=blk_frozen BK180.out 1;have p194:0≤(((rd_T80 l1 x28_2).f0):Int):=od;have q194:((rd_T80 l1 x28_2).f0)<(x10_2.length:Int):=od;obtain⟨ad194,e194,hx194_0⟩:=Kd.at_int (Kd.R_reads' HO_10.out).2.2 ((rd_T80 l1 x28_2).f0) p194 q194;cases e194;replace p194:=eq_true p194;replace q194:=eq_true q194;have p61:0≤(((rd_T80 l1 x28_2).f0):Int):=od;have q61:(((rd_T80 l1 x28_2).f0):Int)<((x10_2.length:Int):Int):=od;obtain⟨go61,co61,eo61,gb61,gl61,cl61,HG61⟩:=Kd.R_form HO_10.out (by omega);(first|cases eo61|(injection eo61 with ea_ en_ ec_;(first|subst ea_|(injection ea_ with ea_;subst ea_));subst ec_;clear en_));have GB61:=am gb61;have GG61:=am HG61;clear gb61 gl61 HG61;(first|simp only[add_plain] at hx194_0|skip);obtain⟨hx61_0,hf61_0⟩:=Kd.R_celln 0 HO_10.out (((rd_T80 l1 x28_2).f0):Int) p61 q61;replace p61:=eq_true p61;replace q61:=eq_true q61;obtain⟨hy73_,hz73_⟩:=Kd.R_celln 0 HO_10.out (((rd_T80 l1 x28_2).f0):Int) (od) (od);have HP73:=Kd.R_putg HO_10.out (((rd_T80 l1 x28_2).f0):Int) ((rd_T80 l1 x28_2).f1))|((with_reducible refine gate_store (t:=3) (p:=87) rfl ?_);(try(rw[drewN_self w68];generalize hq_:World.drewN w68 _=w68;have n0_:=am (Kd.R_at hq_ HO_8.out);have n1_:=am (Kd.R_at hq_ HO_9.out);have n2_:=am (Kd.R_at hq_ HO_10.out);have n3_:=am (blk_at hq_ BK180.out);have n4_:=am (blk_at hq_ BK181.out);have n5_:=am (blk_at hq_ BK187.out);have n6_:=am (below_at hq_ HB.out);clear hq_ HO_8 HO_9 HO_10 BK180 BK181 BK187 HB;have HO_8:=n0_;have HO_9:=n1_;have HO_10:=n2_;have BK180:=n3_;have BK181:=n4_;have BK187:=n5_;have HB:=n6_;clear n0_ n1_ n2_ n3_ n4_ n5_ n6_;(try(obtain⟨hy73_,hz73_⟩:=Kd.R_celln 0 HO_10.out (((rd_T80 l1 x28_2).f0):Int) (od) (od)));(try(have HP73:=Kd.R_putg HO_10.out (((rd_T80 l1 x28_2).f0):Int) ((rd_T80 l1 x28_2).f1)))));refine store_event (t:=3) (p:=87) (v:=?vo_w74) (w1:=(w68.setCell ⟨go61,(((rd_T80 l1 x28_2).f0):Int).toNat,none⟩ (.int .i64 ((rd_T80 l1 x28_2).f1)))) ?hg ?ho ?hn ?hr ?_;(case ho=>rfl);(case hg=>rfl);(case hn=>rfl);(case hr=>first|(go_simp;done)|(go_simp;rfl));intro w74 hw;have hg:w68.grownBy w74 (some go61):=(by rw[hw];exact HP73.2);have hp_:Kd.R (Kd.int .i64) 3 w74 w.heap.size (fun k_=>some k_≠(u9:Value).ownBlock) (.slice (some ⟨go61,0,none⟩) x10_2.length co9) y201:=(by rw[hw,Ny201.out];exact HP73.1);clear HP73;have n0_:=am (Kd.R_over' (v:=(.slice (some ⟨go61,0,none⟩) x10_2.length co9)) (rup HO_8.out) (Kd.R_typed HO_10.out) (by decide) hg);have n1_:=am (Kd.R_after (v:=(.slice (some ⟨go61,0,none⟩) x10_2.length co9)) (v1:=(.slice (some ⟨go61,0,none⟩) x10_2.length co9)) (ok:=(fun _=>True)) (by(with_reducible repeat(first|apply Kd.R_alloc|apply Kd.R_drewN|apply Kd.R_drew));exact Kd.R_mono HO_9.out (fun _ hk=>⟨trivial,hk⟩)) hg (.inl rfl));have n2_:=am (hp_);have n3_:=am (blk_grown (g:=gb180) (o := .cells #[.slice A0_0 l0_0.length c0_0,.int .i64 a0_1] 44 (0,0)) (bup BK180.out) hg (Kd.R_ne HO_10.out BK180.out (by decide)));have n4_:=am (blk_grown (g:=gb181) (o := .cells #[.int .i64 a2_0,.int .i64 a2_1,.int .i64 a2_2] 48 (0,0)) (bup BK181.out) hg (Kd.R_ne HO_10.out BK181.out (by decide)));have n5_:=am (blk_grown (g:=gb187) (o := .cells #[.int .i64 ((rd_T80 l1 x28_2).f0),.int .i64 ((rd_T80 l1 x28_2).f1),.int .i64 ((rd_T80 l1 x28_2).f2)] 80 (0,0)) (bup BK187.out) hg (Kd.R_ne HO_10.out BK187.out (by decide)));have n6_:=am ((by rw[hw];exact below_set (HB.out) GB61.out:Below w.heap.size w w74));clear HO_8 HO_9 HO_10 BK180 BK181 BK187 HB;have HO_8:=n0_;have HO_9:=n1_;have HO_10:=n2_;have BK180:=n3_;have BK181:=n4_;have BK187:=n5_;have HB:=n6_;clear n0_ n1_ n2_ n3_ n4_ n5_ n6_ hg hw hp_;have hcz75_0:w74.cell? ⟨gb180,0,none⟩=some (.slice A0_0 l0_0.length c0_0):=(blk_cell BK180.out 0).trans rfl;have hcz75_1:w74.cell? ⟨gb180,1,none⟩=some (.int .i64 a0_1):=(blk_cell BK180.out 1).trans rfl;have hfz75_0:=blk_frozen BK180.out 0;have hfz75_1:=blk_frozen BK180.out 1;have hcz76_0:w74.cell? ⟨gb187,0,none⟩=some (.int .i64 ((rd_T80 l1 x28_2).f0)):=(blk_cell BK187.out 0).trans rfl;have hcz76_1:w74.cell? ⟨gb187,1,none⟩=some (.int .i64 ((rd_T80 l1 x28_2).f1)):=(blk_cell BK187.out 1).trans rfl;have hcz76_2:w74.cell? ⟨gb187,2,none⟩=some (.int .i64 ((rd_T80 l1 x28_2).f2)):=(blk_cell BK187.out 2).trans rfl;have hfz76_0:=blk_frozen BK187.out 0;have hfz76_1:=blk_frozen BK187.out 1;have hfz76_2:=blk_frozen BK187.out 2;have p202:0≤(((rd_T80 l1 x28_2).f0):Int):=od;have q202:((rd_T80 l1 x28_2).f0)<(l0_0.length:Int):=od;obtain⟨ad202,e202,hx202_0⟩:=Kd.at_int HR0_0.out ((rd_T80 l1 x28_2).f0) p202 q202;cases e202;replace hx202_0:=(HB.out.cell (World.block_lt_of_cell? w _ hx202_0)).trans hx202_0;replace p202:=eq_true p202;replace q202:=eq_true q202)|((with_reducible refine gate_builtin (b := .append) (xs := #[.tmp 88,.tmp 98]) rfl ?_);at_builtin;refine Kd.R_append k97 (w0:=w) w.heap.size rfl (.tmp 88) (.tmp 98) 89 97 (.agg #[(.int .i64 0),(.int .i64 0),(.int .i64 0)]) 24 rfl Try.underlying89 info97 rfl (by decide) (by omega) u8 x8_2 (⟨rd l0_0 ((rd_T80 l1 x28_2).f0),wrap64 (((rd_T80 l1 x28_2).f1)+a2_0),wrap64 (((rd_T80 l1 x28_2).f2)+a2_1)⟩:S97) [.int .i64 (rd l0_0 ((rd_T80 l1 x28_2).f0)),.int .i64 (wrap64 (((rd_T80 l1 x28_2).f1)+a2_0)),.int .i64 (wrap64 (((rd_T80 l1 x28_2).f2)+a2_1))] (fun _=>True) (fun _=>False) rfl rfl ?aP (fun _ hk=>hk.elim) ?aF ?aO ?aB ?aS ?aL ?_;(case aP=>exact k97_mkM _ _ _ (⟨rd l0_0 ((rd_T80 l1 x28_2).f0),wrap64 (((rd_T80 l1 x28_2).f1)+a2_0),wrap64 (((rd_T80 l1 x28_2).f2)+a2_1)⟩:S97));(case aB=>exact bl);(case aF=>exact(fun _ _=>trivial));(case aO=>exact(rup HO_8.out));(case aS=>exact(below_size bl));(case aL=>have:=LMc63.out;omega);intro v204 w77 ho hb hg hat;rw[← Ny203.out] at ho;have n0_:=am (Kd.R_over' (rup HO_9.out) (Kd.R_typed (rup HO_8.out)) (by decide) hg);have n1_:=am (Kd.R_over' (rup HO_10.out) (Kd.R_typed (rup HO_8.out)) (by decide) hg);have n2_:=am (blk_grown (g:=gb180) (o := .cells #[.slice (some ad202) l0_0.length c0_0,.int .i64 a0_1] 44 (0,0)) (bup BK180.out) hg (Kd.R_ne HO_8.out BK180.out (by decide)));have n3_:=am (blk_grown (g:=gb181) (o := .cells #[.int .i64 a2_0,.int .i64 a2_1,.int .i64 a2_2] 48 (0,0)) (bup BK181.out) hg (Kd.R_ne HO_8.out BK181.out (by decide)));have n4_:=am (blk_grown (g:=gb187) (o := .cells #[.int .i64 ((rd_T80 l1 x28_2).f0),.int .i64 ((rd_T80 l1 x28_2).f1),.int .i64 ((rd_T80 l1 x28_2).f2)] 80 (0,0)) (bup BK187.out) hg (Kd.R_ne HO_8.out BK187.out (by decide)));have n5_:=am (hb);have n6_:=am (ho);clear HO_9 HO_10 BK180 BK181 BK187 HB HO_8;have HO_9:=n0_;have HO_10:=n1_;have BK180:=n2_;have BK181:=n3_;have BK187:=n4_;have HB:=n5_;have HO205:=n6_;clear n0_ n1_ n2_ n3_ n4_ n5_ n6_ ho hb hg hat))))
                  (try simp only[← hl10_2])
                  go_roundg k2
                  case measure=>have:=HK1.out;have:=HK2.out;omega
                  case rel=>exact⟨(y203),(x9_2),(y201),(wrap64 (x28_2+1)),fin2,H',⟨by have:=HK1.out;have:=HK2.out;omega⟩,⟨by(try simp only[hl10_1]);(try simp only[hl10_2]);(with_reducible repeat(first|apply Kd.R_alloc|apply Kd.R_drewN|apply Kd.R_drew));exact HO205.out⟩,⟨by(try simp only[hl10_1]);(try simp only[hl10_2]);(with_reducible repeat(first|apply Kd.R_alloc|apply Kd.R_drewN|apply Kd.R_drew));exact Kd.R_mono HO_9.out (fun _ hk=>hk.2)⟩,⟨by(try simp only[hl10_1]);(try simp only[hl10_2]);(with_reducible repeat(first|apply Kd.R_alloc|apply Kd.R_drewN|apply Kd.R_drew));exact HO_10.out⟩,⟨by(try simp only[hl10_1]);(try simp only[hl10_2]);exact bup BK180.out⟩,⟨by(try simp only[hl10_1]);(try simp only[hl10_2]);exact bup BK181.out⟩,⟨bl⟩⟩
                 ·rw[if_neg c63] at H
                  exact absurd H (by simp)
                ·rw[if_neg c62] at H
                 exact absurd H (by simp)
             ·rw[if_neg c40] at H
              exact absurd H (by simp)
            ·rw[if_neg c39] at H
             exact absurd H (by simp)
         ·rw[if_neg c18] at H
          exact absurd H (by simp)
        ·rw[if_neg c17] at H
         exact absurd H (by simp)
       ·rw[if_neg c16] at H
        have c16b0:decide (x28_2<(l1.length:Int))=false:=decide_eq_false c16
        clear c16
        simp only[Option.some.injEq,Prod.mk.injEq] at H
        obtain⟨rfl,rfl⟩:=H
        go_wp2
        repeat(go_quiet (fail);try go_wp2)
        go_ret2
        exact⟨_,_,fin1,by(with_reducible repeat(first|apply Kd.R_alloc|apply Kd.R_drewN|apply Kd.R_drew));exact HO_8.out,by(with_reducible repeat(first|apply Kd.R_alloc|apply Kd.R_drewN|apply Kd.R_drew));exact Kd.R_mono HO_9.out (fun _ hk=>trivial),bl⟩
 ·rw[if_neg c4] at H
  exact absurd H (by simp)

/-! ### spec_vfTimes: function 64 -/
def spec_vfTimes.l0:Nat→Int→List (List Int)→List (S95)→Int→Int→Int→Int→Int→Option ((List (List Int)))
 | 0,_,_,_,_,_,_,_,_=>none
 | k+1,x2,x7,x10,x11,x12,x207000,x207001,x207002=>if x12<x11 then(if 0≤x12 then(if x12<(x10.length:Int) then(if x7.length<5864062014805 then(spec_vfTimes.l0 k x2 (x7 ++ [(([wrap64 ((wrap64 ((wrap64 (2*((rd_T95 x10 x12).f1)))+x207000)) - x2),wrap64 ((wrap64 ((wrap64 (2*((rd_T95 x10 x12).f1)))+x207000))+x2)]:List Int))]) x10 x11 (wrap64 (x12+1)) x207000 x207001 x207002) else(none)) else(none)) else(none)) else(some x7)
def spec_vfTimes.f (k:Nat) (l0:List (S95)) (a1_0:Int) (a1_1:Int) (a1_2:Int) (a2:Int):Option ((List (List Int))):=spec_vfTimes.l0 k a2 ([]:List (List Int)) l0 (l0.length:Int) 0 a1_0 a1_1 a1_2
set_option maxHeartbeats 8000000 in
set_option maxRecDepth 100000 in
theorem spec_vfTimes.calls (k:Nat) (A0:Option Addr) (c0:Nat) (l0:List (S95)) (a1_0:Int) (a1_1:Int) (a1_2:Int) (a2:Int) (r:List (List Int)) (w:World) (hr0:Kd.C k95 w A0 l0.length l0) (hc0:l0.length≤c0) (h:spec_vfTimes.f k l0 a1_0 a1_1 a1_2 a2=some r) :
  Calls Try.prog 64 #[.slice A0 l0.length c0,.agg #[.int .i64 a1_0,.int .i64 a1_1,.int .i64 a1_2],.int .i64 a2] w fun e w'=>∃ v0_:Value,e = .returned (v0_)∧Kd.S (Kd.slice 3 (Kd.int .i64)) 34 w' w.heap.size (fun _=>True) v0_ r∧Below w.heap.size w w':=by
 have hu48:=Try.underlying48
 have hu95:=Try.underlying95
 have HR0:=am hr0
 have HC0:=am hc0
 clear hr0 hc0
 have HB:=am (Below.refl w.heap.size w)
 have H:(spec_vfTimes.l0 k a2 ([]:List (List Int)) l0 (l0.length:Int) 0 a1_0 a1_1 a1_2)=some r:=h
 clear h
 have H':=am H
 clear H
 go_enter Try.func64,Try.ntmps64
 go_wp2_with (first|((with_reducible refine gate_dst (N:=4) rfl ?_);refine box_event ?hg (N:=4) ?hd (cs := #[.int .i64 a1_0,.int .i64 a1_1,.int .i64 a1_2]) (t:=48) ?hr ?_;(case hd=>rfl);(case hg=>rfl);(case hr=>first|(go_simp;done)|(go_simp;rfl));intro gb206 hg w4 hbox hb;have n0_:=am (below_step bl hb);have n1_:=am (hbox);have n2_:=am ((by rw[hg];exact(below_size bl):w.heap.size≤gb206));have n3_:=am ((by rw[hg];exact(below_size bl):w.heap.size≤gb206));clear HB;have HB:=n0_;have BK206:=n1_;have GW206:=n2_;have GE206:=n3_;clear n0_ n1_ n2_ n3_ hb hbox hg))
 go_loopg [7,12] k (fun kq v7 v12 w'=>∃(x7_1:List (List Int)) (x12_1:Int),v12 = .int .i64 x12_1∧Aside0 (spec_vfTimes.l0 kq a2 x7_1 l0 (l0.length:Int) x12_1 a1_0 a1_1 a1_2=some r)∧Aside0 (kq≤k)∧Aside0 (Kd.S (Kd.slice 3 (Kd.int .i64)) 34 w' w.heap.size (fun _=>True) v7 x7_1)∧Aside0 (w'.heap[gb206]?=some (.cells #[.int .i64 a1_0,.int .i64 a1_1,.int .i64 a1_2] 48 (0,0)))∧Aside0 (Below w.heap.size w w'))
 case atStart=>exact⟨(([]:List (List Int))),(0),fin2,H',⟨Nat.le_refl _⟩,⟨by first|exact Kd.S_nil _ _ _ _ _|exact Kd.N_nil _ _ _ _ _|exact Kd.V_nil _ _ _ _ _|exact Kd.Q_nil _ _ _ _ _|exact Kd.R_nil _ _ _ _ _⟩,⟨bup BK206.out⟩,⟨bl⟩⟩
 case round =>
  clear H'
  try clear p2
  obtain⟨x7_1,x12_1,rfl,HA,HK1,HO_7,BK206,HB⟩:=hrel
  cases gk with
  | zero=>exact absurd HA.out (by simp [spec_vfTimes.l0])
  | succ k1 =>
   have H:=HA.out
   clear HA
   simp only[spec_vfTimes.l0] at H
   by_cases c5:x12_1<(l0.length:Int)
   ·rw[if_pos c5] at H
    have c5b0:decide (x12_1<(l0.length:Int))=true:=decide_eq_true c5
    clear c5
    by_cases c6:0≤x12_1
    ·rw[if_pos c6] at H
     have c6b0:decide (0≤x12_1)=true:=decide_eq_true c6
     clear c6
     by_cases c7:x12_1<(l0.length:Int)
     ·rw[if_pos c7] at H
      have c7b0:decide (x12_1<(l0.length:Int))=true:=decide_eq_true c7
      clear c7
      obtain⟨y209,hy209⟩:∃ y_:List Int,y_=(([wrap64 ((wrap64 ((wrap64 (2*((rd_T95 l0 x12_1).f1)))+a1_0)) - a2),wrap64 ((wrap64 ((wrap64 (2*((rd_T95 l0 x12_1).f1)))+a1_0))+a2)]:List Int)):=⟨_,rfl⟩
      replace H:(if x7_1.length<5864062014805 then(spec_vfTimes.l0 k1 a2 (x7_1 ++ [y209]) l0 (l0.length:Int) (wrap64 (x12_1+1)) a1_0 a1_1 a1_2) else(none))=some r:=by first|(rw[hy209];with_reducible exact H)|(have H2_:=(Option.bind_some _ _).symm.trans H;rw[hy209];with_reducible exact H2_)|(have H2_:=(Option.bind_some _ _).symm.trans H;with_reducible exact H2_)|with_reducible exact H|(rw[hy209];exact H)|exact H
      have Ny209:=am hy209
      clear hy209
      by_cases c8:x7_1.length<5864062014805
      ·rw[if_pos c8] at H
       have LMc8:=am c8
       clear c8
       obtain⟨y212,hy212⟩:∃ y_:List (List Int),y_=(x7_1 ++ [y209]):=⟨_,rfl⟩
       replace H:(spec_vfTimes.l0 k1 a2 y212 l0 (l0.length:Int) (wrap64 (x12_1+1)) a1_0 a1_1 a1_2)=some r:=by first|(rw[hy212];with_reducible exact H)|(have H2_:=(Option.bind_some _ _).symm.trans H;rw[hy212];with_reducible exact H2_)|(have H2_:=(Option.bind_some _ _).symm.trans H;with_reducible exact H2_)|with_reducible exact H|(rw[hy212];exact H)|exact H
       have Ny212:=am hy212
       clear hy212
       have H':=am H
       clear H
       have p207:0≤(x12_1:Int):=od
       have q207:x12_1<(l0.length:Int):=od
       obtain⟨ad207,e207,hx207_0,hx207_1,hx207_2⟩:=at_T95 HR0.out x12_1 p207 q207
       cases e207
       replace hx207_0:=(HB.out.cell (World.block_lt_of_cell? w _ hx207_0)).trans hx207_0
       replace hx207_1:=(HB.out.cell (World.block_lt_of_cell? w _ hx207_1)).trans hx207_1
       replace hx207_2:=(HB.out.cell (World.block_lt_of_cell? w _ hx207_2)).trans hx207_2
       replace p207:=eq_true p207
       replace q207:=eq_true q207
       go_wp2_with (first|((with_reducible refine gate_dst (N:=9) rfl ?_);refine box_event ?hg (N:=9) ?hd (cs := #[.int .i64 0,.int .i64 0,.int .i64 0]) (t:=95) ?hr ?_;(case hd=>rfl);(case hg=>rfl);(case hr=>first|(go_simp;done)|(go_simp;rfl));intro gb208 hg w9 hbox hb;have n0_:=am (Kd.S_below (by(with_reducible repeat(first|apply Kd.S_alloc|apply Kd.S_drewN|apply Kd.S_drew));exact HO_7.out) hb);have n1_:=am (blk_below (g:=gb206) (o := .cells #[.int .i64 a1_0,.int .i64 a1_1,.int .i64 a1_2] 48 (0,0)) (bup BK206.out) hb);have n2_:=am (below_step bl hb);have n3_:=am (hbox);have n4_:=am ((by rw[hg];exact(below_size bl):w.heap.size≤gb208));have n5_:=am ((by rw[hg];exact(below_size bl):w.heap.size≤gb208));have n6_:=am ((by rw[hg];exact Nat.ne_of_lt (blk_lt (g:=gb206) (o := .cells #[.int .i64 a1_0,.int .i64 a1_1,.int .i64 a1_2] 48 (0,0)) (bup BK206.out)):gb206≠gb208));have n7_:=am ((by rw[hg];exact Nat.ne_of_gt (blk_lt (g:=gb206) (o := .cells #[.int .i64 a1_0,.int .i64 a1_1,.int .i64 a1_2] 48 (0,0)) (bup BK206.out)):gb208≠gb206));clear HO_7 BK206 HB;have HO_7:=n0_;have BK206:=n1_;have HB:=n2_;have BK208:=n3_;have GW208:=n4_;have GE208:=n5_;have NB206_208:=n6_;have NB208_206:=n7_;clear n0_ n1_ n2_ n3_ n4_ n5_ n6_ n7_ hb hbox hg;have hnb10:=NB208_206.out;have hnc10:=NB206_208.out;have hcz11_0:w9.cell? ⟨gb208,0,none⟩=some (.int .i64 0):=(blk_cell BK208.out 0).trans rfl;have hcz11_1:w9.cell? ⟨gb208,1,none⟩=some (.int .i64 0):=(blk_cell BK208.out 1).trans rfl;have hcz11_2:w9.cell? ⟨gb208,2,none⟩=some (.int .i64 0):=(blk_cell BK208.out 2).trans rfl;have hfz11_0:=blk_frozen BK208.out 0;have hfz11_1:=blk_frozen BK208.out 1;have hfz11_2:=blk_frozen BK208.out 2;have hcz12_0:w9.cell? ⟨gb206,0,none⟩=some (.int .i64 a1_0):=(blk_cell BK206.out 0).trans rfl;have hcz12_1:w9.cell? ⟨gb206,1,none⟩=some (.int .i64 a1_1):=(blk_cell BK206.out 1).trans rfl;have hcz12_2:w9.cell? ⟨gb206,2,none⟩=some (.int .i64 a1_2):=(blk_cell BK206.out 2).trans rfl;have hfz12_0:=blk_frozen BK206.out 0;have hfz12_1:=blk_frozen BK206.out 1;have hfz12_2:=blk_frozen BK206.out 2)|((with_reducible refine gate_dst (N:=33) rfl ?_);refine Kd.R_lit (Kd.int .i64) _ 3 ?hg (N:=33) ?hd (xs:=([wrap64 ((wrap64 ((wrap64 (2*((rd_T95 l0 x12_1).f1)))+a1_0)) - a2),wrap64 ((wrap64 ((wrap64 (2*((rd_T95 l0 x12_1).f1)))+a1_0))+a2)]:List Int)) (inner:=[.int .i64 (wrap64 ((wrap64 ((wrap64 (2*((rd_T95 l0 x12_1).f1)))+a1_0)) - a2)),.int .i64 (wrap64 ((wrap64 ((wrap64 (2*((rd_T95 l0 x12_1).f1)))+a1_0))+a2))]) (ok:=fun _=>True) (okp:=fun _=>True) ?hr ?hp (fun _ hk=>hk) trivial (Below.refl _ _) (Nat.le_refl _) (by simp) ?_;(case hd=>rfl);(case hg=>rfl);(case hr=>first|(go_simp;done)|(go_simp;rfl));(case hp=>exact(Reps.one (show Kd.M (Kd.int .i64) _ _ _ (wrap64 ((wrap64 ((wrap64 (2*((rd_T95 l0 x12_1).f1)))+a1_0)) - a2)) [.int .i64 (wrap64 ((wrap64 ((wrap64 (2*((rd_T95 l0 x12_1).f1)))+a1_0)) - a2))] from rfl) (Reps.one (show Kd.M (Kd.int .i64) _ _ _ (wrap64 ((wrap64 ((wrap64 (2*((rd_T95 l0 x12_1).f1)))+a1_0))+a2)) [.int .i64 (wrap64 ((wrap64 ((wrap64 (2*((rd_T95 l0 x12_1).f1)))+a1_0))+a2))] from rfl) (Reps.none _ _))));intro v210 w13 ho14 hb hg_ hnew_;clear hg_ hnew_;(first|rw[← Ny209.out] at ho14|(simp only[Int.reduceToNat] at ho14;rw[← Ny209.out] at ho14));have n0_:=am (Kd.S_elder' (by(with_reducible repeat(first|apply Kd.S_alloc|apply Kd.S_drewN|apply Kd.S_drew));exact(Kd.S_mono (Kd.S_far (p:=⟨gb208,2,none⟩) (Kd.S_far (p:=⟨gb208,1,none⟩) (Kd.S_far (p:=⟨gb208,0,none⟩) (Kd.S_types HO_7.out BK208.out (by decide)) (fun _ hk=>hk.2) (.int .i64 ((rd_T95 l0 x12_1).f0))) (fun _ hk=>hk.2) (.int .i64 ((rd_T95 l0 x12_1).f1))) (fun _ hk=>hk.2) (.int .i64 ((rd_T95 l0 x12_1).f2))) (fun _ h_=>h_.1))) (Kd.R_base ho14) hb);have n1_:=am (Kd.R_lower ho14 (below_size bl));have n2_:=am (blk_below (g:=gb206) (o := .cells #[.int .i64 a1_0,.int .i64 a1_1,.int .i64 a1_2] 48 (0,0)) (by(with_reducible repeat(first|refine bN_ ?_ _|refine bD_ ?_|refine bA_ ?_ _));refine blk_far ?_ NB206_208.out _;(with_reducible repeat(first|refine bN_ ?_ _|refine bD_ ?_|refine bA_ ?_ _));refine blk_far ?_ NB206_208.out _;(with_reducible repeat(first|refine bN_ ?_ _|refine bD_ ?_|refine bA_ ?_ _));refine blk_far ?_ NB206_208.out _;exact bup BK206.out) hb);have n3_:=am (blk_below (g:=gb208) (o := .cells #[.int .i64 ((rd_T95 l0 x12_1).f0),.int .i64 ((rd_T95 l0 x12_1).f1),.int .i64 ((rd_T95 l0 x12_1).f2)] 95 (0,0)) (by(with_reducible repeat(first|refine bN_ ?_ _|refine bD_ ?_|refine bA_ ?_ _));refine blk_put (cs := #[.int .i64 ((rd_T95 l0 x12_1).f0),.int .i64 ((rd_T95 l0 x12_1).f1),.int .i64 0]) ?_ 2 _ rfl;(with_reducible repeat(first|refine bN_ ?_ _|refine bD_ ?_|refine bA_ ?_ _));refine blk_put (cs := #[.int .i64 ((rd_T95 l0 x12_1).f0),.int .i64 0,.int .i64 0]) ?_ 1 _ rfl;(with_reducible repeat(first|refine bN_ ?_ _|refine bD_ ?_|refine bA_ ?_ _));refine blk_put (cs := #[.int .i64 0,.int .i64 0,.int .i64 0]) ?_ 0 _ rfl;exact bup BK208.out) hb);have n4_:=am (below_step bl hb);clear HO_7 BK206 BK208 HB;have HO_7:=n0_;have HO211:=n1_;have BK206:=n2_;have BK208:=n3_;have HB:=n4_;clear n0_ n1_ n2_ n3_ n4_ hb ho14;obtain⟨Ao16,co16,eo16⟩:=Kd.R_slice HO211.out;subst eo16)|((with_reducible refine gate_builtin (b := .append) (xs := #[.tmp 16,.tmp 34]) rfl ?_);at_builtin;refine Kd.S_append (Kd.slice 3 (Kd.int .i64)) (w0:=w) w.heap.size rfl (.tmp 16) (.tmp 34) 24 34 (.slice none 0 0) 24 rfl Try.underlying24 info34 rfl (by decide) (by omega) u7 x7_1 y209 [.slice Ao16 y209.length co16] (fun _=>True) (fun k_=>some k_=(.slice Ao16 y209.length co16:Value).ownBlock) rfl rfl ?aP (fun k_ hk_=>((Kd.R_mono (ok':=fun k_=>((fun _=>True)) k_∧some k_≠(u7:Value).ownBlock) (Kd.R_apart' (HO211.out) (Kd.S_typed HO_7.out) (by decide)) (fun k_ hk=>⟨trivial,hk.2⟩))).1 k_ hk_.symm) ?aF ?aO ?aB ?aS ?aL ?_;(case aP=>exact Kd.M_row (Kd.R_mono (Kd.R_tight rfl (Kd.R_mono (ok':=fun k_=>((fun _=>True)) k_∧some k_≠(u7:Value).ownBlock) (Kd.R_apart' (HO211.out) (Kd.S_typed HO_7.out) (by decide)) (fun k_ hk=>⟨trivial,hk.2⟩))) (fun _ h_=>h_)));(case aB=>exact bl);(case aF=>exact(fun _ _=>trivial));(case aO=>exact(by(with_reducible repeat(first|apply Kd.S_alloc|apply Kd.S_drewN|apply Kd.S_drew));exact Kd.S_mono HO_7.out (fun k_ hk=>⟨trivial,fun e_=>hk.2 e_⟩)));(case aS=>exact(below_size bl));(case aL=>have:=LMc8.out;omega);intro v213 w15 ho hb hg hat;rw[← Ny212.out] at ho;have n0_:=am (blk_grown (g:=gb206) (o := .cells #[.int .i64 a1_0,.int .i64 a1_1,.int .i64 a1_2] 48 (0,0)) (bup BK206.out) hg (Kd.S_ne HO_7.out BK206.out (by decide)));have n1_:=am (blk_grown (g:=gb208) (o := .cells #[.int .i64 ((rd_T95 l0 x12_1).f0),.int .i64 ((rd_T95 l0 x12_1).f1),.int .i64 ((rd_T95 l0 x12_1).f2)] 95 (0,0)) (bup BK208.out) hg (Kd.S_ne HO_7.out BK208.out (by decide)));have n2_:=am (hb);have n3_:=am (ho);clear BK206 BK208 HB HO_7 HO211;have BK206:=n0_;have BK208:=n1_;have HB:=n2_;have HO214:=n3_;clear n0_ n1_ n2_ n3_ ho hb hg hat))
       go_roundg k1
       case measure=>have:=HK1.out;omega
       case rel=>exact⟨(y212),(wrap64 (x12_1+1)),fin2,H',⟨by have:=HK1.out;omega⟩,⟨by(with_reducible repeat(first|apply Kd.S_alloc|apply Kd.S_drewN|apply Kd.S_drew));exact HO214.out⟩,⟨bup BK206.out⟩,⟨bl⟩⟩
      ·rw[if_neg c8] at H
       exact absurd H (by simp)
     ·rw[if_neg c7] at H
      exact absurd H (by simp)
    ·rw[if_neg c6] at H
     exact absurd H (by simp)
   ·rw[if_neg c5] at H
    have c5b0:decide (x12_1<(l0.length:Int))=false:=decide_eq_false c5
    clear c5
    obtain rfl:=Option.some.inj H
    go_wp2
    go_ret
    exact⟨_,fin1,by(with_reducible repeat(first|apply Kd.S_alloc|apply Kd.S_drewN|apply Kd.S_drew));exact HO_7.out,bl⟩

end Go.Proofs.Ytjniaiobnbdhhab.PFnExactPlaysAsPromised
