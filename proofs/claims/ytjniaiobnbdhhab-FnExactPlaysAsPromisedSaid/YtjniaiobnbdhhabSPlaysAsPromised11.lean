/- The walks of functions that FnExactPlaysAsPromised reaches: what they return is what the plain functions of the same names say. Made by a program of this session after the kit's print. No conditions beyond the arguments' being read. -/
import Derived.Test.YtjniaiobnbdhhabSPlaysAsPromised0
import Derived.Test.YtjniaiobnbdhhabSPlaysAsPromised8
import Derived.Test.YtjniaiobnbdhhabSPlaysAsPromised9
import Derived.Test.YtjniaiobnbdhhabSPlaysAsPromised10
namespace Go.Proofs.Ytjniaiobnbdhhab.PFnExactPlaysAsPromised
open Go.RowKit Go.Proofs.YtjniaiobnbdhhabW.PrintWords Go.Proofs.YtjniaiobnbdhhabW.PrintLast Go.Proofs.YtjniaiobnbdhhabW.PrintMore
attribute [local go_sem] max2_int min2_int max_two min_two max_three min_three max_four min_four   -- for this text's walks alone
set_option linter.unusedVariables false
set_option linter.unusedSimpArgs false

/-! ### impl_canMatch: function 68 -/
def impl_canMatch.f (k:Nat) (l0_0:List Int) (a0_1:Int) (l1:List (S95)) (l2:List (S80)):Option (Bool):=(impl_IsInstrument.f k l0_0 a0_1).bind fun t303=>(if t303=true then((impl_IsScore.f k l1).bind fun t304=>(if t304=true then((impl_IsSheet.f k l2).bind fun t305=>(some t305)) else(some false))) else(some false))
set_option maxHeartbeats 8000000 in
set_option maxRecDepth 100000 in
theorem impl_canMatch.calls (k:Nat) (A0_0:Option Addr) (c0_0:Nat) (l0_0:List Int) (a0_1:Int) (A1:Option Addr) (c1:Nat) (l1:List (S95)) (A2:Option Addr) (c2:Nat) (l2:List (S80)) (r:Bool) (w:World) (hr0_0:Kd.C (Kd.int .i64) w A0_0 l0_0.length l0_0) (hc0_0:l0_0.length≤c0_0) (hr1:Kd.C k95 w A1 l1.length l1) (hc1:l1.length≤c1) (hr2:Kd.C k80 w A2 l2.length l2) (hc2:l2.length≤c2) (h:impl_canMatch.f k l0_0 a0_1 l1 l2=some r) :
  Calls Try.prog 68 #[.agg #[.slice A0_0 l0_0.length c0_0,.int .i64 a0_1],.slice A1 l1.length c1,.slice A2 l2.length c2] w fun e w'=>e = .returned (.bool r)∧Below w.heap.size w w':=by
 have hu44:=Try.underlying44
 have HR0_0:=am hr0_0
 have HC0_0:=am hc0_0
 clear hr0_0 hc0_0
 have HR1:=am hr1
 have HC1:=am hc1
 clear hr1 hc1
 have HR2:=am hr2
 have HC2:=am hc2
 clear hr2 hc2
 have HB:=am (Below.refl w.heap.size w)
 have H:((impl_IsInstrument.f k l0_0 a0_1).bind fun t303=>(if t303=true then((impl_IsScore.f k l1).bind fun t304=>(if t304=true then((impl_IsSheet.f k l2).bind fun t305=>(some t305)) else(some false))) else(some false)))=some r:=h
 clear h
 replace H:=Option.bind_eq_some_iff.mp H
 obtain⟨t303,A40,H⟩:=H
 replace H:(if t303=true then((impl_IsScore.f k l1).bind fun t304=>(if t304=true then((impl_IsSheet.f k l2).bind fun t305=>(some t305)) else(some false))) else(some false))=some r:=H
 have A4:=am A40
 clear A40
 by_cases c5:t303=true
 ·subst c5
  have H1:((impl_IsScore.f k l1).bind fun t304=>(if t304=true then((impl_IsSheet.f k l2).bind fun t305=>(some t305)) else(some false)))=some r:=by rw[if_pos rfl] at H;exact H
  clear H
  have H:=H1
  clear H1
  replace H:=Option.bind_eq_some_iff.mp H
  obtain⟨t304,A60,H⟩:=H
  replace H:(if t304=true then((impl_IsSheet.f k l2).bind fun t305=>(some t305)) else(some false))=some r:=H
  have A6:=am A60
  clear A60
  by_cases c7:t304=true
  ·subst c7
   have H1:((impl_IsSheet.f k l2).bind fun t305=>(some t305))=some r:=by rw[if_pos rfl] at H;exact H
   clear H
   have H:=H1
   clear H1
   replace H:=Option.bind_eq_some_iff.mp H
   obtain⟨t305,A80,H⟩:=H
   replace H:(some t305)=some r:=H
   have A8:=am A80
   clear A80
   obtain rfl:=Option.some.inj H
   go_enter Try.func68,Try.ntmps68
   go_wp2_with (first|((with_reducible refine gate_dst (N:=3) rfl ?_);refine box_event ?hg (N:=3) ?hd (cs := #[.slice A0_0 l0_0.length c0_0,.int .i64 a0_1]) (t:=44) ?hr ?_;(case hd=>rfl);(case hg=>rfl);(case hr=>first|(go_simp;done)|(go_simp;rfl));intro gb302 hg w9 hbox hb;have n0_:=am (below_step bl hb);have n1_:=am (hbox);have n2_:=am ((by rw[hg];exact(below_size bl):w.heap.size≤gb302));have n3_:=am ((by rw[hg];exact(below_size bl):w.heap.size≤gb302));clear HB;have HB:=n0_;have BK302:=n1_;have GW302:=n2_;have GE302:=n3_;clear n0_ n1_ n2_ n3_ hb hbox hg;have hcz10_0:w9.cell? ⟨gb302,0,none⟩=some (.slice A0_0 l0_0.length c0_0):=(blk_cell BK302.out 0).trans rfl;have hcz10_1:w9.cell? ⟨gb302,1,none⟩=some (.int .i64 a0_1):=(blk_cell BK302.out 1).trans rfl;have hfz10_0:=blk_frozen BK302.out 0;have hfz10_1:=blk_frozen BK302.out 1)|((with_reducible refine gate_callee (f:=96) rfl ?_);refine goesL_ (some 8) rfl rfl Try.func96 (by kernel_rfl) rfl #[.agg #[.slice A0_0 l0_0.length c0_0,.int .i64 a0_1]] rfl (by(try simp only[List.map_toArray,List.map_cons,List.map_nil]);first|done|rfl|(simp only[List.length_drop,List.length_take];rfl)) ?_;(with_reducible refine(impl_IsInstrument.calls k _ _ l0_0 a0_1 true _ ?side1 ?side2 A4.out).mono ?_);(case side1=>repeat(first|exact(Kd.C_below HR0_0.out HB.out)|(with_reducible refine Kd.C_alloc ?_ _)|(with_reducible refine Kd.C_drewN ?_ _)|(with_reducible refine Kd.C_drew ?_)));(case side2=>exact HC0_0.out);rintro e w11 ⟨rfl,hb⟩;refine⟨_,rfl,?_⟩;have n0_:=am (blk_below (g:=gb302) (o := .cells #[.slice A0_0 l0_0.length c0_0,.int .i64 a0_1] 44 (0,0)) (bup BK302.out) hb);have n1_:=am (below_step bl hb);clear BK302 HB;have BK302:=n0_;have HB:=n1_;clear n0_ n1_;(try clear hb);(try clear hb2);(try clear hk);(try clear hi))|(go_at_call 97;(with_reducible refine(impl_IsScore.calls k _ _ l1 true _ ?side1 ?side2 A6.out).mono ?_);(case side1=>repeat(first|exact(Kd.C_below HR1.out HB.out)|(with_reducible refine Kd.C_alloc ?_ _)|(with_reducible refine Kd.C_drewN ?_ _)|(with_reducible refine Kd.C_drew ?_)));(case side2=>exact HC1.out);rintro e w12 ⟨rfl,hb⟩;have n0_:=am (blk_below (g:=gb302) (o := .cells #[.slice A0_0 l0_0.length c0_0,.int .i64 a0_1] 44 (0,0)) (bup BK302.out) hb);have n1_:=am (below_step bl hb);clear BK302 HB;have BK302:=n0_;have HB:=n1_;clear n0_ n1_;(try clear hb);(try clear hb2);(try clear hk);(try clear hi))|(go_at_call 89;(with_reducible refine(impl_IsSheet.calls k _ _ l2 t305 _ ?side1 ?side2 A8.out).mono ?_);(case side1=>repeat(first|exact(Kd.C_below HR2.out HB.out)|(with_reducible refine Kd.C_alloc ?_ _)|(with_reducible refine Kd.C_drewN ?_ _)|(with_reducible refine Kd.C_drew ?_)));(case side2=>exact HC2.out);rintro e w13 ⟨rfl,hb⟩;have n0_:=am (blk_below (g:=gb302) (o := .cells #[.slice A0_0 l0_0.length c0_0,.int .i64 a0_1] 44 (0,0)) (bup BK302.out) hb);have n1_:=am (below_step bl hb);clear BK302 HB;have BK302:=n0_;have HB:=n1_;clear n0_ n1_;(try clear hb);(try clear hb2);(try clear hk);(try clear hi)))
   go_ret
   exact⟨fin1,bl⟩
  ·replace c7:=Bool.eq_false_iff.mpr c7
   subst c7
   have H1:(some false)=some r:=by rw[if_neg (show ¬ (false=true) by decide)] at H;exact H
   clear H
   have H:=H1
   clear H1
   obtain rfl:=Option.some.inj H
   go_enter Try.func68,Try.ntmps68
   go_wp2_with (first|((with_reducible refine gate_dst (N:=3) rfl ?_);refine box_event ?hg (N:=3) ?hd (cs := #[.slice A0_0 l0_0.length c0_0,.int .i64 a0_1]) (t:=44) ?hr ?_;(case hd=>rfl);(case hg=>rfl);(case hr=>first|(go_simp;done)|(go_simp;rfl));intro gb302 hg w14 hbox hb;have n0_:=am (below_step bl hb);have n1_:=am (hbox);have n2_:=am ((by rw[hg];exact(below_size bl):w.heap.size≤gb302));have n3_:=am ((by rw[hg];exact(below_size bl):w.heap.size≤gb302));clear HB;have HB:=n0_;have BK302:=n1_;have GW302:=n2_;have GE302:=n3_;clear n0_ n1_ n2_ n3_ hb hbox hg;have hcz15_0:w14.cell? ⟨gb302,0,none⟩=some (.slice A0_0 l0_0.length c0_0):=(blk_cell BK302.out 0).trans rfl;have hcz15_1:w14.cell? ⟨gb302,1,none⟩=some (.int .i64 a0_1):=(blk_cell BK302.out 1).trans rfl;have hfz15_0:=blk_frozen BK302.out 0;have hfz15_1:=blk_frozen BK302.out 1)|((with_reducible refine gate_callee (f:=96) rfl ?_);refine goesL_ (some 8) rfl rfl Try.func96 (by kernel_rfl) rfl #[.agg #[.slice A0_0 l0_0.length c0_0,.int .i64 a0_1]] rfl (by(try simp only[List.map_toArray,List.map_cons,List.map_nil]);first|done|rfl|(simp only[List.length_drop,List.length_take];rfl)) ?_;(with_reducible refine(impl_IsInstrument.calls k _ _ l0_0 a0_1 true _ ?side1 ?side2 A4.out).mono ?_);(case side1=>repeat(first|exact(Kd.C_below HR0_0.out HB.out)|(with_reducible refine Kd.C_alloc ?_ _)|(with_reducible refine Kd.C_drewN ?_ _)|(with_reducible refine Kd.C_drew ?_)));(case side2=>exact HC0_0.out);rintro e w16 ⟨rfl,hb⟩;refine⟨_,rfl,?_⟩;have n0_:=am (blk_below (g:=gb302) (o := .cells #[.slice A0_0 l0_0.length c0_0,.int .i64 a0_1] 44 (0,0)) (bup BK302.out) hb);have n1_:=am (below_step bl hb);clear BK302 HB;have BK302:=n0_;have HB:=n1_;clear n0_ n1_;(try clear hb);(try clear hb2);(try clear hk);(try clear hi))|(go_at_call 97;(with_reducible refine(impl_IsScore.calls k _ _ l1 false _ ?side1 ?side2 A6.out).mono ?_);(case side1=>repeat(first|exact(Kd.C_below HR1.out HB.out)|(with_reducible refine Kd.C_alloc ?_ _)|(with_reducible refine Kd.C_drewN ?_ _)|(with_reducible refine Kd.C_drew ?_)));(case side2=>exact HC1.out);rintro e w17 ⟨rfl,hb⟩;have n0_:=am (blk_below (g:=gb302) (o := .cells #[.slice A0_0 l0_0.length c0_0,.int .i64 a0_1] 44 (0,0)) (bup BK302.out) hb);have n1_:=am (below_step bl hb);clear BK302 HB;have BK302:=n0_;have HB:=n1_;clear n0_ n1_;(try clear hb);(try clear hb2);(try clear hk);(try clear hi)))
   go_ret
   exact⟨fin1,bl⟩
 ·replace c5:=Bool.eq_false_iff.mpr c5
  subst c5
  have H1:(some false)=some r:=by rw[if_neg (show ¬ (false=true) by decide)] at H;exact H
  clear H
  have H:=H1
  clear H1
  obtain rfl:=Option.some.inj H
  go_enter Try.func68,Try.ntmps68
  go_wp2_with (first|((with_reducible refine gate_dst (N:=3) rfl ?_);refine box_event ?hg (N:=3) ?hd (cs := #[.slice A0_0 l0_0.length c0_0,.int .i64 a0_1]) (t:=44) ?hr ?_;(case hd=>rfl);(case hg=>rfl);(case hr=>first|(go_simp;done)|(go_simp;rfl));intro gb302 hg w18 hbox hb;have n0_:=am (below_step bl hb);have n1_:=am (hbox);have n2_:=am ((by rw[hg];exact(below_size bl):w.heap.size≤gb302));have n3_:=am ((by rw[hg];exact(below_size bl):w.heap.size≤gb302));clear HB;have HB:=n0_;have BK302:=n1_;have GW302:=n2_;have GE302:=n3_;clear n0_ n1_ n2_ n3_ hb hbox hg;have hcz19_0:w18.cell? ⟨gb302,0,none⟩=some (.slice A0_0 l0_0.length c0_0):=(blk_cell BK302.out 0).trans rfl;have hcz19_1:w18.cell? ⟨gb302,1,none⟩=some (.int .i64 a0_1):=(blk_cell BK302.out 1).trans rfl;have hfz19_0:=blk_frozen BK302.out 0;have hfz19_1:=blk_frozen BK302.out 1)|((with_reducible refine gate_callee (f:=96) rfl ?_);refine goesL_ (some 8) rfl rfl Try.func96 (by kernel_rfl) rfl #[.agg #[.slice A0_0 l0_0.length c0_0,.int .i64 a0_1]] rfl (by(try simp only[List.map_toArray,List.map_cons,List.map_nil]);first|done|rfl|(simp only[List.length_drop,List.length_take];rfl)) ?_;(with_reducible refine(impl_IsInstrument.calls k _ _ l0_0 a0_1 false _ ?side1 ?side2 A4.out).mono ?_);(case side1=>repeat(first|exact(Kd.C_below HR0_0.out HB.out)|(with_reducible refine Kd.C_alloc ?_ _)|(with_reducible refine Kd.C_drewN ?_ _)|(with_reducible refine Kd.C_drew ?_)));(case side2=>exact HC0_0.out);rintro e w20 ⟨rfl,hb⟩;refine⟨_,rfl,?_⟩;have n0_:=am (blk_below (g:=gb302) (o := .cells #[.slice A0_0 l0_0.length c0_0,.int .i64 a0_1] 44 (0,0)) (bup BK302.out) hb);have n1_:=am (below_step bl hb);clear BK302 HB;have BK302:=n0_;have HB:=n1_;clear n0_ n1_;(try clear hb);(try clear hb2);(try clear hk);(try clear hi)))
  go_ret
  exact⟨fin1,bl⟩

/-! ### impl_IsAction: function 69 -/
def impl_IsAction.f (a0_0:Int) (a0_1:Int) (a0_2:Int):Option (Bool):=if a0_0≥0 then(if a0_0≤40 then(if a0_1≥0 then(if a0_1≤40 then(if a0_2≥0 then(some (decide (a0_2≤40))) else(some false)) else(some false)) else(some false)) else(some false)) else(some false)
set_option maxHeartbeats 8000000 in
set_option maxRecDepth 100000 in
theorem impl_IsAction.calls (a0_0:Int) (a0_1:Int) (a0_2:Int) (r:Bool) (w:World) (h:impl_IsAction.f a0_0 a0_1 a0_2=some r) :
  Calls Try.prog 69 #[.agg #[.int .i64 a0_0,.int .i64 a0_1,.int .i64 a0_2]] w fun e w'=>e = .returned (.bool r)∧Below w.heap.size w w':=by
 have hu48:=Try.underlying48
 have HB:=am (Below.refl w.heap.size w)
 have H:(if a0_0≥0 then(if a0_0≤40 then(if a0_1≥0 then(if a0_1≤40 then(if a0_2≥0 then(some (decide (a0_2≤40))) else(some false)) else(some false)) else(some false)) else(some false)) else(some false))=some r:=h
 clear h
 by_cases c2:a0_0≥0
 ·rw[if_pos c2] at H
  have c2b0:decide (0≤a0_0)=true:=decide_eq_true c2
  clear c2
  by_cases c3:a0_0≤40
  ·rw[if_pos c3] at H
   have c3b0:decide (a0_0≤40)=true:=decide_eq_true c3
   clear c3
   by_cases c4:a0_1≥0
   ·rw[if_pos c4] at H
    have c4b0:decide (0≤a0_1)=true:=decide_eq_true c4
    clear c4
    by_cases c5:a0_1≤40
    ·rw[if_pos c5] at H
     have c5b0:decide (a0_1≤40)=true:=decide_eq_true c5
     clear c5
     by_cases c6:a0_2≥0
     ·rw[if_pos c6] at H
      have c6b0:decide (0≤a0_2)=true:=decide_eq_true c6
      clear c6
      obtain rfl:=Option.some.inj H
      go_enter Try.func69,Try.ntmps69
      go_wp2_with (first|((with_reducible refine gate_dst (N:=1) rfl ?_);refine box_event ?hg (N:=1) ?hd (cs := #[.int .i64 a0_0,.int .i64 a0_1,.int .i64 a0_2]) (t:=48) ?hr ?_;(case hd=>rfl);(case hg=>rfl);(case hr=>first|(go_simp;done)|(go_simp;rfl));intro gb306 hg w7 hbox hb;have n0_:=am (below_step bl hb);have n1_:=am (hbox);have n2_:=am ((by rw[hg];exact(below_size bl):w.heap.size≤gb306));have n3_:=am ((by rw[hg];exact(below_size bl):w.heap.size≤gb306));clear HB;have HB:=n0_;have BK306:=n1_;have GW306:=n2_;have GE306:=n3_;clear n0_ n1_ n2_ n3_ hb hbox hg;have hcz8_0:w7.cell? ⟨gb306,0,none⟩=some (.int .i64 a0_0):=(blk_cell BK306.out 0).trans rfl;have hcz8_1:w7.cell? ⟨gb306,1,none⟩=some (.int .i64 a0_1):=(blk_cell BK306.out 1).trans rfl;have hcz8_2:w7.cell? ⟨gb306,2,none⟩=some (.int .i64 a0_2):=(blk_cell BK306.out 2).trans rfl;have hfz8_0:=blk_frozen BK306.out 0;have hfz8_1:=blk_frozen BK306.out 1;have hfz8_2:=blk_frozen BK306.out 2))
      go_ret
      exact⟨fin1,bl⟩
     ·rw[if_neg c6] at H
      have c6b0:decide (0≤a0_2)=false:=decide_eq_false c6
      clear c6
      obtain rfl:=Option.some.inj H
      go_enter Try.func69,Try.ntmps69
      go_wp2_with (first|((with_reducible refine gate_dst (N:=1) rfl ?_);refine box_event ?hg (N:=1) ?hd (cs := #[.int .i64 a0_0,.int .i64 a0_1,.int .i64 a0_2]) (t:=48) ?hr ?_;(case hd=>rfl);(case hg=>rfl);(case hr=>first|(go_simp;done)|(go_simp;rfl));intro gb306 hg w9 hbox hb;have n0_:=am (below_step bl hb);have n1_:=am (hbox);have n2_:=am ((by rw[hg];exact(below_size bl):w.heap.size≤gb306));have n3_:=am ((by rw[hg];exact(below_size bl):w.heap.size≤gb306));clear HB;have HB:=n0_;have BK306:=n1_;have GW306:=n2_;have GE306:=n3_;clear n0_ n1_ n2_ n3_ hb hbox hg;have hcz10_0:w9.cell? ⟨gb306,0,none⟩=some (.int .i64 a0_0):=(blk_cell BK306.out 0).trans rfl;have hcz10_1:w9.cell? ⟨gb306,1,none⟩=some (.int .i64 a0_1):=(blk_cell BK306.out 1).trans rfl;have hcz10_2:w9.cell? ⟨gb306,2,none⟩=some (.int .i64 a0_2):=(blk_cell BK306.out 2).trans rfl;have hfz10_0:=blk_frozen BK306.out 0;have hfz10_1:=blk_frozen BK306.out 1;have hfz10_2:=blk_frozen BK306.out 2))
      go_ret
      exact⟨fin1,bl⟩
    ·rw[if_neg c5] at H
     have c5b0:decide (a0_1≤40)=false:=decide_eq_false c5
     clear c5
     obtain rfl:=Option.some.inj H
     go_enter Try.func69,Try.ntmps69
     go_wp2_with (first|((with_reducible refine gate_dst (N:=1) rfl ?_);refine box_event ?hg (N:=1) ?hd (cs := #[.int .i64 a0_0,.int .i64 a0_1,.int .i64 a0_2]) (t:=48) ?hr ?_;(case hd=>rfl);(case hg=>rfl);(case hr=>first|(go_simp;done)|(go_simp;rfl));intro gb306 hg w11 hbox hb;have n0_:=am (below_step bl hb);have n1_:=am (hbox);have n2_:=am ((by rw[hg];exact(below_size bl):w.heap.size≤gb306));have n3_:=am ((by rw[hg];exact(below_size bl):w.heap.size≤gb306));clear HB;have HB:=n0_;have BK306:=n1_;have GW306:=n2_;have GE306:=n3_;clear n0_ n1_ n2_ n3_ hb hbox hg;have hcz12_0:w11.cell? ⟨gb306,0,none⟩=some (.int .i64 a0_0):=(blk_cell BK306.out 0).trans rfl;have hcz12_1:w11.cell? ⟨gb306,1,none⟩=some (.int .i64 a0_1):=(blk_cell BK306.out 1).trans rfl;have hcz12_2:w11.cell? ⟨gb306,2,none⟩=some (.int .i64 a0_2):=(blk_cell BK306.out 2).trans rfl;have hfz12_0:=blk_frozen BK306.out 0;have hfz12_1:=blk_frozen BK306.out 1;have hfz12_2:=blk_frozen BK306.out 2))
     go_ret
     exact⟨fin1,bl⟩
   ·rw[if_neg c4] at H
    have c4b0:decide (0≤a0_1)=false:=decide_eq_false c4
    clear c4
    obtain rfl:=Option.some.inj H
    go_enter Try.func69,Try.ntmps69
    go_wp2_with (first|((with_reducible refine gate_dst (N:=1) rfl ?_);refine box_event ?hg (N:=1) ?hd (cs := #[.int .i64 a0_0,.int .i64 a0_1,.int .i64 a0_2]) (t:=48) ?hr ?_;(case hd=>rfl);(case hg=>rfl);(case hr=>first|(go_simp;done)|(go_simp;rfl));intro gb306 hg w13 hbox hb;have n0_:=am (below_step bl hb);have n1_:=am (hbox);have n2_:=am ((by rw[hg];exact(below_size bl):w.heap.size≤gb306));have n3_:=am ((by rw[hg];exact(below_size bl):w.heap.size≤gb306));clear HB;have HB:=n0_;have BK306:=n1_;have GW306:=n2_;have GE306:=n3_;clear n0_ n1_ n2_ n3_ hb hbox hg;have hcz14_0:w13.cell? ⟨gb306,0,none⟩=some (.int .i64 a0_0):=(blk_cell BK306.out 0).trans rfl;have hcz14_1:w13.cell? ⟨gb306,1,none⟩=some (.int .i64 a0_1):=(blk_cell BK306.out 1).trans rfl;have hcz14_2:w13.cell? ⟨gb306,2,none⟩=some (.int .i64 a0_2):=(blk_cell BK306.out 2).trans rfl;have hfz14_0:=blk_frozen BK306.out 0;have hfz14_1:=blk_frozen BK306.out 1;have hfz14_2:=blk_frozen BK306.out 2))
    go_ret
    exact⟨fin1,bl⟩
  ·rw[if_neg c3] at H
   have c3b0:decide (a0_0≤40)=false:=decide_eq_false c3
   clear c3
   obtain rfl:=Option.some.inj H
   go_enter Try.func69,Try.ntmps69
   go_wp2_with (first|((with_reducible refine gate_dst (N:=1) rfl ?_);refine box_event ?hg (N:=1) ?hd (cs := #[.int .i64 a0_0,.int .i64 a0_1,.int .i64 a0_2]) (t:=48) ?hr ?_;(case hd=>rfl);(case hg=>rfl);(case hr=>first|(go_simp;done)|(go_simp;rfl));intro gb306 hg w15 hbox hb;have n0_:=am (below_step bl hb);have n1_:=am (hbox);have n2_:=am ((by rw[hg];exact(below_size bl):w.heap.size≤gb306));have n3_:=am ((by rw[hg];exact(below_size bl):w.heap.size≤gb306));clear HB;have HB:=n0_;have BK306:=n1_;have GW306:=n2_;have GE306:=n3_;clear n0_ n1_ n2_ n3_ hb hbox hg;have hcz16_0:w15.cell? ⟨gb306,0,none⟩=some (.int .i64 a0_0):=(blk_cell BK306.out 0).trans rfl;have hcz16_1:w15.cell? ⟨gb306,1,none⟩=some (.int .i64 a0_1):=(blk_cell BK306.out 1).trans rfl;have hcz16_2:w15.cell? ⟨gb306,2,none⟩=some (.int .i64 a0_2):=(blk_cell BK306.out 2).trans rfl;have hfz16_0:=blk_frozen BK306.out 0;have hfz16_1:=blk_frozen BK306.out 1;have hfz16_2:=blk_frozen BK306.out 2))
   go_ret
   exact⟨fin1,bl⟩
 ·rw[if_neg c2] at H
  have c2b0:decide (0≤a0_0)=false:=decide_eq_false c2
  clear c2
  obtain rfl:=Option.some.inj H
  go_enter Try.func69,Try.ntmps69
  go_wp2_with (first|((with_reducible refine gate_dst (N:=1) rfl ?_);refine box_event ?hg (N:=1) ?hd (cs := #[.int .i64 a0_0,.int .i64 a0_1,.int .i64 a0_2]) (t:=48) ?hr ?_;(case hd=>rfl);(case hg=>rfl);(case hr=>first|(go_simp;done)|(go_simp;rfl));intro gb306 hg w17 hbox hb;have n0_:=am (below_step bl hb);have n1_:=am (hbox);have n2_:=am ((by rw[hg];exact(below_size bl):w.heap.size≤gb306));have n3_:=am ((by rw[hg];exact(below_size bl):w.heap.size≤gb306));clear HB;have HB:=n0_;have BK306:=n1_;have GW306:=n2_;have GE306:=n3_;clear n0_ n1_ n2_ n3_ hb hbox hg;have hcz18_0:w17.cell? ⟨gb306,0,none⟩=some (.int .i64 a0_0):=(blk_cell BK306.out 0).trans rfl;have hcz18_1:w17.cell? ⟨gb306,1,none⟩=some (.int .i64 a0_1):=(blk_cell BK306.out 1).trans rfl;have hcz18_2:w17.cell? ⟨gb306,2,none⟩=some (.int .i64 a0_2):=(blk_cell BK306.out 2).trans rfl;have hfz18_0:=blk_frozen BK306.out 0;have hfz18_1:=blk_frozen BK306.out 1;have hfz18_2:=blk_frozen BK306.out 2))
  go_ret
  exact⟨fin1,bl⟩

/-! ### impl_isTolerance: function 70 -/
def impl_isTolerance.f (a0:Int):Option (Bool):=if a0≥0 then(some (decide (a0≤50))) else(some false)
set_option maxHeartbeats 8000000 in
set_option maxRecDepth 100000 in
theorem impl_isTolerance.calls (a0:Int) (r:Bool) (w:World) (h:impl_isTolerance.f a0=some r) :
  Calls Try.prog 70 #[.int .i64 a0] w fun e w'=>e = .returned (.bool r)∧Drawn0 w w':=by
 have H:(if a0≥0 then(some (decide (a0≤50))) else(some false))=some r:=h
 clear h
 by_cases c2:a0≥0
 ·rw[if_pos c2] at H
  have c2b0:decide (0≤a0)=true:=decide_eq_true c2
  clear c2
  obtain rfl:=Option.some.inj H
  go_enter Try.func70,Try.ntmps70
  go_wp2
  go_ret
  exact⟨by first|rfl|(simp;done)|(simp [*];done),by repeat(first|exact Drawn0.refl _|apply Drawn0.step)⟩
 ·rw[if_neg c2] at H
  have c2b0:decide (0≤a0)=false:=decide_eq_false c2
  clear c2
  obtain rfl:=Option.some.inj H
  go_enter Try.func70,Try.ntmps70
  go_wp2
  go_ret
  exact⟨by first|rfl|(simp;done)|(simp [*];done),by repeat(first|exact Drawn0.refl _|apply Drawn0.step)⟩

/-! ### impl_spoken: function 71 (a map of its own) -/
def impl_spoken.upd (last:Int→Option Int) (t v:Int):Int→Option Int:=fun s=>if s=t then some v else last s
def impl_spoken.Agree (D:DataW Unit) (last:Int→Option Int):Prop :=
 Maps.IsMap D∧∀ t,Maps.has D (.int .i64 t)=(last t).isSome∧∀ b,last t=some b→D.atKey (.int .i64 t) (.lit (.int .i64 0)) = .lit (.int .i64 b)
theorem impl_spoken.agree_made:impl_spoken.Agree (.map []) (fun _=>none):=⟨Maps.isMap_empty,fun t=>⟨rfl,fun b h=>by cases h⟩⟩
theorem impl_spoken.agree_put {D:DataW Unit} {last:Int→Option Int} (h:impl_spoken.Agree D last) (t v:Int):impl_spoken.Agree (D.put (.int .i64 t) (.lit (.int .i64 v))) (impl_spoken.upd last t v):=by
 refine⟨h.1.put _ _,fun s=>?_⟩
 by_cases e:s=t
 ·subst e
  refine⟨by rw[Maps.has_put_same h.1 (show WideAt.IsKeyLit (.int .i64 s) from trivial)];simp [impl_spoken.upd],fun b hb=>?_⟩
  rw[Maps.atKey_put_same h.1 (show WideAt.IsKeyLit (.int .i64 s) from trivial)]
  simp [impl_spoken.upd] at hb
  rw[hb]
 ·have hne:(Lit.int .i64 s)≠(Lit.int .i64 t):=fun h=>e (by injection h)
  refine⟨by rw[Maps.has_put_other hne,(h.2 s).1];simp [impl_spoken.upd,e],fun b hb=>?_⟩
  rw[Maps.atKey_put_other hne]
  exact(h.2 s).2 b (by simpa [impl_spoken.upd,e] using hb)
theorem impl_spoken.map_to {w w':World} {k e:TypeId} {b n:Nat} {D:DataW Unit} (h:w.ownsMap Try.prog k (plainElem Try.prog e) b n D) (hh':w'.heap[b]?=w.heap[b]?):w'.ownsMap Try.prog k (plainElem Try.prog e) b n D:=by
 obtain⟨es,clock,hh,F,hs,hD⟩:=h
 exact⟨es,clock,hh'.trans hh,F,hs,hD⟩
theorem impl_spoken.map_below {w w':World} {k e:TypeId} {b n:Nat} {D:DataW Unit} (h:w.ownsMap Try.prog k (plainElem Try.prog e) b n D) (hb:Below w.heap.size w w'):w'.ownsMap Try.prog k (plainElem Try.prog e) b n D:=impl_spoken.map_to h (hb.block b h.lt)
theorem impl_spoken.map_drewN {w:World} {k e:TypeId} {b n:Nat} {D:DataW Unit} (h:w.ownsMap Try.prog k (plainElem Try.prog e) b n D) (m:Nat):(w.drewN m).ownsMap Try.prog k (plainElem Try.prog e) b n D:=impl_spoken.map_to h rfl
theorem impl_spoken.map_far {w:World} {k e:TypeId} {b n g i:Nat} {D:DataW Unit} {v:Value} (h:w.ownsMap Try.prog k (plainElem Try.prog e) b n D) (hne:b≠g):(w.setCell ⟨g,i,none⟩ v).ownsMap Try.prog k (plainElem Try.prog e) b n D:=impl_spoken.map_to h (Below.heap_setCell w ⟨g,i,none⟩ v b hne)
/-- What keeps a hole from speaking. -/
def impl_spoken.bad (ps:List Int) (rep d rl m:Int) (la:Int→Option Int) (h:S80):Prop:=h.f0≥(ps.length:Int)∨wrap64 (h.f2 - h.f1)<m∨((la h.f0).isSome=true∧wrap64 (h.f1 - (la h.f0).getD 0)<wrap64 (2*rep))∨wrap64 (h.f1+d)≥wrap64 (h.f2+rl)
instance (ps:List Int) (rep d rl m:Int) (la:Int→Option Int) (h:S80):Decidable (impl_spoken.bad ps rep d rl m la h):=by unfold impl_spoken.bad;infer_instance
def impl_spoken.l0:Nat→List Int→Int→Int→Int→Int→List S97→List Int→(Int→Option Int)→List S80→Int→Option (List S97×List Int)
 | 0,_,_,_,_,_,_,_,_,_,_=>none
 | k+1,ps,rep,d,rl,m,x8,x9,la,l,i=>if i<(l.length:Int) then(if 0≤i then(if(Lit.int .i64 (rd_T80 l i).f0).wf=true then(if impl_spoken.bad ps rep d rl m la (rd_T80 l i) then(if x9.length<17592186044416 then(impl_spoken.l0 k ps rep d rl m x8 (x9 ++ [i]) la l (wrap64 (i+1))) else none) else(if(Lit.int .i64 (rd_T80 l i).f1).wf=true∧0≤(rd_T80 l i).f0∧x8.length<5864062014805 then(impl_spoken.l0 k ps rep d rl m (x8 ++ [(⟨rd ps (rd_T80 l i).f0,wrap64 ((rd_T80 l i).f1+d),wrap64 ((rd_T80 l i).f2+rl)⟩:S97)]) x9 (impl_spoken.upd la (rd_T80 l i).f0 (rd_T80 l i).f1) l (wrap64 (i+1))) else none)) else none) else none) else some (x8,x9)
def impl_spoken.f (k:Nat) (l0:List Int) (a1:Int) (l2:List S80) (a3:Int) (a4:Int) (a5:Int):Option (List S97×List Int):=impl_spoken.l0 k l0 a1 a3 a4 a5 [] [] (fun _=>none) l2 0
theorem impl_spoken.law3:Maps.Keyed Try.prog 3:=Maps.int_keyed Try.underlying3
theorem impl_spoken.zero3 (w:World):(zeroValue 3).run Try.prog w = .ok (.int .i64 0) w:=by kernel_rfl
set_option maxHeartbeats 16000000 in
set_option maxRecDepth 100000 in
theorem impl_spoken.calls (k:Nat) (A0:Option Addr) (c0:Nat) (l0:List Int) (a1:Int) (A2:Option Addr) (c2:Nat) (l2:List S80) (a3:Int) (a4:Int) (a5:Int) (r1:List S97) (r2:List Int) (w:World) (hr0:Kd.C (Kd.int .i64) w A0 l0.length l0) (hc0:l0.length≤c0) (hr2:Kd.C k80 w A2 l2.length l2) (hc2:l2.length≤c2) (h:impl_spoken.f k l0 a1 l2 a3 a4 a5=some (r1,r2)) :
  Calls Try.prog 71 #[.agg #[.slice A0 l0.length c0,.int .i64 a1],.slice A2 l2.length c2,.agg #[.int .i64 a3,.int .i64 a4,.int .i64 a5]] w fun e w'=>∃ v0_ v1_:Value,e = .returned (.tuple #[v0_,v1_])∧Kd.R k97 97 w' w.heap.size (fun _=>True) v0_ r1∧Kd.R (Kd.int .i64) 3 w' w.heap.size (fun _=>True) v1_ r2∧Below w.heap.size w w':=by
 have hu80:=Try.underlying80
 have hmm:=@run_makeMap Try.prog
 have HR0:=am hr0
 have HC0:=am hc0
 have HR2:=am hr2
 have HC2:=am hc2
 clear hr0 hc0 hr2 hc2
 have HB:=am (Below.refl w.heap.size w)
 have H':=am (show impl_spoken.l0 k l0 a1 a3 a4 a5 [] [] (fun _=>none) l2 0=some (r1,r2) from h)
 clear h
 go_enter Try.func71,Try.ntmps71
 go_wp2_with (first|((with_reducible refine gate_dst (N:=3) rfl ?_);refine box_event ?hg (N:=3) ?hd (cs := #[.slice A0 l0.length c0,.int .i64 a1]) (t:=44) ?hr ?_;(case hd=>rfl);(case hg=>rfl);(case hr=>first|(go_simp;done)|(go_simp;rfl));intro gbi hg wi hbox hb;have n0_:=am (below_step bl hb);have n1_:=am (hbox);have n2_:=am ((by rw[hg];exact(below_size bl):w.heap.size≤gbi));clear HB;have HB:=n0_;have BKI:=n1_;have GEI:=n2_;clear n0_ n1_ n2_ hb hbox hg)|((with_reducible refine gate_dst (N:=5) rfl ?_);refine box_event ?hg (N:=5) ?hd (cs := #[.int .i64 a3,.int .i64 a4,.int .i64 a5]) (t:=48) ?hr ?_;(case hd=>rfl);(case hg=>rfl);(case hr=>first|(go_simp;done)|(go_simp;rfl));intro gba hg wj hbox hb;have n0_:=am (blk_below (g:=gbi) (o := .cells #[.slice A0 l0.length c0,.int .i64 a1] 44 (0,0)) (by exact bup BKI.out) hb);have n1_:=am (below_step bl hb);have n2_:=am (hbox);have n3_:=am ((by rw[hg];exact(below_size bl):w.heap.size≤gba));clear BKI HB;have BKI:=n0_;have HB:=n1_;have BKA:=n2_;have GEA:=n3_;clear n0_ n1_ n2_ n3_ hb hbox hg)|((with_reducible refine gate_dst (N:=17) rfl ?_);refine Kd.R_lit k97 _ 97 ?hg (N:=17) ?hd (xs:=([]:List S97)) (inner:=[]) (ok:=fun _=>True) (okp:=fun _=>True) ?hr ?hp (fun _ hk=>hk) trivial (Below.refl _ _) (Nat.le_refl _) (by simp) ?_;(case hd=>rfl);(case hg=>rfl);(case hr=>first|(go_simp;done)|(go_simp;rfl));(case hp=>exact(Reps.none _ _));intro v8_ wk ho4 hb hg_ hnew_;clear hg_ hnew_;have n0_:=am (blk_below (g:=gbi) (o := .cells #[.slice A0 l0.length c0,.int .i64 a1] 44 (0,0)) (by exact bup BKI.out) hb);have n1_:=am (blk_below (g:=gba) (o := .cells #[.int .i64 a3,.int .i64 a4,.int .i64 a5] 48 (0,0)) (by exact bup BKA.out) hb);have n2_:=am (Kd.R_lower ho4 (below_size HB.out));have n3_:=am (below_step bl hb);clear BKI BKA HB;have BKI:=n0_;have BKA:=n1_;have HO8:=n2_;have HB:=n3_;clear n0_ n1_ n2_ n3_ hb ho4)|((with_reducible refine gate_dst (N:=18) rfl ?_);refine Kd.R_lit (Kd.int .i64) _ 3 ?hg (N:=18) ?hd (xs:=([]:List Int)) (inner:=[]) (ok:=fun _=>True) (okp:=fun _=>True) ?hr ?hp (fun _ hk=>hk) trivial (Below.refl _ _) (Nat.le_refl _) (by simp) ?_;(case hd=>rfl);(case hg=>rfl);(case hr=>first|(go_simp;done)|(go_simp;rfl));(case hp=>exact(Reps.none _ _));intro v9_ w3 ho4 hb hg_ hnew_;clear hg_ hnew_;have n0_:=am (blk_below (g:=gbi) (o := .cells #[.slice A0 l0.length c0,.int .i64 a1] 44 (0,0)) (by exact bup BKI.out) hb);have n1_:=am (blk_below (g:=gba) (o := .cells #[.int .i64 a3,.int .i64 a4,.int .i64 a5] 48 (0,0)) (by exact bup BKA.out) hb);have n2_:=am (Kd.R_below (rup HO8.out) hb);have n3_:=am (Kd.R_lower ho4 (below_size HB.out));have n4_:=am (below_step bl hb);clear BKI BKA HO8 HB;have BKI:=n0_;have BKA:=n1_;have HO8:=n2_;have HO9:=n3_;have HB:=n4_;clear n0_ n1_ n2_ n3_ n4_ hb ho4))
 have BGE:=am (show w.heap.size≤w3.heap.size from(below_size HB.out))
 have NMI:=am (show gbi≠w3.heap.size from Nat.ne_of_lt (blk_lt BKI.out))
 have NMA:=am (show gba≠w3.heap.size from Nat.ne_of_lt (blk_lt BKA.out))
 have n8_:=am (Kd.R_mono (ok':=fun k_=>k_≠w3.heap.size) (Kd.R_bound HO8.out) (fun k_ hk_=>Nat.ne_of_lt hk_.2.2.1))
 have n9_:=am (Kd.R_mono (ok':=fun k_=>k_≠w3.heap.size) (Kd.R_bound HO9.out) (fun k_ hk_=>Nat.ne_of_lt hk_.2.2.1))
 clear HO8 HO9
 have HO8:=n8_
 have HO9:=n9_
 clear n8_ n9_
 go_loopg [8,9,22] k (fun kq v8 v9 v22 w'=>∃(x8:List S97) (x9:List Int) (la:Int→Option Int) (x22:Int) (D:DataW Unit),v22 = .int .i64 x22∧Aside0 (impl_spoken.l0 kq l0 a1 a3 a4 a5 x8 x9 la l2 x22=some (r1,r2))∧Aside0 (kq≤k)∧Aside0 (Kd.R k97 97 w' w.heap.size (fun k_=>k_≠w3.heap.size) v8 x8)∧Aside0 (Kd.R (Kd.int .i64) 3 w' w.heap.size (fun k_=>k_≠w3.heap.size) v9 x9)∧Aside0 (w'.ownsMap Try.prog 3 (plainElem Try.prog 3) w3.heap.size x8.length D)∧Aside0 (impl_spoken.Agree D la)∧Aside0 (w'.heap[gbi]?=some (.cells #[.slice A0 l0.length c0,.int .i64 a1] 44 (0,0)))∧Aside0 (w'.heap[gba]?=some (.cells #[.int .i64 a3,.int .i64 a4,.int .i64 a5] 48 (0,0)))∧Aside0 (Below w.heap.size w w'))
 case atStart=>exact⟨[],[],(fun _=>none),0,.map [],fin2,H',⟨Nat.le_refl _⟩,⟨rup HO8.out⟩,⟨rup HO9.out⟩,⟨World.ownsMap_made _ _ _ _⟩,⟨impl_spoken.agree_made⟩,⟨by exact bup BKI.out⟩,⟨by exact bup BKA.out⟩,⟨bl⟩⟩
 case round =>
  clear H' HO8 HO9 BKI BKA HB
  obtain⟨x8,x9,la,x22,D,rfl,HA,HK1,HO8,HO9,HM,HG,BKI,BKA,HB⟩:=hrel
  cases gk with
  | zero=>exact absurd HA.out (by simp [impl_spoken.l0])
  | succ k1 =>
   have H:=HA.out
   clear HA
   simp only[impl_spoken.l0] at H
   by_cases c9:x22<(l2.length:Int)
   ·rw[if_pos c9] at H
    have c9b0:decide (x22<(l2.length:Int))=true:=decide_eq_true c9
    by_cases c10:0≤x22
    ·rw[if_pos c10] at H
     have c10b0:decide (0≤x22)=true:=decide_eq_true c10
     by_cases cw:(Lit.int .i64 (rd_T80 l2 x22).f0).wf=true
     ·rw[if_pos cw] at H
      have CW:=am cw
      clear cw
      have hs_:=(HG.out.2 (rd_T80 l2 x22).f0).1
      cases hso:(la (rd_T80 l2 x22).f0).isSome with
      | true =>
       obtain⟨b_,hlb⟩:=Option.isSome_iff_exists.1 hso
       rw[hso] at hs_
       have HS:=am hs_
       have HV:=am ((HG.out.2 (rd_T80 l2 x22).f0).2 b_ hlb)
       replace hlb:la (rd_T80 l2 x22).f0=some b_:=hlb
       clear hs_
       by_cases c1:(rd_T80 l2 x22).f0≥(l0.length:Int)
       ·rw[if_pos (show impl_spoken.bad l0 a1 a3 a4 a5 la (rd_T80 l2 x22) from Or.inl c1)] at H
        by_cases cl:x9.length<17592186044416
        ·rw[if_pos cl] at H
         have CL:=am cl
         clear cl
         have H':=am H
         clear H
         have c1b:decide ((l0.length:Int)≤(rd_T80 l2 x22).f0)=true:=decide_eq_true c1
         clear c9 c10 c1
         (try clear hso)
         have p_:0≤(x22:Int):=od
         have q_:x22<(l2.length:Int):=od
         obtain⟨adh,eh,hxh_0,hxh_1,hxh_2⟩:=at_T80 HR2.out x22 p_ q_
         cases eh
         replace hxh_0:=(HB.out.cell (World.block_lt_of_cell? w _ hxh_0)).trans hxh_0
         replace hxh_1:=(HB.out.cell (World.block_lt_of_cell? w _ hxh_1)).trans hxh_1
         replace hxh_2:=(HB.out.cell (World.block_lt_of_cell? w _ hxh_2)).trans hxh_2
         replace p_:=eq_true p_
         replace q_:=eq_true q_
         go_wp2_with (first|((with_reducible refine gate_dst (N:=12) rfl ?_);refine box_event ?hg (N:=12) ?hd (cs := #[.int .i64 0,.int .i64 0,.int .i64 0]) (t:=80) ?hr ?_;(case hd=>rfl);(case hg=>rfl);(case hr=>first|(go_simp;done)|(go_simp;rfl));intro gbx hg wa hbox hb;have n0_:=am (Kd.R_below (rup HO8.out) hb);have n1_:=am (Kd.R_below (rup HO9.out) hb);have n2_:=am (impl_spoken.map_below (by(with_reducible repeat(first|refine impl_spoken.map_drewN ?_ _|refine World.ownsMap.alloc ?_ _));exact HM.out) hb);have n3_:=am (blk_below (g:=gbi) (o := .cells #[.slice A0 l0.length c0,.int .i64 a1] 44 (0,0)) (by exact bup BKI.out) hb);have n4_:=am (blk_below (g:=gba) (o := .cells #[.int .i64 a3,.int .i64 a4,.int .i64 a5] 48 (0,0)) (by exact bup BKA.out) hb);have n5_:=am (below_step bl hb);have n6_:=am (hbox);have n7_:=am ((by rw[hg];exact(below_size bl):w.heap.size≤gbx));have n8_:=am ((by rw[hg];exact Nat.ne_of_lt (blk_lt (g:=gbi) (o := .cells #[.slice A0 l0.length c0,.int .i64 a1] 44 (0,0)) (by exact bup BKI.out)):gbi≠gbx));have n9_:=am ((by rw[hg];exact Nat.ne_of_lt (blk_lt (g:=gba) (o := .cells #[.int .i64 a3,.int .i64 a4,.int .i64 a5] 48 (0,0)) (by exact bup BKA.out)):gba≠gbx));have n10_:=am ((by rw[hg];exact Nat.ne_of_lt (World.ownsMap.lt (by(with_reducible repeat(first|refine impl_spoken.map_drewN ?_ _|refine World.ownsMap.alloc ?_ _));exact HM.out)):w3.heap.size≠gbx));clear HO8 HO9 HM BKI BKA HB;have HO8:=n0_;have HO9:=n1_;have HM:=n2_;have BKI:=n3_;have BKA:=n4_;have HB:=n5_;have BKX:=n6_;have GEX:=n7_;have NXI:=n8_;have NXA:=n9_;have NXM:=n10_;clear n0_ n1_ n2_ n3_ n4_ n5_ n6_ n7_ n8_ n9_ n10_ hb hbox hg;have hcza_0:wa.cell? ⟨gbx,0,none⟩=some (.int .i64 0):=(blk_cell BKX.out 0).trans rfl;have hcza_1:wa.cell? ⟨gbx,1,none⟩=some (.int .i64 0):=(blk_cell BKX.out 1).trans rfl;have hcza_2:wa.cell? ⟨gbx,2,none⟩=some (.int .i64 0):=(blk_cell BKX.out 2).trans rfl;have hfza_0:=blk_frozen BKX.out 0;have hfza_1:=blk_frozen BKX.out 1;have hfza_2:=blk_frozen BKX.out 2)|((with_reducible refine gate_store (t:=80) (p:=12) rfl ?_);refine store_event (t:=80) (p:=12) (v:=?vo) (w1:=(((wa.setCell ⟨gbx,0,none⟩ (.int .i64 ((rd_T80 l2 x22).f0))).setCell ⟨gbx,1,none⟩ (.int .i64 ((rd_T80 l2 x22).f1))).setCell ⟨gbx,2,none⟩ (.int .i64 ((rd_T80 l2 x22).f2)))) ?hg ?ho ?hn ?hr ?_;(case ho=>rfl);(case hg=>rfl);(case hn=>rfl);(case hr=>first|(go_simp;done)|(go_simp;rfl));intro wb hw;have HO8_:Aside0 (Kd.R k97 97 wb w.heap.size (fun k_=>k_≠w3.heap.size) u8 x8):=⟨(by rw[hw];exact Kd.R_mono (Kd.R_far (p:=⟨gbx,2,none⟩) (Kd.R_far (p:=⟨gbx,1,none⟩) (Kd.R_far (p:=⟨gbx,0,none⟩) (Kd.R_types HO8.out BKX.out (by decide)) (fun _ hk=>hk.2) (.int .i64 ((rd_T80 l2 x22).f0))) (fun _ hk=>hk.2) (.int .i64 ((rd_T80 l2 x22).f1))) (fun _ hk=>hk.2) (.int .i64 ((rd_T80 l2 x22).f2))) (fun _ hk=>hk.1))⟩;have HO9_:Aside0 (Kd.R (Kd.int .i64) 3 wb w.heap.size (fun k_=>k_≠w3.heap.size) u9 x9):=⟨(by rw[hw];exact Kd.R_mono (Kd.R_far (p:=⟨gbx,2,none⟩) (Kd.R_far (p:=⟨gbx,1,none⟩) (Kd.R_far (p:=⟨gbx,0,none⟩) (Kd.R_types HO9.out BKX.out (by decide)) (fun _ hk=>hk.2) (.int .i64 ((rd_T80 l2 x22).f0))) (fun _ hk=>hk.2) (.int .i64 ((rd_T80 l2 x22).f1))) (fun _ hk=>hk.2) (.int .i64 ((rd_T80 l2 x22).f2))) (fun _ hk=>hk.1))⟩;have HM_:Aside0 (wb.ownsMap Try.prog 3 (plainElem Try.prog 3) w3.heap.size x8.length D):=⟨by rw[hw];exact impl_spoken.map_far (impl_spoken.map_far (impl_spoken.map_far HM.out NXM.out) NXM.out) NXM.out⟩;have BKI_:Aside0 (wb.heap[gbi]?=some (.cells #[.slice A0 l0.length c0,.int .i64 a1] 44 (0,0))):=⟨by rw[hw];refine blk_far ?_ NXI.out _;refine blk_far ?_ NXI.out _;refine blk_far ?_ NXI.out _;exact BKI.out⟩;have BKA_:Aside0 (wb.heap[gba]?=some (.cells #[.int .i64 a3,.int .i64 a4,.int .i64 a5] 48 (0,0))):=⟨by rw[hw];refine blk_far ?_ NXA.out _;refine blk_far ?_ NXA.out _;refine blk_far ?_ NXA.out _;exact BKA.out⟩;have BKX_:Aside0 (wb.heap[gbx]?=some (.cells #[.int .i64 ((rd_T80 l2 x22).f0),.int .i64 ((rd_T80 l2 x22).f1),.int .i64 ((rd_T80 l2 x22).f2)] 80 (0,0))):=⟨by rw[hw];refine blk_put (cs := #[.int .i64 ((rd_T80 l2 x22).f0),.int .i64 ((rd_T80 l2 x22).f1),.int .i64 0]) ?_ 2 _ rfl;refine blk_put (cs := #[.int .i64 ((rd_T80 l2 x22).f0),.int .i64 0,.int .i64 0]) ?_ 1 _ rfl;refine blk_put (cs := #[.int .i64 0,.int .i64 0,.int .i64 0]) ?_ 0 _ rfl;exact BKX.out⟩;have HB_:Aside0 (Below w.heap.size w wb):=⟨by rw[hw];exact below_set (below_set (below_set HB.out GEX.out) GEX.out) GEX.out⟩;clear hw HO8 HO9 HM BKI BKA BKX HB;have HO8:=HO8_;have HO9:=HO9_;have HM:=HM_;have BKI:=BKI_;have BKA:=BKA_;have BKX:=BKX_;have HB:=HB_;clear HO8_ HO9_ HM_ BKI_ BKA_ BKX_ HB_;(try clear hcza_0 hcza_1 hcza_2 hfza_0 hfza_1 hfza_2);have hczb_0:wb.cell? ⟨gbx,0,none⟩=some (.int .i64 ((rd_T80 l2 x22).f0)):=(blk_cell BKX.out 0).trans rfl;have hczb_1:wb.cell? ⟨gbx,1,none⟩=some (.int .i64 ((rd_T80 l2 x22).f1)):=(blk_cell BKX.out 1).trans rfl;have hczb_2:wb.cell? ⟨gbx,2,none⟩=some (.int .i64 ((rd_T80 l2 x22).f2)):=(blk_cell BKX.out 2).trans rfl;have hfzb_0:=blk_frozen BKX.out 0;have hfzb_1:=blk_frozen BKX.out 1;have hfzb_2:=blk_frozen BKX.out 2;have hczc_0:wb.cell? ⟨gba,0,none⟩=some (.int .i64 a3):=(blk_cell BKA.out 0).trans rfl;have hczc_1:wb.cell? ⟨gba,1,none⟩=some (.int .i64 a4):=(blk_cell BKA.out 1).trans rfl;have hczc_2:wb.cell? ⟨gba,2,none⟩=some (.int .i64 a5):=(blk_cell BKA.out 2).trans rfl;have hfzc_0:=blk_frozen BKA.out 0;have hfzc_1:=blk_frozen BKA.out 1;have hfzc_2:=blk_frozen BKA.out 2;have hczd_0:wb.cell? ⟨gbi,0,none⟩=some (.slice A0 l0.length c0):=(blk_cell BKI.out 0).trans rfl;have hczd_1:wb.cell? ⟨gbi,1,none⟩=some (.int .i64 a1):=(blk_cell BKI.out 1).trans rfl;have hfzd_0:=blk_frozen BKI.out 0;have hfzd_1:=blk_frozen BKI.out 1)|(at_lookup;refine wpList_lookup_own_ok_int _ rfl _ _ 123 rfl 3 3 .i64 impl_spoken.law3 Try.underlying123 Try.underlying3 (impl_spoken.zero3 _) w3.heap.size x8.length D rfl (by exact HM.out) _ _ rfl (Maps.keyOf_int_mk Try.underlying3 CW.out) ?_;intro c_ hat_ hwc_;rw[HS.out];obtain rfl:b_=c_:=(by have e_:=HV.out.symm.trans hat_;injection e_ with e_;injection e_)))
         go_quiet (fail)
         generalize hq_:wb.drewN _=wq
         have n0_:=am (Kd.R_at hq_ HO8.out)
         have n1_:=am (Kd.R_at hq_ HO9.out)
         have n2_:=am (blk_at hq_ BKI.out)
         have n3_:=am (blk_at hq_ BKA.out)
         have n4_:=am (blk_at hq_ BKX.out)
         have n5_:=am (below_at hq_ HB.out)
         have n6_:=am (impl_spoken.map_to HM.out (show wq.heap[w3.heap.size]?=wb.heap[w3.heap.size]? from by rw[← hq_];rfl))
         clear hq_ HO8 HO9 BKI BKA BKX HB HM
         have HO8:=n0_;have HO9:=n1_;have BKI:=n2_;have BKA:=n3_;have BKX:=n4_;have HB:=n5_;have HM:=n6_
         clear n0_ n1_ n2_ n3_ n4_ n5_ n6_
         (try clear hczb_0 hczb_1 hczb_2 hfzb_0 hfzb_1 hfzb_2);(try clear hczc_0 hczc_1 hczc_2 hfzc_0 hfzc_1 hfzc_2);(try clear hczd_0 hczd_1 hfzd_0 hfzd_1)
         have hczg_0:wq.cell? ⟨gbx,0,none⟩=some (.int .i64 ((rd_T80 l2 x22).f0)):=(blk_cell BKX.out 0).trans rfl;have hczg_1:wq.cell? ⟨gbx,1,none⟩=some (.int .i64 ((rd_T80 l2 x22).f1)):=(blk_cell BKX.out 1).trans rfl;have hczg_2:wq.cell? ⟨gbx,2,none⟩=some (.int .i64 ((rd_T80 l2 x22).f2)):=(blk_cell BKX.out 2).trans rfl;have hfzg_0:=blk_frozen BKX.out 0;have hfzg_1:=blk_frozen BKX.out 1;have hfzg_2:=blk_frozen BKX.out 2;have hczh_0:wq.cell? ⟨gba,0,none⟩=some (.int .i64 a3):=(blk_cell BKA.out 0).trans rfl;have hczh_1:wq.cell? ⟨gba,1,none⟩=some (.int .i64 a4):=(blk_cell BKA.out 1).trans rfl;have hczh_2:wq.cell? ⟨gba,2,none⟩=some (.int .i64 a5):=(blk_cell BKA.out 2).trans rfl;have hfzh_0:=blk_frozen BKA.out 0;have hfzh_1:=blk_frozen BKA.out 1;have hfzh_2:=blk_frozen BKA.out 2;have hczi_0:wq.cell? ⟨gbi,0,none⟩=some (.slice A0 l0.length c0):=(blk_cell BKI.out 0).trans rfl;have hczi_1:wq.cell? ⟨gbi,1,none⟩=some (.int .i64 a1):=(blk_cell BKI.out 1).trans rfl;have hfzi_0:=blk_frozen BKI.out 0;have hfzi_1:=blk_frozen BKI.out 1
         go_wp2_with (first|((with_reducible refine gate_builtin (b := .append) (xs := #[.tmp 78,.tmp 80]) rfl ?_);at_builtin;refine Kd.R_append (Kd.int .i64) (w0:=w) w.heap.size rfl (.tmp 78) (.tmp 80) 34 3 (.int .i64 0) 8 rfl Try.underlying34 info3 rfl (by decide) (by omega) u9 x9 x22 [.int .i64 x22] (fun k_=>k_≠w3.heap.size) (fun _=>False) rfl (by first|(go_simp;done)|(go_simp;rfl)) ?aP (fun _ hk=>hk.elim) ?aF ?aO ?aB ?aS ?aL ?_;(case aP=>exact rfl);(case aB=>exact bl);(case aF=>exact(fun k_ hk_ e_=>by subst e_;exact absurd hk_ (Nat.not_le_of_lt (World.ownsMap.lt (by(with_reducible repeat(first|refine impl_spoken.map_drewN ?_ _|refine World.ownsMap.alloc ?_ _));exact HM.out)))));(case aO=>exact(rup HO9.out));(case aS=>exact(below_size bl));(case aL=>have:=CL.out;omega);intro va wc ho hb hg hat;have n0_:=am (Kd.R_over' (rup HO8.out) (Kd.R_typed (rup HO9.out)) (by decide) hg);have n1_:=am (blk_grown (g:=gbi) (o := .cells #[.slice A0 l0.length c0,.int .i64 a1] 44 (0,0)) (by exact bup BKI.out) hg (Kd.R_ne HO9.out BKI.out (by decide)));have n2_:=am (blk_grown (g:=gba) (o := .cells #[.int .i64 a3,.int .i64 a4,.int .i64 a5] 48 (0,0)) (by exact bup BKA.out) hg (Kd.R_ne HO9.out BKA.out (by decide)));have n3_:=am (blk_grown (g:=gbx) (o := .cells #[.int .i64 ((rd_T80 l2 x22).f0),.int .i64 ((rd_T80 l2 x22).f1),.int .i64 ((rd_T80 l2 x22).f2)] 80 (0,0)) (by exact bup BKX.out) hg (Kd.R_ne HO9.out BKX.out (by decide)));have n4_:=am (World.ownsMap.kept (by(with_reducible repeat(first|refine impl_spoken.map_drewN ?_ _|refine World.ownsMap.alloc ?_ _));exact HM.out) hg (fun e_=>HO9.out.1 _ e_.symm rfl));have n5_:=am (hb);have n6_:=am (ho);clear HO8 BKI BKA BKX HM HB HO9;have HO8:=n0_;have BKI:=n1_;have BKA:=n2_;have BKX:=n3_;have HM:=n4_;have HB:=n5_;have HO9:=n6_;clear n0_ n1_ n2_ n3_ n4_ n5_ n6_ ho hb hg hat))
         go_roundg k1
         case measure=>have:=HK1.out;omega
         case rel=>exact⟨x8,x9 ++ [x22],la,(wrap64 (x22+1)),D,fin2,H',⟨by have:=HK1.out;omega⟩,⟨rup HO8.out⟩,⟨rup HO9.out⟩,⟨by(with_reducible repeat(first|refine impl_spoken.map_drewN ?_ _|refine World.ownsMap.alloc ?_ _));exact HM.out⟩,HG,⟨by exact bup BKI.out⟩,⟨by exact bup BKA.out⟩,⟨bl⟩⟩
        ·rw[if_neg cl] at H
         exact absurd H (by simp)
       ·by_cases c2:wrap64 ((rd_T80 l2 x22).f2 - (rd_T80 l2 x22).f1)<a5
        ·rw[if_pos (show impl_spoken.bad l0 a1 a3 a4 a5 la (rd_T80 l2 x22) from Or.inr (Or.inl c2))] at H
         by_cases cl:x9.length<17592186044416
         ·rw[if_pos cl] at H
          have CL:=am cl
          clear cl
          have H':=am H
          clear H
          have c1b:decide ((l0.length:Int)≤(rd_T80 l2 x22).f0)=false:=decide_eq_false c1
          have c2b:decide (wrap64 ((rd_T80 l2 x22).f2 - (rd_T80 l2 x22).f1)<a5)=true:=decide_eq_true c2
          clear c9 c10 c1 c2
          (try clear hso)
          have p_:0≤(x22:Int):=od
          have q_:x22<(l2.length:Int):=od
          obtain⟨adh,eh,hxh_0,hxh_1,hxh_2⟩:=at_T80 HR2.out x22 p_ q_
          cases eh
          replace hxh_0:=(HB.out.cell (World.block_lt_of_cell? w _ hxh_0)).trans hxh_0
          replace hxh_1:=(HB.out.cell (World.block_lt_of_cell? w _ hxh_1)).trans hxh_1
          replace hxh_2:=(HB.out.cell (World.block_lt_of_cell? w _ hxh_2)).trans hxh_2
          replace p_:=eq_true p_
          replace q_:=eq_true q_
          go_wp2_with (first|((with_reducible refine gate_dst (N:=12) rfl ?_);refine box_event ?hg (N:=12) ?hd (cs := #[.int .i64 0,.int .i64 0,.int .i64 0]) (t:=80) ?hr ?_;(case hd=>rfl);(case hg=>rfl);(case hr=>first|(go_simp;done)|(go_simp;rfl));intro gbx hg wa hbox hb;have n0_:=am (Kd.R_below (rup HO8.out) hb);have n1_:=am (Kd.R_below (rup HO9.out) hb);have n2_:=am (impl_spoken.map_below (by(with_reducible repeat(first|refine impl_spoken.map_drewN ?_ _|refine World.ownsMap.alloc ?_ _));exact HM.out) hb);have n3_:=am (blk_below (g:=gbi) (o := .cells #[.slice A0 l0.length c0,.int .i64 a1] 44 (0,0)) (by exact bup BKI.out) hb);have n4_:=am (blk_below (g:=gba) (o := .cells #[.int .i64 a3,.int .i64 a4,.int .i64 a5] 48 (0,0)) (by exact bup BKA.out) hb);have n5_:=am (below_step bl hb);have n6_:=am (hbox);have n7_:=am ((by rw[hg];exact(below_size bl):w.heap.size≤gbx));have n8_:=am ((by rw[hg];exact Nat.ne_of_lt (blk_lt (g:=gbi) (o := .cells #[.slice A0 l0.length c0,.int .i64 a1] 44 (0,0)) (by exact bup BKI.out)):gbi≠gbx));have n9_:=am ((by rw[hg];exact Nat.ne_of_lt (blk_lt (g:=gba) (o := .cells #[.int .i64 a3,.int .i64 a4,.int .i64 a5] 48 (0,0)) (by exact bup BKA.out)):gba≠gbx));have n10_:=am ((by rw[hg];exact Nat.ne_of_lt (World.ownsMap.lt (by(with_reducible repeat(first|refine impl_spoken.map_drewN ?_ _|refine World.ownsMap.alloc ?_ _));exact HM.out)):w3.heap.size≠gbx));clear HO8 HO9 HM BKI BKA HB;have HO8:=n0_;have HO9:=n1_;have HM:=n2_;have BKI:=n3_;have BKA:=n4_;have HB:=n5_;have BKX:=n6_;have GEX:=n7_;have NXI:=n8_;have NXA:=n9_;have NXM:=n10_;clear n0_ n1_ n2_ n3_ n4_ n5_ n6_ n7_ n8_ n9_ n10_ hb hbox hg;have hcza_0:wa.cell? ⟨gbx,0,none⟩=some (.int .i64 0):=(blk_cell BKX.out 0).trans rfl;have hcza_1:wa.cell? ⟨gbx,1,none⟩=some (.int .i64 0):=(blk_cell BKX.out 1).trans rfl;have hcza_2:wa.cell? ⟨gbx,2,none⟩=some (.int .i64 0):=(blk_cell BKX.out 2).trans rfl;have hfza_0:=blk_frozen BKX.out 0;have hfza_1:=blk_frozen BKX.out 1;have hfza_2:=blk_frozen BKX.out 2)|((with_reducible refine gate_store (t:=80) (p:=12) rfl ?_);refine store_event (t:=80) (p:=12) (v:=?vo) (w1:=(((wa.setCell ⟨gbx,0,none⟩ (.int .i64 ((rd_T80 l2 x22).f0))).setCell ⟨gbx,1,none⟩ (.int .i64 ((rd_T80 l2 x22).f1))).setCell ⟨gbx,2,none⟩ (.int .i64 ((rd_T80 l2 x22).f2)))) ?hg ?ho ?hn ?hr ?_;(case ho=>rfl);(case hg=>rfl);(case hn=>rfl);(case hr=>first|(go_simp;done)|(go_simp;rfl));intro wb hw;have HO8_:Aside0 (Kd.R k97 97 wb w.heap.size (fun k_=>k_≠w3.heap.size) u8 x8):=⟨(by rw[hw];exact Kd.R_mono (Kd.R_far (p:=⟨gbx,2,none⟩) (Kd.R_far (p:=⟨gbx,1,none⟩) (Kd.R_far (p:=⟨gbx,0,none⟩) (Kd.R_types HO8.out BKX.out (by decide)) (fun _ hk=>hk.2) (.int .i64 ((rd_T80 l2 x22).f0))) (fun _ hk=>hk.2) (.int .i64 ((rd_T80 l2 x22).f1))) (fun _ hk=>hk.2) (.int .i64 ((rd_T80 l2 x22).f2))) (fun _ hk=>hk.1))⟩;have HO9_:Aside0 (Kd.R (Kd.int .i64) 3 wb w.heap.size (fun k_=>k_≠w3.heap.size) u9 x9):=⟨(by rw[hw];exact Kd.R_mono (Kd.R_far (p:=⟨gbx,2,none⟩) (Kd.R_far (p:=⟨gbx,1,none⟩) (Kd.R_far (p:=⟨gbx,0,none⟩) (Kd.R_types HO9.out BKX.out (by decide)) (fun _ hk=>hk.2) (.int .i64 ((rd_T80 l2 x22).f0))) (fun _ hk=>hk.2) (.int .i64 ((rd_T80 l2 x22).f1))) (fun _ hk=>hk.2) (.int .i64 ((rd_T80 l2 x22).f2))) (fun _ hk=>hk.1))⟩;have HM_:Aside0 (wb.ownsMap Try.prog 3 (plainElem Try.prog 3) w3.heap.size x8.length D):=⟨by rw[hw];exact impl_spoken.map_far (impl_spoken.map_far (impl_spoken.map_far HM.out NXM.out) NXM.out) NXM.out⟩;have BKI_:Aside0 (wb.heap[gbi]?=some (.cells #[.slice A0 l0.length c0,.int .i64 a1] 44 (0,0))):=⟨by rw[hw];refine blk_far ?_ NXI.out _;refine blk_far ?_ NXI.out _;refine blk_far ?_ NXI.out _;exact BKI.out⟩;have BKA_:Aside0 (wb.heap[gba]?=some (.cells #[.int .i64 a3,.int .i64 a4,.int .i64 a5] 48 (0,0))):=⟨by rw[hw];refine blk_far ?_ NXA.out _;refine blk_far ?_ NXA.out _;refine blk_far ?_ NXA.out _;exact BKA.out⟩;have BKX_:Aside0 (wb.heap[gbx]?=some (.cells #[.int .i64 ((rd_T80 l2 x22).f0),.int .i64 ((rd_T80 l2 x22).f1),.int .i64 ((rd_T80 l2 x22).f2)] 80 (0,0))):=⟨by rw[hw];refine blk_put (cs := #[.int .i64 ((rd_T80 l2 x22).f0),.int .i64 ((rd_T80 l2 x22).f1),.int .i64 0]) ?_ 2 _ rfl;refine blk_put (cs := #[.int .i64 ((rd_T80 l2 x22).f0),.int .i64 0,.int .i64 0]) ?_ 1 _ rfl;refine blk_put (cs := #[.int .i64 0,.int .i64 0,.int .i64 0]) ?_ 0 _ rfl;exact BKX.out⟩;have HB_:Aside0 (Below w.heap.size w wb):=⟨by rw[hw];exact below_set (below_set (below_set HB.out GEX.out) GEX.out) GEX.out⟩;clear hw HO8 HO9 HM BKI BKA BKX HB;have HO8:=HO8_;have HO9:=HO9_;have HM:=HM_;have BKI:=BKI_;have BKA:=BKA_;have BKX:=BKX_;have HB:=HB_;clear HO8_ HO9_ HM_ BKI_ BKA_ BKX_ HB_;(try clear hcza_0 hcza_1 hcza_2 hfza_0 hfza_1 hfza_2);have hczb_0:wb.cell? ⟨gbx,0,none⟩=some (.int .i64 ((rd_T80 l2 x22).f0)):=(blk_cell BKX.out 0).trans rfl;have hczb_1:wb.cell? ⟨gbx,1,none⟩=some (.int .i64 ((rd_T80 l2 x22).f1)):=(blk_cell BKX.out 1).trans rfl;have hczb_2:wb.cell? ⟨gbx,2,none⟩=some (.int .i64 ((rd_T80 l2 x22).f2)):=(blk_cell BKX.out 2).trans rfl;have hfzb_0:=blk_frozen BKX.out 0;have hfzb_1:=blk_frozen BKX.out 1;have hfzb_2:=blk_frozen BKX.out 2;have hczc_0:wb.cell? ⟨gba,0,none⟩=some (.int .i64 a3):=(blk_cell BKA.out 0).trans rfl;have hczc_1:wb.cell? ⟨gba,1,none⟩=some (.int .i64 a4):=(blk_cell BKA.out 1).trans rfl;have hczc_2:wb.cell? ⟨gba,2,none⟩=some (.int .i64 a5):=(blk_cell BKA.out 2).trans rfl;have hfzc_0:=blk_frozen BKA.out 0;have hfzc_1:=blk_frozen BKA.out 1;have hfzc_2:=blk_frozen BKA.out 2;have hczd_0:wb.cell? ⟨gbi,0,none⟩=some (.slice A0 l0.length c0):=(blk_cell BKI.out 0).trans rfl;have hczd_1:wb.cell? ⟨gbi,1,none⟩=some (.int .i64 a1):=(blk_cell BKI.out 1).trans rfl;have hfzd_0:=blk_frozen BKI.out 0;have hfzd_1:=blk_frozen BKI.out 1)|(at_lookup;refine wpList_lookup_own_ok_int _ rfl _ _ 123 rfl 3 3 .i64 impl_spoken.law3 Try.underlying123 Try.underlying3 (impl_spoken.zero3 _) w3.heap.size x8.length D rfl (by exact HM.out) _ _ rfl (Maps.keyOf_int_mk Try.underlying3 CW.out) ?_;intro c_ hat_ hwc_;rw[HS.out];obtain rfl:b_=c_:=(by have e_:=HV.out.symm.trans hat_;injection e_ with e_;injection e_)))
          go_quiet (fail)
          generalize hq_:wb.drewN _=wq
          have n0_:=am (Kd.R_at hq_ HO8.out)
          have n1_:=am (Kd.R_at hq_ HO9.out)
          have n2_:=am (blk_at hq_ BKI.out)
          have n3_:=am (blk_at hq_ BKA.out)
          have n4_:=am (blk_at hq_ BKX.out)
          have n5_:=am (below_at hq_ HB.out)
          have n6_:=am (impl_spoken.map_to HM.out (show wq.heap[w3.heap.size]?=wb.heap[w3.heap.size]? from by rw[← hq_];rfl))
          clear hq_ HO8 HO9 BKI BKA BKX HB HM
          have HO8:=n0_;have HO9:=n1_;have BKI:=n2_;have BKA:=n3_;have BKX:=n4_;have HB:=n5_;have HM:=n6_
          clear n0_ n1_ n2_ n3_ n4_ n5_ n6_
          (try clear hczb_0 hczb_1 hczb_2 hfzb_0 hfzb_1 hfzb_2);(try clear hczc_0 hczc_1 hczc_2 hfzc_0 hfzc_1 hfzc_2);(try clear hczd_0 hczd_1 hfzd_0 hfzd_1)
          have hczg_0:wq.cell? ⟨gbx,0,none⟩=some (.int .i64 ((rd_T80 l2 x22).f0)):=(blk_cell BKX.out 0).trans rfl;have hczg_1:wq.cell? ⟨gbx,1,none⟩=some (.int .i64 ((rd_T80 l2 x22).f1)):=(blk_cell BKX.out 1).trans rfl;have hczg_2:wq.cell? ⟨gbx,2,none⟩=some (.int .i64 ((rd_T80 l2 x22).f2)):=(blk_cell BKX.out 2).trans rfl;have hfzg_0:=blk_frozen BKX.out 0;have hfzg_1:=blk_frozen BKX.out 1;have hfzg_2:=blk_frozen BKX.out 2;have hczh_0:wq.cell? ⟨gba,0,none⟩=some (.int .i64 a3):=(blk_cell BKA.out 0).trans rfl;have hczh_1:wq.cell? ⟨gba,1,none⟩=some (.int .i64 a4):=(blk_cell BKA.out 1).trans rfl;have hczh_2:wq.cell? ⟨gba,2,none⟩=some (.int .i64 a5):=(blk_cell BKA.out 2).trans rfl;have hfzh_0:=blk_frozen BKA.out 0;have hfzh_1:=blk_frozen BKA.out 1;have hfzh_2:=blk_frozen BKA.out 2;have hczi_0:wq.cell? ⟨gbi,0,none⟩=some (.slice A0 l0.length c0):=(blk_cell BKI.out 0).trans rfl;have hczi_1:wq.cell? ⟨gbi,1,none⟩=some (.int .i64 a1):=(blk_cell BKI.out 1).trans rfl;have hfzi_0:=blk_frozen BKI.out 0;have hfzi_1:=blk_frozen BKI.out 1
          go_wp2_with (first|((with_reducible refine gate_builtin (b := .append) (xs := #[.tmp 78,.tmp 80]) rfl ?_);at_builtin;refine Kd.R_append (Kd.int .i64) (w0:=w) w.heap.size rfl (.tmp 78) (.tmp 80) 34 3 (.int .i64 0) 8 rfl Try.underlying34 info3 rfl (by decide) (by omega) u9 x9 x22 [.int .i64 x22] (fun k_=>k_≠w3.heap.size) (fun _=>False) rfl (by first|(go_simp;done)|(go_simp;rfl)) ?aP (fun _ hk=>hk.elim) ?aF ?aO ?aB ?aS ?aL ?_;(case aP=>exact rfl);(case aB=>exact bl);(case aF=>exact(fun k_ hk_ e_=>by subst e_;exact absurd hk_ (Nat.not_le_of_lt (World.ownsMap.lt (by(with_reducible repeat(first|refine impl_spoken.map_drewN ?_ _|refine World.ownsMap.alloc ?_ _));exact HM.out)))));(case aO=>exact(rup HO9.out));(case aS=>exact(below_size bl));(case aL=>have:=CL.out;omega);intro va wc ho hb hg hat;have n0_:=am (Kd.R_over' (rup HO8.out) (Kd.R_typed (rup HO9.out)) (by decide) hg);have n1_:=am (blk_grown (g:=gbi) (o := .cells #[.slice A0 l0.length c0,.int .i64 a1] 44 (0,0)) (by exact bup BKI.out) hg (Kd.R_ne HO9.out BKI.out (by decide)));have n2_:=am (blk_grown (g:=gba) (o := .cells #[.int .i64 a3,.int .i64 a4,.int .i64 a5] 48 (0,0)) (by exact bup BKA.out) hg (Kd.R_ne HO9.out BKA.out (by decide)));have n3_:=am (blk_grown (g:=gbx) (o := .cells #[.int .i64 ((rd_T80 l2 x22).f0),.int .i64 ((rd_T80 l2 x22).f1),.int .i64 ((rd_T80 l2 x22).f2)] 80 (0,0)) (by exact bup BKX.out) hg (Kd.R_ne HO9.out BKX.out (by decide)));have n4_:=am (World.ownsMap.kept (by(with_reducible repeat(first|refine impl_spoken.map_drewN ?_ _|refine World.ownsMap.alloc ?_ _));exact HM.out) hg (fun e_=>HO9.out.1 _ e_.symm rfl));have n5_:=am (hb);have n6_:=am (ho);clear HO8 BKI BKA BKX HM HB HO9;have HO8:=n0_;have BKI:=n1_;have BKA:=n2_;have BKX:=n3_;have HM:=n4_;have HB:=n5_;have HO9:=n6_;clear n0_ n1_ n2_ n3_ n4_ n5_ n6_ ho hb hg hat))
          go_roundg k1
          case measure=>have:=HK1.out;omega
          case rel=>exact⟨x8,x9 ++ [x22],la,(wrap64 (x22+1)),D,fin2,H',⟨by have:=HK1.out;omega⟩,⟨rup HO8.out⟩,⟨rup HO9.out⟩,⟨by(with_reducible repeat(first|refine impl_spoken.map_drewN ?_ _|refine World.ownsMap.alloc ?_ _));exact HM.out⟩,HG,⟨by exact bup BKI.out⟩,⟨by exact bup BKA.out⟩,⟨bl⟩⟩
         ·rw[if_neg cl] at H
          exact absurd H (by simp)
        ·by_cases c3:wrap64 ((rd_T80 l2 x22).f1 - b_)<wrap64 (2*a1)
         ·have hv3:wrap64 ((rd_T80 l2 x22).f1 - (la (rd_T80 l2 x22).f0).getD 0)<wrap64 (2*a1):=by rw[hlb];exact c3
          rw[if_pos (show impl_spoken.bad l0 a1 a3 a4 a5 la (rd_T80 l2 x22) from Or.inr (Or.inr (Or.inl ⟨hso,hv3⟩)))] at H
          by_cases cl:x9.length<17592186044416
          ·rw[if_pos cl] at H
           have CL:=am cl
           clear cl
           have H':=am H
           clear H
           have c1b:decide ((l0.length:Int)≤(rd_T80 l2 x22).f0)=false:=decide_eq_false c1
           have c2b:decide (wrap64 ((rd_T80 l2 x22).f2 - (rd_T80 l2 x22).f1)<a5)=false:=decide_eq_false c2
           have c3b:decide (wrap64 ((rd_T80 l2 x22).f1 - b_)<wrap64 (2*a1))=true:=decide_eq_true c3
           clear c9 c10 c1 c2 c3 hv3
           (try clear hso)
           have p_:0≤(x22:Int):=od
           have q_:x22<(l2.length:Int):=od
           obtain⟨adh,eh,hxh_0,hxh_1,hxh_2⟩:=at_T80 HR2.out x22 p_ q_
           cases eh
           replace hxh_0:=(HB.out.cell (World.block_lt_of_cell? w _ hxh_0)).trans hxh_0
           replace hxh_1:=(HB.out.cell (World.block_lt_of_cell? w _ hxh_1)).trans hxh_1
           replace hxh_2:=(HB.out.cell (World.block_lt_of_cell? w _ hxh_2)).trans hxh_2
           replace p_:=eq_true p_
           replace q_:=eq_true q_
           go_wp2_with (first|((with_reducible refine gate_dst (N:=12) rfl ?_);refine box_event ?hg (N:=12) ?hd (cs := #[.int .i64 0,.int .i64 0,.int .i64 0]) (t:=80) ?hr ?_;(case hd=>rfl);(case hg=>rfl);(case hr=>first|(go_simp;done)|(go_simp;rfl));intro gbx hg wa hbox hb;have n0_:=am (Kd.R_below (rup HO8.out) hb);have n1_:=am (Kd.R_below (rup HO9.out) hb);have n2_:=am (impl_spoken.map_below (by(with_reducible repeat(first|refine impl_spoken.map_drewN ?_ _|refine World.ownsMap.alloc ?_ _));exact HM.out) hb);have n3_:=am (blk_below (g:=gbi) (o := .cells #[.slice A0 l0.length c0,.int .i64 a1] 44 (0,0)) (by exact bup BKI.out) hb);have n4_:=am (blk_below (g:=gba) (o := .cells #[.int .i64 a3,.int .i64 a4,.int .i64 a5] 48 (0,0)) (by exact bup BKA.out) hb);have n5_:=am (below_step bl hb);have n6_:=am (hbox);have n7_:=am ((by rw[hg];exact(below_size bl):w.heap.size≤gbx));have n8_:=am ((by rw[hg];exact Nat.ne_of_lt (blk_lt (g:=gbi) (o := .cells #[.slice A0 l0.length c0,.int .i64 a1] 44 (0,0)) (by exact bup BKI.out)):gbi≠gbx));have n9_:=am ((by rw[hg];exact Nat.ne_of_lt (blk_lt (g:=gba) (o := .cells #[.int .i64 a3,.int .i64 a4,.int .i64 a5] 48 (0,0)) (by exact bup BKA.out)):gba≠gbx));have n10_:=am ((by rw[hg];exact Nat.ne_of_lt (World.ownsMap.lt (by(with_reducible repeat(first|refine impl_spoken.map_drewN ?_ _|refine World.ownsMap.alloc ?_ _));exact HM.out)):w3.heap.size≠gbx));clear HO8 HO9 HM BKI BKA HB;have HO8:=n0_;have HO9:=n1_;have HM:=n2_;have BKI:=n3_;have BKA:=n4_;have HB:=n5_;have BKX:=n6_;have GEX:=n7_;have NXI:=n8_;have NXA:=n9_;have NXM:=n10_;clear n0_ n1_ n2_ n3_ n4_ n5_ n6_ n7_ n8_ n9_ n10_ hb hbox hg;have hcza_0:wa.cell? ⟨gbx,0,none⟩=some (.int .i64 0):=(blk_cell BKX.out 0).trans rfl;have hcza_1:wa.cell? ⟨gbx,1,none⟩=some (.int .i64 0):=(blk_cell BKX.out 1).trans rfl;have hcza_2:wa.cell? ⟨gbx,2,none⟩=some (.int .i64 0):=(blk_cell BKX.out 2).trans rfl;have hfza_0:=blk_frozen BKX.out 0;have hfza_1:=blk_frozen BKX.out 1;have hfza_2:=blk_frozen BKX.out 2)|((with_reducible refine gate_store (t:=80) (p:=12) rfl ?_);refine store_event (t:=80) (p:=12) (v:=?vo) (w1:=(((wa.setCell ⟨gbx,0,none⟩ (.int .i64 ((rd_T80 l2 x22).f0))).setCell ⟨gbx,1,none⟩ (.int .i64 ((rd_T80 l2 x22).f1))).setCell ⟨gbx,2,none⟩ (.int .i64 ((rd_T80 l2 x22).f2)))) ?hg ?ho ?hn ?hr ?_;(case ho=>rfl);(case hg=>rfl);(case hn=>rfl);(case hr=>first|(go_simp;done)|(go_simp;rfl));intro wb hw;have HO8_:Aside0 (Kd.R k97 97 wb w.heap.size (fun k_=>k_≠w3.heap.size) u8 x8):=⟨(by rw[hw];exact Kd.R_mono (Kd.R_far (p:=⟨gbx,2,none⟩) (Kd.R_far (p:=⟨gbx,1,none⟩) (Kd.R_far (p:=⟨gbx,0,none⟩) (Kd.R_types HO8.out BKX.out (by decide)) (fun _ hk=>hk.2) (.int .i64 ((rd_T80 l2 x22).f0))) (fun _ hk=>hk.2) (.int .i64 ((rd_T80 l2 x22).f1))) (fun _ hk=>hk.2) (.int .i64 ((rd_T80 l2 x22).f2))) (fun _ hk=>hk.1))⟩;have HO9_:Aside0 (Kd.R (Kd.int .i64) 3 wb w.heap.size (fun k_=>k_≠w3.heap.size) u9 x9):=⟨(by rw[hw];exact Kd.R_mono (Kd.R_far (p:=⟨gbx,2,none⟩) (Kd.R_far (p:=⟨gbx,1,none⟩) (Kd.R_far (p:=⟨gbx,0,none⟩) (Kd.R_types HO9.out BKX.out (by decide)) (fun _ hk=>hk.2) (.int .i64 ((rd_T80 l2 x22).f0))) (fun _ hk=>hk.2) (.int .i64 ((rd_T80 l2 x22).f1))) (fun _ hk=>hk.2) (.int .i64 ((rd_T80 l2 x22).f2))) (fun _ hk=>hk.1))⟩;have HM_:Aside0 (wb.ownsMap Try.prog 3 (plainElem Try.prog 3) w3.heap.size x8.length D):=⟨by rw[hw];exact impl_spoken.map_far (impl_spoken.map_far (impl_spoken.map_far HM.out NXM.out) NXM.out) NXM.out⟩;have BKI_:Aside0 (wb.heap[gbi]?=some (.cells #[.slice A0 l0.length c0,.int .i64 a1] 44 (0,0))):=⟨by rw[hw];refine blk_far ?_ NXI.out _;refine blk_far ?_ NXI.out _;refine blk_far ?_ NXI.out _;exact BKI.out⟩;have BKA_:Aside0 (wb.heap[gba]?=some (.cells #[.int .i64 a3,.int .i64 a4,.int .i64 a5] 48 (0,0))):=⟨by rw[hw];refine blk_far ?_ NXA.out _;refine blk_far ?_ NXA.out _;refine blk_far ?_ NXA.out _;exact BKA.out⟩;have BKX_:Aside0 (wb.heap[gbx]?=some (.cells #[.int .i64 ((rd_T80 l2 x22).f0),.int .i64 ((rd_T80 l2 x22).f1),.int .i64 ((rd_T80 l2 x22).f2)] 80 (0,0))):=⟨by rw[hw];refine blk_put (cs := #[.int .i64 ((rd_T80 l2 x22).f0),.int .i64 ((rd_T80 l2 x22).f1),.int .i64 0]) ?_ 2 _ rfl;refine blk_put (cs := #[.int .i64 ((rd_T80 l2 x22).f0),.int .i64 0,.int .i64 0]) ?_ 1 _ rfl;refine blk_put (cs := #[.int .i64 0,.int .i64 0,.int .i64 0]) ?_ 0 _ rfl;exact BKX.out⟩;have HB_:Aside0 (Below w.heap.size w wb):=⟨by rw[hw];exact below_set (below_set (below_set HB.out GEX.out) GEX.out) GEX.out⟩;clear hw HO8 HO9 HM BKI BKA BKX HB;have HO8:=HO8_;have HO9:=HO9_;have HM:=HM_;have BKI:=BKI_;have BKA:=BKA_;have BKX:=BKX_;have HB:=HB_;clear HO8_ HO9_ HM_ BKI_ BKA_ BKX_ HB_;(try clear hcza_0 hcza_1 hcza_2 hfza_0 hfza_1 hfza_2);have hczb_0:wb.cell? ⟨gbx,0,none⟩=some (.int .i64 ((rd_T80 l2 x22).f0)):=(blk_cell BKX.out 0).trans rfl;have hczb_1:wb.cell? ⟨gbx,1,none⟩=some (.int .i64 ((rd_T80 l2 x22).f1)):=(blk_cell BKX.out 1).trans rfl;have hczb_2:wb.cell? ⟨gbx,2,none⟩=some (.int .i64 ((rd_T80 l2 x22).f2)):=(blk_cell BKX.out 2).trans rfl;have hfzb_0:=blk_frozen BKX.out 0;have hfzb_1:=blk_frozen BKX.out 1;have hfzb_2:=blk_frozen BKX.out 2;have hczc_0:wb.cell? ⟨gba,0,none⟩=some (.int .i64 a3):=(blk_cell BKA.out 0).trans rfl;have hczc_1:wb.cell? ⟨gba,1,none⟩=some (.int .i64 a4):=(blk_cell BKA.out 1).trans rfl;have hczc_2:wb.cell? ⟨gba,2,none⟩=some (.int .i64 a5):=(blk_cell BKA.out 2).trans rfl;have hfzc_0:=blk_frozen BKA.out 0;have hfzc_1:=blk_frozen BKA.out 1;have hfzc_2:=blk_frozen BKA.out 2;have hczd_0:wb.cell? ⟨gbi,0,none⟩=some (.slice A0 l0.length c0):=(blk_cell BKI.out 0).trans rfl;have hczd_1:wb.cell? ⟨gbi,1,none⟩=some (.int .i64 a1):=(blk_cell BKI.out 1).trans rfl;have hfzd_0:=blk_frozen BKI.out 0;have hfzd_1:=blk_frozen BKI.out 1)|(at_lookup;refine wpList_lookup_own_ok_int _ rfl _ _ 123 rfl 3 3 .i64 impl_spoken.law3 Try.underlying123 Try.underlying3 (impl_spoken.zero3 _) w3.heap.size x8.length D rfl (by exact HM.out) _ _ rfl (Maps.keyOf_int_mk Try.underlying3 CW.out) ?_;intro c_ hat_ hwc_;rw[HS.out];obtain rfl:b_=c_:=(by have e_:=HV.out.symm.trans hat_;injection e_ with e_;injection e_)))
           go_quiet (fail)
           generalize hq_:wb.drewN _=wq
           have n0_:=am (Kd.R_at hq_ HO8.out)
           have n1_:=am (Kd.R_at hq_ HO9.out)
           have n2_:=am (blk_at hq_ BKI.out)
           have n3_:=am (blk_at hq_ BKA.out)
           have n4_:=am (blk_at hq_ BKX.out)
           have n5_:=am (below_at hq_ HB.out)
           have n6_:=am (impl_spoken.map_to HM.out (show wq.heap[w3.heap.size]?=wb.heap[w3.heap.size]? from by rw[← hq_];rfl))
           clear hq_ HO8 HO9 BKI BKA BKX HB HM
           have HO8:=n0_;have HO9:=n1_;have BKI:=n2_;have BKA:=n3_;have BKX:=n4_;have HB:=n5_;have HM:=n6_
           clear n0_ n1_ n2_ n3_ n4_ n5_ n6_
           (try clear hczb_0 hczb_1 hczb_2 hfzb_0 hfzb_1 hfzb_2);(try clear hczc_0 hczc_1 hczc_2 hfzc_0 hfzc_1 hfzc_2);(try clear hczd_0 hczd_1 hfzd_0 hfzd_1)
           have hczg_0:wq.cell? ⟨gbx,0,none⟩=some (.int .i64 ((rd_T80 l2 x22).f0)):=(blk_cell BKX.out 0).trans rfl;have hczg_1:wq.cell? ⟨gbx,1,none⟩=some (.int .i64 ((rd_T80 l2 x22).f1)):=(blk_cell BKX.out 1).trans rfl;have hczg_2:wq.cell? ⟨gbx,2,none⟩=some (.int .i64 ((rd_T80 l2 x22).f2)):=(blk_cell BKX.out 2).trans rfl;have hfzg_0:=blk_frozen BKX.out 0;have hfzg_1:=blk_frozen BKX.out 1;have hfzg_2:=blk_frozen BKX.out 2;have hczh_0:wq.cell? ⟨gba,0,none⟩=some (.int .i64 a3):=(blk_cell BKA.out 0).trans rfl;have hczh_1:wq.cell? ⟨gba,1,none⟩=some (.int .i64 a4):=(blk_cell BKA.out 1).trans rfl;have hczh_2:wq.cell? ⟨gba,2,none⟩=some (.int .i64 a5):=(blk_cell BKA.out 2).trans rfl;have hfzh_0:=blk_frozen BKA.out 0;have hfzh_1:=blk_frozen BKA.out 1;have hfzh_2:=blk_frozen BKA.out 2;have hczi_0:wq.cell? ⟨gbi,0,none⟩=some (.slice A0 l0.length c0):=(blk_cell BKI.out 0).trans rfl;have hczi_1:wq.cell? ⟨gbi,1,none⟩=some (.int .i64 a1):=(blk_cell BKI.out 1).trans rfl;have hfzi_0:=blk_frozen BKI.out 0;have hfzi_1:=blk_frozen BKI.out 1
           go_wp2_with (first|((with_reducible refine gate_builtin (b := .append) (xs := #[.tmp 78,.tmp 80]) rfl ?_);at_builtin;refine Kd.R_append (Kd.int .i64) (w0:=w) w.heap.size rfl (.tmp 78) (.tmp 80) 34 3 (.int .i64 0) 8 rfl Try.underlying34 info3 rfl (by decide) (by omega) u9 x9 x22 [.int .i64 x22] (fun k_=>k_≠w3.heap.size) (fun _=>False) rfl (by first|(go_simp;done)|(go_simp;rfl)) ?aP (fun _ hk=>hk.elim) ?aF ?aO ?aB ?aS ?aL ?_;(case aP=>exact rfl);(case aB=>exact bl);(case aF=>exact(fun k_ hk_ e_=>by subst e_;exact absurd hk_ (Nat.not_le_of_lt (World.ownsMap.lt (by(with_reducible repeat(first|refine impl_spoken.map_drewN ?_ _|refine World.ownsMap.alloc ?_ _));exact HM.out)))));(case aO=>exact(rup HO9.out));(case aS=>exact(below_size bl));(case aL=>have:=CL.out;omega);intro va wc ho hb hg hat;have n0_:=am (Kd.R_over' (rup HO8.out) (Kd.R_typed (rup HO9.out)) (by decide) hg);have n1_:=am (blk_grown (g:=gbi) (o := .cells #[.slice A0 l0.length c0,.int .i64 a1] 44 (0,0)) (by exact bup BKI.out) hg (Kd.R_ne HO9.out BKI.out (by decide)));have n2_:=am (blk_grown (g:=gba) (o := .cells #[.int .i64 a3,.int .i64 a4,.int .i64 a5] 48 (0,0)) (by exact bup BKA.out) hg (Kd.R_ne HO9.out BKA.out (by decide)));have n3_:=am (blk_grown (g:=gbx) (o := .cells #[.int .i64 ((rd_T80 l2 x22).f0),.int .i64 ((rd_T80 l2 x22).f1),.int .i64 ((rd_T80 l2 x22).f2)] 80 (0,0)) (by exact bup BKX.out) hg (Kd.R_ne HO9.out BKX.out (by decide)));have n4_:=am (World.ownsMap.kept (by(with_reducible repeat(first|refine impl_spoken.map_drewN ?_ _|refine World.ownsMap.alloc ?_ _));exact HM.out) hg (fun e_=>HO9.out.1 _ e_.symm rfl));have n5_:=am (hb);have n6_:=am (ho);clear HO8 BKI BKA BKX HM HB HO9;have HO8:=n0_;have BKI:=n1_;have BKA:=n2_;have BKX:=n3_;have HM:=n4_;have HB:=n5_;have HO9:=n6_;clear n0_ n1_ n2_ n3_ n4_ n5_ n6_ ho hb hg hat))
           go_roundg k1
           case measure=>have:=HK1.out;omega
           case rel=>exact⟨x8,x9 ++ [x22],la,(wrap64 (x22+1)),D,fin2,H',⟨by have:=HK1.out;omega⟩,⟨rup HO8.out⟩,⟨rup HO9.out⟩,⟨by(with_reducible repeat(first|refine impl_spoken.map_drewN ?_ _|refine World.ownsMap.alloc ?_ _));exact HM.out⟩,HG,⟨by exact bup BKI.out⟩,⟨by exact bup BKA.out⟩,⟨bl⟩⟩
          ·rw[if_neg cl] at H
           exact absurd H (by simp)
         ·have hv3:¬ wrap64 ((rd_T80 l2 x22).f1 - (la (rd_T80 l2 x22).f0).getD 0)<wrap64 (2*a1):=by rw[hlb];exact c3
          by_cases c4:wrap64 ((rd_T80 l2 x22).f1+a3)≥wrap64 ((rd_T80 l2 x22).f2+a4)
          ·rw[if_pos (show impl_spoken.bad l0 a1 a3 a4 a5 la (rd_T80 l2 x22) from Or.inr (Or.inr (Or.inr c4)))] at H
           by_cases cl:x9.length<17592186044416
           ·rw[if_pos cl] at H
            have CL:=am cl
            clear cl
            have H':=am H
            clear H
            have c1b:decide ((l0.length:Int)≤(rd_T80 l2 x22).f0)=false:=decide_eq_false c1
            have c2b:decide (wrap64 ((rd_T80 l2 x22).f2 - (rd_T80 l2 x22).f1)<a5)=false:=decide_eq_false c2
            have c3b:decide (wrap64 ((rd_T80 l2 x22).f1 - b_)<wrap64 (2*a1))=false:=decide_eq_false c3
            have c4b:decide (wrap64 ((rd_T80 l2 x22).f2+a4)≤wrap64 ((rd_T80 l2 x22).f1+a3))=true:=decide_eq_true c4
            clear c9 c10 c1 c2 c3 hv3 c4
            (try clear hso)
            have p_:0≤(x22:Int):=od
            have q_:x22<(l2.length:Int):=od
            obtain⟨adh,eh,hxh_0,hxh_1,hxh_2⟩:=at_T80 HR2.out x22 p_ q_
            cases eh
            replace hxh_0:=(HB.out.cell (World.block_lt_of_cell? w _ hxh_0)).trans hxh_0
            replace hxh_1:=(HB.out.cell (World.block_lt_of_cell? w _ hxh_1)).trans hxh_1
            replace hxh_2:=(HB.out.cell (World.block_lt_of_cell? w _ hxh_2)).trans hxh_2
            replace p_:=eq_true p_
            replace q_:=eq_true q_
            go_wp2_with (first|((with_reducible refine gate_dst (N:=12) rfl ?_);refine box_event ?hg (N:=12) ?hd (cs := #[.int .i64 0,.int .i64 0,.int .i64 0]) (t:=80) ?hr ?_;(case hd=>rfl);(case hg=>rfl);(case hr=>first|(go_simp;done)|(go_simp;rfl));intro gbx hg wa hbox hb;have n0_:=am (Kd.R_below (rup HO8.out) hb);have n1_:=am (Kd.R_below (rup HO9.out) hb);have n2_:=am (impl_spoken.map_below (by(with_reducible repeat(first|refine impl_spoken.map_drewN ?_ _|refine World.ownsMap.alloc ?_ _));exact HM.out) hb);have n3_:=am (blk_below (g:=gbi) (o := .cells #[.slice A0 l0.length c0,.int .i64 a1] 44 (0,0)) (by exact bup BKI.out) hb);have n4_:=am (blk_below (g:=gba) (o := .cells #[.int .i64 a3,.int .i64 a4,.int .i64 a5] 48 (0,0)) (by exact bup BKA.out) hb);have n5_:=am (below_step bl hb);have n6_:=am (hbox);have n7_:=am ((by rw[hg];exact(below_size bl):w.heap.size≤gbx));have n8_:=am ((by rw[hg];exact Nat.ne_of_lt (blk_lt (g:=gbi) (o := .cells #[.slice A0 l0.length c0,.int .i64 a1] 44 (0,0)) (by exact bup BKI.out)):gbi≠gbx));have n9_:=am ((by rw[hg];exact Nat.ne_of_lt (blk_lt (g:=gba) (o := .cells #[.int .i64 a3,.int .i64 a4,.int .i64 a5] 48 (0,0)) (by exact bup BKA.out)):gba≠gbx));have n10_:=am ((by rw[hg];exact Nat.ne_of_lt (World.ownsMap.lt (by(with_reducible repeat(first|refine impl_spoken.map_drewN ?_ _|refine World.ownsMap.alloc ?_ _));exact HM.out)):w3.heap.size≠gbx));clear HO8 HO9 HM BKI BKA HB;have HO8:=n0_;have HO9:=n1_;have HM:=n2_;have BKI:=n3_;have BKA:=n4_;have HB:=n5_;have BKX:=n6_;have GEX:=n7_;have NXI:=n8_;have NXA:=n9_;have NXM:=n10_;clear n0_ n1_ n2_ n3_ n4_ n5_ n6_ n7_ n8_ n9_ n10_ hb hbox hg;have hcza_0:wa.cell? ⟨gbx,0,none⟩=some (.int .i64 0):=(blk_cell BKX.out 0).trans rfl;have hcza_1:wa.cell? ⟨gbx,1,none⟩=some (.int .i64 0):=(blk_cell BKX.out 1).trans rfl;have hcza_2:wa.cell? ⟨gbx,2,none⟩=some (.int .i64 0):=(blk_cell BKX.out 2).trans rfl;have hfza_0:=blk_frozen BKX.out 0;have hfza_1:=blk_frozen BKX.out 1;have hfza_2:=blk_frozen BKX.out 2)|((with_reducible refine gate_store (t:=80) (p:=12) rfl ?_);refine store_event (t:=80) (p:=12) (v:=?vo) (w1:=(((wa.setCell ⟨gbx,0,none⟩ (.int .i64 ((rd_T80 l2 x22).f0))).setCell ⟨gbx,1,none⟩ (.int .i64 ((rd_T80 l2 x22).f1))).setCell ⟨gbx,2,none⟩ (.int .i64 ((rd_T80 l2 x22).f2)))) ?hg ?ho ?hn ?hr ?_;(case ho=>rfl);(case hg=>rfl);(case hn=>rfl);(case hr=>first|(go_simp;done)|(go_simp;rfl));intro wb hw;have HO8_:Aside0 (Kd.R k97 97 wb w.heap.size (fun k_=>k_≠w3.heap.size) u8 x8):=⟨(by rw[hw];exact Kd.R_mono (Kd.R_far (p:=⟨gbx,2,none⟩) (Kd.R_far (p:=⟨gbx,1,none⟩) (Kd.R_far (p:=⟨gbx,0,none⟩) (Kd.R_types HO8.out BKX.out (by decide)) (fun _ hk=>hk.2) (.int .i64 ((rd_T80 l2 x22).f0))) (fun _ hk=>hk.2) (.int .i64 ((rd_T80 l2 x22).f1))) (fun _ hk=>hk.2) (.int .i64 ((rd_T80 l2 x22).f2))) (fun _ hk=>hk.1))⟩;have HO9_:Aside0 (Kd.R (Kd.int .i64) 3 wb w.heap.size (fun k_=>k_≠w3.heap.size) u9 x9):=⟨(by rw[hw];exact Kd.R_mono (Kd.R_far (p:=⟨gbx,2,none⟩) (Kd.R_far (p:=⟨gbx,1,none⟩) (Kd.R_far (p:=⟨gbx,0,none⟩) (Kd.R_types HO9.out BKX.out (by decide)) (fun _ hk=>hk.2) (.int .i64 ((rd_T80 l2 x22).f0))) (fun _ hk=>hk.2) (.int .i64 ((rd_T80 l2 x22).f1))) (fun _ hk=>hk.2) (.int .i64 ((rd_T80 l2 x22).f2))) (fun _ hk=>hk.1))⟩;have HM_:Aside0 (wb.ownsMap Try.prog 3 (plainElem Try.prog 3) w3.heap.size x8.length D):=⟨by rw[hw];exact impl_spoken.map_far (impl_spoken.map_far (impl_spoken.map_far HM.out NXM.out) NXM.out) NXM.out⟩;have BKI_:Aside0 (wb.heap[gbi]?=some (.cells #[.slice A0 l0.length c0,.int .i64 a1] 44 (0,0))):=⟨by rw[hw];refine blk_far ?_ NXI.out _;refine blk_far ?_ NXI.out _;refine blk_far ?_ NXI.out _;exact BKI.out⟩;have BKA_:Aside0 (wb.heap[gba]?=some (.cells #[.int .i64 a3,.int .i64 a4,.int .i64 a5] 48 (0,0))):=⟨by rw[hw];refine blk_far ?_ NXA.out _;refine blk_far ?_ NXA.out _;refine blk_far ?_ NXA.out _;exact BKA.out⟩;have BKX_:Aside0 (wb.heap[gbx]?=some (.cells #[.int .i64 ((rd_T80 l2 x22).f0),.int .i64 ((rd_T80 l2 x22).f1),.int .i64 ((rd_T80 l2 x22).f2)] 80 (0,0))):=⟨by rw[hw];refine blk_put (cs := #[.int .i64 ((rd_T80 l2 x22).f0),.int .i64 ((rd_T80 l2 x22).f1),.int .i64 0]) ?_ 2 _ rfl;refine blk_put (cs := #[.int .i64 ((rd_T80 l2 x22).f0),.int .i64 0,.int .i64 0]) ?_ 1 _ rfl;refine blk_put (cs := #[.int .i64 0,.int .i64 0,.int .i64 0]) ?_ 0 _ rfl;exact BKX.out⟩;have HB_:Aside0 (Below w.heap.size w wb):=⟨by rw[hw];exact below_set (below_set (below_set HB.out GEX.out) GEX.out) GEX.out⟩;clear hw HO8 HO9 HM BKI BKA BKX HB;have HO8:=HO8_;have HO9:=HO9_;have HM:=HM_;have BKI:=BKI_;have BKA:=BKA_;have BKX:=BKX_;have HB:=HB_;clear HO8_ HO9_ HM_ BKI_ BKA_ BKX_ HB_;(try clear hcza_0 hcza_1 hcza_2 hfza_0 hfza_1 hfza_2);have hczb_0:wb.cell? ⟨gbx,0,none⟩=some (.int .i64 ((rd_T80 l2 x22).f0)):=(blk_cell BKX.out 0).trans rfl;have hczb_1:wb.cell? ⟨gbx,1,none⟩=some (.int .i64 ((rd_T80 l2 x22).f1)):=(blk_cell BKX.out 1).trans rfl;have hczb_2:wb.cell? ⟨gbx,2,none⟩=some (.int .i64 ((rd_T80 l2 x22).f2)):=(blk_cell BKX.out 2).trans rfl;have hfzb_0:=blk_frozen BKX.out 0;have hfzb_1:=blk_frozen BKX.out 1;have hfzb_2:=blk_frozen BKX.out 2;have hczc_0:wb.cell? ⟨gba,0,none⟩=some (.int .i64 a3):=(blk_cell BKA.out 0).trans rfl;have hczc_1:wb.cell? ⟨gba,1,none⟩=some (.int .i64 a4):=(blk_cell BKA.out 1).trans rfl;have hczc_2:wb.cell? ⟨gba,2,none⟩=some (.int .i64 a5):=(blk_cell BKA.out 2).trans rfl;have hfzc_0:=blk_frozen BKA.out 0;have hfzc_1:=blk_frozen BKA.out 1;have hfzc_2:=blk_frozen BKA.out 2;have hczd_0:wb.cell? ⟨gbi,0,none⟩=some (.slice A0 l0.length c0):=(blk_cell BKI.out 0).trans rfl;have hczd_1:wb.cell? ⟨gbi,1,none⟩=some (.int .i64 a1):=(blk_cell BKI.out 1).trans rfl;have hfzd_0:=blk_frozen BKI.out 0;have hfzd_1:=blk_frozen BKI.out 1)|(at_lookup;refine wpList_lookup_own_ok_int _ rfl _ _ 123 rfl 3 3 .i64 impl_spoken.law3 Try.underlying123 Try.underlying3 (impl_spoken.zero3 _) w3.heap.size x8.length D rfl (by exact HM.out) _ _ rfl (Maps.keyOf_int_mk Try.underlying3 CW.out) ?_;intro c_ hat_ hwc_;rw[HS.out];obtain rfl:b_=c_:=(by have e_:=HV.out.symm.trans hat_;injection e_ with e_;injection e_)))
            go_quiet (fail)
            generalize hq_:wb.drewN _=wq
            have n0_:=am (Kd.R_at hq_ HO8.out)
            have n1_:=am (Kd.R_at hq_ HO9.out)
            have n2_:=am (blk_at hq_ BKI.out)
            have n3_:=am (blk_at hq_ BKA.out)
            have n4_:=am (blk_at hq_ BKX.out)
            have n5_:=am (below_at hq_ HB.out)
            have n6_:=am (impl_spoken.map_to HM.out (show wq.heap[w3.heap.size]?=wb.heap[w3.heap.size]? from by rw[← hq_];rfl))
            clear hq_ HO8 HO9 BKI BKA BKX HB HM
            have HO8:=n0_;have HO9:=n1_;have BKI:=n2_;have BKA:=n3_;have BKX:=n4_;have HB:=n5_;have HM:=n6_
            clear n0_ n1_ n2_ n3_ n4_ n5_ n6_
            (try clear hczb_0 hczb_1 hczb_2 hfzb_0 hfzb_1 hfzb_2);(try clear hczc_0 hczc_1 hczc_2 hfzc_0 hfzc_1 hfzc_2);(try clear hczd_0 hczd_1 hfzd_0 hfzd_1)
            have hczg_0:wq.cell? ⟨gbx,0,none⟩=some (.int .i64 ((rd_T80 l2 x22).f0)):=(blk_cell BKX.out 0).trans rfl;have hczg_1:wq.cell? ⟨gbx,1,none⟩=some (.int .i64 ((rd_T80 l2 x22).f1)):=(blk_cell BKX.out 1).trans rfl;have hczg_2:wq.cell? ⟨gbx,2,none⟩=some (.int .i64 ((rd_T80 l2 x22).f2)):=(blk_cell BKX.out 2).trans rfl;have hfzg_0:=blk_frozen BKX.out 0;have hfzg_1:=blk_frozen BKX.out 1;have hfzg_2:=blk_frozen BKX.out 2;have hczh_0:wq.cell? ⟨gba,0,none⟩=some (.int .i64 a3):=(blk_cell BKA.out 0).trans rfl;have hczh_1:wq.cell? ⟨gba,1,none⟩=some (.int .i64 a4):=(blk_cell BKA.out 1).trans rfl;have hczh_2:wq.cell? ⟨gba,2,none⟩=some (.int .i64 a5):=(blk_cell BKA.out 2).trans rfl;have hfzh_0:=blk_frozen BKA.out 0;have hfzh_1:=blk_frozen BKA.out 1;have hfzh_2:=blk_frozen BKA.out 2;have hczi_0:wq.cell? ⟨gbi,0,none⟩=some (.slice A0 l0.length c0):=(blk_cell BKI.out 0).trans rfl;have hczi_1:wq.cell? ⟨gbi,1,none⟩=some (.int .i64 a1):=(blk_cell BKI.out 1).trans rfl;have hfzi_0:=blk_frozen BKI.out 0;have hfzi_1:=blk_frozen BKI.out 1
            go_wp2_with (first|((with_reducible refine gate_builtin (b := .append) (xs := #[.tmp 78,.tmp 80]) rfl ?_);at_builtin;refine Kd.R_append (Kd.int .i64) (w0:=w) w.heap.size rfl (.tmp 78) (.tmp 80) 34 3 (.int .i64 0) 8 rfl Try.underlying34 info3 rfl (by decide) (by omega) u9 x9 x22 [.int .i64 x22] (fun k_=>k_≠w3.heap.size) (fun _=>False) rfl (by first|(go_simp;done)|(go_simp;rfl)) ?aP (fun _ hk=>hk.elim) ?aF ?aO ?aB ?aS ?aL ?_;(case aP=>exact rfl);(case aB=>exact bl);(case aF=>exact(fun k_ hk_ e_=>by subst e_;exact absurd hk_ (Nat.not_le_of_lt (World.ownsMap.lt (by(with_reducible repeat(first|refine impl_spoken.map_drewN ?_ _|refine World.ownsMap.alloc ?_ _));exact HM.out)))));(case aO=>exact(rup HO9.out));(case aS=>exact(below_size bl));(case aL=>have:=CL.out;omega);intro va wc ho hb hg hat;have n0_:=am (Kd.R_over' (rup HO8.out) (Kd.R_typed (rup HO9.out)) (by decide) hg);have n1_:=am (blk_grown (g:=gbi) (o := .cells #[.slice A0 l0.length c0,.int .i64 a1] 44 (0,0)) (by exact bup BKI.out) hg (Kd.R_ne HO9.out BKI.out (by decide)));have n2_:=am (blk_grown (g:=gba) (o := .cells #[.int .i64 a3,.int .i64 a4,.int .i64 a5] 48 (0,0)) (by exact bup BKA.out) hg (Kd.R_ne HO9.out BKA.out (by decide)));have n3_:=am (blk_grown (g:=gbx) (o := .cells #[.int .i64 ((rd_T80 l2 x22).f0),.int .i64 ((rd_T80 l2 x22).f1),.int .i64 ((rd_T80 l2 x22).f2)] 80 (0,0)) (by exact bup BKX.out) hg (Kd.R_ne HO9.out BKX.out (by decide)));have n4_:=am (World.ownsMap.kept (by(with_reducible repeat(first|refine impl_spoken.map_drewN ?_ _|refine World.ownsMap.alloc ?_ _));exact HM.out) hg (fun e_=>HO9.out.1 _ e_.symm rfl));have n5_:=am (hb);have n6_:=am (ho);clear HO8 BKI BKA BKX HM HB HO9;have HO8:=n0_;have BKI:=n1_;have BKA:=n2_;have BKX:=n3_;have HM:=n4_;have HB:=n5_;have HO9:=n6_;clear n0_ n1_ n2_ n3_ n4_ n5_ n6_ ho hb hg hat))
            go_roundg k1
            case measure=>have:=HK1.out;omega
            case rel=>exact⟨x8,x9 ++ [x22],la,(wrap64 (x22+1)),D,fin2,H',⟨by have:=HK1.out;omega⟩,⟨rup HO8.out⟩,⟨rup HO9.out⟩,⟨by(with_reducible repeat(first|refine impl_spoken.map_drewN ?_ _|refine World.ownsMap.alloc ?_ _));exact HM.out⟩,HG,⟨by exact bup BKI.out⟩,⟨by exact bup BKA.out⟩,⟨bl⟩⟩
           ·rw[if_neg cl] at H
            exact absurd H (by simp)
          ·rw[if_neg (show ¬ impl_spoken.bad l0 a1 a3 a4 a5 la (rd_T80 l2 x22) from fun hb_=>by rcases hb_ with h_|h_|h_|h_;exact c1 h_;exact c2 h_;exact hv3 h_.2;exact c4 h_)] at H
           have CP:=am (show(rd_T80 l2 x22).f0<(l0.length:Int) from by omega)
           by_cases cl_:(Lit.int .i64 (rd_T80 l2 x22).f1).wf=true∧0≤(rd_T80 l2 x22).f0∧x8.length<5864062014805
           ·rw[if_pos cl_] at H
            have CV:=am cl_.1
            have cf0:decide (0≤(rd_T80 l2 x22).f0)=true:=decide_eq_true cl_.2.1
            have cf1:decide ((rd_T80 l2 x22).f0<(l0.length:Int))=true:=decide_eq_true CP.out
            have cl:=cl_.2.2
            clear cl_
            have CL:=am cl
            clear cl
            have H':=am H
            clear H
            have c1b:decide ((l0.length:Int)≤(rd_T80 l2 x22).f0)=false:=decide_eq_false c1
            have c2b:decide (wrap64 ((rd_T80 l2 x22).f2 - (rd_T80 l2 x22).f1)<a5)=false:=decide_eq_false c2
            have c3b:decide (wrap64 ((rd_T80 l2 x22).f1 - b_)<wrap64 (2*a1))=false:=decide_eq_false c3
            have c4b:decide (wrap64 ((rd_T80 l2 x22).f2+a4)≤wrap64 ((rd_T80 l2 x22).f1+a3))=false:=decide_eq_false c4
            clear c9 c10 c1 c2 c3 hv3 c4
            (try clear hso)
            have p_:0≤(x22:Int):=od
            have q_:x22<(l2.length:Int):=od
            obtain⟨adh,eh,hxh_0,hxh_1,hxh_2⟩:=at_T80 HR2.out x22 p_ q_
            cases eh
            replace hxh_0:=(HB.out.cell (World.block_lt_of_cell? w _ hxh_0)).trans hxh_0
            replace hxh_1:=(HB.out.cell (World.block_lt_of_cell? w _ hxh_1)).trans hxh_1
            replace hxh_2:=(HB.out.cell (World.block_lt_of_cell? w _ hxh_2)).trans hxh_2
            replace p_:=eq_true p_
            replace q_:=eq_true q_
            go_wp2_with (first|((with_reducible refine gate_dst (N:=12) rfl ?_);refine box_event ?hg (N:=12) ?hd (cs := #[.int .i64 0,.int .i64 0,.int .i64 0]) (t:=80) ?hr ?_;(case hd=>rfl);(case hg=>rfl);(case hr=>first|(go_simp;done)|(go_simp;rfl));intro gbx hg wa hbox hb;have n0_:=am (Kd.R_below (rup HO8.out) hb);have n1_:=am (Kd.R_below (rup HO9.out) hb);have n2_:=am (impl_spoken.map_below (by(with_reducible repeat(first|refine impl_spoken.map_drewN ?_ _|refine World.ownsMap.alloc ?_ _));exact HM.out) hb);have n3_:=am (blk_below (g:=gbi) (o := .cells #[.slice A0 l0.length c0,.int .i64 a1] 44 (0,0)) (by exact bup BKI.out) hb);have n4_:=am (blk_below (g:=gba) (o := .cells #[.int .i64 a3,.int .i64 a4,.int .i64 a5] 48 (0,0)) (by exact bup BKA.out) hb);have n5_:=am (below_step bl hb);have n6_:=am (hbox);have n7_:=am ((by rw[hg];exact(below_size bl):w.heap.size≤gbx));have n8_:=am ((by rw[hg];exact Nat.ne_of_lt (blk_lt (g:=gbi) (o := .cells #[.slice A0 l0.length c0,.int .i64 a1] 44 (0,0)) (by exact bup BKI.out)):gbi≠gbx));have n9_:=am ((by rw[hg];exact Nat.ne_of_lt (blk_lt (g:=gba) (o := .cells #[.int .i64 a3,.int .i64 a4,.int .i64 a5] 48 (0,0)) (by exact bup BKA.out)):gba≠gbx));have n10_:=am ((by rw[hg];exact Nat.ne_of_lt (World.ownsMap.lt (by(with_reducible repeat(first|refine impl_spoken.map_drewN ?_ _|refine World.ownsMap.alloc ?_ _));exact HM.out)):w3.heap.size≠gbx));clear HO8 HO9 HM BKI BKA HB;have HO8:=n0_;have HO9:=n1_;have HM:=n2_;have BKI:=n3_;have BKA:=n4_;have HB:=n5_;have BKX:=n6_;have GEX:=n7_;have NXI:=n8_;have NXA:=n9_;have NXM:=n10_;clear n0_ n1_ n2_ n3_ n4_ n5_ n6_ n7_ n8_ n9_ n10_ hb hbox hg;have hcza_0:wa.cell? ⟨gbx,0,none⟩=some (.int .i64 0):=(blk_cell BKX.out 0).trans rfl;have hcza_1:wa.cell? ⟨gbx,1,none⟩=some (.int .i64 0):=(blk_cell BKX.out 1).trans rfl;have hcza_2:wa.cell? ⟨gbx,2,none⟩=some (.int .i64 0):=(blk_cell BKX.out 2).trans rfl;have hfza_0:=blk_frozen BKX.out 0;have hfza_1:=blk_frozen BKX.out 1;have hfza_2:=blk_frozen BKX.out 2)|((with_reducible refine gate_store (t:=80) (p:=12) rfl ?_);refine store_event (t:=80) (p:=12) (v:=?vo) (w1:=(((wa.setCell ⟨gbx,0,none⟩ (.int .i64 ((rd_T80 l2 x22).f0))).setCell ⟨gbx,1,none⟩ (.int .i64 ((rd_T80 l2 x22).f1))).setCell ⟨gbx,2,none⟩ (.int .i64 ((rd_T80 l2 x22).f2)))) ?hg ?ho ?hn ?hr ?_;(case ho=>rfl);(case hg=>rfl);(case hn=>rfl);(case hr=>first|(go_simp;done)|(go_simp;rfl));intro wb hw;have HO8_:Aside0 (Kd.R k97 97 wb w.heap.size (fun k_=>k_≠w3.heap.size) u8 x8):=⟨(by rw[hw];exact Kd.R_mono (Kd.R_far (p:=⟨gbx,2,none⟩) (Kd.R_far (p:=⟨gbx,1,none⟩) (Kd.R_far (p:=⟨gbx,0,none⟩) (Kd.R_types HO8.out BKX.out (by decide)) (fun _ hk=>hk.2) (.int .i64 ((rd_T80 l2 x22).f0))) (fun _ hk=>hk.2) (.int .i64 ((rd_T80 l2 x22).f1))) (fun _ hk=>hk.2) (.int .i64 ((rd_T80 l2 x22).f2))) (fun _ hk=>hk.1))⟩;have HO9_:Aside0 (Kd.R (Kd.int .i64) 3 wb w.heap.size (fun k_=>k_≠w3.heap.size) u9 x9):=⟨(by rw[hw];exact Kd.R_mono (Kd.R_far (p:=⟨gbx,2,none⟩) (Kd.R_far (p:=⟨gbx,1,none⟩) (Kd.R_far (p:=⟨gbx,0,none⟩) (Kd.R_types HO9.out BKX.out (by decide)) (fun _ hk=>hk.2) (.int .i64 ((rd_T80 l2 x22).f0))) (fun _ hk=>hk.2) (.int .i64 ((rd_T80 l2 x22).f1))) (fun _ hk=>hk.2) (.int .i64 ((rd_T80 l2 x22).f2))) (fun _ hk=>hk.1))⟩;have HM_:Aside0 (wb.ownsMap Try.prog 3 (plainElem Try.prog 3) w3.heap.size x8.length D):=⟨by rw[hw];exact impl_spoken.map_far (impl_spoken.map_far (impl_spoken.map_far HM.out NXM.out) NXM.out) NXM.out⟩;have BKI_:Aside0 (wb.heap[gbi]?=some (.cells #[.slice A0 l0.length c0,.int .i64 a1] 44 (0,0))):=⟨by rw[hw];refine blk_far ?_ NXI.out _;refine blk_far ?_ NXI.out _;refine blk_far ?_ NXI.out _;exact BKI.out⟩;have BKA_:Aside0 (wb.heap[gba]?=some (.cells #[.int .i64 a3,.int .i64 a4,.int .i64 a5] 48 (0,0))):=⟨by rw[hw];refine blk_far ?_ NXA.out _;refine blk_far ?_ NXA.out _;refine blk_far ?_ NXA.out _;exact BKA.out⟩;have BKX_:Aside0 (wb.heap[gbx]?=some (.cells #[.int .i64 ((rd_T80 l2 x22).f0),.int .i64 ((rd_T80 l2 x22).f1),.int .i64 ((rd_T80 l2 x22).f2)] 80 (0,0))):=⟨by rw[hw];refine blk_put (cs := #[.int .i64 ((rd_T80 l2 x22).f0),.int .i64 ((rd_T80 l2 x22).f1),.int .i64 0]) ?_ 2 _ rfl;refine blk_put (cs := #[.int .i64 ((rd_T80 l2 x22).f0),.int .i64 0,.int .i64 0]) ?_ 1 _ rfl;refine blk_put (cs := #[.int .i64 0,.int .i64 0,.int .i64 0]) ?_ 0 _ rfl;exact BKX.out⟩;have HB_:Aside0 (Below w.heap.size w wb):=⟨by rw[hw];exact below_set (below_set (below_set HB.out GEX.out) GEX.out) GEX.out⟩;clear hw HO8 HO9 HM BKI BKA BKX HB;have HO8:=HO8_;have HO9:=HO9_;have HM:=HM_;have BKI:=BKI_;have BKA:=BKA_;have BKX:=BKX_;have HB:=HB_;clear HO8_ HO9_ HM_ BKI_ BKA_ BKX_ HB_;(try clear hcza_0 hcza_1 hcza_2 hfza_0 hfza_1 hfza_2);have hczb_0:wb.cell? ⟨gbx,0,none⟩=some (.int .i64 ((rd_T80 l2 x22).f0)):=(blk_cell BKX.out 0).trans rfl;have hczb_1:wb.cell? ⟨gbx,1,none⟩=some (.int .i64 ((rd_T80 l2 x22).f1)):=(blk_cell BKX.out 1).trans rfl;have hczb_2:wb.cell? ⟨gbx,2,none⟩=some (.int .i64 ((rd_T80 l2 x22).f2)):=(blk_cell BKX.out 2).trans rfl;have hfzb_0:=blk_frozen BKX.out 0;have hfzb_1:=blk_frozen BKX.out 1;have hfzb_2:=blk_frozen BKX.out 2;have hczc_0:wb.cell? ⟨gba,0,none⟩=some (.int .i64 a3):=(blk_cell BKA.out 0).trans rfl;have hczc_1:wb.cell? ⟨gba,1,none⟩=some (.int .i64 a4):=(blk_cell BKA.out 1).trans rfl;have hczc_2:wb.cell? ⟨gba,2,none⟩=some (.int .i64 a5):=(blk_cell BKA.out 2).trans rfl;have hfzc_0:=blk_frozen BKA.out 0;have hfzc_1:=blk_frozen BKA.out 1;have hfzc_2:=blk_frozen BKA.out 2;have hczd_0:wb.cell? ⟨gbi,0,none⟩=some (.slice A0 l0.length c0):=(blk_cell BKI.out 0).trans rfl;have hczd_1:wb.cell? ⟨gbi,1,none⟩=some (.int .i64 a1):=(blk_cell BKI.out 1).trans rfl;have hfzd_0:=blk_frozen BKI.out 0;have hfzd_1:=blk_frozen BKI.out 1)|(at_lookup;refine wpList_lookup_own_ok_int _ rfl _ _ 123 rfl 3 3 .i64 impl_spoken.law3 Try.underlying123 Try.underlying3 (impl_spoken.zero3 _) w3.heap.size x8.length D rfl (by exact HM.out) _ _ rfl (Maps.keyOf_int_mk Try.underlying3 CW.out) ?_;intro c_ hat_ hwc_;rw[HS.out];obtain rfl:b_=c_:=(by have e_:=HV.out.symm.trans hat_;injection e_ with e_;injection e_)))
            go_quiet (fail)
            generalize hq_:wb.drewN _=wq
            have n0_:=am (Kd.R_at hq_ HO8.out)
            have n1_:=am (Kd.R_at hq_ HO9.out)
            have n2_:=am (blk_at hq_ BKI.out)
            have n3_:=am (blk_at hq_ BKA.out)
            have n4_:=am (blk_at hq_ BKX.out)
            have n5_:=am (below_at hq_ HB.out)
            have n6_:=am (impl_spoken.map_to HM.out (show wq.heap[w3.heap.size]?=wb.heap[w3.heap.size]? from by rw[← hq_];rfl))
            clear hq_ HO8 HO9 BKI BKA BKX HB HM
            have HO8:=n0_;have HO9:=n1_;have BKI:=n2_;have BKA:=n3_;have BKX:=n4_;have HB:=n5_;have HM:=n6_
            clear n0_ n1_ n2_ n3_ n4_ n5_ n6_
            (try clear hczb_0 hczb_1 hczb_2 hfzb_0 hfzb_1 hfzb_2);(try clear hczc_0 hczc_1 hczc_2 hfzc_0 hfzc_1 hfzc_2);(try clear hczd_0 hczd_1 hfzd_0 hfzd_1)
            have hczg_0:wq.cell? ⟨gbx,0,none⟩=some (.int .i64 ((rd_T80 l2 x22).f0)):=(blk_cell BKX.out 0).trans rfl;have hczg_1:wq.cell? ⟨gbx,1,none⟩=some (.int .i64 ((rd_T80 l2 x22).f1)):=(blk_cell BKX.out 1).trans rfl;have hczg_2:wq.cell? ⟨gbx,2,none⟩=some (.int .i64 ((rd_T80 l2 x22).f2)):=(blk_cell BKX.out 2).trans rfl;have hfzg_0:=blk_frozen BKX.out 0;have hfzg_1:=blk_frozen BKX.out 1;have hfzg_2:=blk_frozen BKX.out 2;have hczh_0:wq.cell? ⟨gba,0,none⟩=some (.int .i64 a3):=(blk_cell BKA.out 0).trans rfl;have hczh_1:wq.cell? ⟨gba,1,none⟩=some (.int .i64 a4):=(blk_cell BKA.out 1).trans rfl;have hczh_2:wq.cell? ⟨gba,2,none⟩=some (.int .i64 a5):=(blk_cell BKA.out 2).trans rfl;have hfzh_0:=blk_frozen BKA.out 0;have hfzh_1:=blk_frozen BKA.out 1;have hfzh_2:=blk_frozen BKA.out 2;have hczi_0:wq.cell? ⟨gbi,0,none⟩=some (.slice A0 l0.length c0):=(blk_cell BKI.out 0).trans rfl;have hczi_1:wq.cell? ⟨gbi,1,none⟩=some (.int .i64 a1):=(blk_cell BKI.out 1).trans rfl;have hfzi_0:=blk_frozen BKI.out 0;have hfzi_1:=blk_frozen BKI.out 1
            go_wp2_with (first|(at_mapUpdate;refine wpList_mapUpdate_own _ rfl _ _ _ 123 rfl 3 3 impl_spoken.law3 Try.underlying123 _ w3.heap.size x8.length D rfl (by exact HM.out) (by have:=CL.out;unfold maxLen;omega) _ _ _ rfl rfl (Maps.keyOf_int_mk Try.underlying3 CW.out) _ [] (plainElem_int Try.underlying3 CV.out) ?_;intro wc hown1 hgrow1;have n0_:=am (hown1);have n1_:=am (Kd.R_grown (ok:=fun k_=>k_≠w3.heap.size) (rup HO8.out) hgrow1 (fun k_ hk_ e_=>hk_ (by injection e_)));have n2_:=am (Kd.R_grown (ok:=fun k_=>k_≠w3.heap.size) (rup HO9.out) hgrow1 (fun k_ hk_ e_=>hk_ (by injection e_)));have n3_:=am (blk_grown (g:=gbi) (o := .cells #[.slice A0 l0.length c0,.int .i64 a1] 44 (0,0)) (by exact bup BKI.out) hgrow1 (fun e_=>absurd (by injection e_) NMI.out));have n4_:=am (blk_grown (g:=gba) (o := .cells #[.int .i64 a3,.int .i64 a4,.int .i64 a5] 48 (0,0)) (by exact bup BKA.out) hgrow1 (fun e_=>absurd (by injection e_) NMA.out));have n5_:=am (blk_grown (g:=gbx) (o := .cells #[.int .i64 ((rd_T80 l2 x22).f0),.int .i64 ((rd_T80 l2 x22).f1),.int .i64 ((rd_T80 l2 x22).f2)] 80 (0,0)) (by exact bup BKX.out) hgrow1 (fun e_=>absurd (by injection e_) (Ne.symm NXM.out)));have n6_:=am ((show Below w.heap.size w _ from bl).grown hgrow1 (below_size HB.out) (fun j hj=>by cases hj;exact BGE.out));clear HM HO8 HO9 BKI BKA BKX HB;have HM:=n0_;have HO8:=n1_;have HO9:=n2_;have BKI:=n3_;have BKA:=n4_;have BKX:=n5_;have HB:=n6_;clear n0_ n1_ n2_ n3_ n4_ n5_ n6_ hown1 hgrow1;have hcze_0:wc.cell? ⟨gbx,0,none⟩=some (.int .i64 ((rd_T80 l2 x22).f0)):=(blk_cell BKX.out 0).trans rfl;have hcze_1:wc.cell? ⟨gbx,1,none⟩=some (.int .i64 ((rd_T80 l2 x22).f1)):=(blk_cell BKX.out 1).trans rfl;have hcze_2:wc.cell? ⟨gbx,2,none⟩=some (.int .i64 ((rd_T80 l2 x22).f2)):=(blk_cell BKX.out 2).trans rfl;have hfze_0:=blk_frozen BKX.out 0;have hfze_1:=blk_frozen BKX.out 1;have hfze_2:=blk_frozen BKX.out 2;have hczf_0:wc.cell? ⟨gbi,0,none⟩=some (.slice A0 l0.length c0):=(blk_cell BKI.out 0).trans rfl;have hczf_1:wc.cell? ⟨gbi,1,none⟩=some (.int .i64 a1):=(blk_cell BKI.out 1).trans rfl;have hfzf_0:=blk_frozen BKI.out 0;have hfzf_1:=blk_frozen BKI.out 1;have p_:0≤(((rd_T80 l2 x22).f0):Int):=od;have q_:((rd_T80 l2 x22).f0)<(l0.length:Int):=CP.out;obtain⟨adp,ep,hxp⟩:=Kd.at_int HR0.out ((rd_T80 l2 x22).f0) p_ q_;cases ep;replace hxp:=(HB.out.cell (World.block_lt_of_cell? w _ hxp)).trans hxp;replace p_:=eq_true p_;replace q_:=eq_true q_)|((with_reducible refine gate_builtin (b := .append) (xs := #[.tmp 87,.tmp 97]) rfl ?_);at_builtin;refine Kd.R_append k97 (w0:=w) w.heap.size rfl (.tmp 87) (.tmp 97) 89 97 (.agg #[(.int .i64 0),(.int .i64 0),(.int .i64 0)]) 24 rfl Try.underlying89 info97 rfl (by decide) (by omega) u8 x8 (⟨rd l0 ((rd_T80 l2 x22).f0),wrap64 ((rd_T80 l2 x22).f1+a3),wrap64 ((rd_T80 l2 x22).f2+a4)⟩:S97) [.int .i64 (rd l0 ((rd_T80 l2 x22).f0)),.int .i64 (wrap64 ((rd_T80 l2 x22).f1+a3)),.int .i64 (wrap64 ((rd_T80 l2 x22).f2+a4))] (fun k_=>k_≠w3.heap.size) (fun _=>False) rfl rfl ?aP (fun _ hk=>hk.elim) ?aF ?aO ?aB ?aS ?aL ?_;(case aP=>exact k97_mkM _ _ _ (⟨rd l0 ((rd_T80 l2 x22).f0),wrap64 ((rd_T80 l2 x22).f1+a3),wrap64 ((rd_T80 l2 x22).f2+a4)⟩:S97));(case aB=>exact bl);(case aF=>exact(fun k_ hk_ e_=>by subst e_;exact absurd hk_ (Nat.not_le_of_lt (World.ownsMap.lt (by(with_reducible repeat(first|refine impl_spoken.map_drewN ?_ _|refine World.ownsMap.alloc ?_ _));exact HM.out)))));(case aO=>exact(rup HO8.out));(case aS=>exact(below_size bl));(case aL=>have:=CL.out;omega);intro va wd ho hb hg hat;have n0_:=am (Kd.R_over' (rup HO9.out) (Kd.R_typed (rup HO8.out)) (by decide) hg);have n1_:=am (blk_grown (g:=gbi) (o := .cells #[.slice (some adp) l0.length c0,.int .i64 a1] 44 (0,0)) (by exact bup BKI.out) hg (Kd.R_ne HO8.out BKI.out (by decide)));have n2_:=am (blk_grown (g:=gba) (o := .cells #[.int .i64 a3,.int .i64 a4,.int .i64 a5] 48 (0,0)) (by exact bup BKA.out) hg (Kd.R_ne HO8.out BKA.out (by decide)));have n3_:=am (blk_grown (g:=gbx) (o := .cells #[.int .i64 ((rd_T80 l2 x22).f0),.int .i64 ((rd_T80 l2 x22).f1),.int .i64 ((rd_T80 l2 x22).f2)] 80 (0,0)) (by exact bup BKX.out) hg (Kd.R_ne HO8.out BKX.out (by decide)));have n4_:=am (World.ownsMap.kept (by(with_reducible repeat(first|refine impl_spoken.map_drewN ?_ _|refine World.ownsMap.alloc ?_ _));exact HM.out) hg (fun e_=>HO8.out.1 _ e_.symm rfl));have n5_:=am (hb);have n6_:=am (ho);clear HO9 BKI BKA BKX HM HB HO8;have HO9:=n0_;have BKI:=n1_;have BKA:=n2_;have BKX:=n3_;have HM:=n4_;have HB:=n5_;have HO8:=n6_;clear n0_ n1_ n2_ n3_ n4_ n5_ n6_ ho hb hg hat))
            go_roundg k1
            case measure=>have:=HK1.out;omega
            case rel=>exact⟨x8 ++ [(⟨rd l0 ((rd_T80 l2 x22).f0),wrap64 ((rd_T80 l2 x22).f1+a3),wrap64 ((rd_T80 l2 x22).f2+a4)⟩:S97)],x9,impl_spoken.upd la ((rd_T80 l2 x22).f0) ((rd_T80 l2 x22).f1),(wrap64 (x22+1)),_,fin2,H',⟨by have:=HK1.out;omega⟩,⟨rup HO8.out⟩,⟨rup HO9.out⟩,⟨by rw[List.length_append];(with_reducible repeat(first|refine impl_spoken.map_drewN ?_ _|refine World.ownsMap.alloc ?_ _));exact HM.out⟩,⟨impl_spoken.agree_put HG.out _ _⟩,⟨by exact bup BKI.out⟩,⟨by exact bup BKA.out⟩,⟨bl⟩⟩
           ·rw[if_neg cl_] at H
            exact absurd H (by simp)
      | false =>
       rw[hso] at hs_
       have HS:=am hs_
       clear hs_
       by_cases c1:(rd_T80 l2 x22).f0≥(l0.length:Int)
       ·rw[if_pos (show impl_spoken.bad l0 a1 a3 a4 a5 la (rd_T80 l2 x22) from Or.inl c1)] at H
        by_cases cl:x9.length<17592186044416
        ·rw[if_pos cl] at H
         have CL:=am cl
         clear cl
         have H':=am H
         clear H
         have c1b:decide ((l0.length:Int)≤(rd_T80 l2 x22).f0)=true:=decide_eq_true c1
         clear c9 c10 c1
         (try clear hso)
         have p_:0≤(x22:Int):=od
         have q_:x22<(l2.length:Int):=od
         obtain⟨adh,eh,hxh_0,hxh_1,hxh_2⟩:=at_T80 HR2.out x22 p_ q_
         cases eh
         replace hxh_0:=(HB.out.cell (World.block_lt_of_cell? w _ hxh_0)).trans hxh_0
         replace hxh_1:=(HB.out.cell (World.block_lt_of_cell? w _ hxh_1)).trans hxh_1
         replace hxh_2:=(HB.out.cell (World.block_lt_of_cell? w _ hxh_2)).trans hxh_2
         replace p_:=eq_true p_
         replace q_:=eq_true q_
         go_wp2_with (first|((with_reducible refine gate_dst (N:=12) rfl ?_);refine box_event ?hg (N:=12) ?hd (cs := #[.int .i64 0,.int .i64 0,.int .i64 0]) (t:=80) ?hr ?_;(case hd=>rfl);(case hg=>rfl);(case hr=>first|(go_simp;done)|(go_simp;rfl));intro gbx hg wa hbox hb;have n0_:=am (Kd.R_below (rup HO8.out) hb);have n1_:=am (Kd.R_below (rup HO9.out) hb);have n2_:=am (impl_spoken.map_below (by(with_reducible repeat(first|refine impl_spoken.map_drewN ?_ _|refine World.ownsMap.alloc ?_ _));exact HM.out) hb);have n3_:=am (blk_below (g:=gbi) (o := .cells #[.slice A0 l0.length c0,.int .i64 a1] 44 (0,0)) (by exact bup BKI.out) hb);have n4_:=am (blk_below (g:=gba) (o := .cells #[.int .i64 a3,.int .i64 a4,.int .i64 a5] 48 (0,0)) (by exact bup BKA.out) hb);have n5_:=am (below_step bl hb);have n6_:=am (hbox);have n7_:=am ((by rw[hg];exact(below_size bl):w.heap.size≤gbx));have n8_:=am ((by rw[hg];exact Nat.ne_of_lt (blk_lt (g:=gbi) (o := .cells #[.slice A0 l0.length c0,.int .i64 a1] 44 (0,0)) (by exact bup BKI.out)):gbi≠gbx));have n9_:=am ((by rw[hg];exact Nat.ne_of_lt (blk_lt (g:=gba) (o := .cells #[.int .i64 a3,.int .i64 a4,.int .i64 a5] 48 (0,0)) (by exact bup BKA.out)):gba≠gbx));have n10_:=am ((by rw[hg];exact Nat.ne_of_lt (World.ownsMap.lt (by(with_reducible repeat(first|refine impl_spoken.map_drewN ?_ _|refine World.ownsMap.alloc ?_ _));exact HM.out)):w3.heap.size≠gbx));clear HO8 HO9 HM BKI BKA HB;have HO8:=n0_;have HO9:=n1_;have HM:=n2_;have BKI:=n3_;have BKA:=n4_;have HB:=n5_;have BKX:=n6_;have GEX:=n7_;have NXI:=n8_;have NXA:=n9_;have NXM:=n10_;clear n0_ n1_ n2_ n3_ n4_ n5_ n6_ n7_ n8_ n9_ n10_ hb hbox hg;have hcza_0:wa.cell? ⟨gbx,0,none⟩=some (.int .i64 0):=(blk_cell BKX.out 0).trans rfl;have hcza_1:wa.cell? ⟨gbx,1,none⟩=some (.int .i64 0):=(blk_cell BKX.out 1).trans rfl;have hcza_2:wa.cell? ⟨gbx,2,none⟩=some (.int .i64 0):=(blk_cell BKX.out 2).trans rfl;have hfza_0:=blk_frozen BKX.out 0;have hfza_1:=blk_frozen BKX.out 1;have hfza_2:=blk_frozen BKX.out 2)|((with_reducible refine gate_store (t:=80) (p:=12) rfl ?_);refine store_event (t:=80) (p:=12) (v:=?vo) (w1:=(((wa.setCell ⟨gbx,0,none⟩ (.int .i64 ((rd_T80 l2 x22).f0))).setCell ⟨gbx,1,none⟩ (.int .i64 ((rd_T80 l2 x22).f1))).setCell ⟨gbx,2,none⟩ (.int .i64 ((rd_T80 l2 x22).f2)))) ?hg ?ho ?hn ?hr ?_;(case ho=>rfl);(case hg=>rfl);(case hn=>rfl);(case hr=>first|(go_simp;done)|(go_simp;rfl));intro wb hw;have HO8_:Aside0 (Kd.R k97 97 wb w.heap.size (fun k_=>k_≠w3.heap.size) u8 x8):=⟨(by rw[hw];exact Kd.R_mono (Kd.R_far (p:=⟨gbx,2,none⟩) (Kd.R_far (p:=⟨gbx,1,none⟩) (Kd.R_far (p:=⟨gbx,0,none⟩) (Kd.R_types HO8.out BKX.out (by decide)) (fun _ hk=>hk.2) (.int .i64 ((rd_T80 l2 x22).f0))) (fun _ hk=>hk.2) (.int .i64 ((rd_T80 l2 x22).f1))) (fun _ hk=>hk.2) (.int .i64 ((rd_T80 l2 x22).f2))) (fun _ hk=>hk.1))⟩;have HO9_:Aside0 (Kd.R (Kd.int .i64) 3 wb w.heap.size (fun k_=>k_≠w3.heap.size) u9 x9):=⟨(by rw[hw];exact Kd.R_mono (Kd.R_far (p:=⟨gbx,2,none⟩) (Kd.R_far (p:=⟨gbx,1,none⟩) (Kd.R_far (p:=⟨gbx,0,none⟩) (Kd.R_types HO9.out BKX.out (by decide)) (fun _ hk=>hk.2) (.int .i64 ((rd_T80 l2 x22).f0))) (fun _ hk=>hk.2) (.int .i64 ((rd_T80 l2 x22).f1))) (fun _ hk=>hk.2) (.int .i64 ((rd_T80 l2 x22).f2))) (fun _ hk=>hk.1))⟩;have HM_:Aside0 (wb.ownsMap Try.prog 3 (plainElem Try.prog 3) w3.heap.size x8.length D):=⟨by rw[hw];exact impl_spoken.map_far (impl_spoken.map_far (impl_spoken.map_far HM.out NXM.out) NXM.out) NXM.out⟩;have BKI_:Aside0 (wb.heap[gbi]?=some (.cells #[.slice A0 l0.length c0,.int .i64 a1] 44 (0,0))):=⟨by rw[hw];refine blk_far ?_ NXI.out _;refine blk_far ?_ NXI.out _;refine blk_far ?_ NXI.out _;exact BKI.out⟩;have BKA_:Aside0 (wb.heap[gba]?=some (.cells #[.int .i64 a3,.int .i64 a4,.int .i64 a5] 48 (0,0))):=⟨by rw[hw];refine blk_far ?_ NXA.out _;refine blk_far ?_ NXA.out _;refine blk_far ?_ NXA.out _;exact BKA.out⟩;have BKX_:Aside0 (wb.heap[gbx]?=some (.cells #[.int .i64 ((rd_T80 l2 x22).f0),.int .i64 ((rd_T80 l2 x22).f1),.int .i64 ((rd_T80 l2 x22).f2)] 80 (0,0))):=⟨by rw[hw];refine blk_put (cs := #[.int .i64 ((rd_T80 l2 x22).f0),.int .i64 ((rd_T80 l2 x22).f1),.int .i64 0]) ?_ 2 _ rfl;refine blk_put (cs := #[.int .i64 ((rd_T80 l2 x22).f0),.int .i64 0,.int .i64 0]) ?_ 1 _ rfl;refine blk_put (cs := #[.int .i64 0,.int .i64 0,.int .i64 0]) ?_ 0 _ rfl;exact BKX.out⟩;have HB_:Aside0 (Below w.heap.size w wb):=⟨by rw[hw];exact below_set (below_set (below_set HB.out GEX.out) GEX.out) GEX.out⟩;clear hw HO8 HO9 HM BKI BKA BKX HB;have HO8:=HO8_;have HO9:=HO9_;have HM:=HM_;have BKI:=BKI_;have BKA:=BKA_;have BKX:=BKX_;have HB:=HB_;clear HO8_ HO9_ HM_ BKI_ BKA_ BKX_ HB_;(try clear hcza_0 hcza_1 hcza_2 hfza_0 hfza_1 hfza_2);have hczb_0:wb.cell? ⟨gbx,0,none⟩=some (.int .i64 ((rd_T80 l2 x22).f0)):=(blk_cell BKX.out 0).trans rfl;have hczb_1:wb.cell? ⟨gbx,1,none⟩=some (.int .i64 ((rd_T80 l2 x22).f1)):=(blk_cell BKX.out 1).trans rfl;have hczb_2:wb.cell? ⟨gbx,2,none⟩=some (.int .i64 ((rd_T80 l2 x22).f2)):=(blk_cell BKX.out 2).trans rfl;have hfzb_0:=blk_frozen BKX.out 0;have hfzb_1:=blk_frozen BKX.out 1;have hfzb_2:=blk_frozen BKX.out 2;have hczc_0:wb.cell? ⟨gba,0,none⟩=some (.int .i64 a3):=(blk_cell BKA.out 0).trans rfl;have hczc_1:wb.cell? ⟨gba,1,none⟩=some (.int .i64 a4):=(blk_cell BKA.out 1).trans rfl;have hczc_2:wb.cell? ⟨gba,2,none⟩=some (.int .i64 a5):=(blk_cell BKA.out 2).trans rfl;have hfzc_0:=blk_frozen BKA.out 0;have hfzc_1:=blk_frozen BKA.out 1;have hfzc_2:=blk_frozen BKA.out 2;have hczd_0:wb.cell? ⟨gbi,0,none⟩=some (.slice A0 l0.length c0):=(blk_cell BKI.out 0).trans rfl;have hczd_1:wb.cell? ⟨gbi,1,none⟩=some (.int .i64 a1):=(blk_cell BKI.out 1).trans rfl;have hfzd_0:=blk_frozen BKI.out 0;have hfzd_1:=blk_frozen BKI.out 1)|(at_lookup;refine wpList_lookup_own_ok_int _ rfl _ _ 123 rfl 3 3 .i64 impl_spoken.law3 Try.underlying123 Try.underlying3 (impl_spoken.zero3 _) w3.heap.size x8.length D rfl (by exact HM.out) _ _ rfl (Maps.keyOf_int_mk Try.underlying3 CW.out) ?_;intro c_ hat_ hwc_;rw[HS.out]))
         go_quiet (fail)
         generalize hq_:wb.drewN _=wq
         have n0_:=am (Kd.R_at hq_ HO8.out)
         have n1_:=am (Kd.R_at hq_ HO9.out)
         have n2_:=am (blk_at hq_ BKI.out)
         have n3_:=am (blk_at hq_ BKA.out)
         have n4_:=am (blk_at hq_ BKX.out)
         have n5_:=am (below_at hq_ HB.out)
         have n6_:=am (impl_spoken.map_to HM.out (show wq.heap[w3.heap.size]?=wb.heap[w3.heap.size]? from by rw[← hq_];rfl))
         clear hq_ HO8 HO9 BKI BKA BKX HB HM
         have HO8:=n0_;have HO9:=n1_;have BKI:=n2_;have BKA:=n3_;have BKX:=n4_;have HB:=n5_;have HM:=n6_
         clear n0_ n1_ n2_ n3_ n4_ n5_ n6_
         (try clear hczb_0 hczb_1 hczb_2 hfzb_0 hfzb_1 hfzb_2);(try clear hczc_0 hczc_1 hczc_2 hfzc_0 hfzc_1 hfzc_2);(try clear hczd_0 hczd_1 hfzd_0 hfzd_1)
         have hczg_0:wq.cell? ⟨gbx,0,none⟩=some (.int .i64 ((rd_T80 l2 x22).f0)):=(blk_cell BKX.out 0).trans rfl;have hczg_1:wq.cell? ⟨gbx,1,none⟩=some (.int .i64 ((rd_T80 l2 x22).f1)):=(blk_cell BKX.out 1).trans rfl;have hczg_2:wq.cell? ⟨gbx,2,none⟩=some (.int .i64 ((rd_T80 l2 x22).f2)):=(blk_cell BKX.out 2).trans rfl;have hfzg_0:=blk_frozen BKX.out 0;have hfzg_1:=blk_frozen BKX.out 1;have hfzg_2:=blk_frozen BKX.out 2;have hczh_0:wq.cell? ⟨gba,0,none⟩=some (.int .i64 a3):=(blk_cell BKA.out 0).trans rfl;have hczh_1:wq.cell? ⟨gba,1,none⟩=some (.int .i64 a4):=(blk_cell BKA.out 1).trans rfl;have hczh_2:wq.cell? ⟨gba,2,none⟩=some (.int .i64 a5):=(blk_cell BKA.out 2).trans rfl;have hfzh_0:=blk_frozen BKA.out 0;have hfzh_1:=blk_frozen BKA.out 1;have hfzh_2:=blk_frozen BKA.out 2;have hczi_0:wq.cell? ⟨gbi,0,none⟩=some (.slice A0 l0.length c0):=(blk_cell BKI.out 0).trans rfl;have hczi_1:wq.cell? ⟨gbi,1,none⟩=some (.int .i64 a1):=(blk_cell BKI.out 1).trans rfl;have hfzi_0:=blk_frozen BKI.out 0;have hfzi_1:=blk_frozen BKI.out 1
         go_wp2_with (first|((with_reducible refine gate_builtin (b := .append) (xs := #[.tmp 78,.tmp 80]) rfl ?_);at_builtin;refine Kd.R_append (Kd.int .i64) (w0:=w) w.heap.size rfl (.tmp 78) (.tmp 80) 34 3 (.int .i64 0) 8 rfl Try.underlying34 info3 rfl (by decide) (by omega) u9 x9 x22 [.int .i64 x22] (fun k_=>k_≠w3.heap.size) (fun _=>False) rfl (by first|(go_simp;done)|(go_simp;rfl)) ?aP (fun _ hk=>hk.elim) ?aF ?aO ?aB ?aS ?aL ?_;(case aP=>exact rfl);(case aB=>exact bl);(case aF=>exact(fun k_ hk_ e_=>by subst e_;exact absurd hk_ (Nat.not_le_of_lt (World.ownsMap.lt (by(with_reducible repeat(first|refine impl_spoken.map_drewN ?_ _|refine World.ownsMap.alloc ?_ _));exact HM.out)))));(case aO=>exact(rup HO9.out));(case aS=>exact(below_size bl));(case aL=>have:=CL.out;omega);intro va wc ho hb hg hat;have n0_:=am (Kd.R_over' (rup HO8.out) (Kd.R_typed (rup HO9.out)) (by decide) hg);have n1_:=am (blk_grown (g:=gbi) (o := .cells #[.slice A0 l0.length c0,.int .i64 a1] 44 (0,0)) (by exact bup BKI.out) hg (Kd.R_ne HO9.out BKI.out (by decide)));have n2_:=am (blk_grown (g:=gba) (o := .cells #[.int .i64 a3,.int .i64 a4,.int .i64 a5] 48 (0,0)) (by exact bup BKA.out) hg (Kd.R_ne HO9.out BKA.out (by decide)));have n3_:=am (blk_grown (g:=gbx) (o := .cells #[.int .i64 ((rd_T80 l2 x22).f0),.int .i64 ((rd_T80 l2 x22).f1),.int .i64 ((rd_T80 l2 x22).f2)] 80 (0,0)) (by exact bup BKX.out) hg (Kd.R_ne HO9.out BKX.out (by decide)));have n4_:=am (World.ownsMap.kept (by(with_reducible repeat(first|refine impl_spoken.map_drewN ?_ _|refine World.ownsMap.alloc ?_ _));exact HM.out) hg (fun e_=>HO9.out.1 _ e_.symm rfl));have n5_:=am (hb);have n6_:=am (ho);clear HO8 BKI BKA BKX HM HB HO9;have HO8:=n0_;have BKI:=n1_;have BKA:=n2_;have BKX:=n3_;have HM:=n4_;have HB:=n5_;have HO9:=n6_;clear n0_ n1_ n2_ n3_ n4_ n5_ n6_ ho hb hg hat))
         go_roundg k1
         case measure=>have:=HK1.out;omega
         case rel=>exact⟨x8,x9 ++ [x22],la,(wrap64 (x22+1)),D,fin2,H',⟨by have:=HK1.out;omega⟩,⟨rup HO8.out⟩,⟨rup HO9.out⟩,⟨by(with_reducible repeat(first|refine impl_spoken.map_drewN ?_ _|refine World.ownsMap.alloc ?_ _));exact HM.out⟩,HG,⟨by exact bup BKI.out⟩,⟨by exact bup BKA.out⟩,⟨bl⟩⟩
        ·rw[if_neg cl] at H
         exact absurd H (by simp)
       ·by_cases c2:wrap64 ((rd_T80 l2 x22).f2 - (rd_T80 l2 x22).f1)<a5
        ·rw[if_pos (show impl_spoken.bad l0 a1 a3 a4 a5 la (rd_T80 l2 x22) from Or.inr (Or.inl c2))] at H
         by_cases cl:x9.length<17592186044416
         ·rw[if_pos cl] at H
          have CL:=am cl
          clear cl
          have H':=am H
          clear H
          have c1b:decide ((l0.length:Int)≤(rd_T80 l2 x22).f0)=false:=decide_eq_false c1
          have c2b:decide (wrap64 ((rd_T80 l2 x22).f2 - (rd_T80 l2 x22).f1)<a5)=true:=decide_eq_true c2
          clear c9 c10 c1 c2
          (try clear hso)
          have p_:0≤(x22:Int):=od
          have q_:x22<(l2.length:Int):=od
          obtain⟨adh,eh,hxh_0,hxh_1,hxh_2⟩:=at_T80 HR2.out x22 p_ q_
          cases eh
          replace hxh_0:=(HB.out.cell (World.block_lt_of_cell? w _ hxh_0)).trans hxh_0
          replace hxh_1:=(HB.out.cell (World.block_lt_of_cell? w _ hxh_1)).trans hxh_1
          replace hxh_2:=(HB.out.cell (World.block_lt_of_cell? w _ hxh_2)).trans hxh_2
          replace p_:=eq_true p_
          replace q_:=eq_true q_
          go_wp2_with (first|((with_reducible refine gate_dst (N:=12) rfl ?_);refine box_event ?hg (N:=12) ?hd (cs := #[.int .i64 0,.int .i64 0,.int .i64 0]) (t:=80) ?hr ?_;(case hd=>rfl);(case hg=>rfl);(case hr=>first|(go_simp;done)|(go_simp;rfl));intro gbx hg wa hbox hb;have n0_:=am (Kd.R_below (rup HO8.out) hb);have n1_:=am (Kd.R_below (rup HO9.out) hb);have n2_:=am (impl_spoken.map_below (by(with_reducible repeat(first|refine impl_spoken.map_drewN ?_ _|refine World.ownsMap.alloc ?_ _));exact HM.out) hb);have n3_:=am (blk_below (g:=gbi) (o := .cells #[.slice A0 l0.length c0,.int .i64 a1] 44 (0,0)) (by exact bup BKI.out) hb);have n4_:=am (blk_below (g:=gba) (o := .cells #[.int .i64 a3,.int .i64 a4,.int .i64 a5] 48 (0,0)) (by exact bup BKA.out) hb);have n5_:=am (below_step bl hb);have n6_:=am (hbox);have n7_:=am ((by rw[hg];exact(below_size bl):w.heap.size≤gbx));have n8_:=am ((by rw[hg];exact Nat.ne_of_lt (blk_lt (g:=gbi) (o := .cells #[.slice A0 l0.length c0,.int .i64 a1] 44 (0,0)) (by exact bup BKI.out)):gbi≠gbx));have n9_:=am ((by rw[hg];exact Nat.ne_of_lt (blk_lt (g:=gba) (o := .cells #[.int .i64 a3,.int .i64 a4,.int .i64 a5] 48 (0,0)) (by exact bup BKA.out)):gba≠gbx));have n10_:=am ((by rw[hg];exact Nat.ne_of_lt (World.ownsMap.lt (by(with_reducible repeat(first|refine impl_spoken.map_drewN ?_ _|refine World.ownsMap.alloc ?_ _));exact HM.out)):w3.heap.size≠gbx));clear HO8 HO9 HM BKI BKA HB;have HO8:=n0_;have HO9:=n1_;have HM:=n2_;have BKI:=n3_;have BKA:=n4_;have HB:=n5_;have BKX:=n6_;have GEX:=n7_;have NXI:=n8_;have NXA:=n9_;have NXM:=n10_;clear n0_ n1_ n2_ n3_ n4_ n5_ n6_ n7_ n8_ n9_ n10_ hb hbox hg;have hcza_0:wa.cell? ⟨gbx,0,none⟩=some (.int .i64 0):=(blk_cell BKX.out 0).trans rfl;have hcza_1:wa.cell? ⟨gbx,1,none⟩=some (.int .i64 0):=(blk_cell BKX.out 1).trans rfl;have hcza_2:wa.cell? ⟨gbx,2,none⟩=some (.int .i64 0):=(blk_cell BKX.out 2).trans rfl;have hfza_0:=blk_frozen BKX.out 0;have hfza_1:=blk_frozen BKX.out 1;have hfza_2:=blk_frozen BKX.out 2)|((with_reducible refine gate_store (t:=80) (p:=12) rfl ?_);refine store_event (t:=80) (p:=12) (v:=?vo) (w1:=(((wa.setCell ⟨gbx,0,none⟩ (.int .i64 ((rd_T80 l2 x22).f0))).setCell ⟨gbx,1,none⟩ (.int .i64 ((rd_T80 l2 x22).f1))).setCell ⟨gbx,2,none⟩ (.int .i64 ((rd_T80 l2 x22).f2)))) ?hg ?ho ?hn ?hr ?_;(case ho=>rfl);(case hg=>rfl);(case hn=>rfl);(case hr=>first|(go_simp;done)|(go_simp;rfl));intro wb hw;have HO8_:Aside0 (Kd.R k97 97 wb w.heap.size (fun k_=>k_≠w3.heap.size) u8 x8):=⟨(by rw[hw];exact Kd.R_mono (Kd.R_far (p:=⟨gbx,2,none⟩) (Kd.R_far (p:=⟨gbx,1,none⟩) (Kd.R_far (p:=⟨gbx,0,none⟩) (Kd.R_types HO8.out BKX.out (by decide)) (fun _ hk=>hk.2) (.int .i64 ((rd_T80 l2 x22).f0))) (fun _ hk=>hk.2) (.int .i64 ((rd_T80 l2 x22).f1))) (fun _ hk=>hk.2) (.int .i64 ((rd_T80 l2 x22).f2))) (fun _ hk=>hk.1))⟩;have HO9_:Aside0 (Kd.R (Kd.int .i64) 3 wb w.heap.size (fun k_=>k_≠w3.heap.size) u9 x9):=⟨(by rw[hw];exact Kd.R_mono (Kd.R_far (p:=⟨gbx,2,none⟩) (Kd.R_far (p:=⟨gbx,1,none⟩) (Kd.R_far (p:=⟨gbx,0,none⟩) (Kd.R_types HO9.out BKX.out (by decide)) (fun _ hk=>hk.2) (.int .i64 ((rd_T80 l2 x22).f0))) (fun _ hk=>hk.2) (.int .i64 ((rd_T80 l2 x22).f1))) (fun _ hk=>hk.2) (.int .i64 ((rd_T80 l2 x22).f2))) (fun _ hk=>hk.1))⟩;have HM_:Aside0 (wb.ownsMap Try.prog 3 (plainElem Try.prog 3) w3.heap.size x8.length D):=⟨by rw[hw];exact impl_spoken.map_far (impl_spoken.map_far (impl_spoken.map_far HM.out NXM.out) NXM.out) NXM.out⟩;have BKI_:Aside0 (wb.heap[gbi]?=some (.cells #[.slice A0 l0.length c0,.int .i64 a1] 44 (0,0))):=⟨by rw[hw];refine blk_far ?_ NXI.out _;refine blk_far ?_ NXI.out _;refine blk_far ?_ NXI.out _;exact BKI.out⟩;have BKA_:Aside0 (wb.heap[gba]?=some (.cells #[.int .i64 a3,.int .i64 a4,.int .i64 a5] 48 (0,0))):=⟨by rw[hw];refine blk_far ?_ NXA.out _;refine blk_far ?_ NXA.out _;refine blk_far ?_ NXA.out _;exact BKA.out⟩;have BKX_:Aside0 (wb.heap[gbx]?=some (.cells #[.int .i64 ((rd_T80 l2 x22).f0),.int .i64 ((rd_T80 l2 x22).f1),.int .i64 ((rd_T80 l2 x22).f2)] 80 (0,0))):=⟨by rw[hw];refine blk_put (cs := #[.int .i64 ((rd_T80 l2 x22).f0),.int .i64 ((rd_T80 l2 x22).f1),.int .i64 0]) ?_ 2 _ rfl;refine blk_put (cs := #[.int .i64 ((rd_T80 l2 x22).f0),.int .i64 0,.int .i64 0]) ?_ 1 _ rfl;refine blk_put (cs := #[.int .i64 0,.int .i64 0,.int .i64 0]) ?_ 0 _ rfl;exact BKX.out⟩;have HB_:Aside0 (Below w.heap.size w wb):=⟨by rw[hw];exact below_set (below_set (below_set HB.out GEX.out) GEX.out) GEX.out⟩;clear hw HO8 HO9 HM BKI BKA BKX HB;have HO8:=HO8_;have HO9:=HO9_;have HM:=HM_;have BKI:=BKI_;have BKA:=BKA_;have BKX:=BKX_;have HB:=HB_;clear HO8_ HO9_ HM_ BKI_ BKA_ BKX_ HB_;(try clear hcza_0 hcza_1 hcza_2 hfza_0 hfza_1 hfza_2);have hczb_0:wb.cell? ⟨gbx,0,none⟩=some (.int .i64 ((rd_T80 l2 x22).f0)):=(blk_cell BKX.out 0).trans rfl;have hczb_1:wb.cell? ⟨gbx,1,none⟩=some (.int .i64 ((rd_T80 l2 x22).f1)):=(blk_cell BKX.out 1).trans rfl;have hczb_2:wb.cell? ⟨gbx,2,none⟩=some (.int .i64 ((rd_T80 l2 x22).f2)):=(blk_cell BKX.out 2).trans rfl;have hfzb_0:=blk_frozen BKX.out 0;have hfzb_1:=blk_frozen BKX.out 1;have hfzb_2:=blk_frozen BKX.out 2;have hczc_0:wb.cell? ⟨gba,0,none⟩=some (.int .i64 a3):=(blk_cell BKA.out 0).trans rfl;have hczc_1:wb.cell? ⟨gba,1,none⟩=some (.int .i64 a4):=(blk_cell BKA.out 1).trans rfl;have hczc_2:wb.cell? ⟨gba,2,none⟩=some (.int .i64 a5):=(blk_cell BKA.out 2).trans rfl;have hfzc_0:=blk_frozen BKA.out 0;have hfzc_1:=blk_frozen BKA.out 1;have hfzc_2:=blk_frozen BKA.out 2;have hczd_0:wb.cell? ⟨gbi,0,none⟩=some (.slice A0 l0.length c0):=(blk_cell BKI.out 0).trans rfl;have hczd_1:wb.cell? ⟨gbi,1,none⟩=some (.int .i64 a1):=(blk_cell BKI.out 1).trans rfl;have hfzd_0:=blk_frozen BKI.out 0;have hfzd_1:=blk_frozen BKI.out 1)|(at_lookup;refine wpList_lookup_own_ok_int _ rfl _ _ 123 rfl 3 3 .i64 impl_spoken.law3 Try.underlying123 Try.underlying3 (impl_spoken.zero3 _) w3.heap.size x8.length D rfl (by exact HM.out) _ _ rfl (Maps.keyOf_int_mk Try.underlying3 CW.out) ?_;intro c_ hat_ hwc_;rw[HS.out]))
          go_quiet (fail)
          generalize hq_:wb.drewN _=wq
          have n0_:=am (Kd.R_at hq_ HO8.out)
          have n1_:=am (Kd.R_at hq_ HO9.out)
          have n2_:=am (blk_at hq_ BKI.out)
          have n3_:=am (blk_at hq_ BKA.out)
          have n4_:=am (blk_at hq_ BKX.out)
          have n5_:=am (below_at hq_ HB.out)
          have n6_:=am (impl_spoken.map_to HM.out (show wq.heap[w3.heap.size]?=wb.heap[w3.heap.size]? from by rw[← hq_];rfl))
          clear hq_ HO8 HO9 BKI BKA BKX HB HM
          have HO8:=n0_;have HO9:=n1_;have BKI:=n2_;have BKA:=n3_;have BKX:=n4_;have HB:=n5_;have HM:=n6_
          clear n0_ n1_ n2_ n3_ n4_ n5_ n6_
          (try clear hczb_0 hczb_1 hczb_2 hfzb_0 hfzb_1 hfzb_2);(try clear hczc_0 hczc_1 hczc_2 hfzc_0 hfzc_1 hfzc_2);(try clear hczd_0 hczd_1 hfzd_0 hfzd_1)
          have hczg_0:wq.cell? ⟨gbx,0,none⟩=some (.int .i64 ((rd_T80 l2 x22).f0)):=(blk_cell BKX.out 0).trans rfl;have hczg_1:wq.cell? ⟨gbx,1,none⟩=some (.int .i64 ((rd_T80 l2 x22).f1)):=(blk_cell BKX.out 1).trans rfl;have hczg_2:wq.cell? ⟨gbx,2,none⟩=some (.int .i64 ((rd_T80 l2 x22).f2)):=(blk_cell BKX.out 2).trans rfl;have hfzg_0:=blk_frozen BKX.out 0;have hfzg_1:=blk_frozen BKX.out 1;have hfzg_2:=blk_frozen BKX.out 2;have hczh_0:wq.cell? ⟨gba,0,none⟩=some (.int .i64 a3):=(blk_cell BKA.out 0).trans rfl;have hczh_1:wq.cell? ⟨gba,1,none⟩=some (.int .i64 a4):=(blk_cell BKA.out 1).trans rfl;have hczh_2:wq.cell? ⟨gba,2,none⟩=some (.int .i64 a5):=(blk_cell BKA.out 2).trans rfl;have hfzh_0:=blk_frozen BKA.out 0;have hfzh_1:=blk_frozen BKA.out 1;have hfzh_2:=blk_frozen BKA.out 2;have hczi_0:wq.cell? ⟨gbi,0,none⟩=some (.slice A0 l0.length c0):=(blk_cell BKI.out 0).trans rfl;have hczi_1:wq.cell? ⟨gbi,1,none⟩=some (.int .i64 a1):=(blk_cell BKI.out 1).trans rfl;have hfzi_0:=blk_frozen BKI.out 0;have hfzi_1:=blk_frozen BKI.out 1
          go_wp2_with (first|((with_reducible refine gate_builtin (b := .append) (xs := #[.tmp 78,.tmp 80]) rfl ?_);at_builtin;refine Kd.R_append (Kd.int .i64) (w0:=w) w.heap.size rfl (.tmp 78) (.tmp 80) 34 3 (.int .i64 0) 8 rfl Try.underlying34 info3 rfl (by decide) (by omega) u9 x9 x22 [.int .i64 x22] (fun k_=>k_≠w3.heap.size) (fun _=>False) rfl (by first|(go_simp;done)|(go_simp;rfl)) ?aP (fun _ hk=>hk.elim) ?aF ?aO ?aB ?aS ?aL ?_;(case aP=>exact rfl);(case aB=>exact bl);(case aF=>exact(fun k_ hk_ e_=>by subst e_;exact absurd hk_ (Nat.not_le_of_lt (World.ownsMap.lt (by(with_reducible repeat(first|refine impl_spoken.map_drewN ?_ _|refine World.ownsMap.alloc ?_ _));exact HM.out)))));(case aO=>exact(rup HO9.out));(case aS=>exact(below_size bl));(case aL=>have:=CL.out;omega);intro va wc ho hb hg hat;have n0_:=am (Kd.R_over' (rup HO8.out) (Kd.R_typed (rup HO9.out)) (by decide) hg);have n1_:=am (blk_grown (g:=gbi) (o := .cells #[.slice A0 l0.length c0,.int .i64 a1] 44 (0,0)) (by exact bup BKI.out) hg (Kd.R_ne HO9.out BKI.out (by decide)));have n2_:=am (blk_grown (g:=gba) (o := .cells #[.int .i64 a3,.int .i64 a4,.int .i64 a5] 48 (0,0)) (by exact bup BKA.out) hg (Kd.R_ne HO9.out BKA.out (by decide)));have n3_:=am (blk_grown (g:=gbx) (o := .cells #[.int .i64 ((rd_T80 l2 x22).f0),.int .i64 ((rd_T80 l2 x22).f1),.int .i64 ((rd_T80 l2 x22).f2)] 80 (0,0)) (by exact bup BKX.out) hg (Kd.R_ne HO9.out BKX.out (by decide)));have n4_:=am (World.ownsMap.kept (by(with_reducible repeat(first|refine impl_spoken.map_drewN ?_ _|refine World.ownsMap.alloc ?_ _));exact HM.out) hg (fun e_=>HO9.out.1 _ e_.symm rfl));have n5_:=am (hb);have n6_:=am (ho);clear HO8 BKI BKA BKX HM HB HO9;have HO8:=n0_;have BKI:=n1_;have BKA:=n2_;have BKX:=n3_;have HM:=n4_;have HB:=n5_;have HO9:=n6_;clear n0_ n1_ n2_ n3_ n4_ n5_ n6_ ho hb hg hat))
          go_roundg k1
          case measure=>have:=HK1.out;omega
          case rel=>exact⟨x8,x9 ++ [x22],la,(wrap64 (x22+1)),D,fin2,H',⟨by have:=HK1.out;omega⟩,⟨rup HO8.out⟩,⟨rup HO9.out⟩,⟨by(with_reducible repeat(first|refine impl_spoken.map_drewN ?_ _|refine World.ownsMap.alloc ?_ _));exact HM.out⟩,HG,⟨by exact bup BKI.out⟩,⟨by exact bup BKA.out⟩,⟨bl⟩⟩
         ·rw[if_neg cl] at H
          exact absurd H (by simp)
        ·by_cases c4:wrap64 ((rd_T80 l2 x22).f1+a3)≥wrap64 ((rd_T80 l2 x22).f2+a4)
         ·rw[if_pos (show impl_spoken.bad l0 a1 a3 a4 a5 la (rd_T80 l2 x22) from Or.inr (Or.inr (Or.inr c4)))] at H
          by_cases cl:x9.length<17592186044416
          ·rw[if_pos cl] at H
           have CL:=am cl
           clear cl
           have H':=am H
           clear H
           have c1b:decide ((l0.length:Int)≤(rd_T80 l2 x22).f0)=false:=decide_eq_false c1
           have c2b:decide (wrap64 ((rd_T80 l2 x22).f2 - (rd_T80 l2 x22).f1)<a5)=false:=decide_eq_false c2
           have c4b:decide (wrap64 ((rd_T80 l2 x22).f2+a4)≤wrap64 ((rd_T80 l2 x22).f1+a3))=true:=decide_eq_true c4
           clear c9 c10 c1 c2 c4
           (try clear hso)
           have p_:0≤(x22:Int):=od
           have q_:x22<(l2.length:Int):=od
           obtain⟨adh,eh,hxh_0,hxh_1,hxh_2⟩:=at_T80 HR2.out x22 p_ q_
           cases eh
           replace hxh_0:=(HB.out.cell (World.block_lt_of_cell? w _ hxh_0)).trans hxh_0
           replace hxh_1:=(HB.out.cell (World.block_lt_of_cell? w _ hxh_1)).trans hxh_1
           replace hxh_2:=(HB.out.cell (World.block_lt_of_cell? w _ hxh_2)).trans hxh_2
           replace p_:=eq_true p_
           replace q_:=eq_true q_
           go_wp2_with (first|((with_reducible refine gate_dst (N:=12) rfl ?_);refine box_event ?hg (N:=12) ?hd (cs := #[.int .i64 0,.int .i64 0,.int .i64 0]) (t:=80) ?hr ?_;(case hd=>rfl);(case hg=>rfl);(case hr=>first|(go_simp;done)|(go_simp;rfl));intro gbx hg wa hbox hb;have n0_:=am (Kd.R_below (rup HO8.out) hb);have n1_:=am (Kd.R_below (rup HO9.out) hb);have n2_:=am (impl_spoken.map_below (by(with_reducible repeat(first|refine impl_spoken.map_drewN ?_ _|refine World.ownsMap.alloc ?_ _));exact HM.out) hb);have n3_:=am (blk_below (g:=gbi) (o := .cells #[.slice A0 l0.length c0,.int .i64 a1] 44 (0,0)) (by exact bup BKI.out) hb);have n4_:=am (blk_below (g:=gba) (o := .cells #[.int .i64 a3,.int .i64 a4,.int .i64 a5] 48 (0,0)) (by exact bup BKA.out) hb);have n5_:=am (below_step bl hb);have n6_:=am (hbox);have n7_:=am ((by rw[hg];exact(below_size bl):w.heap.size≤gbx));have n8_:=am ((by rw[hg];exact Nat.ne_of_lt (blk_lt (g:=gbi) (o := .cells #[.slice A0 l0.length c0,.int .i64 a1] 44 (0,0)) (by exact bup BKI.out)):gbi≠gbx));have n9_:=am ((by rw[hg];exact Nat.ne_of_lt (blk_lt (g:=gba) (o := .cells #[.int .i64 a3,.int .i64 a4,.int .i64 a5] 48 (0,0)) (by exact bup BKA.out)):gba≠gbx));have n10_:=am ((by rw[hg];exact Nat.ne_of_lt (World.ownsMap.lt (by(with_reducible repeat(first|refine impl_spoken.map_drewN ?_ _|refine World.ownsMap.alloc ?_ _));exact HM.out)):w3.heap.size≠gbx));clear HO8 HO9 HM BKI BKA HB;have HO8:=n0_;have HO9:=n1_;have HM:=n2_;have BKI:=n3_;have BKA:=n4_;have HB:=n5_;have BKX:=n6_;have GEX:=n7_;have NXI:=n8_;have NXA:=n9_;have NXM:=n10_;clear n0_ n1_ n2_ n3_ n4_ n5_ n6_ n7_ n8_ n9_ n10_ hb hbox hg;have hcza_0:wa.cell? ⟨gbx,0,none⟩=some (.int .i64 0):=(blk_cell BKX.out 0).trans rfl;have hcza_1:wa.cell? ⟨gbx,1,none⟩=some (.int .i64 0):=(blk_cell BKX.out 1).trans rfl;have hcza_2:wa.cell? ⟨gbx,2,none⟩=some (.int .i64 0):=(blk_cell BKX.out 2).trans rfl;have hfza_0:=blk_frozen BKX.out 0;have hfza_1:=blk_frozen BKX.out 1;have hfza_2:=blk_frozen BKX.out 2)|((with_reducible refine gate_store (t:=80) (p:=12) rfl ?_);refine store_event (t:=80) (p:=12) (v:=?vo) (w1:=(((wa.setCell ⟨gbx,0,none⟩ (.int .i64 ((rd_T80 l2 x22).f0))).setCell ⟨gbx,1,none⟩ (.int .i64 ((rd_T80 l2 x22).f1))).setCell ⟨gbx,2,none⟩ (.int .i64 ((rd_T80 l2 x22).f2)))) ?hg ?ho ?hn ?hr ?_;(case ho=>rfl);(case hg=>rfl);(case hn=>rfl);(case hr=>first|(go_simp;done)|(go_simp;rfl));intro wb hw;have HO8_:Aside0 (Kd.R k97 97 wb w.heap.size (fun k_=>k_≠w3.heap.size) u8 x8):=⟨(by rw[hw];exact Kd.R_mono (Kd.R_far (p:=⟨gbx,2,none⟩) (Kd.R_far (p:=⟨gbx,1,none⟩) (Kd.R_far (p:=⟨gbx,0,none⟩) (Kd.R_types HO8.out BKX.out (by decide)) (fun _ hk=>hk.2) (.int .i64 ((rd_T80 l2 x22).f0))) (fun _ hk=>hk.2) (.int .i64 ((rd_T80 l2 x22).f1))) (fun _ hk=>hk.2) (.int .i64 ((rd_T80 l2 x22).f2))) (fun _ hk=>hk.1))⟩;have HO9_:Aside0 (Kd.R (Kd.int .i64) 3 wb w.heap.size (fun k_=>k_≠w3.heap.size) u9 x9):=⟨(by rw[hw];exact Kd.R_mono (Kd.R_far (p:=⟨gbx,2,none⟩) (Kd.R_far (p:=⟨gbx,1,none⟩) (Kd.R_far (p:=⟨gbx,0,none⟩) (Kd.R_types HO9.out BKX.out (by decide)) (fun _ hk=>hk.2) (.int .i64 ((rd_T80 l2 x22).f0))) (fun _ hk=>hk.2) (.int .i64 ((rd_T80 l2 x22).f1))) (fun _ hk=>hk.2) (.int .i64 ((rd_T80 l2 x22).f2))) (fun _ hk=>hk.1))⟩;have HM_:Aside0 (wb.ownsMap Try.prog 3 (plainElem Try.prog 3) w3.heap.size x8.length D):=⟨by rw[hw];exact impl_spoken.map_far (impl_spoken.map_far (impl_spoken.map_far HM.out NXM.out) NXM.out) NXM.out⟩;have BKI_:Aside0 (wb.heap[gbi]?=some (.cells #[.slice A0 l0.length c0,.int .i64 a1] 44 (0,0))):=⟨by rw[hw];refine blk_far ?_ NXI.out _;refine blk_far ?_ NXI.out _;refine blk_far ?_ NXI.out _;exact BKI.out⟩;have BKA_:Aside0 (wb.heap[gba]?=some (.cells #[.int .i64 a3,.int .i64 a4,.int .i64 a5] 48 (0,0))):=⟨by rw[hw];refine blk_far ?_ NXA.out _;refine blk_far ?_ NXA.out _;refine blk_far ?_ NXA.out _;exact BKA.out⟩;have BKX_:Aside0 (wb.heap[gbx]?=some (.cells #[.int .i64 ((rd_T80 l2 x22).f0),.int .i64 ((rd_T80 l2 x22).f1),.int .i64 ((rd_T80 l2 x22).f2)] 80 (0,0))):=⟨by rw[hw];refine blk_put (cs := #[.int .i64 ((rd_T80 l2 x22).f0),.int .i64 ((rd_T80 l2 x22).f1),.int .i64 0]) ?_ 2 _ rfl;refine blk_put (cs := #[.int .i64 ((rd_T80 l2 x22).f0),.int .i64 0,.int .i64 0]) ?_ 1 _ rfl;refine blk_put (cs := #[.int .i64 0,.int .i64 0,.int .i64 0]) ?_ 0 _ rfl;exact BKX.out⟩;have HB_:Aside0 (Below w.heap.size w wb):=⟨by rw[hw];exact below_set (below_set (below_set HB.out GEX.out) GEX.out) GEX.out⟩;clear hw HO8 HO9 HM BKI BKA BKX HB;have HO8:=HO8_;have HO9:=HO9_;have HM:=HM_;have BKI:=BKI_;have BKA:=BKA_;have BKX:=BKX_;have HB:=HB_;clear HO8_ HO9_ HM_ BKI_ BKA_ BKX_ HB_;(try clear hcza_0 hcza_1 hcza_2 hfza_0 hfza_1 hfza_2);have hczb_0:wb.cell? ⟨gbx,0,none⟩=some (.int .i64 ((rd_T80 l2 x22).f0)):=(blk_cell BKX.out 0).trans rfl;have hczb_1:wb.cell? ⟨gbx,1,none⟩=some (.int .i64 ((rd_T80 l2 x22).f1)):=(blk_cell BKX.out 1).trans rfl;have hczb_2:wb.cell? ⟨gbx,2,none⟩=some (.int .i64 ((rd_T80 l2 x22).f2)):=(blk_cell BKX.out 2).trans rfl;have hfzb_0:=blk_frozen BKX.out 0;have hfzb_1:=blk_frozen BKX.out 1;have hfzb_2:=blk_frozen BKX.out 2;have hczc_0:wb.cell? ⟨gba,0,none⟩=some (.int .i64 a3):=(blk_cell BKA.out 0).trans rfl;have hczc_1:wb.cell? ⟨gba,1,none⟩=some (.int .i64 a4):=(blk_cell BKA.out 1).trans rfl;have hczc_2:wb.cell? ⟨gba,2,none⟩=some (.int .i64 a5):=(blk_cell BKA.out 2).trans rfl;have hfzc_0:=blk_frozen BKA.out 0;have hfzc_1:=blk_frozen BKA.out 1;have hfzc_2:=blk_frozen BKA.out 2;have hczd_0:wb.cell? ⟨gbi,0,none⟩=some (.slice A0 l0.length c0):=(blk_cell BKI.out 0).trans rfl;have hczd_1:wb.cell? ⟨gbi,1,none⟩=some (.int .i64 a1):=(blk_cell BKI.out 1).trans rfl;have hfzd_0:=blk_frozen BKI.out 0;have hfzd_1:=blk_frozen BKI.out 1)|(at_lookup;refine wpList_lookup_own_ok_int _ rfl _ _ 123 rfl 3 3 .i64 impl_spoken.law3 Try.underlying123 Try.underlying3 (impl_spoken.zero3 _) w3.heap.size x8.length D rfl (by exact HM.out) _ _ rfl (Maps.keyOf_int_mk Try.underlying3 CW.out) ?_;intro c_ hat_ hwc_;rw[HS.out]))
           go_quiet (fail)
           generalize hq_:wb.drewN _=wq
           have n0_:=am (Kd.R_at hq_ HO8.out)
           have n1_:=am (Kd.R_at hq_ HO9.out)
           have n2_:=am (blk_at hq_ BKI.out)
           have n3_:=am (blk_at hq_ BKA.out)
           have n4_:=am (blk_at hq_ BKX.out)
           have n5_:=am (below_at hq_ HB.out)
           have n6_:=am (impl_spoken.map_to HM.out (show wq.heap[w3.heap.size]?=wb.heap[w3.heap.size]? from by rw[← hq_];rfl))
           clear hq_ HO8 HO9 BKI BKA BKX HB HM
           have HO8:=n0_;have HO9:=n1_;have BKI:=n2_;have BKA:=n3_;have BKX:=n4_;have HB:=n5_;have HM:=n6_
           clear n0_ n1_ n2_ n3_ n4_ n5_ n6_
           (try clear hczb_0 hczb_1 hczb_2 hfzb_0 hfzb_1 hfzb_2);(try clear hczc_0 hczc_1 hczc_2 hfzc_0 hfzc_1 hfzc_2);(try clear hczd_0 hczd_1 hfzd_0 hfzd_1)
           have hczg_0:wq.cell? ⟨gbx,0,none⟩=some (.int .i64 ((rd_T80 l2 x22).f0)):=(blk_cell BKX.out 0).trans rfl;have hczg_1:wq.cell? ⟨gbx,1,none⟩=some (.int .i64 ((rd_T80 l2 x22).f1)):=(blk_cell BKX.out 1).trans rfl;have hczg_2:wq.cell? ⟨gbx,2,none⟩=some (.int .i64 ((rd_T80 l2 x22).f2)):=(blk_cell BKX.out 2).trans rfl;have hfzg_0:=blk_frozen BKX.out 0;have hfzg_1:=blk_frozen BKX.out 1;have hfzg_2:=blk_frozen BKX.out 2;have hczh_0:wq.cell? ⟨gba,0,none⟩=some (.int .i64 a3):=(blk_cell BKA.out 0).trans rfl;have hczh_1:wq.cell? ⟨gba,1,none⟩=some (.int .i64 a4):=(blk_cell BKA.out 1).trans rfl;have hczh_2:wq.cell? ⟨gba,2,none⟩=some (.int .i64 a5):=(blk_cell BKA.out 2).trans rfl;have hfzh_0:=blk_frozen BKA.out 0;have hfzh_1:=blk_frozen BKA.out 1;have hfzh_2:=blk_frozen BKA.out 2;have hczi_0:wq.cell? ⟨gbi,0,none⟩=some (.slice A0 l0.length c0):=(blk_cell BKI.out 0).trans rfl;have hczi_1:wq.cell? ⟨gbi,1,none⟩=some (.int .i64 a1):=(blk_cell BKI.out 1).trans rfl;have hfzi_0:=blk_frozen BKI.out 0;have hfzi_1:=blk_frozen BKI.out 1
           go_wp2_with (first|((with_reducible refine gate_builtin (b := .append) (xs := #[.tmp 78,.tmp 80]) rfl ?_);at_builtin;refine Kd.R_append (Kd.int .i64) (w0:=w) w.heap.size rfl (.tmp 78) (.tmp 80) 34 3 (.int .i64 0) 8 rfl Try.underlying34 info3 rfl (by decide) (by omega) u9 x9 x22 [.int .i64 x22] (fun k_=>k_≠w3.heap.size) (fun _=>False) rfl (by first|(go_simp;done)|(go_simp;rfl)) ?aP (fun _ hk=>hk.elim) ?aF ?aO ?aB ?aS ?aL ?_;(case aP=>exact rfl);(case aB=>exact bl);(case aF=>exact(fun k_ hk_ e_=>by subst e_;exact absurd hk_ (Nat.not_le_of_lt (World.ownsMap.lt (by(with_reducible repeat(first|refine impl_spoken.map_drewN ?_ _|refine World.ownsMap.alloc ?_ _));exact HM.out)))));(case aO=>exact(rup HO9.out));(case aS=>exact(below_size bl));(case aL=>have:=CL.out;omega);intro va wc ho hb hg hat;have n0_:=am (Kd.R_over' (rup HO8.out) (Kd.R_typed (rup HO9.out)) (by decide) hg);have n1_:=am (blk_grown (g:=gbi) (o := .cells #[.slice A0 l0.length c0,.int .i64 a1] 44 (0,0)) (by exact bup BKI.out) hg (Kd.R_ne HO9.out BKI.out (by decide)));have n2_:=am (blk_grown (g:=gba) (o := .cells #[.int .i64 a3,.int .i64 a4,.int .i64 a5] 48 (0,0)) (by exact bup BKA.out) hg (Kd.R_ne HO9.out BKA.out (by decide)));have n3_:=am (blk_grown (g:=gbx) (o := .cells #[.int .i64 ((rd_T80 l2 x22).f0),.int .i64 ((rd_T80 l2 x22).f1),.int .i64 ((rd_T80 l2 x22).f2)] 80 (0,0)) (by exact bup BKX.out) hg (Kd.R_ne HO9.out BKX.out (by decide)));have n4_:=am (World.ownsMap.kept (by(with_reducible repeat(first|refine impl_spoken.map_drewN ?_ _|refine World.ownsMap.alloc ?_ _));exact HM.out) hg (fun e_=>HO9.out.1 _ e_.symm rfl));have n5_:=am (hb);have n6_:=am (ho);clear HO8 BKI BKA BKX HM HB HO9;have HO8:=n0_;have BKI:=n1_;have BKA:=n2_;have BKX:=n3_;have HM:=n4_;have HB:=n5_;have HO9:=n6_;clear n0_ n1_ n2_ n3_ n4_ n5_ n6_ ho hb hg hat))
           go_roundg k1
           case measure=>have:=HK1.out;omega
           case rel=>exact⟨x8,x9 ++ [x22],la,(wrap64 (x22+1)),D,fin2,H',⟨by have:=HK1.out;omega⟩,⟨rup HO8.out⟩,⟨rup HO9.out⟩,⟨by(with_reducible repeat(first|refine impl_spoken.map_drewN ?_ _|refine World.ownsMap.alloc ?_ _));exact HM.out⟩,HG,⟨by exact bup BKI.out⟩,⟨by exact bup BKA.out⟩,⟨bl⟩⟩
          ·rw[if_neg cl] at H
           exact absurd H (by simp)
         ·rw[if_neg (show ¬ impl_spoken.bad l0 a1 a3 a4 a5 la (rd_T80 l2 x22) from fun hb_=>by rcases hb_ with h_|h_|h_|h_;exact c1 h_;exact c2 h_;exact absurd h_.1 (by rw[hso];simp);exact c4 h_)] at H
          have CP:=am (show(rd_T80 l2 x22).f0<(l0.length:Int) from by omega)
          by_cases cl_:(Lit.int .i64 (rd_T80 l2 x22).f1).wf=true∧0≤(rd_T80 l2 x22).f0∧x8.length<5864062014805
          ·rw[if_pos cl_] at H
           have CV:=am cl_.1
           have cf0:decide (0≤(rd_T80 l2 x22).f0)=true:=decide_eq_true cl_.2.1
           have cf1:decide ((rd_T80 l2 x22).f0<(l0.length:Int))=true:=decide_eq_true CP.out
           have cl:=cl_.2.2
           clear cl_
           have CL:=am cl
           clear cl
           have H':=am H
           clear H
           have c1b:decide ((l0.length:Int)≤(rd_T80 l2 x22).f0)=false:=decide_eq_false c1
           have c2b:decide (wrap64 ((rd_T80 l2 x22).f2 - (rd_T80 l2 x22).f1)<a5)=false:=decide_eq_false c2
           have c4b:decide (wrap64 ((rd_T80 l2 x22).f2+a4)≤wrap64 ((rd_T80 l2 x22).f1+a3))=false:=decide_eq_false c4
           clear c9 c10 c1 c2 c4
           (try clear hso)
           have p_:0≤(x22:Int):=od
           have q_:x22<(l2.length:Int):=od
           obtain⟨adh,eh,hxh_0,hxh_1,hxh_2⟩:=at_T80 HR2.out x22 p_ q_
           cases eh
           replace hxh_0:=(HB.out.cell (World.block_lt_of_cell? w _ hxh_0)).trans hxh_0
           replace hxh_1:=(HB.out.cell (World.block_lt_of_cell? w _ hxh_1)).trans hxh_1
           replace hxh_2:=(HB.out.cell (World.block_lt_of_cell? w _ hxh_2)).trans hxh_2
           replace p_:=eq_true p_
           replace q_:=eq_true q_
           go_wp2_with (first|((with_reducible refine gate_dst (N:=12) rfl ?_);refine box_event ?hg (N:=12) ?hd (cs := #[.int .i64 0,.int .i64 0,.int .i64 0]) (t:=80) ?hr ?_;(case hd=>rfl);(case hg=>rfl);(case hr=>first|(go_simp;done)|(go_simp;rfl));intro gbx hg wa hbox hb;have n0_:=am (Kd.R_below (rup HO8.out) hb);have n1_:=am (Kd.R_below (rup HO9.out) hb);have n2_:=am (impl_spoken.map_below (by(with_reducible repeat(first|refine impl_spoken.map_drewN ?_ _|refine World.ownsMap.alloc ?_ _));exact HM.out) hb);have n3_:=am (blk_below (g:=gbi) (o := .cells #[.slice A0 l0.length c0,.int .i64 a1] 44 (0,0)) (by exact bup BKI.out) hb);have n4_:=am (blk_below (g:=gba) (o := .cells #[.int .i64 a3,.int .i64 a4,.int .i64 a5] 48 (0,0)) (by exact bup BKA.out) hb);have n5_:=am (below_step bl hb);have n6_:=am (hbox);have n7_:=am ((by rw[hg];exact(below_size bl):w.heap.size≤gbx));have n8_:=am ((by rw[hg];exact Nat.ne_of_lt (blk_lt (g:=gbi) (o := .cells #[.slice A0 l0.length c0,.int .i64 a1] 44 (0,0)) (by exact bup BKI.out)):gbi≠gbx));have n9_:=am ((by rw[hg];exact Nat.ne_of_lt (blk_lt (g:=gba) (o := .cells #[.int .i64 a3,.int .i64 a4,.int .i64 a5] 48 (0,0)) (by exact bup BKA.out)):gba≠gbx));have n10_:=am ((by rw[hg];exact Nat.ne_of_lt (World.ownsMap.lt (by(with_reducible repeat(first|refine impl_spoken.map_drewN ?_ _|refine World.ownsMap.alloc ?_ _));exact HM.out)):w3.heap.size≠gbx));clear HO8 HO9 HM BKI BKA HB;have HO8:=n0_;have HO9:=n1_;have HM:=n2_;have BKI:=n3_;have BKA:=n4_;have HB:=n5_;have BKX:=n6_;have GEX:=n7_;have NXI:=n8_;have NXA:=n9_;have NXM:=n10_;clear n0_ n1_ n2_ n3_ n4_ n5_ n6_ n7_ n8_ n9_ n10_ hb hbox hg;have hcza_0:wa.cell? ⟨gbx,0,none⟩=some (.int .i64 0):=(blk_cell BKX.out 0).trans rfl;have hcza_1:wa.cell? ⟨gbx,1,none⟩=some (.int .i64 0):=(blk_cell BKX.out 1).trans rfl;have hcza_2:wa.cell? ⟨gbx,2,none⟩=some (.int .i64 0):=(blk_cell BKX.out 2).trans rfl;have hfza_0:=blk_frozen BKX.out 0;have hfza_1:=blk_frozen BKX.out 1;have hfza_2:=blk_frozen BKX.out 2)|((with_reducible refine gate_store (t:=80) (p:=12) rfl ?_);refine store_event (t:=80) (p:=12) (v:=?vo) (w1:=(((wa.setCell ⟨gbx,0,none⟩ (.int .i64 ((rd_T80 l2 x22).f0))).setCell ⟨gbx,1,none⟩ (.int .i64 ((rd_T80 l2 x22).f1))).setCell ⟨gbx,2,none⟩ (.int .i64 ((rd_T80 l2 x22).f2)))) ?hg ?ho ?hn ?hr ?_;(case ho=>rfl);(case hg=>rfl);(case hn=>rfl);(case hr=>first|(go_simp;done)|(go_simp;rfl));intro wb hw;have HO8_:Aside0 (Kd.R k97 97 wb w.heap.size (fun k_=>k_≠w3.heap.size) u8 x8):=⟨(by rw[hw];exact Kd.R_mono (Kd.R_far (p:=⟨gbx,2,none⟩) (Kd.R_far (p:=⟨gbx,1,none⟩) (Kd.R_far (p:=⟨gbx,0,none⟩) (Kd.R_types HO8.out BKX.out (by decide)) (fun _ hk=>hk.2) (.int .i64 ((rd_T80 l2 x22).f0))) (fun _ hk=>hk.2) (.int .i64 ((rd_T80 l2 x22).f1))) (fun _ hk=>hk.2) (.int .i64 ((rd_T80 l2 x22).f2))) (fun _ hk=>hk.1))⟩;have HO9_:Aside0 (Kd.R (Kd.int .i64) 3 wb w.heap.size (fun k_=>k_≠w3.heap.size) u9 x9):=⟨(by rw[hw];exact Kd.R_mono (Kd.R_far (p:=⟨gbx,2,none⟩) (Kd.R_far (p:=⟨gbx,1,none⟩) (Kd.R_far (p:=⟨gbx,0,none⟩) (Kd.R_types HO9.out BKX.out (by decide)) (fun _ hk=>hk.2) (.int .i64 ((rd_T80 l2 x22).f0))) (fun _ hk=>hk.2) (.int .i64 ((rd_T80 l2 x22).f1))) (fun _ hk=>hk.2) (.int .i64 ((rd_T80 l2 x22).f2))) (fun _ hk=>hk.1))⟩;have HM_:Aside0 (wb.ownsMap Try.prog 3 (plainElem Try.prog 3) w3.heap.size x8.length D):=⟨by rw[hw];exact impl_spoken.map_far (impl_spoken.map_far (impl_spoken.map_far HM.out NXM.out) NXM.out) NXM.out⟩;have BKI_:Aside0 (wb.heap[gbi]?=some (.cells #[.slice A0 l0.length c0,.int .i64 a1] 44 (0,0))):=⟨by rw[hw];refine blk_far ?_ NXI.out _;refine blk_far ?_ NXI.out _;refine blk_far ?_ NXI.out _;exact BKI.out⟩;have BKA_:Aside0 (wb.heap[gba]?=some (.cells #[.int .i64 a3,.int .i64 a4,.int .i64 a5] 48 (0,0))):=⟨by rw[hw];refine blk_far ?_ NXA.out _;refine blk_far ?_ NXA.out _;refine blk_far ?_ NXA.out _;exact BKA.out⟩;have BKX_:Aside0 (wb.heap[gbx]?=some (.cells #[.int .i64 ((rd_T80 l2 x22).f0),.int .i64 ((rd_T80 l2 x22).f1),.int .i64 ((rd_T80 l2 x22).f2)] 80 (0,0))):=⟨by rw[hw];refine blk_put (cs := #[.int .i64 ((rd_T80 l2 x22).f0),.int .i64 ((rd_T80 l2 x22).f1),.int .i64 0]) ?_ 2 _ rfl;refine blk_put (cs := #[.int .i64 ((rd_T80 l2 x22).f0),.int .i64 0,.int .i64 0]) ?_ 1 _ rfl;refine blk_put (cs := #[.int .i64 0,.int .i64 0,.int .i64 0]) ?_ 0 _ rfl;exact BKX.out⟩;have HB_:Aside0 (Below w.heap.size w wb):=⟨by rw[hw];exact below_set (below_set (below_set HB.out GEX.out) GEX.out) GEX.out⟩;clear hw HO8 HO9 HM BKI BKA BKX HB;have HO8:=HO8_;have HO9:=HO9_;have HM:=HM_;have BKI:=BKI_;have BKA:=BKA_;have BKX:=BKX_;have HB:=HB_;clear HO8_ HO9_ HM_ BKI_ BKA_ BKX_ HB_;(try clear hcza_0 hcza_1 hcza_2 hfza_0 hfza_1 hfza_2);have hczb_0:wb.cell? ⟨gbx,0,none⟩=some (.int .i64 ((rd_T80 l2 x22).f0)):=(blk_cell BKX.out 0).trans rfl;have hczb_1:wb.cell? ⟨gbx,1,none⟩=some (.int .i64 ((rd_T80 l2 x22).f1)):=(blk_cell BKX.out 1).trans rfl;have hczb_2:wb.cell? ⟨gbx,2,none⟩=some (.int .i64 ((rd_T80 l2 x22).f2)):=(blk_cell BKX.out 2).trans rfl;have hfzb_0:=blk_frozen BKX.out 0;have hfzb_1:=blk_frozen BKX.out 1;have hfzb_2:=blk_frozen BKX.out 2;have hczc_0:wb.cell? ⟨gba,0,none⟩=some (.int .i64 a3):=(blk_cell BKA.out 0).trans rfl;have hczc_1:wb.cell? ⟨gba,1,none⟩=some (.int .i64 a4):=(blk_cell BKA.out 1).trans rfl;have hczc_2:wb.cell? ⟨gba,2,none⟩=some (.int .i64 a5):=(blk_cell BKA.out 2).trans rfl;have hfzc_0:=blk_frozen BKA.out 0;have hfzc_1:=blk_frozen BKA.out 1;have hfzc_2:=blk_frozen BKA.out 2;have hczd_0:wb.cell? ⟨gbi,0,none⟩=some (.slice A0 l0.length c0):=(blk_cell BKI.out 0).trans rfl;have hczd_1:wb.cell? ⟨gbi,1,none⟩=some (.int .i64 a1):=(blk_cell BKI.out 1).trans rfl;have hfzd_0:=blk_frozen BKI.out 0;have hfzd_1:=blk_frozen BKI.out 1)|(at_lookup;refine wpList_lookup_own_ok_int _ rfl _ _ 123 rfl 3 3 .i64 impl_spoken.law3 Try.underlying123 Try.underlying3 (impl_spoken.zero3 _) w3.heap.size x8.length D rfl (by exact HM.out) _ _ rfl (Maps.keyOf_int_mk Try.underlying3 CW.out) ?_;intro c_ hat_ hwc_;rw[HS.out]))
           go_quiet (fail)
           generalize hq_:wb.drewN _=wq
           have n0_:=am (Kd.R_at hq_ HO8.out)
           have n1_:=am (Kd.R_at hq_ HO9.out)
           have n2_:=am (blk_at hq_ BKI.out)
           have n3_:=am (blk_at hq_ BKA.out)
           have n4_:=am (blk_at hq_ BKX.out)
           have n5_:=am (below_at hq_ HB.out)
           have n6_:=am (impl_spoken.map_to HM.out (show wq.heap[w3.heap.size]?=wb.heap[w3.heap.size]? from by rw[← hq_];rfl))
           clear hq_ HO8 HO9 BKI BKA BKX HB HM
           have HO8:=n0_;have HO9:=n1_;have BKI:=n2_;have BKA:=n3_;have BKX:=n4_;have HB:=n5_;have HM:=n6_
           clear n0_ n1_ n2_ n3_ n4_ n5_ n6_
           (try clear hczb_0 hczb_1 hczb_2 hfzb_0 hfzb_1 hfzb_2);(try clear hczc_0 hczc_1 hczc_2 hfzc_0 hfzc_1 hfzc_2);(try clear hczd_0 hczd_1 hfzd_0 hfzd_1)
           have hczg_0:wq.cell? ⟨gbx,0,none⟩=some (.int .i64 ((rd_T80 l2 x22).f0)):=(blk_cell BKX.out 0).trans rfl;have hczg_1:wq.cell? ⟨gbx,1,none⟩=some (.int .i64 ((rd_T80 l2 x22).f1)):=(blk_cell BKX.out 1).trans rfl;have hczg_2:wq.cell? ⟨gbx,2,none⟩=some (.int .i64 ((rd_T80 l2 x22).f2)):=(blk_cell BKX.out 2).trans rfl;have hfzg_0:=blk_frozen BKX.out 0;have hfzg_1:=blk_frozen BKX.out 1;have hfzg_2:=blk_frozen BKX.out 2;have hczh_0:wq.cell? ⟨gba,0,none⟩=some (.int .i64 a3):=(blk_cell BKA.out 0).trans rfl;have hczh_1:wq.cell? ⟨gba,1,none⟩=some (.int .i64 a4):=(blk_cell BKA.out 1).trans rfl;have hczh_2:wq.cell? ⟨gba,2,none⟩=some (.int .i64 a5):=(blk_cell BKA.out 2).trans rfl;have hfzh_0:=blk_frozen BKA.out 0;have hfzh_1:=blk_frozen BKA.out 1;have hfzh_2:=blk_frozen BKA.out 2;have hczi_0:wq.cell? ⟨gbi,0,none⟩=some (.slice A0 l0.length c0):=(blk_cell BKI.out 0).trans rfl;have hczi_1:wq.cell? ⟨gbi,1,none⟩=some (.int .i64 a1):=(blk_cell BKI.out 1).trans rfl;have hfzi_0:=blk_frozen BKI.out 0;have hfzi_1:=blk_frozen BKI.out 1
           go_wp2_with (first|(at_mapUpdate;refine wpList_mapUpdate_own _ rfl _ _ _ 123 rfl 3 3 impl_spoken.law3 Try.underlying123 _ w3.heap.size x8.length D rfl (by exact HM.out) (by have:=CL.out;unfold maxLen;omega) _ _ _ rfl rfl (Maps.keyOf_int_mk Try.underlying3 CW.out) _ [] (plainElem_int Try.underlying3 CV.out) ?_;intro wc hown1 hgrow1;have n0_:=am (hown1);have n1_:=am (Kd.R_grown (ok:=fun k_=>k_≠w3.heap.size) (rup HO8.out) hgrow1 (fun k_ hk_ e_=>hk_ (by injection e_)));have n2_:=am (Kd.R_grown (ok:=fun k_=>k_≠w3.heap.size) (rup HO9.out) hgrow1 (fun k_ hk_ e_=>hk_ (by injection e_)));have n3_:=am (blk_grown (g:=gbi) (o := .cells #[.slice A0 l0.length c0,.int .i64 a1] 44 (0,0)) (by exact bup BKI.out) hgrow1 (fun e_=>absurd (by injection e_) NMI.out));have n4_:=am (blk_grown (g:=gba) (o := .cells #[.int .i64 a3,.int .i64 a4,.int .i64 a5] 48 (0,0)) (by exact bup BKA.out) hgrow1 (fun e_=>absurd (by injection e_) NMA.out));have n5_:=am (blk_grown (g:=gbx) (o := .cells #[.int .i64 ((rd_T80 l2 x22).f0),.int .i64 ((rd_T80 l2 x22).f1),.int .i64 ((rd_T80 l2 x22).f2)] 80 (0,0)) (by exact bup BKX.out) hgrow1 (fun e_=>absurd (by injection e_) (Ne.symm NXM.out)));have n6_:=am ((show Below w.heap.size w _ from bl).grown hgrow1 (below_size HB.out) (fun j hj=>by cases hj;exact BGE.out));clear HM HO8 HO9 BKI BKA BKX HB;have HM:=n0_;have HO8:=n1_;have HO9:=n2_;have BKI:=n3_;have BKA:=n4_;have BKX:=n5_;have HB:=n6_;clear n0_ n1_ n2_ n3_ n4_ n5_ n6_ hown1 hgrow1;have hcze_0:wc.cell? ⟨gbx,0,none⟩=some (.int .i64 ((rd_T80 l2 x22).f0)):=(blk_cell BKX.out 0).trans rfl;have hcze_1:wc.cell? ⟨gbx,1,none⟩=some (.int .i64 ((rd_T80 l2 x22).f1)):=(blk_cell BKX.out 1).trans rfl;have hcze_2:wc.cell? ⟨gbx,2,none⟩=some (.int .i64 ((rd_T80 l2 x22).f2)):=(blk_cell BKX.out 2).trans rfl;have hfze_0:=blk_frozen BKX.out 0;have hfze_1:=blk_frozen BKX.out 1;have hfze_2:=blk_frozen BKX.out 2;have hczf_0:wc.cell? ⟨gbi,0,none⟩=some (.slice A0 l0.length c0):=(blk_cell BKI.out 0).trans rfl;have hczf_1:wc.cell? ⟨gbi,1,none⟩=some (.int .i64 a1):=(blk_cell BKI.out 1).trans rfl;have hfzf_0:=blk_frozen BKI.out 0;have hfzf_1:=blk_frozen BKI.out 1;have p_:0≤(((rd_T80 l2 x22).f0):Int):=od;have q_:((rd_T80 l2 x22).f0)<(l0.length:Int):=CP.out;obtain⟨adp,ep,hxp⟩:=Kd.at_int HR0.out ((rd_T80 l2 x22).f0) p_ q_;cases ep;replace hxp:=(HB.out.cell (World.block_lt_of_cell? w _ hxp)).trans hxp;replace p_:=eq_true p_;replace q_:=eq_true q_)|((with_reducible refine gate_builtin (b := .append) (xs := #[.tmp 87,.tmp 97]) rfl ?_);at_builtin;refine Kd.R_append k97 (w0:=w) w.heap.size rfl (.tmp 87) (.tmp 97) 89 97 (.agg #[(.int .i64 0),(.int .i64 0),(.int .i64 0)]) 24 rfl Try.underlying89 info97 rfl (by decide) (by omega) u8 x8 (⟨rd l0 ((rd_T80 l2 x22).f0),wrap64 ((rd_T80 l2 x22).f1+a3),wrap64 ((rd_T80 l2 x22).f2+a4)⟩:S97) [.int .i64 (rd l0 ((rd_T80 l2 x22).f0)),.int .i64 (wrap64 ((rd_T80 l2 x22).f1+a3)),.int .i64 (wrap64 ((rd_T80 l2 x22).f2+a4))] (fun k_=>k_≠w3.heap.size) (fun _=>False) rfl rfl ?aP (fun _ hk=>hk.elim) ?aF ?aO ?aB ?aS ?aL ?_;(case aP=>exact k97_mkM _ _ _ (⟨rd l0 ((rd_T80 l2 x22).f0),wrap64 ((rd_T80 l2 x22).f1+a3),wrap64 ((rd_T80 l2 x22).f2+a4)⟩:S97));(case aB=>exact bl);(case aF=>exact(fun k_ hk_ e_=>by subst e_;exact absurd hk_ (Nat.not_le_of_lt (World.ownsMap.lt (by(with_reducible repeat(first|refine impl_spoken.map_drewN ?_ _|refine World.ownsMap.alloc ?_ _));exact HM.out)))));(case aO=>exact(rup HO8.out));(case aS=>exact(below_size bl));(case aL=>have:=CL.out;omega);intro va wd ho hb hg hat;have n0_:=am (Kd.R_over' (rup HO9.out) (Kd.R_typed (rup HO8.out)) (by decide) hg);have n1_:=am (blk_grown (g:=gbi) (o := .cells #[.slice (some adp) l0.length c0,.int .i64 a1] 44 (0,0)) (by exact bup BKI.out) hg (Kd.R_ne HO8.out BKI.out (by decide)));have n2_:=am (blk_grown (g:=gba) (o := .cells #[.int .i64 a3,.int .i64 a4,.int .i64 a5] 48 (0,0)) (by exact bup BKA.out) hg (Kd.R_ne HO8.out BKA.out (by decide)));have n3_:=am (blk_grown (g:=gbx) (o := .cells #[.int .i64 ((rd_T80 l2 x22).f0),.int .i64 ((rd_T80 l2 x22).f1),.int .i64 ((rd_T80 l2 x22).f2)] 80 (0,0)) (by exact bup BKX.out) hg (Kd.R_ne HO8.out BKX.out (by decide)));have n4_:=am (World.ownsMap.kept (by(with_reducible repeat(first|refine impl_spoken.map_drewN ?_ _|refine World.ownsMap.alloc ?_ _));exact HM.out) hg (fun e_=>HO8.out.1 _ e_.symm rfl));have n5_:=am (hb);have n6_:=am (ho);clear HO9 BKI BKA BKX HM HB HO8;have HO9:=n0_;have BKI:=n1_;have BKA:=n2_;have BKX:=n3_;have HM:=n4_;have HB:=n5_;have HO8:=n6_;clear n0_ n1_ n2_ n3_ n4_ n5_ n6_ ho hb hg hat))
           go_roundg k1
           case measure=>have:=HK1.out;omega
           case rel=>exact⟨x8 ++ [(⟨rd l0 ((rd_T80 l2 x22).f0),wrap64 ((rd_T80 l2 x22).f1+a3),wrap64 ((rd_T80 l2 x22).f2+a4)⟩:S97)],x9,impl_spoken.upd la ((rd_T80 l2 x22).f0) ((rd_T80 l2 x22).f1),(wrap64 (x22+1)),_,fin2,H',⟨by have:=HK1.out;omega⟩,⟨rup HO8.out⟩,⟨rup HO9.out⟩,⟨by rw[List.length_append];(with_reducible repeat(first|refine impl_spoken.map_drewN ?_ _|refine World.ownsMap.alloc ?_ _));exact HM.out⟩,⟨impl_spoken.agree_put HG.out _ _⟩,⟨by exact bup BKI.out⟩,⟨by exact bup BKA.out⟩,⟨bl⟩⟩
          ·rw[if_neg cl_] at H
           exact absurd H (by simp)
     ·rw[if_neg cw] at H
      exact absurd H (by simp)
    ·rw[if_neg c10] at H
     exact absurd H (by simp)
   ·rw[if_neg c9] at H
    have c9b0:decide (x22<(l2.length:Int))=false:=decide_eq_false c9
    clear c9
    simp only[Option.some.injEq,Prod.mk.injEq] at H
    obtain⟨rfl,rfl⟩:=H
    go_wp2
    repeat(go_quiet (fail);try go_wp2)
    go_ret2
    exact⟨_,_,by first|rfl|(simp;done)|(simp [*];done),by(with_reducible repeat(first|apply Kd.R_alloc|apply Kd.R_drewN|apply Kd.R_drew));exact Kd.R_mono HO8.out (fun _ _=>trivial),by(with_reducible repeat(first|apply Kd.R_alloc|apply Kd.R_drewN|apply Kd.R_drew));exact Kd.R_mono HO9.out (fun _ _=>trivial),bl⟩

/-! ### impl_promisedTimes: function 72 -/
def impl_promisedTimes.l0:Nat→Int→List (List Int)→List (S95)→Int→Int→Int→Int→Int→Option ((List (List Int)))
 | 0,_,_,_,_,_,_,_,_=>none
 | k+1,x2,x7,x12,x13,x14,x308000,x308001,x308002=>if x14<x13 then(if 0≤x14 then(if x14<(x12.length:Int) then(if x7.length<5864062014805 then(impl_promisedTimes.l0 k x2 (x7 ++ [(([wrap64 ((wrap64 ((wrap64 (2*((rd_T95 x12 x14).f1)))+x308000)) - x2),wrap64 ((wrap64 ((wrap64 (2*((rd_T95 x12 x14).f1)))+x308000))+x2)]:List Int))]) x12 x13 (wrap64 (x14+1)) x308000 x308001 x308002) else(none)) else(none)) else(none)) else(some x7)
def impl_promisedTimes.f (k:Nat) (l0:List (S95)) (a1_0:Int) (a1_1:Int) (a1_2:Int) (a2:Int):Option ((List (List Int))):=impl_promisedTimes.l0 k a2 (([]:List (List Int))) l0 (l0.length:Int) 0 a1_0 a1_1 a1_2
set_option maxHeartbeats 8000000 in
set_option maxRecDepth 100000 in
theorem impl_promisedTimes.calls (k:Nat) (A0:Option Addr) (c0:Nat) (l0:List (S95)) (a1_0:Int) (a1_1:Int) (a1_2:Int) (a2:Int) (r:List (List Int)) (w:World) (hr0:Kd.C k95 w A0 l0.length l0) (hc0:l0.length≤c0) (h:impl_promisedTimes.f k l0 a1_0 a1_1 a1_2 a2=some r) :
  Calls Try.prog 72 #[.slice A0 l0.length c0,.agg #[.int .i64 a1_0,.int .i64 a1_1,.int .i64 a1_2],.int .i64 a2] w fun e w'=>∃ v0_:Value,e = .returned (v0_)∧Kd.S (Kd.slice 3 (Kd.int .i64)) 34 w' w.heap.size (fun _=>True) v0_ r∧Below w.heap.size w w':=by
 have hu48:=Try.underlying48
 have hu95:=Try.underlying95
 have HR0:=am hr0
 have HC0:=am hc0
 clear hr0 hc0
 have HB:=am (Below.refl w.heap.size w)
 have H:(impl_promisedTimes.l0 k a2 (([]:List (List Int))) l0 (l0.length:Int) 0 a1_0 a1_1 a1_2)=some r:=h
 clear h
 obtain⟨y308,hy308⟩:∃ y_:List (List Int),y_=(([]:List (List Int))):=⟨_,rfl⟩
 replace H:(impl_promisedTimes.l0 k a2 y308 l0 (l0.length:Int) 0 a1_0 a1_1 a1_2)=some r:=by first|(rw[hy308];with_reducible exact H)|(have H2_:=(Option.bind_some _ _).symm.trans H;rw[hy308];with_reducible exact H2_)|(have H2_:=(Option.bind_some _ _).symm.trans H;with_reducible exact H2_)|with_reducible exact H|(rw[hy308];exact H)|exact H
 have Ny308:=am hy308
 clear hy308
 have H':=am H
 clear H
 go_enter Try.func72,Try.ntmps72
 go_wp2_with (first|((with_reducible refine gate_dst (N:=4) rfl ?_);refine box_event ?hg (N:=4) ?hd (cs := #[.int .i64 a1_0,.int .i64 a1_1,.int .i64 a1_2]) (t:=48) ?hr ?_;(case hd=>rfl);(case hg=>rfl);(case hr=>first|(go_simp;done)|(go_simp;rfl));intro gb307 hg w4 hbox hb;have n0_:=am (below_step bl hb);have n1_:=am (hbox);have n2_:=am ((by rw[hg];exact(below_size bl):w.heap.size≤gb307));have n3_:=am ((by rw[hg];exact(below_size bl):w.heap.size≤gb307));clear HB;have HB:=n0_;have BK307:=n1_;have GW307:=n2_;have GE307:=n3_;clear n0_ n1_ n2_ n3_ hb hbox hg)|((with_reducible refine gate_dst (N:=11) rfl ?_);refine Kd.S_lit (Kd.slice 3 (Kd.int .i64)) _ 34 ?hg (N:=11) ?hd (xs:=([]:List (List Int))) (inner:=[]) (ok:=fun _=>True) (okp:=fun _=>True) ?hr ?hp (fun _ hk=>hk) trivial (Below.refl _ _) (Nat.le_refl _) (by simp) ?_;(case hd=>rfl);(case hg=>rfl);(case hr=>first|(go_simp;done)|(go_simp;rfl));(case hp=>exact(Reps.none _ _));intro v309 w5 ho6 hb hg_ hnew_;clear hg_ hnew_;(first|rw[← Ny308.out] at ho6|(simp only[Int.reduceToNat] at ho6;rw[← Ny308.out] at ho6));have n0_:=am (Kd.S_lower ho6 (below_size bl));have n1_:=am (blk_below (g:=gb307) (o := .cells #[.int .i64 a1_0,.int .i64 a1_1,.int .i64 a1_2] 48 (0,0)) (bup BK307.out) hb);have n2_:=am (below_step bl hb);clear BK307 HB;have HO310:=n0_;have BK307:=n1_;have HB:=n2_;clear n0_ n1_ n2_ hb ho6))
 go_loopg [7,14] k (fun kq v7 v14 w'=>∃(x7_1:List (List Int)) (x14_1:Int),v14 = .int .i64 x14_1∧Aside0 (impl_promisedTimes.l0 kq a2 x7_1 l0 (l0.length:Int) x14_1 a1_0 a1_1 a1_2=some r)∧Aside0 (kq≤k)∧Aside0 (Kd.S (Kd.slice 3 (Kd.int .i64)) 34 w' w.heap.size (fun _=>True) v7 x7_1)∧Aside0 (w'.heap[gb307]?=some (.cells #[.int .i64 a1_0,.int .i64 a1_1,.int .i64 a1_2] 48 (0,0)))∧Aside0 (Below w.heap.size w w'))
 case atStart=>exact⟨(y308),(0),fin2,H',⟨Nat.le_refl _⟩,⟨by(with_reducible repeat(first|apply Kd.S_alloc|apply Kd.S_drewN|apply Kd.S_drew));exact HO310.out⟩,⟨bup BK307.out⟩,⟨bl⟩⟩
 case round =>
  clear H'
  try clear p2
  obtain⟨x7_1,x14_1,rfl,HA,HK1,HO_7,BK307,HB⟩:=hrel
  cases gk with
  | zero=>exact absurd HA.out (by simp [impl_promisedTimes.l0])
  | succ k1 =>
   have H:=HA.out
   clear HA
   simp only[impl_promisedTimes.l0] at H
   by_cases c7:x14_1<(l0.length:Int)
   ·rw[if_pos c7] at H
    have c7b0:decide (x14_1<(l0.length:Int))=true:=decide_eq_true c7
    clear c7
    by_cases c8:0≤x14_1
    ·rw[if_pos c8] at H
     have c8b0:decide (0≤x14_1)=true:=decide_eq_true c8
     clear c8
     by_cases c9:x14_1<(l0.length:Int)
     ·rw[if_pos c9] at H
      have c9b0:decide (x14_1<(l0.length:Int))=true:=decide_eq_true c9
      clear c9
      obtain⟨y313,hy313⟩:∃ y_:List Int,y_=(([wrap64 ((wrap64 ((wrap64 (2*((rd_T95 l0 x14_1).f1)))+a1_0)) - a2),wrap64 ((wrap64 ((wrap64 (2*((rd_T95 l0 x14_1).f1)))+a1_0))+a2)]:List Int)):=⟨_,rfl⟩
      replace H:(if x7_1.length<5864062014805 then(impl_promisedTimes.l0 k1 a2 (x7_1 ++ [y313]) l0 (l0.length:Int) (wrap64 (x14_1+1)) a1_0 a1_1 a1_2) else(none))=some r:=by first|(rw[hy313];with_reducible exact H)|(have H2_:=(Option.bind_some _ _).symm.trans H;rw[hy313];with_reducible exact H2_)|(have H2_:=(Option.bind_some _ _).symm.trans H;with_reducible exact H2_)|with_reducible exact H|(rw[hy313];exact H)|exact H
      have Ny313:=am hy313
      clear hy313
      by_cases c10:x7_1.length<5864062014805
      ·rw[if_pos c10] at H
       have LMc10:=am c10
       clear c10
       obtain⟨y316,hy316⟩:∃ y_:List (List Int),y_=(x7_1 ++ [y313]):=⟨_,rfl⟩
       replace H:(impl_promisedTimes.l0 k1 a2 y316 l0 (l0.length:Int) (wrap64 (x14_1+1)) a1_0 a1_1 a1_2)=some r:=by first|(rw[hy316];with_reducible exact H)|(have H2_:=(Option.bind_some _ _).symm.trans H;rw[hy316];with_reducible exact H2_)|(have H2_:=(Option.bind_some _ _).symm.trans H;with_reducible exact H2_)|with_reducible exact H|(rw[hy316];exact H)|exact H
       have Ny316:=am hy316
       clear hy316
       have H':=am H
       clear H
       have p311:0≤(x14_1:Int):=od
       have q311:x14_1<(l0.length:Int):=od
       obtain⟨ad311,e311,hx311_0,hx311_1,hx311_2⟩:=at_T95 HR0.out x14_1 p311 q311
       cases e311
       replace hx311_0:=(HB.out.cell (World.block_lt_of_cell? w _ hx311_0)).trans hx311_0
       replace hx311_1:=(HB.out.cell (World.block_lt_of_cell? w _ hx311_1)).trans hx311_1
       replace hx311_2:=(HB.out.cell (World.block_lt_of_cell? w _ hx311_2)).trans hx311_2
       replace p311:=eq_true p311
       replace q311:=eq_true q311
       go_wp2_with (first|((with_reducible refine gate_dst (N:=9) rfl ?_);refine box_event ?hg (N:=9) ?hd (cs := #[.int .i64 0,.int .i64 0,.int .i64 0]) (t:=95) ?hr ?_;(case hd=>rfl);(case hg=>rfl);(case hr=>first|(go_simp;done)|(go_simp;rfl));intro gb312 hg w11 hbox hb;have n0_:=am (Kd.S_below (by(with_reducible repeat(first|apply Kd.S_alloc|apply Kd.S_drewN|apply Kd.S_drew));exact HO_7.out) hb);have n1_:=am (blk_below (g:=gb307) (o := .cells #[.int .i64 a1_0,.int .i64 a1_1,.int .i64 a1_2] 48 (0,0)) (bup BK307.out) hb);have n2_:=am (below_step bl hb);have n3_:=am (hbox);have n4_:=am ((by rw[hg];exact(below_size bl):w.heap.size≤gb312));have n5_:=am ((by rw[hg];exact(below_size bl):w.heap.size≤gb312));have n6_:=am ((by rw[hg];exact Nat.ne_of_lt (blk_lt (g:=gb307) (o := .cells #[.int .i64 a1_0,.int .i64 a1_1,.int .i64 a1_2] 48 (0,0)) (bup BK307.out)):gb307≠gb312));have n7_:=am ((by rw[hg];exact Nat.ne_of_gt (blk_lt (g:=gb307) (o := .cells #[.int .i64 a1_0,.int .i64 a1_1,.int .i64 a1_2] 48 (0,0)) (bup BK307.out)):gb312≠gb307));clear HO_7 BK307 HB;have HO_7:=n0_;have BK307:=n1_;have HB:=n2_;have BK312:=n3_;have GW312:=n4_;have GE312:=n5_;have NB307_312:=n6_;have NB312_307:=n7_;clear n0_ n1_ n2_ n3_ n4_ n5_ n6_ n7_ hb hbox hg;have hnb12:=NB312_307.out;have hnc12:=NB307_312.out;have hcz13_0:w11.cell? ⟨gb312,0,none⟩=some (.int .i64 0):=(blk_cell BK312.out 0).trans rfl;have hcz13_1:w11.cell? ⟨gb312,1,none⟩=some (.int .i64 0):=(blk_cell BK312.out 1).trans rfl;have hcz13_2:w11.cell? ⟨gb312,2,none⟩=some (.int .i64 0):=(blk_cell BK312.out 2).trans rfl;have hfz13_0:=blk_frozen BK312.out 0;have hfz13_1:=blk_frozen BK312.out 1;have hfz13_2:=blk_frozen BK312.out 2;have hcz14_0:w11.cell? ⟨gb307,0,none⟩=some (.int .i64 a1_0):=(blk_cell BK307.out 0).trans rfl;have hcz14_1:w11.cell? ⟨gb307,1,none⟩=some (.int .i64 a1_1):=(blk_cell BK307.out 1).trans rfl;have hcz14_2:w11.cell? ⟨gb307,2,none⟩=some (.int .i64 a1_2):=(blk_cell BK307.out 2).trans rfl;have hfz14_0:=blk_frozen BK307.out 0;have hfz14_1:=blk_frozen BK307.out 1;have hfz14_2:=blk_frozen BK307.out 2)|((with_reducible refine gate_dst (N:=31) rfl ?_);refine Kd.R_lit (Kd.int .i64) _ 3 ?hg (N:=31) ?hd (xs:=([wrap64 ((wrap64 ((wrap64 (2*((rd_T95 l0 x14_1).f1)))+a1_0)) - a2),wrap64 ((wrap64 ((wrap64 (2*((rd_T95 l0 x14_1).f1)))+a1_0))+a2)]:List Int)) (inner:=[.int .i64 (wrap64 ((wrap64 ((wrap64 (2*((rd_T95 l0 x14_1).f1)))+a1_0)) - a2)),.int .i64 (wrap64 ((wrap64 ((wrap64 (2*((rd_T95 l0 x14_1).f1)))+a1_0))+a2))]) (ok:=fun _=>True) (okp:=fun _=>True) ?hr ?hp (fun _ hk=>hk) trivial (Below.refl _ _) (Nat.le_refl _) (by simp) ?_;(case hd=>rfl);(case hg=>rfl);(case hr=>first|(go_simp;done)|(go_simp;rfl));(case hp=>exact(Reps.one (show Kd.M (Kd.int .i64) _ _ _ (wrap64 ((wrap64 ((wrap64 (2*((rd_T95 l0 x14_1).f1)))+a1_0)) - a2)) [.int .i64 (wrap64 ((wrap64 ((wrap64 (2*((rd_T95 l0 x14_1).f1)))+a1_0)) - a2))] from rfl) (Reps.one (show Kd.M (Kd.int .i64) _ _ _ (wrap64 ((wrap64 ((wrap64 (2*((rd_T95 l0 x14_1).f1)))+a1_0))+a2)) [.int .i64 (wrap64 ((wrap64 ((wrap64 (2*((rd_T95 l0 x14_1).f1)))+a1_0))+a2))] from rfl) (Reps.none _ _))));intro v314 w15 ho16 hb hg_ hnew_;clear hg_ hnew_;(first|rw[← Ny313.out] at ho16|(simp only[Int.reduceToNat] at ho16;rw[← Ny313.out] at ho16));have n0_:=am (Kd.S_elder' (by(with_reducible repeat(first|apply Kd.S_alloc|apply Kd.S_drewN|apply Kd.S_drew));exact(Kd.S_mono (Kd.S_far (p:=⟨gb312,2,none⟩) (Kd.S_far (p:=⟨gb312,1,none⟩) (Kd.S_far (p:=⟨gb312,0,none⟩) (Kd.S_types HO_7.out BK312.out (by decide)) (fun _ hk=>hk.2) (.int .i64 ((rd_T95 l0 x14_1).f0))) (fun _ hk=>hk.2) (.int .i64 ((rd_T95 l0 x14_1).f1))) (fun _ hk=>hk.2) (.int .i64 ((rd_T95 l0 x14_1).f2))) (fun _ h_=>h_.1))) (Kd.R_base ho16) hb);have n1_:=am (Kd.R_lower ho16 (below_size bl));have n2_:=am (blk_below (g:=gb307) (o := .cells #[.int .i64 a1_0,.int .i64 a1_1,.int .i64 a1_2] 48 (0,0)) (by(with_reducible repeat(first|refine bN_ ?_ _|refine bD_ ?_|refine bA_ ?_ _));refine blk_far ?_ NB307_312.out _;(with_reducible repeat(first|refine bN_ ?_ _|refine bD_ ?_|refine bA_ ?_ _));refine blk_far ?_ NB307_312.out _;(with_reducible repeat(first|refine bN_ ?_ _|refine bD_ ?_|refine bA_ ?_ _));refine blk_far ?_ NB307_312.out _;exact bup BK307.out) hb);have n3_:=am (blk_below (g:=gb312) (o := .cells #[.int .i64 ((rd_T95 l0 x14_1).f0),.int .i64 ((rd_T95 l0 x14_1).f1),.int .i64 ((rd_T95 l0 x14_1).f2)] 95 (0,0)) (by(with_reducible repeat(first|refine bN_ ?_ _|refine bD_ ?_|refine bA_ ?_ _));refine blk_put (cs := #[.int .i64 ((rd_T95 l0 x14_1).f0),.int .i64 ((rd_T95 l0 x14_1).f1),.int .i64 0]) ?_ 2 _ rfl;(with_reducible repeat(first|refine bN_ ?_ _|refine bD_ ?_|refine bA_ ?_ _));refine blk_put (cs := #[.int .i64 ((rd_T95 l0 x14_1).f0),.int .i64 0,.int .i64 0]) ?_ 1 _ rfl;(with_reducible repeat(first|refine bN_ ?_ _|refine bD_ ?_|refine bA_ ?_ _));refine blk_put (cs := #[.int .i64 0,.int .i64 0,.int .i64 0]) ?_ 0 _ rfl;exact bup BK312.out) hb);have n4_:=am (below_step bl hb);clear HO_7 BK307 BK312 HB;have HO_7:=n0_;have HO315:=n1_;have BK307:=n2_;have BK312:=n3_;have HB:=n4_;clear n0_ n1_ n2_ n3_ n4_ hb ho16;obtain⟨Ao18,co18,eo18⟩:=Kd.R_slice HO315.out;subst eo18)|((with_reducible refine gate_builtin (b := .append) (xs := #[.tmp 24,.tmp 32]) rfl ?_);at_builtin;refine Kd.S_append (Kd.slice 3 (Kd.int .i64)) (w0:=w) w.heap.size rfl (.tmp 24) (.tmp 32) 24 34 (.slice none 0 0) 24 rfl Try.underlying24 info34 rfl (by decide) (by omega) u7 x7_1 y313 [.slice Ao18 y313.length co18] (fun _=>True) (fun k_=>some k_=(.slice Ao18 y313.length co18:Value).ownBlock) rfl rfl ?aP (fun k_ hk_=>((Kd.R_mono (ok':=fun k_=>((fun _=>True)) k_∧some k_≠(u7:Value).ownBlock) (Kd.R_apart' (HO315.out) (Kd.S_typed HO_7.out) (by decide)) (fun k_ hk=>⟨trivial,hk.2⟩))).1 k_ hk_.symm) ?aF ?aO ?aB ?aS ?aL ?_;(case aP=>exact Kd.M_row (Kd.R_mono (Kd.R_tight rfl (Kd.R_mono (ok':=fun k_=>((fun _=>True)) k_∧some k_≠(u7:Value).ownBlock) (Kd.R_apart' (HO315.out) (Kd.S_typed HO_7.out) (by decide)) (fun k_ hk=>⟨trivial,hk.2⟩))) (fun _ h_=>h_)));(case aB=>exact bl);(case aF=>exact(fun _ _=>trivial));(case aO=>exact(by(with_reducible repeat(first|apply Kd.S_alloc|apply Kd.S_drewN|apply Kd.S_drew));exact Kd.S_mono HO_7.out (fun k_ hk=>⟨trivial,fun e_=>hk.2 e_⟩)));(case aS=>exact(below_size bl));(case aL=>have:=LMc10.out;omega);intro v317 w17 ho hb hg hat;rw[← Ny316.out] at ho;have n0_:=am (blk_grown (g:=gb307) (o := .cells #[.int .i64 a1_0,.int .i64 a1_1,.int .i64 a1_2] 48 (0,0)) (bup BK307.out) hg (Kd.S_ne HO_7.out BK307.out (by decide)));have n1_:=am (blk_grown (g:=gb312) (o := .cells #[.int .i64 ((rd_T95 l0 x14_1).f0),.int .i64 ((rd_T95 l0 x14_1).f1),.int .i64 ((rd_T95 l0 x14_1).f2)] 95 (0,0)) (bup BK312.out) hg (Kd.S_ne HO_7.out BK312.out (by decide)));have n2_:=am (hb);have n3_:=am (ho);clear BK307 BK312 HB HO_7 HO315;have BK307:=n0_;have BK312:=n1_;have HB:=n2_;have HO318:=n3_;clear n0_ n1_ n2_ n3_ ho hb hg hat))
       go_roundg k1
       case measure=>have:=HK1.out;omega
       case rel=>exact⟨(y316),(wrap64 (x14_1+1)),fin2,H',⟨by have:=HK1.out;omega⟩,⟨by(with_reducible repeat(first|apply Kd.S_alloc|apply Kd.S_drewN|apply Kd.S_drew));exact HO318.out⟩,⟨bup BK307.out⟩,⟨bl⟩⟩
      ·rw[if_neg c10] at H
       exact absurd H (by simp)
     ·rw[if_neg c9] at H
      exact absurd H (by simp)
    ·rw[if_neg c8] at H
     exact absurd H (by simp)
   ·rw[if_neg c7] at H
    have c7b0:decide (x14_1<(l0.length:Int))=false:=decide_eq_false c7
    clear c7
    obtain rfl:=Option.some.inj H
    go_wp2
    go_ret
    exact⟨_,fin1,by(with_reducible repeat(first|apply Kd.S_alloc|apply Kd.S_drewN|apply Kd.S_drew));exact HO_7.out,bl⟩

end Go.Proofs.Ytjniaiobnbdhhab.PFnExactPlaysAsPromised
