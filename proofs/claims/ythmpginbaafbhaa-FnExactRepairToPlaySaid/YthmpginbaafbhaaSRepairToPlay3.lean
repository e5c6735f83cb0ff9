/- The walks of functions that FnExactRepairToPlay reaches: what they return is what the plain functions of the same names say. Laid by a program of this session after the kit's print. No conditions beyond the arguments' being read. -/
import Derived.Test.YthmpginbaafbhaaSRepairToPlay0
import Derived.Test.YthmpginbaafbhaaSRepairToPlay1
import Derived.Test.YthmpginbaafbhaaSRepairToPlay2
namespace Go.Proofs.Ythmpginbaafbhaa.PFnExactRepairToPlay
open Go.RowKit Go.Proofs.YthmpginbaafbhaaW.PrintWords Go.Proofs.YthmpginbaafbhaaW.PrintLast Go.Proofs.YthmpginbaafbhaaW.PrintMore
attribute [local go_sem] max2_int min2_int max_two min_two max_three min_three max_four min_four   -- for this text's walks alone
set_option linter.unusedVariables false
set_option linter.unusedSimpArgs false

def spec_laAsked.f (k:Nat) (l0_0:List Int) (a0_1:Int) (l1:List (S51)):Option (Bool):=(spec_inGood.f k l0_0 a0_1).bind fun t128=>(if t128=true then((spec_shGood.f k l1).bind fun t129=>(some t129)) else(some false))
set_option maxHeartbeats 8000000 in
set_option maxRecDepth 100000 in
theorem spec_laAsked.calls (k:Nat) (A0_0:Option Addr) (c0_0:Nat) (l0_0:List Int) (a0_1:Int) (A1:Option Addr) (c1:Nat) (l1:List (S51)) (r:Bool) (w:World) (hr0_0:Kd.C (Kd.int .i64) w A0_0 l0_0.length l0_0) (hc0_0:l0_0.length≤c0_0) (hr1:Kd.C k51 w A1 l1.length l1) (hc1:l1.length≤c1) (h:spec_laAsked.f k l0_0 a0_1 l1=some r) :
  Calls Try.prog 16 #[.agg #[.slice A0_0 l0_0.length c0_0,.int .i64 a0_1],.slice A1 l1.length c1] w fun e w'=>e = .returned (.bool r)∧Below w.heap.size w w':=by
 have hu32:=Try.underlying32
 have HR0_0:=am hr0_0
 have HC0_0:=am hc0_0
 clear hr0_0 hc0_0
 have HR1:=am hr1
 have HC1:=am hc1
 clear hr1 hc1
 have HB:=am (Below.refl w.heap.size w)
 have H:((spec_inGood.f k l0_0 a0_1).bind fun t128=>(if t128=true then((spec_shGood.f k l1).bind fun t129=>(some t129)) else(some false)))=some r:=h
 clear h
 obtain⟨t128,A3,H⟩:=bnd H
 by_cases c4:t128=true
 ·subst c4
  replace H:=(if_pos rfl).symm.trans H
  obtain⟨t129,A5,H⟩:=bnd H
  obtain rfl:=Option.some.inj H
  go_enter Try.func16,Try.ntmps16
  go_wp2_with (first|((with_reducible refine gate_dst (N:=2) rfl ?_);refine box_event ?hg (N:=2) ?hd (cs := #[.slice A0_0 l0_0.length c0_0,.int .i64 a0_1]) (t:=32) ?hr ?_;(case hd=>rfl);(case hg=>rfl);(case hr=>first|(go_simp;done)|(go_simp;rfl));intro gb127 hg w6 hbox hb;have BK127:=am (hbox);have GW127:=am (ge_ bl hg);have GE127:=am (ge_ bl hg);replace HB:=am (below_step bl hb);clear hb hbox hg;have hcz7_0:w6.cell? ⟨gb127,0,none⟩=some (.slice A0_0 l0_0.length c0_0):=(blk_cell BK127.out 0).trans rfl;have hcz7_1:w6.cell? ⟨gb127,1,none⟩=some (.int .i64 a0_1):=(blk_cell BK127.out 1).trans rfl;have hfz7_0:=blk_frozen BK127.out 0;have hfz7_1:=blk_frozen BK127.out 1)|((with_reducible refine gate_callee (f:=32) rfl ?_);refine goesL_ (some 6) rfl rfl Try.func32 (by kernel_rfl) rfl #[.agg #[.slice A0_0 l0_0.length c0_0,.int .i64 a0_1]] rfl tl ?_;(with_reducible refine(spec_inGood.calls k _ _ l0_0 a0_1 true _ ?side1 ?side2 A3.out).mono ?_);(case side1=>exact cup (Kd.C_below HR0_0.out HB.out));(case side2=>exact HC0_0.out);rintro e w8 ⟨rfl,hb⟩;refine⟨_,rfl,?_⟩;replace BK127:=am (blk_below (bup BK127.out) hb);replace HB:=am (below_step bl hb);(try clear hb))|(go_at_call 33;(with_reducible refine(spec_shGood.calls k _ _ l1 t129 _ ?side1 ?side2 A5.out).mono ?_);(case side1=>exact cup (Kd.C_below HR1.out HB.out));(case side2=>exact HC1.out);rintro e w9 ⟨rfl,hb⟩;replace BK127:=am (blk_below (bup BK127.out) hb);replace HB:=am (below_step bl hb);(try clear hb)))
  go_ret
  exact⟨fin1,bl⟩
 ·replace c4:=Bool.eq_false_iff.mpr c4
  subst c4
  replace H:=(if_neg Bool.false_ne_true).symm.trans H
  obtain rfl:=Option.some.inj H
  go_enter Try.func16,Try.ntmps16
  go_wp2_with (first|((with_reducible refine gate_dst (N:=2) rfl ?_);refine box_event ?hg (N:=2) ?hd (cs := #[.slice A0_0 l0_0.length c0_0,.int .i64 a0_1]) (t:=32) ?hr ?_;(case hd=>rfl);(case hg=>rfl);(case hr=>first|(go_simp;done)|(go_simp;rfl));intro gb127 hg w10 hbox hb;have BK127:=am (hbox);have GW127:=am (ge_ bl hg);have GE127:=am (ge_ bl hg);replace HB:=am (below_step bl hb);clear hb hbox hg;have hcz11_0:w10.cell? ⟨gb127,0,none⟩=some (.slice A0_0 l0_0.length c0_0):=(blk_cell BK127.out 0).trans rfl;have hcz11_1:w10.cell? ⟨gb127,1,none⟩=some (.int .i64 a0_1):=(blk_cell BK127.out 1).trans rfl;have hfz11_0:=blk_frozen BK127.out 0;have hfz11_1:=blk_frozen BK127.out 1)|((with_reducible refine gate_callee (f:=32) rfl ?_);refine goesL_ (some 6) rfl rfl Try.func32 (by kernel_rfl) rfl #[.agg #[.slice A0_0 l0_0.length c0_0,.int .i64 a0_1]] rfl tl ?_;(with_reducible refine(spec_inGood.calls k _ _ l0_0 a0_1 false _ ?side1 ?side2 A3.out).mono ?_);(case side1=>exact cup (Kd.C_below HR0_0.out HB.out));(case side2=>exact HC0_0.out);rintro e w12 ⟨rfl,hb⟩;refine⟨_,rfl,?_⟩;replace BK127:=am (blk_below (bup BK127.out) hb);replace HB:=am (below_step bl hb);(try clear hb)))
  go_ret
  exact⟨fin1,bl⟩

def spec_ntPitch.f (a0:Int):Option (Bool):=(spec_l1In.f a0 24 96).bind fun t130=>(some t130)
set_option maxHeartbeats 8000000 in
set_option maxRecDepth 100000 in
theorem spec_ntPitch.calls (a0:Int) (r:Bool) (w:World) (h:spec_ntPitch.f a0=some r) :
  Calls Try.prog 57 #[.int .i64 a0] w fun e w'=>e = .returned (.bool r)∧Drawn0 w w':=by
 have H:((spec_l1In.f a0 24 96).bind fun t130=>(some t130))=some r:=h
 clear h
 obtain⟨t130,A2,H⟩:=bnd H
 obtain rfl:=Option.some.inj H
 go_enter Try.func57,Try.ntmps57
 go_wp2_with (first|((with_reducible refine gate_callee (f:=37) rfl ?_);refine goesL_ (some 4) rfl rfl Try.func37 (by kernel_rfl) rfl #[.int .i64 a0,.int .i64 24,.int .i64 96] rfl tl ?_;(with_reducible refine(spec_l1In.calls a0 24 96 t130 _ A2.out).mono ?_);rintro e w' ⟨rfl,⟨nd,rfl⟩⟩;refine⟨_,rfl,?_⟩))
 go_ret
 exact⟨by first|rfl|(simp;done)|(simp [*];done),by repeat(first|exact Drawn0.refl _|apply Drawn0.step)⟩

def spec_ntNote.f (a0_0:Int) (a0_1:Int) (a0_2:Int):Option (Bool):=(spec_ntPitch.f a0_0).bind fun t132=>(if t132=true then((spec_l1In.f a0_1 0 999).bind fun t133=>(if t133=true then((spec_l1In.f a0_2 1 99).bind fun t134=>(some t134)) else(some false))) else(some false))
set_option maxHeartbeats 8000000 in
set_option maxRecDepth 100000 in
theorem spec_ntNote.calls (a0_0:Int) (a0_1:Int) (a0_2:Int) (r:Bool) (w:World) (h:spec_ntNote.f a0_0 a0_1 a0_2=some r) :
  Calls Try.prog 34 #[.agg #[.int .i64 a0_0,.int .i64 a0_1,.int .i64 a0_2]] w fun e w'=>e = .returned (.bool r)∧Below w.heap.size w w':=by
 have hu55:=Try.underlying55
 have HB:=am (Below.refl w.heap.size w)
 have H:((spec_ntPitch.f a0_0).bind fun t132=>(if t132=true then((spec_l1In.f a0_1 0 999).bind fun t133=>(if t133=true then((spec_l1In.f a0_2 1 99).bind fun t134=>(some t134)) else(some false))) else(some false)))=some r:=h
 clear h
 obtain⟨t132,A2,H⟩:=bnd H
 by_cases c3:t132=true
 ·subst c3
  replace H:=(if_pos rfl).symm.trans H
  obtain⟨t133,A4,H⟩:=bnd H
  by_cases c5:t133=true
  ·subst c5
   replace H:=(if_pos rfl).symm.trans H
   obtain⟨t134,A6,H⟩:=bnd H
   obtain rfl:=Option.some.inj H
   go_enter Try.func34,Try.ntmps34
   go_wp2_with (first|((with_reducible refine gate_dst (N:=1) rfl ?_);refine box_event ?hg (N:=1) ?hd (cs := #[.int .i64 a0_0,.int .i64 a0_1,.int .i64 a0_2]) (t:=55) ?hr ?_;(case hd=>rfl);(case hg=>rfl);(case hr=>first|(go_simp;done)|(go_simp;rfl));intro gb131 hg w7 hbox hb;have BK131:=am (hbox);have GW131:=am (ge_ bl hg);have GE131:=am (ge_ bl hg);replace HB:=am (below_step bl hb);clear hb hbox hg;have hcz8_0:w7.cell? ⟨gb131,0,none⟩=some (.int .i64 a0_0):=(blk_cell BK131.out 0).trans rfl;have hcz8_1:w7.cell? ⟨gb131,1,none⟩=some (.int .i64 a0_1):=(blk_cell BK131.out 1).trans rfl;have hcz8_2:w7.cell? ⟨gb131,2,none⟩=some (.int .i64 a0_2):=(blk_cell BK131.out 2).trans rfl;have hfz8_0:=blk_frozen BK131.out 0;have hfz8_1:=blk_frozen BK131.out 1;have hfz8_2:=blk_frozen BK131.out 2)|((with_reducible refine gate_callee (f:=57) rfl ?_);refine goesL_ (some 5) rfl rfl Try.func57 (by kernel_rfl) rfl #[.int .i64 a0_0] rfl tl ?_;(with_reducible refine(spec_ntPitch.calls a0_0 true _ A2.out).mono ?_);rintro e w' ⟨rfl,⟨nd,rfl⟩⟩;refine⟨_,rfl,?_⟩)|(go_at_call 37;(with_reducible refine(spec_l1In.calls a0_1 0 999 true _ A4.out).mono ?_);rintro e w' ⟨rfl,⟨nd,rfl⟩⟩)|(go_at_call 37;(with_reducible refine(spec_l1In.calls a0_2 1 99 t134 _ A6.out).mono ?_);rintro e w' ⟨rfl,⟨nd,rfl⟩⟩))
   go_ret
   exact⟨fin1,bl⟩
  ·replace c5:=Bool.eq_false_iff.mpr c5
   subst c5
   replace H:=(if_neg Bool.false_ne_true).symm.trans H
   obtain rfl:=Option.some.inj H
   go_enter Try.func34,Try.ntmps34
   go_wp2_with (first|((with_reducible refine gate_dst (N:=1) rfl ?_);refine box_event ?hg (N:=1) ?hd (cs := #[.int .i64 a0_0,.int .i64 a0_1,.int .i64 a0_2]) (t:=55) ?hr ?_;(case hd=>rfl);(case hg=>rfl);(case hr=>first|(go_simp;done)|(go_simp;rfl));intro gb131 hg w9 hbox hb;have BK131:=am (hbox);have GW131:=am (ge_ bl hg);have GE131:=am (ge_ bl hg);replace HB:=am (below_step bl hb);clear hb hbox hg;have hcz10_0:w9.cell? ⟨gb131,0,none⟩=some (.int .i64 a0_0):=(blk_cell BK131.out 0).trans rfl;have hcz10_1:w9.cell? ⟨gb131,1,none⟩=some (.int .i64 a0_1):=(blk_cell BK131.out 1).trans rfl;have hcz10_2:w9.cell? ⟨gb131,2,none⟩=some (.int .i64 a0_2):=(blk_cell BK131.out 2).trans rfl;have hfz10_0:=blk_frozen BK131.out 0;have hfz10_1:=blk_frozen BK131.out 1;have hfz10_2:=blk_frozen BK131.out 2)|((with_reducible refine gate_callee (f:=57) rfl ?_);refine goesL_ (some 5) rfl rfl Try.func57 (by kernel_rfl) rfl #[.int .i64 a0_0] rfl tl ?_;(with_reducible refine(spec_ntPitch.calls a0_0 true _ A2.out).mono ?_);rintro e w' ⟨rfl,⟨nd,rfl⟩⟩;refine⟨_,rfl,?_⟩)|(go_at_call 37;(with_reducible refine(spec_l1In.calls a0_1 0 999 false _ A4.out).mono ?_);rintro e w' ⟨rfl,⟨nd,rfl⟩⟩))
   go_ret
   exact⟨fin1,bl⟩
 ·replace c3:=Bool.eq_false_iff.mpr c3
  subst c3
  replace H:=(if_neg Bool.false_ne_true).symm.trans H
  obtain rfl:=Option.some.inj H
  go_enter Try.func34,Try.ntmps34
  go_wp2_with (first|((with_reducible refine gate_dst (N:=1) rfl ?_);refine box_event ?hg (N:=1) ?hd (cs := #[.int .i64 a0_0,.int .i64 a0_1,.int .i64 a0_2]) (t:=55) ?hr ?_;(case hd=>rfl);(case hg=>rfl);(case hr=>first|(go_simp;done)|(go_simp;rfl));intro gb131 hg w11 hbox hb;have BK131:=am (hbox);have GW131:=am (ge_ bl hg);have GE131:=am (ge_ bl hg);replace HB:=am (below_step bl hb);clear hb hbox hg;have hcz12_0:w11.cell? ⟨gb131,0,none⟩=some (.int .i64 a0_0):=(blk_cell BK131.out 0).trans rfl;have hcz12_1:w11.cell? ⟨gb131,1,none⟩=some (.int .i64 a0_1):=(blk_cell BK131.out 1).trans rfl;have hcz12_2:w11.cell? ⟨gb131,2,none⟩=some (.int .i64 a0_2):=(blk_cell BK131.out 2).trans rfl;have hfz12_0:=blk_frozen BK131.out 0;have hfz12_1:=blk_frozen BK131.out 1;have hfz12_2:=blk_frozen BK131.out 2)|((with_reducible refine gate_callee (f:=57) rfl ?_);refine goesL_ (some 5) rfl rfl Try.func57 (by kernel_rfl) rfl #[.int .i64 a0_0] rfl tl ?_;(with_reducible refine(spec_ntPitch.calls a0_0 false _ A2.out).mono ?_);rintro e w' ⟨rfl,⟨nd,rfl⟩⟩;refine⟨_,rfl,?_⟩))
  go_ret
  exact⟨fin1,bl⟩

def spec_ntBefore.f (a0_0:Int) (a0_1:Int) (a0_2:Int) (a1_0:Int) (a1_1:Int) (a1_2:Int):Option (Bool):=if a0_1<a1_1 then(some true) else(if a0_1=a1_1 then(some (decide (a0_0<a1_0))) else(some false))
set_option maxHeartbeats 8000000 in
set_option maxRecDepth 100000 in
theorem spec_ntBefore.calls (a0_0:Int) (a0_1:Int) (a0_2:Int) (a1_0:Int) (a1_1:Int) (a1_2:Int) (r:Bool) (w:World) (h:spec_ntBefore.f a0_0 a0_1 a0_2 a1_0 a1_1 a1_2=some r) :
  Calls Try.prog 35 #[.agg #[.int .i64 a0_0,.int .i64 a0_1,.int .i64 a0_2],.agg #[.int .i64 a1_0,.int .i64 a1_1,.int .i64 a1_2]] w fun e w'=>e = .returned (.bool r)∧Below w.heap.size w w':=by
 have hu55:=Try.underlying55
 have HB:=am (Below.refl w.heap.size w)
 have H:(if a0_1<a1_1 then(some true) else(if a0_1=a1_1 then(some (decide (a0_0<a1_0))) else(some false)))=some r:=h
 clear h
 rcases itc H with⟨c3,H⟩|⟨c3,H⟩
 ·have c3b0:=decide_eq_true c3
  clear c3
  obtain rfl:=Option.some.inj H
  go_enter Try.func35,Try.ntmps35
  go_wp2_with (first|((with_reducible refine gate_dst (N:=2) rfl ?_);refine box_event ?hg (N:=2) ?hd (cs := #[.int .i64 a0_0,.int .i64 a0_1,.int .i64 a0_2]) (t:=55) ?hr ?_;(case hd=>rfl);(case hg=>rfl);(case hr=>first|(go_simp;done)|(go_simp;rfl));intro gb135 hg w4 hbox hb;have BK135:=am (hbox);have GW135:=am (ge_ bl hg);have GE135:=am (ge_ bl hg);replace HB:=am (below_step bl hb);clear hb hbox hg)|((with_reducible refine gate_dst (N:=3) rfl ?_);refine box_event ?hg (N:=3) ?hd (cs := #[.int .i64 a1_0,.int .i64 a1_1,.int .i64 a1_2]) (t:=55) ?hr ?_;(case hd=>rfl);(case hg=>rfl);(case hr=>first|(go_simp;done)|(go_simp;rfl));intro gb136 hg w5 hbox hb;have BK136:=am (hbox);have GW136:=am (ge_ bl hg);have GE136:=am (ge_ bl hg);replace HB:=am (below_step bl hb);have NB135_136:=am (nl (bup BK135.out) hg);have NB136_135:=am (ng (bup BK135.out) hg);replace BK135:=am (blk_below (bup BK135.out) hb);clear hb hbox hg;have hnb6:=NB135_136.out;have hnc6:=NB136_135.out;have hcz7_0:w5.cell? ⟨gb135,0,none⟩=some (.int .i64 a0_0):=(blk_cell BK135.out 0).trans rfl;have hcz7_1:w5.cell? ⟨gb135,1,none⟩=some (.int .i64 a0_1):=(blk_cell BK135.out 1).trans rfl;have hcz7_2:w5.cell? ⟨gb135,2,none⟩=some (.int .i64 a0_2):=(blk_cell BK135.out 2).trans rfl;have hfz7_0:=blk_frozen BK135.out 0;have hfz7_1:=blk_frozen BK135.out 1;have hfz7_2:=blk_frozen BK135.out 2;have hcz8_0:w5.cell? ⟨gb136,0,none⟩=some (.int .i64 a1_0):=(blk_cell BK136.out 0).trans rfl;have hcz8_1:w5.cell? ⟨gb136,1,none⟩=some (.int .i64 a1_1):=(blk_cell BK136.out 1).trans rfl;have hcz8_2:w5.cell? ⟨gb136,2,none⟩=some (.int .i64 a1_2):=(blk_cell BK136.out 2).trans rfl;have hfz8_0:=blk_frozen BK136.out 0;have hfz8_1:=blk_frozen BK136.out 1;have hfz8_2:=blk_frozen BK136.out 2))
  go_ret
  exact⟨fin1,bl⟩
 ·have c3b0:=decide_eq_false c3
  clear c3
  rcases itc H with⟨c9,H⟩|⟨c9,H⟩
  ·have c9b0:(a0_1 == a1_1)=true:=beq_iff_eq.mpr c9
   have c9b1:(a0_1 != a1_1)=false:=bne_eq_false_iff_eq.mpr c9
   clear c9
   obtain rfl:=Option.some.inj H
   go_enter Try.func35,Try.ntmps35
   go_wp2_with (first|((with_reducible refine gate_dst (N:=2) rfl ?_);refine box_event ?hg (N:=2) ?hd (cs := #[.int .i64 a0_0,.int .i64 a0_1,.int .i64 a0_2]) (t:=55) ?hr ?_;(case hd=>rfl);(case hg=>rfl);(case hr=>first|(go_simp;done)|(go_simp;rfl));intro gb135 hg w10 hbox hb;have BK135:=am (hbox);have GW135:=am (ge_ bl hg);have GE135:=am (ge_ bl hg);replace HB:=am (below_step bl hb);clear hb hbox hg)|((with_reducible refine gate_dst (N:=3) rfl ?_);refine box_event ?hg (N:=3) ?hd (cs := #[.int .i64 a1_0,.int .i64 a1_1,.int .i64 a1_2]) (t:=55) ?hr ?_;(case hd=>rfl);(case hg=>rfl);(case hr=>first|(go_simp;done)|(go_simp;rfl));intro gb136 hg w11 hbox hb;have BK136:=am (hbox);have GW136:=am (ge_ bl hg);have GE136:=am (ge_ bl hg);replace HB:=am (below_step bl hb);have NB135_136:=am (nl (bup BK135.out) hg);have NB136_135:=am (ng (bup BK135.out) hg);replace BK135:=am (blk_below (bup BK135.out) hb);clear hb hbox hg;have hnb12:=NB135_136.out;have hnc12:=NB136_135.out;have hcz13_0:w11.cell? ⟨gb135,0,none⟩=some (.int .i64 a0_0):=(blk_cell BK135.out 0).trans rfl;have hcz13_1:w11.cell? ⟨gb135,1,none⟩=some (.int .i64 a0_1):=(blk_cell BK135.out 1).trans rfl;have hcz13_2:w11.cell? ⟨gb135,2,none⟩=some (.int .i64 a0_2):=(blk_cell BK135.out 2).trans rfl;have hfz13_0:=blk_frozen BK135.out 0;have hfz13_1:=blk_frozen BK135.out 1;have hfz13_2:=blk_frozen BK135.out 2;have hcz14_0:w11.cell? ⟨gb136,0,none⟩=some (.int .i64 a1_0):=(blk_cell BK136.out 0).trans rfl;have hcz14_1:w11.cell? ⟨gb136,1,none⟩=some (.int .i64 a1_1):=(blk_cell BK136.out 1).trans rfl;have hcz14_2:w11.cell? ⟨gb136,2,none⟩=some (.int .i64 a1_2):=(blk_cell BK136.out 2).trans rfl;have hfz14_0:=blk_frozen BK136.out 0;have hfz14_1:=blk_frozen BK136.out 1;have hfz14_2:=blk_frozen BK136.out 2))
   go_ret
   exact⟨fin1,bl⟩
  ·have c9b0:(a0_1 == a1_1)=false:=beq_eq_false_iff_ne.mpr c9
   have c9b1:(a0_1 != a1_1)=true:=bne_iff_ne.mpr c9
   obtain rfl:=Option.some.inj H
   go_enter Try.func35,Try.ntmps35
   go_wp2_with (first|((with_reducible refine gate_dst (N:=2) rfl ?_);refine box_event ?hg (N:=2) ?hd (cs := #[.int .i64 a0_0,.int .i64 a0_1,.int .i64 a0_2]) (t:=55) ?hr ?_;(case hd=>rfl);(case hg=>rfl);(case hr=>first|(go_simp;done)|(go_simp;rfl));intro gb135 hg w15 hbox hb;have BK135:=am (hbox);have GW135:=am (ge_ bl hg);have GE135:=am (ge_ bl hg);replace HB:=am (below_step bl hb);clear hb hbox hg)|((with_reducible refine gate_dst (N:=3) rfl ?_);refine box_event ?hg (N:=3) ?hd (cs := #[.int .i64 a1_0,.int .i64 a1_1,.int .i64 a1_2]) (t:=55) ?hr ?_;(case hd=>rfl);(case hg=>rfl);(case hr=>first|(go_simp;done)|(go_simp;rfl));intro gb136 hg w16 hbox hb;have BK136:=am (hbox);have GW136:=am (ge_ bl hg);have GE136:=am (ge_ bl hg);replace HB:=am (below_step bl hb);have NB135_136:=am (nl (bup BK135.out) hg);have NB136_135:=am (ng (bup BK135.out) hg);replace BK135:=am (blk_below (bup BK135.out) hb);clear hb hbox hg;have hnb17:=NB135_136.out;have hnc17:=NB136_135.out;have hcz18_0:w16.cell? ⟨gb135,0,none⟩=some (.int .i64 a0_0):=(blk_cell BK135.out 0).trans rfl;have hcz18_1:w16.cell? ⟨gb135,1,none⟩=some (.int .i64 a0_1):=(blk_cell BK135.out 1).trans rfl;have hcz18_2:w16.cell? ⟨gb135,2,none⟩=some (.int .i64 a0_2):=(blk_cell BK135.out 2).trans rfl;have hfz18_0:=blk_frozen BK135.out 0;have hfz18_1:=blk_frozen BK135.out 1;have hfz18_2:=blk_frozen BK135.out 2;have hcz19_0:w16.cell? ⟨gb136,0,none⟩=some (.int .i64 a1_0):=(blk_cell BK136.out 0).trans rfl;have hcz19_1:w16.cell? ⟨gb136,1,none⟩=some (.int .i64 a1_1):=(blk_cell BK136.out 1).trans rfl;have hcz19_2:w16.cell? ⟨gb136,2,none⟩=some (.int .i64 a1_2):=(blk_cell BK136.out 2).trans rfl;have hfz19_0:=blk_frozen BK136.out 0;have hfz19_1:=blk_frozen BK136.out 1;have hfz19_2:=blk_frozen BK136.out 2))
   go_ret
   exact⟨fin1,bl⟩

def spec_ntMeet.f (a0_0:Int) (a0_1:Int) (a0_2:Int) (a1_0:Int) (a1_1:Int) (a1_2:Int):Option (Bool):=if a0_0=a1_0 then(if a0_1<(wrap64 (a1_1+a1_2)) then(some (decide (a1_1<(wrap64 (a0_1+a0_2))))) else(some false)) else(some false)
set_option maxHeartbeats 8000000 in
set_option maxRecDepth 100000 in
theorem spec_ntMeet.calls (a0_0:Int) (a0_1:Int) (a0_2:Int) (a1_0:Int) (a1_1:Int) (a1_2:Int) (r:Bool) (w:World) (h:spec_ntMeet.f a0_0 a0_1 a0_2 a1_0 a1_1 a1_2=some r) :
  Calls Try.prog 36 #[.agg #[.int .i64 a0_0,.int .i64 a0_1,.int .i64 a0_2],.agg #[.int .i64 a1_0,.int .i64 a1_1,.int .i64 a1_2]] w fun e w'=>e = .returned (.bool r)∧Below w.heap.size w w':=by
 have hu55:=Try.underlying55
 have HB:=am (Below.refl w.heap.size w)
 have H:(if a0_0=a1_0 then(if a0_1<(wrap64 (a1_1+a1_2)) then(some (decide (a1_1<(wrap64 (a0_1+a0_2))))) else(some false)) else(some false))=some r:=h
 clear h
 rcases itc H with⟨c3,H⟩|⟨c3,H⟩
 ·have c3b0:(a0_0 == a1_0)=true:=beq_iff_eq.mpr c3
  have c3b1:(a0_0 != a1_0)=false:=bne_eq_false_iff_eq.mpr c3
  clear c3
  rcases itc H with⟨c4,H⟩|⟨c4,H⟩
  ·have c4b0:=decide_eq_true c4
   clear c4
   obtain rfl:=Option.some.inj H
   go_enter Try.func36,Try.ntmps36
   go_wp2_with (first|((with_reducible refine gate_dst (N:=2) rfl ?_);refine box_event ?hg (N:=2) ?hd (cs := #[.int .i64 a0_0,.int .i64 a0_1,.int .i64 a0_2]) (t:=55) ?hr ?_;(case hd=>rfl);(case hg=>rfl);(case hr=>first|(go_simp;done)|(go_simp;rfl));intro gb137 hg w5 hbox hb;have BK137:=am (hbox);have GW137:=am (ge_ bl hg);have GE137:=am (ge_ bl hg);replace HB:=am (below_step bl hb);clear hb hbox hg)|((with_reducible refine gate_dst (N:=3) rfl ?_);refine box_event ?hg (N:=3) ?hd (cs := #[.int .i64 a1_0,.int .i64 a1_1,.int .i64 a1_2]) (t:=55) ?hr ?_;(case hd=>rfl);(case hg=>rfl);(case hr=>first|(go_simp;done)|(go_simp;rfl));intro gb138 hg w6 hbox hb;have BK138:=am (hbox);have GW138:=am (ge_ bl hg);have GE138:=am (ge_ bl hg);replace HB:=am (below_step bl hb);have NB137_138:=am (nl (bup BK137.out) hg);have NB138_137:=am (ng (bup BK137.out) hg);replace BK137:=am (blk_below (bup BK137.out) hb);clear hb hbox hg;have hnb7:=NB137_138.out;have hnc7:=NB138_137.out;have hcz8_0:w6.cell? ⟨gb137,0,none⟩=some (.int .i64 a0_0):=(blk_cell BK137.out 0).trans rfl;have hcz8_1:w6.cell? ⟨gb137,1,none⟩=some (.int .i64 a0_1):=(blk_cell BK137.out 1).trans rfl;have hcz8_2:w6.cell? ⟨gb137,2,none⟩=some (.int .i64 a0_2):=(blk_cell BK137.out 2).trans rfl;have hfz8_0:=blk_frozen BK137.out 0;have hfz8_1:=blk_frozen BK137.out 1;have hfz8_2:=blk_frozen BK137.out 2;have hcz9_0:w6.cell? ⟨gb138,0,none⟩=some (.int .i64 a1_0):=(blk_cell BK138.out 0).trans rfl;have hcz9_1:w6.cell? ⟨gb138,1,none⟩=some (.int .i64 a1_1):=(blk_cell BK138.out 1).trans rfl;have hcz9_2:w6.cell? ⟨gb138,2,none⟩=some (.int .i64 a1_2):=(blk_cell BK138.out 2).trans rfl;have hfz9_0:=blk_frozen BK138.out 0;have hfz9_1:=blk_frozen BK138.out 1;have hfz9_2:=blk_frozen BK138.out 2))
   go_ret
   exact⟨fin1,bl⟩
  ·have c4b0:=decide_eq_false c4
   clear c4
   obtain rfl:=Option.some.inj H
   go_enter Try.func36,Try.ntmps36
   go_wp2_with (first|((with_reducible refine gate_dst (N:=2) rfl ?_);refine box_event ?hg (N:=2) ?hd (cs := #[.int .i64 a0_0,.int .i64 a0_1,.int .i64 a0_2]) (t:=55) ?hr ?_;(case hd=>rfl);(case hg=>rfl);(case hr=>first|(go_simp;done)|(go_simp;rfl));intro gb137 hg w10 hbox hb;have BK137:=am (hbox);have GW137:=am (ge_ bl hg);have GE137:=am (ge_ bl hg);replace HB:=am (below_step bl hb);clear hb hbox hg)|((with_reducible refine gate_dst (N:=3) rfl ?_);refine box_event ?hg (N:=3) ?hd (cs := #[.int .i64 a1_0,.int .i64 a1_1,.int .i64 a1_2]) (t:=55) ?hr ?_;(case hd=>rfl);(case hg=>rfl);(case hr=>first|(go_simp;done)|(go_simp;rfl));intro gb138 hg w11 hbox hb;have BK138:=am (hbox);have GW138:=am (ge_ bl hg);have GE138:=am (ge_ bl hg);replace HB:=am (below_step bl hb);have NB137_138:=am (nl (bup BK137.out) hg);have NB138_137:=am (ng (bup BK137.out) hg);replace BK137:=am (blk_below (bup BK137.out) hb);clear hb hbox hg;have hnb12:=NB137_138.out;have hnc12:=NB138_137.out;have hcz13_0:w11.cell? ⟨gb137,0,none⟩=some (.int .i64 a0_0):=(blk_cell BK137.out 0).trans rfl;have hcz13_1:w11.cell? ⟨gb137,1,none⟩=some (.int .i64 a0_1):=(blk_cell BK137.out 1).trans rfl;have hcz13_2:w11.cell? ⟨gb137,2,none⟩=some (.int .i64 a0_2):=(blk_cell BK137.out 2).trans rfl;have hfz13_0:=blk_frozen BK137.out 0;have hfz13_1:=blk_frozen BK137.out 1;have hfz13_2:=blk_frozen BK137.out 2;have hcz14_0:w11.cell? ⟨gb138,0,none⟩=some (.int .i64 a1_0):=(blk_cell BK138.out 0).trans rfl;have hcz14_1:w11.cell? ⟨gb138,1,none⟩=some (.int .i64 a1_1):=(blk_cell BK138.out 1).trans rfl;have hcz14_2:w11.cell? ⟨gb138,2,none⟩=some (.int .i64 a1_2):=(blk_cell BK138.out 2).trans rfl;have hfz14_0:=blk_frozen BK138.out 0;have hfz14_1:=blk_frozen BK138.out 1;have hfz14_2:=blk_frozen BK138.out 2))
   go_ret
   exact⟨fin1,bl⟩
 ·have c3b0:(a0_0 == a1_0)=false:=beq_eq_false_iff_ne.mpr c3
  have c3b1:(a0_0 != a1_0)=true:=bne_iff_ne.mpr c3
  obtain rfl:=Option.some.inj H
  go_enter Try.func36,Try.ntmps36
  go_wp2_with (first|((with_reducible refine gate_dst (N:=2) rfl ?_);refine box_event ?hg (N:=2) ?hd (cs := #[.int .i64 a0_0,.int .i64 a0_1,.int .i64 a0_2]) (t:=55) ?hr ?_;(case hd=>rfl);(case hg=>rfl);(case hr=>first|(go_simp;done)|(go_simp;rfl));intro gb137 hg w15 hbox hb;have BK137:=am (hbox);have GW137:=am (ge_ bl hg);have GE137:=am (ge_ bl hg);replace HB:=am (below_step bl hb);clear hb hbox hg)|((with_reducible refine gate_dst (N:=3) rfl ?_);refine box_event ?hg (N:=3) ?hd (cs := #[.int .i64 a1_0,.int .i64 a1_1,.int .i64 a1_2]) (t:=55) ?hr ?_;(case hd=>rfl);(case hg=>rfl);(case hr=>first|(go_simp;done)|(go_simp;rfl));intro gb138 hg w16 hbox hb;have BK138:=am (hbox);have GW138:=am (ge_ bl hg);have GE138:=am (ge_ bl hg);replace HB:=am (below_step bl hb);have NB137_138:=am (nl (bup BK137.out) hg);have NB138_137:=am (ng (bup BK137.out) hg);replace BK137:=am (blk_below (bup BK137.out) hb);clear hb hbox hg;have hnb17:=NB137_138.out;have hnc17:=NB138_137.out;have hcz18_0:w16.cell? ⟨gb137,0,none⟩=some (.int .i64 a0_0):=(blk_cell BK137.out 0).trans rfl;have hcz18_1:w16.cell? ⟨gb137,1,none⟩=some (.int .i64 a0_1):=(blk_cell BK137.out 1).trans rfl;have hcz18_2:w16.cell? ⟨gb137,2,none⟩=some (.int .i64 a0_2):=(blk_cell BK137.out 2).trans rfl;have hfz18_0:=blk_frozen BK137.out 0;have hfz18_1:=blk_frozen BK137.out 1;have hfz18_2:=blk_frozen BK137.out 2;have hcz19_0:w16.cell? ⟨gb138,0,none⟩=some (.int .i64 a1_0):=(blk_cell BK138.out 0).trans rfl;have hcz19_1:w16.cell? ⟨gb138,1,none⟩=some (.int .i64 a1_1):=(blk_cell BK138.out 1).trans rfl;have hcz19_2:w16.cell? ⟨gb138,2,none⟩=some (.int .i64 a1_2):=(blk_cell BK138.out 2).trans rfl;have hfz19_0:=blk_frozen BK138.out 0;have hfz19_1:=blk_frozen BK138.out 1;have hfz19_2:=blk_frozen BK138.out 2))
  go_ret
  exact⟨fin1,bl⟩

end Go.Proofs.Ythmpginbaafbhaa.PFnExactRepairToPlay
