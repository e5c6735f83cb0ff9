/- The walks of functions that FnExactLeastTolerance reaches: what they return is what the plain functions of the same names say. Laid by a program of this session after the kit's print. No conditions beyond the arguments' being read. -/
import Derived.Test.YtipklbjbgbbgpaaSLeastTolerance0
import Derived.Test.YtipklbjbgbbgpaaSLeastTolerance11
import Derived.Test.YtipklbjbgbbgpaaSLeastTolerance12
import Derived.Test.YtipklbjbgbbgpaaSLeastTolerance14
namespace Go.Proofs.Ytipklbjbgbbgpaa.PFnExactLeastTolerance
open Go.RowKit Go.Proofs.YtipklbjbgbbgpaaW.PrintWords Go.Proofs.YtipklbjbgbbgpaaW.PrintLast Go.Proofs.YtipklbjbgbbgpaaW.PrintMore
attribute [local go_sem] max2_int min2_int max_two min_two max_three min_three max_four min_four   -- for this text's walks alone
set_option linter.unusedVariables false
set_option linter.unusedSimpArgs false

def impl_canMatch.f (k:Nat) (l0_0:List Int) (a0_1:Int) (l1:List (S62)) (l2:List (S66)):Option (Bool):=(impl_IsInstrument.f k l0_0 a0_1).bind fun t328=>(if t328=true then((impl_IsScore.f k l1).bind fun t329=>(if t329=true then((impl_IsSheet.f k l2).bind fun t330=>(some t330)) else(some false))) else(some false))
set_option maxHeartbeats 8000000 in
set_option maxRecDepth 100000 in
theorem impl_canMatch.calls (k:Nat) (A0_0:Option Addr) (c0_0:Nat) (l0_0:List Int) (a0_1:Int) (A1:Option Addr) (c1:Nat) (l1:List (S62)) (A2:Option Addr) (c2:Nat) (l2:List (S66)) (r:Bool) (w:World) (hr0_0:Kd.C (Kd.int .i64) w A0_0 l0_0.length l0_0) (hc0_0:l0_0.length≤c0_0) (hr1:Kd.C k62 w A1 l1.length l1) (hc1:l1.length≤c1) (hr2:Kd.C k66 w A2 l2.length l2) (hc2:l2.length≤c2) (h:impl_canMatch.f k l0_0 a0_1 l1 l2=some r) :
  Calls Try.prog 37 #[.agg #[.slice A0_0 l0_0.length c0_0,.int .i64 a0_1],.slice A1 l1.length c1,.slice A2 l2.length c2] w fun e w'=>e = .returned (.bool r)∧Below w.heap.size w w':=by
 have hu34:=Try.underlying34
 have HR0_0:=am hr0_0
 have HC0_0:=am hc0_0
 clear hr0_0 hc0_0
 have HR1:=am hr1
 have HC1:=am hc1
 clear hr1 hc1
 have HR2:=am hr2
 have HC2:=am hc2
 clear hr2 hc2
 have HB:=am (Below.refl w.heap.size w)
 have H:((impl_IsInstrument.f k l0_0 a0_1).bind fun t328=>(if t328=true then((impl_IsScore.f k l1).bind fun t329=>(if t329=true then((impl_IsSheet.f k l2).bind fun t330=>(some t330)) else(some false))) else(some false)))=some r:=h
 clear h
 obtain⟨t328,A4,H⟩:=bnd H
 by_cases c5:t328=true
 ·subst c5
  replace H:=(if_pos rfl).symm.trans H
  obtain⟨t329,A6,H⟩:=bnd H
  by_cases c7:t329=true
  ·subst c7
   replace H:=(if_pos rfl).symm.trans H
   obtain⟨t330,A8,H⟩:=bnd H
   obtain rfl:=Option.some.inj H
   go_enter Try.func37,Try.ntmps37
   go_wp2_with (first|((with_reducible refine gate_dst (N:=3) rfl ?_);refine box_event ?hg (N:=3) ?hd (cs := #[.slice A0_0 l0_0.length c0_0,.int .i64 a0_1]) (t:=34) ?hr ?_;(case hd=>rfl);(case hg=>rfl);(case hr=>first|(go_simp;done)|(go_simp;rfl));intro gb327 hg w9 hbox hb;have BK327:=am (hbox);have GW327:=am (ge_ bl hg);have GE327:=am (ge_ bl hg);replace HB:=am (below_step bl hb);clear hb hbox hg;have hcz10_0:=bc BK327.out 0;have hcz10_1:=bc BK327.out 1;have hfz10_0:=blk_frozen BK327.out 0;have hfz10_1:=blk_frozen BK327.out 1)|((with_reducible refine gate_callee (f:=50) rfl ?_);refine goesL_ (some 8) rfl rfl Try.func50 (by kernel_rfl) rfl #[.agg #[.slice A0_0 l0_0.length c0_0,.int .i64 a0_1]] rfl tl ?_;(with_reducible refine(impl_IsInstrument.calls k _ _ l0_0 a0_1 true _ ?side1 ?side2 A4.out).mono ?_);(case side1=>exact cup (Kd.C_below HR0_0.out HB.out));(case side2=>exact HC0_0.out);rintro e w11 ⟨rfl,hb⟩;refine⟨_,rfl,?_⟩;replace BK327:=am (blk_below (bup BK327.out) hb);replace HB:=am (below_step bl hb);(try clear hb))|(go_at_call 51;(with_reducible refine(impl_IsScore.calls k _ _ l1 true _ ?side1 ?side2 A6.out).mono ?_);(case side1=>exact cup (Kd.C_below HR1.out HB.out));(case side2=>exact HC1.out);rintro e w12 ⟨rfl,hb⟩;replace BK327:=am (blk_below (bup BK327.out) hb);replace HB:=am (below_step bl hb);(try clear hb))|(go_at_call 52;(with_reducible refine(impl_IsSheet.calls k _ _ l2 t330 _ ?side1 ?side2 A8.out).mono ?_);(case side1=>exact cup (Kd.C_below HR2.out HB.out));(case side2=>exact HC2.out);rintro e w13 ⟨rfl,hb⟩;replace BK327:=am (blk_below (bup BK327.out) hb);replace HB:=am (below_step bl hb);(try clear hb)))
   go_ret
   exact⟨fin1,bl⟩
  ·replace c7:=Bool.eq_false_iff.mpr c7
   subst c7
   replace H:=(if_neg Bool.false_ne_true).symm.trans H
   obtain rfl:=Option.some.inj H
   go_enter Try.func37,Try.ntmps37
   go_wp2_with (first|((with_reducible refine gate_dst (N:=3) rfl ?_);refine box_event ?hg (N:=3) ?hd (cs := #[.slice A0_0 l0_0.length c0_0,.int .i64 a0_1]) (t:=34) ?hr ?_;(case hd=>rfl);(case hg=>rfl);(case hr=>first|(go_simp;done)|(go_simp;rfl));intro gb327 hg w14 hbox hb;have BK327:=am (hbox);have GW327:=am (ge_ bl hg);have GE327:=am (ge_ bl hg);replace HB:=am (below_step bl hb);clear hb hbox hg;have hcz15_0:=bc BK327.out 0;have hcz15_1:=bc BK327.out 1;have hfz15_0:=blk_frozen BK327.out 0;have hfz15_1:=blk_frozen BK327.out 1)|((with_reducible refine gate_callee (f:=50) rfl ?_);refine goesL_ (some 8) rfl rfl Try.func50 (by kernel_rfl) rfl #[.agg #[.slice A0_0 l0_0.length c0_0,.int .i64 a0_1]] rfl tl ?_;(with_reducible refine(impl_IsInstrument.calls k _ _ l0_0 a0_1 true _ ?side1 ?side2 A4.out).mono ?_);(case side1=>exact cup (Kd.C_below HR0_0.out HB.out));(case side2=>exact HC0_0.out);rintro e w16 ⟨rfl,hb⟩;refine⟨_,rfl,?_⟩;replace BK327:=am (blk_below (bup BK327.out) hb);replace HB:=am (below_step bl hb);(try clear hb))|(go_at_call 51;(with_reducible refine(impl_IsScore.calls k _ _ l1 false _ ?side1 ?side2 A6.out).mono ?_);(case side1=>exact cup (Kd.C_below HR1.out HB.out));(case side2=>exact HC1.out);rintro e w17 ⟨rfl,hb⟩;replace BK327:=am (blk_below (bup BK327.out) hb);replace HB:=am (below_step bl hb);(try clear hb)))
   go_ret
   exact⟨fin1,bl⟩
 ·replace c5:=Bool.eq_false_iff.mpr c5
  subst c5
  replace H:=(if_neg Bool.false_ne_true).symm.trans H
  obtain rfl:=Option.some.inj H
  go_enter Try.func37,Try.ntmps37
  go_wp2_with (first|((with_reducible refine gate_dst (N:=3) rfl ?_);refine box_event ?hg (N:=3) ?hd (cs := #[.slice A0_0 l0_0.length c0_0,.int .i64 a0_1]) (t:=34) ?hr ?_;(case hd=>rfl);(case hg=>rfl);(case hr=>first|(go_simp;done)|(go_simp;rfl));intro gb327 hg w18 hbox hb;have BK327:=am (hbox);have GW327:=am (ge_ bl hg);have GE327:=am (ge_ bl hg);replace HB:=am (below_step bl hb);clear hb hbox hg;have hcz19_0:=bc BK327.out 0;have hcz19_1:=bc BK327.out 1;have hfz19_0:=blk_frozen BK327.out 0;have hfz19_1:=blk_frozen BK327.out 1)|((with_reducible refine gate_callee (f:=50) rfl ?_);refine goesL_ (some 8) rfl rfl Try.func50 (by kernel_rfl) rfl #[.agg #[.slice A0_0 l0_0.length c0_0,.int .i64 a0_1]] rfl tl ?_;(with_reducible refine(impl_IsInstrument.calls k _ _ l0_0 a0_1 false _ ?side1 ?side2 A4.out).mono ?_);(case side1=>exact cup (Kd.C_below HR0_0.out HB.out));(case side2=>exact HC0_0.out);rintro e w20 ⟨rfl,hb⟩;refine⟨_,rfl,?_⟩;replace BK327:=am (blk_below (bup BK327.out) hb);replace HB:=am (below_step bl hb);(try clear hb)))
  go_ret
  exact⟨fin1,bl⟩

def impl_IsAction.f (a0_0:Int) (a0_1:Int) (a0_2:Int):Option (Bool):=if a0_0≥0 then(if a0_0≤40 then(if a0_1≥0 then(if a0_1≤40 then(if a0_2≥0 then(some (decide (a0_2≤40))) else(some false)) else(some false)) else(some false)) else(some false)) else(some false)
set_option maxHeartbeats 8000000 in
set_option maxRecDepth 100000 in
theorem impl_IsAction.calls (a0_0:Int) (a0_1:Int) (a0_2:Int) (r:Bool) (w:World) (h:impl_IsAction.f a0_0 a0_1 a0_2=some r) :
  Calls Try.prog 38 #[.agg #[.int .i64 a0_0,.int .i64 a0_1,.int .i64 a0_2]] w fun e w'=>e = .returned (.bool r)∧Below w.heap.size w w':=by
 have hu40:=Try.underlying40
 have HB:=am (Below.refl w.heap.size w)
 have H:(if a0_0≥0 then(if a0_0≤40 then(if a0_1≥0 then(if a0_1≤40 then(if a0_2≥0 then(some (decide (a0_2≤40))) else(some false)) else(some false)) else(some false)) else(some false)) else(some false))=some r:=h
 clear h
 rcases itc H with⟨c2,H⟩|⟨c2,H⟩
 ·have c2b0:decide (0≤a0_0)=true:=decide_eq_true c2
  clear c2
  rcases itc H with⟨c3,H⟩|⟨c3,H⟩
  ·have c3b0:=decide_eq_true c3
   clear c3
   rcases itc H with⟨c4,H⟩|⟨c4,H⟩
   ·have c4b0:decide (0≤a0_1)=true:=decide_eq_true c4
    clear c4
    rcases itc H with⟨c5,H⟩|⟨c5,H⟩
    ·have c5b0:=decide_eq_true c5
     clear c5
     rcases itc H with⟨c6,H⟩|⟨c6,H⟩
     ·have c6b0:decide (0≤a0_2)=true:=decide_eq_true c6
      clear c6
      obtain rfl:=Option.some.inj H
      go_enter Try.func38,Try.ntmps38
      go_wp2_with (first|((with_reducible refine gate_dst (N:=1) rfl ?_);refine box_event ?hg (N:=1) ?hd (cs := #[.int .i64 a0_0,.int .i64 a0_1,.int .i64 a0_2]) (t:=40) ?hr ?_;(case hd=>rfl);(case hg=>rfl);(case hr=>first|(go_simp;done)|(go_simp;rfl));intro gb331 hg w7 hbox hb;have BK331:=am (hbox);have GW331:=am (ge_ bl hg);have GE331:=am (ge_ bl hg);replace HB:=am (below_step bl hb);clear hb hbox hg;have hcz8_0:=bc BK331.out 0;have hcz8_1:=bc BK331.out 1;have hcz8_2:=bc BK331.out 2;have hfz8_0:=blk_frozen BK331.out 0;have hfz8_1:=blk_frozen BK331.out 1;have hfz8_2:=blk_frozen BK331.out 2))
      go_ret
      exact⟨fin1,bl⟩
     ·have c6b0:decide (0≤a0_2)=false:=decide_eq_false c6
      clear c6
      obtain rfl:=Option.some.inj H
      go_enter Try.func38,Try.ntmps38
      go_wp2_with (first|((with_reducible refine gate_dst (N:=1) rfl ?_);refine box_event ?hg (N:=1) ?hd (cs := #[.int .i64 a0_0,.int .i64 a0_1,.int .i64 a0_2]) (t:=40) ?hr ?_;(case hd=>rfl);(case hg=>rfl);(case hr=>first|(go_simp;done)|(go_simp;rfl));intro gb331 hg w9 hbox hb;have BK331:=am (hbox);have GW331:=am (ge_ bl hg);have GE331:=am (ge_ bl hg);replace HB:=am (below_step bl hb);clear hb hbox hg;have hcz10_0:=bc BK331.out 0;have hcz10_1:=bc BK331.out 1;have hcz10_2:=bc BK331.out 2;have hfz10_0:=blk_frozen BK331.out 0;have hfz10_1:=blk_frozen BK331.out 1;have hfz10_2:=blk_frozen BK331.out 2))
      go_ret
      exact⟨fin1,bl⟩
    ·have c5b0:=decide_eq_false c5
     clear c5
     obtain rfl:=Option.some.inj H
     go_enter Try.func38,Try.ntmps38
     go_wp2_with (first|((with_reducible refine gate_dst (N:=1) rfl ?_);refine box_event ?hg (N:=1) ?hd (cs := #[.int .i64 a0_0,.int .i64 a0_1,.int .i64 a0_2]) (t:=40) ?hr ?_;(case hd=>rfl);(case hg=>rfl);(case hr=>first|(go_simp;done)|(go_simp;rfl));intro gb331 hg w11 hbox hb;have BK331:=am (hbox);have GW331:=am (ge_ bl hg);have GE331:=am (ge_ bl hg);replace HB:=am (below_step bl hb);clear hb hbox hg;have hcz12_0:=bc BK331.out 0;have hcz12_1:=bc BK331.out 1;have hcz12_2:=bc BK331.out 2;have hfz12_0:=blk_frozen BK331.out 0;have hfz12_1:=blk_frozen BK331.out 1;have hfz12_2:=blk_frozen BK331.out 2))
     go_ret
     exact⟨fin1,bl⟩
   ·have c4b0:decide (0≤a0_1)=false:=decide_eq_false c4
    clear c4
    obtain rfl:=Option.some.inj H
    go_enter Try.func38,Try.ntmps38
    go_wp2_with (first|((with_reducible refine gate_dst (N:=1) rfl ?_);refine box_event ?hg (N:=1) ?hd (cs := #[.int .i64 a0_0,.int .i64 a0_1,.int .i64 a0_2]) (t:=40) ?hr ?_;(case hd=>rfl);(case hg=>rfl);(case hr=>first|(go_simp;done)|(go_simp;rfl));intro gb331 hg w13 hbox hb;have BK331:=am (hbox);have GW331:=am (ge_ bl hg);have GE331:=am (ge_ bl hg);replace HB:=am (below_step bl hb);clear hb hbox hg;have hcz14_0:=bc BK331.out 0;have hcz14_1:=bc BK331.out 1;have hcz14_2:=bc BK331.out 2;have hfz14_0:=blk_frozen BK331.out 0;have hfz14_1:=blk_frozen BK331.out 1;have hfz14_2:=blk_frozen BK331.out 2))
    go_ret
    exact⟨fin1,bl⟩
  ·have c3b0:=decide_eq_false c3
   clear c3
   obtain rfl:=Option.some.inj H
   go_enter Try.func38,Try.ntmps38
   go_wp2_with (first|((with_reducible refine gate_dst (N:=1) rfl ?_);refine box_event ?hg (N:=1) ?hd (cs := #[.int .i64 a0_0,.int .i64 a0_1,.int .i64 a0_2]) (t:=40) ?hr ?_;(case hd=>rfl);(case hg=>rfl);(case hr=>first|(go_simp;done)|(go_simp;rfl));intro gb331 hg w15 hbox hb;have BK331:=am (hbox);have GW331:=am (ge_ bl hg);have GE331:=am (ge_ bl hg);replace HB:=am (below_step bl hb);clear hb hbox hg;have hcz16_0:=bc BK331.out 0;have hcz16_1:=bc BK331.out 1;have hcz16_2:=bc BK331.out 2;have hfz16_0:=blk_frozen BK331.out 0;have hfz16_1:=blk_frozen BK331.out 1;have hfz16_2:=blk_frozen BK331.out 2))
   go_ret
   exact⟨fin1,bl⟩
 ·have c2b0:decide (0≤a0_0)=false:=decide_eq_false c2
  clear c2
  obtain rfl:=Option.some.inj H
  go_enter Try.func38,Try.ntmps38
  go_wp2_with (first|((with_reducible refine gate_dst (N:=1) rfl ?_);refine box_event ?hg (N:=1) ?hd (cs := #[.int .i64 a0_0,.int .i64 a0_1,.int .i64 a0_2]) (t:=40) ?hr ?_;(case hd=>rfl);(case hg=>rfl);(case hr=>first|(go_simp;done)|(go_simp;rfl));intro gb331 hg w17 hbox hb;have BK331:=am (hbox);have GW331:=am (ge_ bl hg);have GE331:=am (ge_ bl hg);replace HB:=am (below_step bl hb);clear hb hbox hg;have hcz18_0:=bc BK331.out 0;have hcz18_1:=bc BK331.out 1;have hcz18_2:=bc BK331.out 2;have hfz18_0:=blk_frozen BK331.out 0;have hfz18_1:=blk_frozen BK331.out 1;have hfz18_2:=blk_frozen BK331.out 2))
  go_ret
  exact⟨fin1,bl⟩

def slices_Index_int_int.l0:Nat→List Int→Int→Int→Int→Option (Int)
 | 0,_,_,_,_=>none
 | k+1,x0,x1,x7,x8=>if x8<x7 then(if 0≤x8 then(if x8<(x0.length:Int) then(if x1=(rd x0 x8) then(some x8) else(slices_Index_int_int.l0 k x0 x1 x7 (wrap64 (x8+1)))) else(none)) else(none)) else(some (-1))
def slices_Index_int_int.f (k:Nat) (l0:List Int) (a1:Int):Option (Int):=slices_Index_int_int.l0 k l0 a1 (l0.length:Int) 0
set_option maxHeartbeats 8000000 in
set_option maxRecDepth 100000 in
theorem slices_Index_int_int.calls (k:Nat) (A0:Option Addr) (c0:Nat) (l0:List Int) (a1:Int) (r:Int) (w:World) (hr0:Kd.C (Kd.int .i64) w A0 l0.length l0) (hc0:l0.length≤c0) (h:slices_Index_int_int.f k l0 a1=some r) :
  Calls Try.prog 70 #[.slice A0 l0.length c0,.int .i64 a1] w fun e w'=>e = .returned (.int .i64 r)∧Drawn0 w w':=by
 have HR0:=am hr0
 have HC0:=am hc0
 clear hr0 hc0
 have H:(slices_Index_int_int.l0 k l0 a1 (l0.length:Int) 0)=some r:=h
 clear h
 have H':=am H
 clear H
 go_enter Try.func70,Try.ntmps70
 go_wp2
 go_loopg [8] k (fun kq v8 w'=>∃(x8_1:Int),v8 = .int .i64 x8_1∧Aside0 (slices_Index_int_int.l0 kq l0 a1 (l0.length:Int) x8_1=some r)∧Aside0 (kq≤k)∧Drawn0 w w')
 case atStart=>exact⟨(0),fin2,H',⟨Nat.le_refl _⟩,by repeat(first|exact Drawn0.refl _|apply Drawn0.step)⟩
 case round =>
  clear H'
  try clear p2
  obtain⟨x8_1,rfl,HA,HK1,⟨m1,rfl⟩⟩:=hrel
  cases gk with
  | zero=>exact absurd HA.out (by simp [slices_Index_int_int.l0])
  | succ k1 =>
   have H:=HA.out
   clear HA
   simp only[slices_Index_int_int.l0] at H
   rcases itc H with⟨c3,H⟩|⟨c3,H⟩
   ·have c3b0:=decide_eq_true c3
    clear c3
    obtain⟨c4b0,H⟩:=ifb H
    obtain⟨c5b0,H⟩:=ifb H
    rcases itc H with⟨c6,H⟩|⟨c6,H⟩
    ·have c6b0:(a1 == (rd l0 x8_1))=true:=beq_iff_eq.mpr c6
     have c6b1:(a1 != (rd l0 x8_1))=false:=bne_eq_false_iff_eq.mpr c6
     clear c6
     obtain rfl:=Option.some.inj H
     have p332:0≤(x8_1:Int):=od
     have q332:x8_1<(l0.length:Int):=od
     obtain⟨ad332,e332,hx332_0⟩:=Kd.at_int HR0.out x8_1 p332 q332
     cases e332
     replace p332:=eq_true p332
     replace q332:=eq_true q332
     go_wp2
     go_ret
     exact⟨by first|rfl|(simp;done)|(simp [*];done),by repeat(first|exact Drawn0.refl _|apply Drawn0.step)⟩
    ·have c6b0:(a1 == (rd l0 x8_1))=false:=beq_eq_false_iff_ne.mpr c6
     have c6b1:(a1 != (rd l0 x8_1))=true:=bne_iff_ne.mpr c6
     have H':=am H
     clear H
     have p332:0≤(x8_1:Int):=od
     have q332:x8_1<(l0.length:Int):=od
     obtain⟨ad332,e332,hx332_0⟩:=Kd.at_int HR0.out x8_1 p332 q332
     cases e332
     replace p332:=eq_true p332
     replace q332:=eq_true q332
     go_wp2
     go_roundg k1
     case measure=>have:=HK1.out;omega
     case rel=>exact⟨(wrap64 (x8_1+1)),fin2,H',⟨by have:=HK1.out;omega⟩,by repeat(first|exact Drawn0.refl _|apply Drawn0.step)⟩
   ·have c3b0:=decide_eq_false c3
    clear c3
    obtain rfl:=Option.some.inj H
    go_wp2
    go_ret
    exact⟨by first|rfl|(simp;done)|(simp [*];done),by repeat(first|exact Drawn0.refl _|apply Drawn0.step)⟩

mutual
def impl_matched.l0:Nat→List (S66)→List Bool→List Int→List (S62)→Int→Int→List Int→Int→Option (List Int×List Int)
 | 0,_,_,_,_,_,_,_,_=>none
 | k+1,x2,x8,x9,x22,x23,x24,x334000,x334001=>if x24<x23 then(if 0≤x24 then(if x24<(x22.length:Int) then((slices_Index_int_int.f k x334000 ((rd_T62 x22 x24).f0)).bind fun t342=>(impl_matched.l1 k x2 x8 x9 t342 (-1) x22 x23 x24 x2 (x2.length:Int) 0 x334000 x334001)) else(none)) else(none)) else(impl_matched.l2 k x8 x9 (([]:List Int)) (x2.length:Int) 0)
def impl_matched.l1:Nat→List (S66)→List Bool→List Int→Int→Int→List (S62)→Int→Int→List (S66)→Int→Int→List Int→Int→Option (List Int×List Int)
 | 0,_,_,_,_,_,_,_,_,_,_,_,_,_=>none
 | k+1,x2,x8,x9,x12,x13,x22,x23,x24,x33,x34,x35,x334000,x334001=>if x35<x34 then(if 0≤x35 then(if x35<(x33.length:Int) then(if x12≥0 then(if((rd_T66 x33 x35).f0)=x12 then(if x35<(x8.length:Int) then(if rdOf false x8 x35=true then(impl_matched.l1 k x2 x8 x9 x12 x13 x22 x23 x24 x33 x34 (wrap64 (x35+1)) x334000 x334001) else(if x9.length<17592186044416 then(impl_matched.l0 k x2 (x8.set (x35:Int).toNat true) (x9 ++ [x35]) x22 x23 (wrap64 (x24+1)) x334000 x334001) else(none))) else(none)) else(impl_matched.l1 k x2 x8 x9 x12 x13 x22 x23 x24 x33 x34 (wrap64 (x35+1)) x334000 x334001)) else(impl_matched.l1 k x2 x8 x9 x12 x13 x22 x23 x24 x33 x34 (wrap64 (x35+1)) x334000 x334001)) else(none)) else(none)) else(if x9.length<17592186044416 then(impl_matched.l0 k x2 x8 (x9 ++ [x13]) x22 x23 (wrap64 (x24+1)) x334000 x334001) else(none))
def impl_matched.l2:Nat→List Bool→List Int→List Int→Int→Int→Option (List Int×List Int)
 | 0,_,_,_,_,_=>none
 | k+1,x8,x9,x16,x67,x68=>if x68<x67 then(if 0≤x68 then(if x68<(x8.length:Int) then(if rdOf false x8 x68=true then(impl_matched.l2 k x8 x9 x16 x67 (wrap64 (x68+1))) else(if x16.length<17592186044416 then(impl_matched.l2 k x8 x9 (x16 ++ [x68]) x67 (wrap64 (x68+1))) else(none))) else(none)) else(none)) else(some (x9,x16))
end
def impl_matched.f (k:Nat) (l0_0:List Int) (a0_1:Int) (l1:List (S62)) (l2:List (S66)):Option (List Int×List Int):=if 0≤(l2.length:Int) then(if((l2.length:Int):Int).toNat≤281474976710656 then(impl_matched.l0 k l2 (List.replicate ((l2.length:Int):Int).toNat false) (([]:List Int)) l1 (l1.length:Int) 0 l0_0 a0_1) else(none)) else(none)
set_option maxHeartbeats 8000000 in
set_option maxRecDepth 100000 in
theorem impl_matched.calls (k:Nat) (A0_0:Option Addr) (c0_0:Nat) (l0_0:List Int) (a0_1:Int) (A1:Option Addr) (c1:Nat) (l1:List (S62)) (A2:Option Addr) (c2:Nat) (l2:List (S66)) (r1:List Int) (r2:List Int) (w:World) (hr0_0:Kd.C (Kd.int .i64) w A0_0 l0_0.length l0_0) (hc0_0:l0_0.length≤c0_0) (hr1:Kd.C k62 w A1 l1.length l1) (hc1:l1.length≤c1) (hr2:Kd.C k66 w A2 l2.length l2) (hc2:l2.length≤c2) (h:impl_matched.f k l0_0 a0_1 l1 l2=some (r1,r2)) :
  Calls Try.prog 53 #[.agg #[.slice A0_0 l0_0.length c0_0,.int .i64 a0_1],.slice A1 l1.length c1,.slice A2 l2.length c2] w fun e w'=>∃ v0_ v1_:Value,e = .returned (.tuple #[v0_,v1_])∧Kd.R (Kd.int .i64) 3 w' w.heap.size (fun k_=>some k_≠(v1_:Value).ownBlock) v0_ r1∧Kd.R (Kd.int .i64) 3 w' w.heap.size (fun k_=>some k_≠(v0_:Value).ownBlock) v1_ r2∧Below w.heap.size w w':=by
 have hu34:=Try.underlying34
 have hu62:=Try.underlying62
 have hu66:=Try.underlying66
 have HR0_0:=am hr0_0
 have HC0_0:=am hc0_0
 clear hr0_0 hc0_0
 have HR1:=am hr1
 have HC1:=am hc1
 clear hr1 hc1
 have HR2:=am hr2
 have HC2:=am hc2
 clear hr2 hc2
 have HB:=am (Below.refl w.heap.size w)
 have H:(if 0≤(l2.length:Int) then(if((l2.length:Int):Int).toNat≤281474976710656 then(impl_matched.l0 k l2 (List.replicate ((l2.length:Int):Int).toNat false) (([]:List Int)) l1 (l1.length:Int) 0 l0_0 a0_1) else(none)) else(none))=some (r1,r2):=h
 clear h
 obtain⟨c4,H⟩:=ifp H
 have c4b0:=eq_true c4
 have c4b1:decide (0≤(l2.length:Int))=true:=decide_eq_true c4
 clear c4
 obtain⟨c5,H⟩:=ifp H
 have c5b0:=eq_true c5
 have c5b1:decide (((l2.length:Int):Int).toNat≤281474976710656)=true:=decide_eq_true c5
 clear c5
 obtain⟨y334,hy334⟩:∃ y_:List Bool,y_=(List.replicate ((l2.length:Int):Int).toNat false):=⟨_,rfl⟩
 replace H:(impl_matched.l0 k l2 y334 (([]:List Int)) l1 (l1.length:Int) 0 l0_0 a0_1)=some (r1,r2):=by subst hy334;exact H
 have Ny334:=am hy334
 clear hy334
 obtain⟨y337,hy337⟩:∃ y_:List Int,y_=(([]:List Int)):=⟨_,rfl⟩
 replace H:(impl_matched.l0 k l2 y334 y337 l1 (l1.length:Int) 0 l0_0 a0_1)=some (r1,r2):=by subst hy337;exact H
 have Ny337:=am hy337
 clear hy337
 have H':=am H
 clear H
 go_enter Try.func53,Try.ntmps53
 go_wp2_with (first|((with_reducible refine gate_dst (N:=3) rfl ?_);refine box_event ?hg (N:=3) ?hd (cs := #[.slice A0_0 l0_0.length c0_0,.int .i64 a0_1]) (t:=34) ?hr ?_;(case hd=>rfl);(case hg=>rfl);(case hr=>first|(go_simp;done)|(go_simp;rfl));intro gb333 hg w6 hbox hb;have BK333:=am (hbox);have GW333:=am (ge_ bl hg);have GE333:=am (ge_ bl hg);replace HB:=am (below_step bl hb);clear hb hbox hg)|((with_reducible refine gate_dst (N:=20) rfl ?_);refine Kd.R_make Kd.bool _ 4 rfl (N:=20) rfl 91 _ _ rfl (l2.length:Int) rfl rfl Try.underlying91 (.bool false) 1 info4 rfl (by decide) (by omega) false (ok:=fun _=>True) (okp:=fun _=>True) rfl (fun _ hk=>hk) trivial (od) (Nat.le_trans (Nat.mul_le_mul_right _ (od:(l2.length:Int).toNat≤281474976710656)) (by omega)) (Below.refl _ _) (Nat.le_refl _) ?_;intro v335 w7 ho8 hb hg_ hnew_;clear hg_ hnew_;(first|rw[← Ny334.out] at ho8|(simp only[Int.reduceToNat] at ho8;rw[← Ny334.out] at ho8));have HO336:=am (Kd.R_lower ho8 (below_size bl));replace BK333:=am (blk_below (bup BK333.out) hb);replace HB:=am (below_step bl hb);clear hb ho8)|((with_reducible refine gate_dst (N:=21) rfl ?_);refine Kd.R_lit (Kd.int .i64) _ 3 ?hg (N:=21) ?hd (xs:=([]:List Int)) (inner:=[]) (ok:=fun _=>True) (okp:=fun _=>True) ?hr ?hp (fun _ hk=>hk) trivial (Below.refl _ _) (Nat.le_refl _) (by simp) ?_;(case hd=>rfl);(case hg=>rfl);(case hr=>first|(go_simp;done)|(go_simp;rfl));(case hp=>exact(Reps.none _ _));intro v338 w9 ho10 hb hg_ hnew_;clear hg_ hnew_;(first|rw[← Ny337.out] at ho10|(simp only[Int.reduceToNat] at ho10;rw[← Ny337.out] at ho10));replace HO336:=am (Kd.R_below (rup HO336.out) hb);have HO339:=am (Kd.R_lower ho10 (below_size bl));replace BK333:=am (blk_below (bup BK333.out) hb);replace HB:=am (below_step bl hb);clear hb ho10))
 go_loopg [9,24] k (fun kq v9 v24 w'=>∃(x8_1:List Bool) (x9_1:List Int) (x24_1:Int),v24 = .int .i64 x24_1∧Aside0 (impl_matched.l0 kq l2 x8_1 x9_1 l1 (l1.length:Int) x24_1 l0_0 a0_1=some (r1,r2))∧Aside0 (kq≤k)∧Aside0 (Kd.R Kd.bool 4 w' w.heap.size (fun _=>True) v335 x8_1)∧Aside0 (Kd.R (Kd.int .i64) 3 w' w.heap.size (fun _=>True) v9 x9_1)∧Aside0 (w'.heap[gb333]?=some (.cells #[(.slice A0_0 l0_0.length c0_0),.int .i64 a0_1] 34 (0,0)))∧Aside0 (Below w.heap.size w w'))
 case atStart=>exact⟨(y334),(y337),(0),fin2,H',⟨Nat.le_refl _⟩,⟨rup HO336.out⟩,⟨rup HO339.out⟩,⟨bup BK333.out⟩,⟨bl⟩⟩
 case round =>
  clear H'
  try clear c1
  try clear c2
  try clear p2
  try clear c4
  try clear c4b0
  try clear c4b1
  try clear c5
  try clear c5b0
  try clear c5b1
  obtain⟨x8_1,x9_1,x24_1,rfl,HA,HK1,HO_8,HO_9,BK333,HB⟩:=hrel
  cases gk with
  | zero=>exact absurd HA.out (by simp [impl_matched.l0])
  | succ k1 =>
   have H:=HA.out
   clear HA
   simp only[impl_matched.l0] at H
   rcases itc H with⟨c11,H⟩|⟨c11,H⟩
   ·have c11b0:=decide_eq_true c11
    clear c11
    obtain⟨c12b0,H⟩:=ifb H
    obtain⟨c13b0,H⟩:=ifb H
    replace H:=Option.bind_eq_some_iff.mp H
    obtain⟨t342,A140,H⟩:=H
    replace H:(impl_matched.l1 k1 l2 x8_1 x9_1 t342 (-1) l1 (l1.length:Int) x24_1 l2 (l2.length:Int) 0 l0_0 a0_1)=some (r1,r2):=H
    have A14:=am A140
    clear A140
    have H':=am H
    clear H
    have p340:0≤(x24_1:Int):=od
    have q340:x24_1<(l1.length:Int):=od
    obtain⟨ad340,e340,hx340_0,hx340_1,hx340_2⟩:=at_T62 HR1.out x24_1 p340 q340
    cases e340
    replace hx340_0:=(HB.out.cell (World.block_lt_of_cell? w _ hx340_0)).trans hx340_0
    replace hx340_1:=(HB.out.cell (World.block_lt_of_cell? w _ hx340_1)).trans hx340_1
    replace hx340_2:=(HB.out.cell (World.block_lt_of_cell? w _ hx340_2)).trans hx340_2
    replace p340:=eq_true p340
    replace q340:=eq_true q340
    go_wp2_with (first|((with_reducible refine gate_dst (N:=11) rfl ?_);refine box_event ?hg (N:=11) ?hd (cs := #[.int .i64 0,.int .i64 0,.int .i64 0]) (t:=62) ?hr ?_;(case hd=>rfl);(case hg=>rfl);(case hr=>first|(go_simp;done)|(go_simp;rfl));intro gb341 hg w15 hbox hb;replace HO_8:=am (Kd.R_below (rup HO_8.out) hb);replace HO_9:=am (Kd.R_below (rup HO_9.out) hb);have BK341:=am (hbox);have GW341:=am (ge_ bl hg);have GE341:=am (ge_ bl hg);replace HB:=am (below_step bl hb);have NB333_341:=am (nl (bup BK333.out) hg);have NB341_333:=am (ng (bup BK333.out) hg);replace BK333:=am (blk_below (bup BK333.out) hb);clear hb hbox hg;have hnb16:=NB341_333.out;have hnc16:=NB333_341.out;have hcz17_0:=bc BK341.out 0;have hcz17_1:=bc BK341.out 1;have hcz17_2:=bc BK341.out 2;have hfz17_0:=blk_frozen BK341.out 0;have hfz17_1:=blk_frozen BK341.out 1;have hfz17_2:=blk_frozen BK341.out 2;have hcz18_0:=bc BK333.out 0;have hcz18_1:=bc BK333.out 1;have hfz18_0:=blk_frozen BK333.out 0;have hfz18_1:=blk_frozen BK333.out 1)|((with_reducible refine gate_callee (f:=70) rfl ?_);refine goesL_ (some 32) rfl rfl Try.func70 (by kernel_rfl) rfl #[.slice A0_0 l0_0.length c0_0,.int .i64 ((rd_T62 l1 x24_1).f0)] rfl tl ?_;(with_reducible refine(slices_Index_int_int.calls k1 _ _ l0_0 ((rd_T62 l1 x24_1).f0) t342 _ ?side1 ?side2 A14.out).mono ?_);(case side1=>exact Kd.C_below HR0_0.out bl);(case side2=>exact HC0_0.out);rintro e w' ⟨rfl,⟨nd,rfl⟩⟩;refine⟨_,rfl,?_⟩))
    go_loopg [13,35] k1 (fun kq v13 v35 w'=>∃(x8_2:List Bool) (x13_2:Int) (x35_2:Int),v13 = .int .i64 x13_2∧v35 = .int .i64 x35_2∧Aside0 (impl_matched.l1 kq l2 x8_2 x9_1 t342 x13_2 l1 (l1.length:Int) x24_1 l2 (l2.length:Int) x35_2 l0_0 a0_1=some (r1,r2))∧Aside0 (kq≤k1)∧Aside0 (Kd.R Kd.bool 4 w' w.heap.size (fun _=>True) v335 x8_2)∧Aside0 (Kd.R (Kd.int .i64) 3 w' w.heap.size (fun _=>True) u9 x9_1)∧Aside0 (w'.heap[gb333]?=some (.cells #[(.slice A0_0 l0_0.length c0_0),.int .i64 a0_1] 34 (0,0)))∧Aside0 (w'.heap[gb341]?=some (.cells #[.int .i64 ((rd_T62 l1 x24_1).f0),.int .i64 ((rd_T62 l1 x24_1).f1),.int .i64 ((rd_T62 l1 x24_1).f2)] 62 (0,0)))∧Aside0 (Below w.heap.size w w'))
    case atStart=>exact⟨(x8_1),((-1)),(0),fin2,fin2,H',⟨Nat.le_refl _⟩,⟨rup (Kd.R_mono (Kd.R_far (p:=⟨gb341,2,none⟩) (Kd.R_far (p:=⟨gb341,1,none⟩) (Kd.R_far (p:=⟨gb341,0,none⟩) (Kd.R_types HO_8.out BK341.out (by decide)) (fun _ hk=>hk.2) (.int .i64 ((rd_T62 l1 x24_1).f0))) (fun _ hk=>hk.2) (.int .i64 ((rd_T62 l1 x24_1).f1))) (fun _ hk=>hk.2) (.int .i64 ((rd_T62 l1 x24_1).f2))) (fun _ hk=>trivial))⟩,⟨rup (Kd.R_mono (Kd.R_far (p:=⟨gb341,2,none⟩) (Kd.R_far (p:=⟨gb341,1,none⟩) (Kd.R_far (p:=⟨gb341,0,none⟩) (Kd.R_types HO_9.out BK341.out (by decide)) (fun _ hk=>hk.2) (.int .i64 ((rd_T62 l1 x24_1).f0))) (fun _ hk=>hk.2) (.int .i64 ((rd_T62 l1 x24_1).f1))) (fun _ hk=>hk.2) (.int .i64 ((rd_T62 l1 x24_1).f2))) (fun _ hk=>trivial))⟩,⟨by(with_reducible repeat(first|refine bN_ ?_ _|refine bD_ ?_|refine bA_ ?_ _));refine blk_far ?_ NB333_341.out _;(with_reducible repeat(first|refine bN_ ?_ _|refine bD_ ?_|refine bA_ ?_ _));refine blk_far ?_ NB333_341.out _;(with_reducible repeat(first|refine bN_ ?_ _|refine bD_ ?_|refine bA_ ?_ _));refine blk_far ?_ NB333_341.out _;exact bup BK333.out⟩,⟨by(with_reducible repeat(first|refine bN_ ?_ _|refine bD_ ?_|refine bA_ ?_ _));refine blk_put (cs := #[.int .i64 ((rd_T62 l1 x24_1).f0),.int .i64 ((rd_T62 l1 x24_1).f1),.int .i64 0]) ?_ 2 _ rfl;(with_reducible repeat(first|refine bN_ ?_ _|refine bD_ ?_|refine bA_ ?_ _));refine blk_put (cs := #[.int .i64 ((rd_T62 l1 x24_1).f0),.int .i64 0,.int .i64 0]) ?_ 1 _ rfl;(with_reducible repeat(first|refine bN_ ?_ _|refine bD_ ?_|refine bA_ ?_ _));refine blk_put (cs := #[.int .i64 0,.int .i64 0,.int .i64 0]) ?_ 0 _ rfl;exact bup BK341.out⟩,⟨bl⟩⟩
    case round =>
     clear H'
     try clear c1
     try clear c2
     try clear p2
     try clear p3
     try clear q3
     try clear hx3
     try clear c4
     try clear c4b0
     try clear c4b1
     try clear c5
     try clear c5b0
     try clear c5b1
     try clear c7
     try clear c11
     try clear c11b0
     try clear c12
     try clear c12b0
     try clear c13
     try clear c13b0
     try clear c16
     try clear hcz17_0
     try clear hcz17_1
     try clear hcz17_2
     try clear hcz18_0
     try clear hcz18_1
     try clear hfz17_0
     try clear hfz17_1
     try clear hfz17_2
     try clear hfz18_0
     try clear hfz18_1
     try clear hx340_0
     try clear hx340_1
     try clear hx340_2
     try clear p2
     try clear p340
     try clear q340
     obtain⟨x8_2,x13_2,x35_2,rfl,rfl,HA,HK2,HO_8,HO_9,BK333,BK341,HB⟩:=hrel
     cases gk with
     | zero=>exact absurd HA.out (by simp [impl_matched.l1])
     | succ k2 =>
      have H:=HA.out
      clear HA
      simp only[impl_matched.l1] at H
      rcases itc H with⟨c19,H⟩|⟨c19,H⟩
      ·have c19b0:=decide_eq_true c19
       clear c19
       obtain⟨c20b0,H⟩:=ifb H
       obtain⟨c21b0,H⟩:=ifb H
       rcases itc H with⟨c22,H⟩|⟨c22,H⟩
       ·have c22b0:decide (0≤t342)=true:=decide_eq_true c22
        clear c22
        rcases itc H with⟨c23,H⟩|⟨c23,H⟩
        ·have c23b0:(((rd_T66 l2 x35_2).f0) == t342)=true:=beq_iff_eq.mpr c23
         have c23b1:(((rd_T66 l2 x35_2).f0) != t342)=false:=bne_eq_false_iff_eq.mpr c23
         clear c23
         obtain⟨c24b0,H⟩:=ifb H
         obtain⟨bq25,hbq25⟩:∃ b_:Bool,b_=(rdOf false x8_2 x35_2):=⟨_,rfl⟩
         replace H:(if bq25=true then(impl_matched.l1 k2 l2 x8_2 x9_1 t342 x13_2 l1 (l1.length:Int) x24_1 l2 (l2.length:Int) (wrap64 (x35_2+1)) l0_0 a0_1) else(if x9_1.length<17592186044416 then(impl_matched.l0 k2 l2 (x8_2.set (x35_2:Int).toNat true) (x9_1 ++ [x35_2]) l1 (l1.length:Int) (wrap64 (x24_1+1)) l0_0 a0_1) else(none)))=some (r1,r2):=by rw[← hbq25] at H;exact H
         have Nbq25:=am hbq25
         clear hbq25
         by_cases c26:bq25=true
         ·subst c26
          replace H:=(if_pos rfl).symm.trans H
          have H':=am H
          clear H
          have p343:0≤(x35_2:Int):=od
          have q343:x35_2<(l2.length:Int):=od
          obtain⟨ad343,e343,hx343_0,hx343_1,hx343_2⟩:=at_T66 HR2.out x35_2 p343 q343
          cases e343
          replace hx343_0:=(HB.out.cell (World.block_lt_of_cell? w _ hx343_0)).trans hx343_0
          replace hx343_1:=(HB.out.cell (World.block_lt_of_cell? w _ hx343_1)).trans hx343_1
          replace hx343_2:=(HB.out.cell (World.block_lt_of_cell? w _ hx343_2)).trans hx343_2
          replace p343:=eq_true p343
          replace q343:=eq_true q343
          go_wp2_with (first|((with_reducible refine gate_dst (N:=15) rfl ?_);refine box_event ?hg (N:=15) ?hd (cs := #[.int .i64 0,.int .i64 0,.int .i64 0]) (t:=66) ?hr ?_;(case hd=>rfl);(case hg=>rfl);(case hr=>first|(go_simp;done)|(go_simp;rfl));intro gb344 hg w27 hbox hb;replace HO_8:=am (Kd.R_below (rup HO_8.out) hb);replace HO_9:=am (Kd.R_below (rup HO_9.out) hb);have BK344:=am (hbox);have GW344:=am (ge_ bl hg);have GE344:=am (ge_ bl hg);replace HB:=am (below_step bl hb);have NB333_344:=am (nl (bup BK333.out) hg);have NB344_333:=am (ng (bup BK333.out) hg);replace BK333:=am (blk_below (bup BK333.out) hb);have NB341_344:=am (nl (bup BK341.out) hg);have NB344_341:=am (ng (bup BK341.out) hg);replace BK341:=am (blk_below (bup BK341.out) hb);clear hb hbox hg;have hnb28:=NB344_333.out;have hnc28:=NB333_344.out;have hnb29:=NB344_341.out;have hnc29:=NB341_344.out;have hcz30_0:=bc BK344.out 0;have hcz30_1:=bc BK344.out 1;have hcz30_2:=bc BK344.out 2;have hfz30_0:=blk_frozen BK344.out 0;have hfz30_1:=blk_frozen BK344.out 1;have hfz30_2:=blk_frozen BK344.out 2;obtain⟨Ao31,co31,eo31⟩:=Kd.R_slice HO_8.out;subst eo31;have p345:0≤(x35_2:Int):=od;have q345:x35_2<(x8_2.length:Int):=od;obtain⟨ad345,e345,hx345_0⟩:=Kd.at_bool (Kd.R_reads' HO_8.out).2.2 x35_2 p345 q345;(try rw[← Nbq25.out] at hx345_0);cases e345;have hn345_0:ad345.block≠gb344:=Kd.own_blk (Kd.R_ne HO_8.out BK344.out (by decide));have hn345_1:ad345.block≠gb344:=Kd.own_blk (Kd.R_ne HO_8.out BK344.out (by decide));have hn345_2:ad345.block≠gb344:=Kd.own_blk (Kd.R_ne HO_8.out BK344.out (by decide));replace hx345_0:=(cell_far (p:=⟨gb344,0,none⟩) (by first|(rw[add_block];exact hn345_0)|(show(Addr.add _ _).block≠_;rw[add_block];exact hn345_0)|exact hn345_0) (.int .i64 ((rd_T66 l2 x35_2).f0))).trans hx345_0;replace hx345_0:=(cell_far (p:=⟨gb344,1,none⟩) (by first|(rw[add_block];exact hn345_1)|(show(Addr.add _ _).block≠_;rw[add_block];exact hn345_1)|exact hn345_1) (.int .i64 ((rd_T66 l2 x35_2).f1))).trans hx345_0;replace hx345_0:=(cell_far (p:=⟨gb344,2,none⟩) (by first|(rw[add_block];exact hn345_2)|(show(Addr.add _ _).block≠_;rw[add_block];exact hn345_2)|exact hn345_2) (.int .i64 ((rd_T66 l2 x35_2).f2))).trans hx345_0;clear hn345_0 hn345_1 hn345_2;replace p345:=eq_true p345;replace q345:=eq_true q345))
          go_roundg k2
          case measure=>have:=HK1.out;have:=HK2.out;omega
          case rel=>exact⟨(x8_2),(x13_2),(wrap64 (x35_2+1)),fin2,fin2,H',⟨by have:=HK1.out;have:=HK2.out;omega⟩,⟨rup (Kd.R_mono (Kd.R_far (p:=⟨gb344,2,none⟩) (Kd.R_far (p:=⟨gb344,1,none⟩) (Kd.R_far (p:=⟨gb344,0,none⟩) (Kd.R_types HO_8.out BK344.out (by decide)) (fun _ hk=>hk.2) (.int .i64 ((rd_T66 l2 x35_2).f0))) (fun _ hk=>hk.2) (.int .i64 ((rd_T66 l2 x35_2).f1))) (fun _ hk=>hk.2) (.int .i64 ((rd_T66 l2 x35_2).f2))) (fun _ hk=>trivial))⟩,⟨rup (Kd.R_mono (Kd.R_far (p:=⟨gb344,2,none⟩) (Kd.R_far (p:=⟨gb344,1,none⟩) (Kd.R_far (p:=⟨gb344,0,none⟩) (Kd.R_types HO_9.out BK344.out (by decide)) (fun _ hk=>hk.2) (.int .i64 ((rd_T66 l2 x35_2).f0))) (fun _ hk=>hk.2) (.int .i64 ((rd_T66 l2 x35_2).f1))) (fun _ hk=>hk.2) (.int .i64 ((rd_T66 l2 x35_2).f2))) (fun _ hk=>trivial))⟩,⟨by(with_reducible repeat(first|refine bN_ ?_ _|refine bD_ ?_|refine bA_ ?_ _));refine blk_far ?_ NB333_344.out _;(with_reducible repeat(first|refine bN_ ?_ _|refine bD_ ?_|refine bA_ ?_ _));refine blk_far ?_ NB333_344.out _;(with_reducible repeat(first|refine bN_ ?_ _|refine bD_ ?_|refine bA_ ?_ _));refine blk_far ?_ NB333_344.out _;exact bup BK333.out⟩,⟨by(with_reducible repeat(first|refine bN_ ?_ _|refine bD_ ?_|refine bA_ ?_ _));refine blk_far ?_ NB341_344.out _;(with_reducible repeat(first|refine bN_ ?_ _|refine bD_ ?_|refine bA_ ?_ _));refine blk_far ?_ NB341_344.out _;(with_reducible repeat(first|refine bN_ ?_ _|refine bD_ ?_|refine bA_ ?_ _));refine blk_far ?_ NB341_344.out _;exact bup BK341.out⟩,⟨bl⟩⟩
         ·replace c26:=Bool.eq_false_iff.mpr c26
          subst c26
          replace H:=(if_neg Bool.false_ne_true).symm.trans H
          obtain⟨y346,hy346⟩:∃ y_:List Bool,y_=(x8_2.set (x35_2:Int).toNat true):=⟨_,rfl⟩
          replace H:(if x9_1.length<17592186044416 then(impl_matched.l0 k2 l2 y346 (x9_1 ++ [x35_2]) l1 (l1.length:Int) (wrap64 (x24_1+1)) l0_0 a0_1) else(none))=some (r1,r2):=by subst hy346;exact H
          have Ny346:=am hy346
          clear hy346
          obtain⟨c33,H⟩:=ifp H
          have LMc33:=am c33
          clear c33
          obtain⟨y347,hy347⟩:∃ y_:List Int,y_=(x9_1 ++ [x35_2]):=⟨_,rfl⟩
          replace H:(impl_matched.l0 k2 l2 y346 y347 l1 (l1.length:Int) (wrap64 (x24_1+1)) l0_0 a0_1)=some (r1,r2):=by subst hy347;exact H
          have Ny347:=am hy347
          clear hy347
          have H':=am H
          clear H
          have p343:0≤(x35_2:Int):=od
          have q343:x35_2<(l2.length:Int):=od
          obtain⟨ad343,e343,hx343_0,hx343_1,hx343_2⟩:=at_T66 HR2.out x35_2 p343 q343
          cases e343
          replace hx343_0:=(HB.out.cell (World.block_lt_of_cell? w _ hx343_0)).trans hx343_0
          replace hx343_1:=(HB.out.cell (World.block_lt_of_cell? w _ hx343_1)).trans hx343_1
          replace hx343_2:=(HB.out.cell (World.block_lt_of_cell? w _ hx343_2)).trans hx343_2
          replace p343:=eq_true p343
          replace q343:=eq_true q343
          go_wp2_with (first|((with_reducible refine gate_dst (N:=15) rfl ?_);refine box_event ?hg (N:=15) ?hd (cs := #[.int .i64 0,.int .i64 0,.int .i64 0]) (t:=66) ?hr ?_;(case hd=>rfl);(case hg=>rfl);(case hr=>first|(go_simp;done)|(go_simp;rfl));intro gb344 hg w34 hbox hb;replace HO_8:=am (Kd.R_below (rup HO_8.out) hb);replace HO_9:=am (Kd.R_below (rup HO_9.out) hb);have BK344:=am (hbox);have GW344:=am (ge_ bl hg);have GE344:=am (ge_ bl hg);replace HB:=am (below_step bl hb);have NB333_344:=am (nl (bup BK333.out) hg);have NB344_333:=am (ng (bup BK333.out) hg);replace BK333:=am (blk_below (bup BK333.out) hb);have NB341_344:=am (nl (bup BK341.out) hg);have NB344_341:=am (ng (bup BK341.out) hg);replace BK341:=am (blk_below (bup BK341.out) hb);clear hb hbox hg;have hnb35:=NB344_333.out;have hnc35:=NB333_344.out;have hnb36:=NB344_341.out;have hnc36:=NB341_344.out;have hcz37_0:=bc BK344.out 0;have hcz37_1:=bc BK344.out 1;have hcz37_2:=bc BK344.out 2;have hfz37_0:=blk_frozen BK344.out 0;have hfz37_1:=blk_frozen BK344.out 1;have hfz37_2:=blk_frozen BK344.out 2)|((with_reducible refine gate_store (t:=66) (p:=15) rfl ?_);refine store_event (t:=66) (p:=15) (v:=?vo_w38) (w1:=(((w34.setCell ⟨gb344,0,none⟩ (.int .i64 ((rd_T66 l2 x35_2).f0))).setCell ⟨gb344,1,none⟩ (.int .i64 ((rd_T66 l2 x35_2).f1))).setCell ⟨gb344,2,none⟩ (.int .i64 ((rd_T66 l2 x35_2).f2)))) ?hg ?ho ?hn ?hr ?_;(case ho=>rfl);(case hg=>rfl);(case hn=>rfl);(case hr=>first|(go_simp;done)|(go_simp;rfl));intro w38 hw;have n0_:Aside0 (Kd.R Kd.bool 4 w38 w.heap.size (fun _=>True) v335 x8_2):=⟨(by rw[hw];exact(rup (Kd.R_mono (Kd.R_far (p:=⟨gb344,2,none⟩) (Kd.R_far (p:=⟨gb344,1,none⟩) (Kd.R_far (p:=⟨gb344,0,none⟩) (Kd.R_types HO_8.out BK344.out (by decide)) (fun _ hk=>hk.2) (.int .i64 ((rd_T66 l2 x35_2).f0))) (fun _ hk=>hk.2) (.int .i64 ((rd_T66 l2 x35_2).f1))) (fun _ hk=>hk.2) (.int .i64 ((rd_T66 l2 x35_2).f2))) (fun _ hk=>trivial))))⟩;have n1_:Aside0 (Kd.R (Kd.int .i64) 3 w38 w.heap.size (fun _=>True) u9 x9_1):=⟨(by rw[hw];exact(rup (Kd.R_mono (Kd.R_far (p:=⟨gb344,2,none⟩) (Kd.R_far (p:=⟨gb344,1,none⟩) (Kd.R_far (p:=⟨gb344,0,none⟩) (Kd.R_types HO_9.out BK344.out (by decide)) (fun _ hk=>hk.2) (.int .i64 ((rd_T66 l2 x35_2).f0))) (fun _ hk=>hk.2) (.int .i64 ((rd_T66 l2 x35_2).f1))) (fun _ hk=>hk.2) (.int .i64 ((rd_T66 l2 x35_2).f2))) (fun _ hk=>trivial))))⟩;have n2_:Aside0 (w38.heap[gb333]?=some (.cells #[.slice A0_0 l0_0.length c0_0,.int .i64 a0_1] 34 (0,0))):=⟨(by rw[hw];exact(by(with_reducible repeat(first|refine bN_ ?_ _|refine bD_ ?_|refine bA_ ?_ _));refine blk_far ?_ NB333_344.out _;(with_reducible repeat(first|refine bN_ ?_ _|refine bD_ ?_|refine bA_ ?_ _));refine blk_far ?_ NB333_344.out _;(with_reducible repeat(first|refine bN_ ?_ _|refine bD_ ?_|refine bA_ ?_ _));refine blk_far ?_ NB333_344.out _;exact bup BK333.out))⟩;have n3_:Aside0 (w38.heap[gb341]?=some (.cells #[.int .i64 ((rd_T62 l1 x24_1).f0),.int .i64 ((rd_T62 l1 x24_1).f1),.int .i64 ((rd_T62 l1 x24_1).f2)] 62 (0,0))):=⟨(by rw[hw];exact(by(with_reducible repeat(first|refine bN_ ?_ _|refine bD_ ?_|refine bA_ ?_ _));refine blk_far ?_ NB341_344.out _;(with_reducible repeat(first|refine bN_ ?_ _|refine bD_ ?_|refine bA_ ?_ _));refine blk_far ?_ NB341_344.out _;(with_reducible repeat(first|refine bN_ ?_ _|refine bD_ ?_|refine bA_ ?_ _));refine blk_far ?_ NB341_344.out _;exact bup BK341.out))⟩;have n4_:Aside0 (w38.heap[gb344]?=some (.cells #[.int .i64 ((rd_T66 l2 x35_2).f0),.int .i64 ((rd_T66 l2 x35_2).f1),.int .i64 ((rd_T66 l2 x35_2).f2)] 66 (0,0))):=⟨(by rw[hw];exact(by(with_reducible repeat(first|refine bN_ ?_ _|refine bD_ ?_|refine bA_ ?_ _));refine blk_put (cs := #[.int .i64 ((rd_T66 l2 x35_2).f0),.int .i64 ((rd_T66 l2 x35_2).f1),.int .i64 0]) ?_ 2 _ rfl;(with_reducible repeat(first|refine bN_ ?_ _|refine bD_ ?_|refine bA_ ?_ _));refine blk_put (cs := #[.int .i64 ((rd_T66 l2 x35_2).f0),.int .i64 0,.int .i64 0]) ?_ 1 _ rfl;(with_reducible repeat(first|refine bN_ ?_ _|refine bD_ ?_|refine bA_ ?_ _));refine blk_put (cs := #[.int .i64 0,.int .i64 0,.int .i64 0]) ?_ 0 _ rfl;exact bup BK344.out))⟩;have n5_:Aside0 (Below w.heap.size w w38):=⟨(by rw[hw];exact bl)⟩;clear hw HO_8 HO_9 BK333 BK341 BK344 HB;have HO_8:=n0_;have HO_9:=n1_;have BK333:=n2_;have BK341:=n3_;have BK344:=n4_;have HB:=n5_;clear n0_ n1_ n2_ n3_ n4_ n5_;have hcz39_0:=bc BK344.out 0;have hcz39_1:=bc BK344.out 1;have hcz39_2:=bc BK344.out 2;have hfz39_0:=blk_frozen BK344.out 0;have hfz39_1:=blk_frozen BK344.out 1;have hfz39_2:=blk_frozen BK344.out 2;obtain⟨Ao40,co40,eo40⟩:=Kd.R_slice HO_8.out;subst eo40;have p345:0≤(x35_2:Int):=od;have q345:x35_2<(x8_2.length:Int):=od;obtain⟨ad345,e345,hx345_0⟩:=Kd.at_bool (Kd.R_reads' HO_8.out).2.2 x35_2 p345 q345;(try rw[← Nbq25.out] at hx345_0);cases e345;replace p345:=eq_true p345;replace q345:=eq_true q345;have p32:0≤(x35_2:Int):=od;have q32:(x35_2:Int)<((x8_2.length:Int):Int):=od;obtain⟨go32,co32,eo32,gb32,gl32,cl32,HG32⟩:=Kd.R_form HO_8.out (by omega);(first|cases eo32|(injection eo32 with ea_ en_ ec_;(first|subst ea_|(injection ea_ with ea_;subst ea_));subst ec_;clear en_));have GB32:=am gb32;have GG32:=am HG32;clear gb32 gl32 HG32;(first|simp only[add_plain] at hx345_0|skip);obtain⟨hx32_0,hf32_0⟩:=Kd.R_celln false HO_8.out (x35_2:Int) p32 q32;replace p32:=eq_true p32;replace q32:=eq_true q32;obtain⟨hy41_,hz41_⟩:=Kd.R_celln false HO_8.out (x35_2:Int) (od) (od);have HP41:=Kd.R_putg HO_8.out (x35_2:Int) true)|((with_reducible refine gate_store (t:=4) (p:=58) rfl ?_);refine store_event (t:=4) (p:=58) (v:=?vo_w42) (w1:=(w38.setCell ⟨go32,(x35_2:Int).toNat,none⟩ (.bool true))) ?hg ?ho ?hn ?hr ?_;(case ho=>rfl);(case hg=>rfl);(case hn=>rfl);(case hr=>first|(go_simp;done)|(go_simp;rfl));intro w42 hw;have hg:w38.grownBy w42 (some go32):=(by rw[hw];exact HP41.2);have hp_:Kd.R Kd.bool 4 w42 w.heap.size (fun _=>True) (.slice (some ⟨go32,0,none⟩) x8_2.length co40) y346:=(by rw[hw,Ny346.out];exact HP41.1);clear HP41;replace HO_9:=am (Kd.R_over' (v:=(.slice (some ⟨go32,0,none⟩) x8_2.length co40)) (rup HO_9.out) (Kd.R_typed HO_8.out) (by decide) hg);replace BK333:=am (blk_grown (bup BK333.out) hg (Kd.R_ne HO_8.out BK333.out (by decide)));replace BK341:=am (blk_grown (bup BK341.out) hg (Kd.R_ne HO_8.out BK341.out (by decide)));replace BK344:=am (blk_grown (bup BK344.out) hg (Kd.R_ne HO_8.out BK344.out (by decide)));replace HO_8:=am (hp_);replace HB:=am ((by rw[hw];exact below_set (HB.out) GB32.out:Below w.heap.size w w42));clear hg hw hp_)|((with_reducible refine gate_builtin (b := .append) (xs := #[.tmp 60,.tmp 62]) rfl ?_);at_builtin;refine Kd.R_append (Kd.int .i64) (w0:=w) w.heap.size rfl (.tmp 60) (.tmp 62) 22 3 (.int .i64 0) 8 rfl Try.underlying22 info3 rfl (by decide) (by omega) u9 x9_1 x35_2 [.int .i64 x35_2] (fun _=>True) (fun _=>False) rfl rfl ?aP (fun _ hk=>hk.elim) ?aF ?aO ?aB ?aS ?aL ?_;(case aP=>exact rfl);(case aB=>exact bl);(case aF=>exact(fun _ _=>trivial));(case aO=>exact(rup HO_9.out));(case aS=>exact(below_size bl));(case aL=>have:=LMc33.out;omega);intro v348 w43 ho hb hg hat;rw[← Ny347.out] at ho;replace HO_8:=am (Kd.R_over' (rup HO_8.out) (Kd.R_typed (rup HO_9.out)) (by decide) hg);replace BK333:=am (blk_grown (bup BK333.out) hg (Kd.R_ne HO_9.out BK333.out (by decide)));replace BK341:=am (blk_grown (bup BK341.out) hg (Kd.R_ne HO_9.out BK341.out (by decide)));replace BK344:=am (blk_grown (bup BK344.out) hg (Kd.R_ne HO_9.out BK344.out (by decide)));replace HB:=am (hb);have HO349:=am (ho);clear HO_9 ho hb hg hat))
          go_roundg k2
          case measure=>have:=HK1.out;have:=HK2.out;omega
          case rel=>exact⟨(y346),(y347),(wrap64 (x24_1+1)),fin2,H',⟨by have:=HK1.out;have:=HK2.out;omega⟩,⟨rup HO_8.out⟩,⟨rup HO349.out⟩,⟨bup BK333.out⟩,⟨bl⟩⟩
        ·have c23b0:(((rd_T66 l2 x35_2).f0) == t342)=false:=beq_eq_false_iff_ne.mpr c23
         have c23b1:(((rd_T66 l2 x35_2).f0) != t342)=true:=bne_iff_ne.mpr c23
         have H':=am H
         clear H
         have p343:0≤(x35_2:Int):=od
         have q343:x35_2<(l2.length:Int):=od
         obtain⟨ad343,e343,hx343_0,hx343_1,hx343_2⟩:=at_T66 HR2.out x35_2 p343 q343
         cases e343
         replace hx343_0:=(HB.out.cell (World.block_lt_of_cell? w _ hx343_0)).trans hx343_0
         replace hx343_1:=(HB.out.cell (World.block_lt_of_cell? w _ hx343_1)).trans hx343_1
         replace hx343_2:=(HB.out.cell (World.block_lt_of_cell? w _ hx343_2)).trans hx343_2
         replace p343:=eq_true p343
         replace q343:=eq_true q343
         go_wp2_with (first|((with_reducible refine gate_dst (N:=15) rfl ?_);refine box_event ?hg (N:=15) ?hd (cs := #[.int .i64 0,.int .i64 0,.int .i64 0]) (t:=66) ?hr ?_;(case hd=>rfl);(case hg=>rfl);(case hr=>first|(go_simp;done)|(go_simp;rfl));intro gb344 hg w44 hbox hb;replace HO_8:=am (Kd.R_below (rup HO_8.out) hb);replace HO_9:=am (Kd.R_below (rup HO_9.out) hb);have BK344:=am (hbox);have GW344:=am (ge_ bl hg);have GE344:=am (ge_ bl hg);replace HB:=am (below_step bl hb);have NB333_344:=am (nl (bup BK333.out) hg);have NB344_333:=am (ng (bup BK333.out) hg);replace BK333:=am (blk_below (bup BK333.out) hb);have NB341_344:=am (nl (bup BK341.out) hg);have NB344_341:=am (ng (bup BK341.out) hg);replace BK341:=am (blk_below (bup BK341.out) hb);clear hb hbox hg;have hnb45:=NB344_333.out;have hnc45:=NB333_344.out;have hnb46:=NB344_341.out;have hnc46:=NB341_344.out;have hcz47_0:=bc BK344.out 0;have hcz47_1:=bc BK344.out 1;have hcz47_2:=bc BK344.out 2;have hfz47_0:=blk_frozen BK344.out 0;have hfz47_1:=blk_frozen BK344.out 1;have hfz47_2:=blk_frozen BK344.out 2))
         go_roundg k2
         case measure=>have:=HK1.out;have:=HK2.out;omega
         case rel=>exact⟨(x8_2),(x13_2),(wrap64 (x35_2+1)),fin2,fin2,H',⟨by have:=HK1.out;have:=HK2.out;omega⟩,⟨rup (Kd.R_mono (Kd.R_far (p:=⟨gb344,2,none⟩) (Kd.R_far (p:=⟨gb344,1,none⟩) (Kd.R_far (p:=⟨gb344,0,none⟩) (Kd.R_types HO_8.out BK344.out (by decide)) (fun _ hk=>hk.2) (.int .i64 ((rd_T66 l2 x35_2).f0))) (fun _ hk=>hk.2) (.int .i64 ((rd_T66 l2 x35_2).f1))) (fun _ hk=>hk.2) (.int .i64 ((rd_T66 l2 x35_2).f2))) (fun _ hk=>trivial))⟩,⟨rup (Kd.R_mono (Kd.R_far (p:=⟨gb344,2,none⟩) (Kd.R_far (p:=⟨gb344,1,none⟩) (Kd.R_far (p:=⟨gb344,0,none⟩) (Kd.R_types HO_9.out BK344.out (by decide)) (fun _ hk=>hk.2) (.int .i64 ((rd_T66 l2 x35_2).f0))) (fun _ hk=>hk.2) (.int .i64 ((rd_T66 l2 x35_2).f1))) (fun _ hk=>hk.2) (.int .i64 ((rd_T66 l2 x35_2).f2))) (fun _ hk=>trivial))⟩,⟨by(with_reducible repeat(first|refine bN_ ?_ _|refine bD_ ?_|refine bA_ ?_ _));refine blk_far ?_ NB333_344.out _;(with_reducible repeat(first|refine bN_ ?_ _|refine bD_ ?_|refine bA_ ?_ _));refine blk_far ?_ NB333_344.out _;(with_reducible repeat(first|refine bN_ ?_ _|refine bD_ ?_|refine bA_ ?_ _));refine blk_far ?_ NB333_344.out _;exact bup BK333.out⟩,⟨by(with_reducible repeat(first|refine bN_ ?_ _|refine bD_ ?_|refine bA_ ?_ _));refine blk_far ?_ NB341_344.out _;(with_reducible repeat(first|refine bN_ ?_ _|refine bD_ ?_|refine bA_ ?_ _));refine blk_far ?_ NB341_344.out _;(with_reducible repeat(first|refine bN_ ?_ _|refine bD_ ?_|refine bA_ ?_ _));refine blk_far ?_ NB341_344.out _;exact bup BK341.out⟩,⟨bl⟩⟩
       ·have c22b0:decide (0≤t342)=false:=decide_eq_false c22
        clear c22
        have H':=am H
        clear H
        have p343:0≤(x35_2:Int):=od
        have q343:x35_2<(l2.length:Int):=od
        obtain⟨ad343,e343,hx343_0,hx343_1,hx343_2⟩:=at_T66 HR2.out x35_2 p343 q343
        cases e343
        replace hx343_0:=(HB.out.cell (World.block_lt_of_cell? w _ hx343_0)).trans hx343_0
        replace hx343_1:=(HB.out.cell (World.block_lt_of_cell? w _ hx343_1)).trans hx343_1
        replace hx343_2:=(HB.out.cell (World.block_lt_of_cell? w _ hx343_2)).trans hx343_2
        replace p343:=eq_true p343
        replace q343:=eq_true q343
        go_wp2_with (first|((with_reducible refine gate_dst (N:=15) rfl ?_);refine box_event ?hg (N:=15) ?hd (cs := #[.int .i64 0,.int .i64 0,.int .i64 0]) (t:=66) ?hr ?_;(case hd=>rfl);(case hg=>rfl);(case hr=>first|(go_simp;done)|(go_simp;rfl));intro gb344 hg w48 hbox hb;replace HO_8:=am (Kd.R_below (rup HO_8.out) hb);replace HO_9:=am (Kd.R_below (rup HO_9.out) hb);have BK344:=am (hbox);have GW344:=am (ge_ bl hg);have GE344:=am (ge_ bl hg);replace HB:=am (below_step bl hb);have NB333_344:=am (nl (bup BK333.out) hg);have NB344_333:=am (ng (bup BK333.out) hg);replace BK333:=am (blk_below (bup BK333.out) hb);have NB341_344:=am (nl (bup BK341.out) hg);have NB344_341:=am (ng (bup BK341.out) hg);replace BK341:=am (blk_below (bup BK341.out) hb);clear hb hbox hg;have hnb49:=NB344_333.out;have hnc49:=NB333_344.out;have hnb50:=NB344_341.out;have hnc50:=NB341_344.out;have hcz51_0:=bc BK344.out 0;have hcz51_1:=bc BK344.out 1;have hcz51_2:=bc BK344.out 2;have hfz51_0:=blk_frozen BK344.out 0;have hfz51_1:=blk_frozen BK344.out 1;have hfz51_2:=blk_frozen BK344.out 2))
        go_roundg k2
        case measure=>have:=HK1.out;have:=HK2.out;omega
        case rel=>exact⟨(x8_2),(x13_2),(wrap64 (x35_2+1)),fin2,fin2,H',⟨by have:=HK1.out;have:=HK2.out;omega⟩,⟨rup (Kd.R_mono (Kd.R_far (p:=⟨gb344,2,none⟩) (Kd.R_far (p:=⟨gb344,1,none⟩) (Kd.R_far (p:=⟨gb344,0,none⟩) (Kd.R_types HO_8.out BK344.out (by decide)) (fun _ hk=>hk.2) (.int .i64 ((rd_T66 l2 x35_2).f0))) (fun _ hk=>hk.2) (.int .i64 ((rd_T66 l2 x35_2).f1))) (fun _ hk=>hk.2) (.int .i64 ((rd_T66 l2 x35_2).f2))) (fun _ hk=>trivial))⟩,⟨rup (Kd.R_mono (Kd.R_far (p:=⟨gb344,2,none⟩) (Kd.R_far (p:=⟨gb344,1,none⟩) (Kd.R_far (p:=⟨gb344,0,none⟩) (Kd.R_types HO_9.out BK344.out (by decide)) (fun _ hk=>hk.2) (.int .i64 ((rd_T66 l2 x35_2).f0))) (fun _ hk=>hk.2) (.int .i64 ((rd_T66 l2 x35_2).f1))) (fun _ hk=>hk.2) (.int .i64 ((rd_T66 l2 x35_2).f2))) (fun _ hk=>trivial))⟩,⟨by(with_reducible repeat(first|refine bN_ ?_ _|refine bD_ ?_|refine bA_ ?_ _));refine blk_far ?_ NB333_344.out _;(with_reducible repeat(first|refine bN_ ?_ _|refine bD_ ?_|refine bA_ ?_ _));refine blk_far ?_ NB333_344.out _;(with_reducible repeat(first|refine bN_ ?_ _|refine bD_ ?_|refine bA_ ?_ _));refine blk_far ?_ NB333_344.out _;exact bup BK333.out⟩,⟨by(with_reducible repeat(first|refine bN_ ?_ _|refine bD_ ?_|refine bA_ ?_ _));refine blk_far ?_ NB341_344.out _;(with_reducible repeat(first|refine bN_ ?_ _|refine bD_ ?_|refine bA_ ?_ _));refine blk_far ?_ NB341_344.out _;(with_reducible repeat(first|refine bN_ ?_ _|refine bD_ ?_|refine bA_ ?_ _));refine blk_far ?_ NB341_344.out _;exact bup BK341.out⟩,⟨bl⟩⟩
      ·have c19b0:=decide_eq_false c19
       clear c19
       obtain⟨c52,H⟩:=ifp H
       have LMc52:=am c52
       clear c52
       obtain⟨y350,hy350⟩:∃ y_:List Int,y_=(x9_1 ++ [x13_2]):=⟨_,rfl⟩
       replace H:(impl_matched.l0 k2 l2 x8_2 y350 l1 (l1.length:Int) (wrap64 (x24_1+1)) l0_0 a0_1)=some (r1,r2):=by subst hy350;exact H
       have Ny350:=am hy350
       clear hy350
       have H':=am H
       clear H
       go_wp2_with (first|((with_reducible refine gate_builtin (b := .append) (xs := #[.tmp 60,.tmp 62]) rfl ?_);at_builtin;refine Kd.R_append (Kd.int .i64) (w0:=w) w.heap.size rfl (.tmp 60) (.tmp 62) 22 3 (.int .i64 0) 8 rfl Try.underlying22 info3 rfl (by decide) (by omega) u9 x9_1 x13_2 [.int .i64 x13_2] (fun _=>True) (fun _=>False) rfl rfl ?aP (fun _ hk=>hk.elim) ?aF ?aO ?aB ?aS ?aL ?_;(case aP=>exact rfl);(case aB=>exact bl);(case aF=>exact(fun _ _=>trivial));(case aO=>exact(rup HO_9.out));(case aS=>exact(below_size bl));(case aL=>have:=LMc52.out;omega);intro v351 w53 ho hb hg hat;rw[← Ny350.out] at ho;replace HO_8:=am (Kd.R_over' (rup HO_8.out) (Kd.R_typed (rup HO_9.out)) (by decide) hg);replace BK333:=am (blk_grown (bup BK333.out) hg (Kd.R_ne HO_9.out BK333.out (by decide)));replace BK341:=am (blk_grown (bup BK341.out) hg (Kd.R_ne HO_9.out BK341.out (by decide)));replace HB:=am (hb);have HO352:=am (ho);clear HO_9 ho hb hg hat))
       go_roundg k2
       case measure=>have:=HK1.out;have:=HK2.out;omega
       case rel=>exact⟨(x8_2),(y350),(wrap64 (x24_1+1)),fin2,H',⟨by have:=HK1.out;have:=HK2.out;omega⟩,⟨rup HO_8.out⟩,⟨rup HO352.out⟩,⟨bup BK333.out⟩,⟨bl⟩⟩
   ·have c11b0:=decide_eq_false c11
    clear c11
    obtain⟨y353,hy353⟩:∃ y_:List Int,y_=(([]:List Int)):=⟨_,rfl⟩
    replace H:(impl_matched.l2 k1 x8_1 x9_1 y353 (l2.length:Int) 0)=some (r1,r2):=by subst hy353;exact H
    have Ny353:=am hy353
    clear hy353
    have H':=am H
    clear H
    go_wp2_with (first|((with_reducible refine gate_dst (N:=65) rfl ?_);refine Kd.R_lit (Kd.int .i64) _ 3 ?hg (N:=65) ?hd (xs:=([]:List Int)) (inner:=[]) (ok:=fun _=>True) (okp:=fun _=>True) ?hr ?hp (fun _ hk=>hk) trivial (Below.refl _ _) (Nat.le_refl _) (by simp) ?_;(case hd=>rfl);(case hg=>rfl);(case hr=>first|(go_simp;done)|(go_simp;rfl));(case hp=>exact(Reps.none _ _));intro v354 w54 ho55 hb hg_ hnew_;clear hg_ hnew_;(first|rw[← Ny353.out] at ho55|(simp only[Int.reduceToNat] at ho55;rw[← Ny353.out] at ho55));replace HO_8:=am (Kd.R_below (rup HO_8.out) hb);have HO355:=am (Kd.R_lower (Kd.R_new' ho55 (Kd.R_lt (rup HO_9.out))) (below_size bl));replace HO_9:=am (Kd.R_elder' (rup HO_9.out) (Kd.R_base ho55) hb);replace BK333:=am (blk_below (bup BK333.out) hb);replace HB:=am (below_step bl hb);clear hb ho55))
    go_loopg [16,68] k1 (fun kq v16 v68 w'=>∃(x16_2:List Int) (x68_2:Int),v68 = .int .i64 x68_2∧Aside0 (impl_matched.l2 kq x8_1 x9_1 x16_2 (l2.length:Int) x68_2=some (r1,r2))∧Aside0 (kq≤k1)∧Aside0 (Kd.R Kd.bool 4 w' w.heap.size (fun _=>True) v335 x8_1)∧Aside0 (Kd.R (Kd.int .i64) 3 w' w.heap.size (fun k_=>some k_≠(v16:Value).ownBlock) u9 x9_1)∧Aside0 (Kd.R (Kd.int .i64) 3 w' w.heap.size (fun k_=>some k_≠(u9:Value).ownBlock) v16 x16_2)∧Aside0 (w'.heap[gb333]?=some (.cells #[(.slice A0_0 l0_0.length c0_0),.int .i64 a0_1] 34 (0,0)))∧Aside0 (Below w.heap.size w w'))
    case atStart=>exact⟨(y353),(0),fin2,H',⟨Nat.le_refl _⟩,⟨rup HO_8.out⟩,⟨rup (Kd.R_mono HO_9.out (fun _ hk=>hk.2))⟩,⟨rup (Kd.R_mono HO355.out (fun _ hk=>hk.2))⟩,⟨bup BK333.out⟩,⟨bl⟩⟩
    case round =>
     clear H'
     try clear c1
     try clear c2
     try clear p2
     try clear q2
     try clear c3
     try clear p3
     try clear q3
     try clear hx3
     try clear hf3
     try clear c4
     try clear c4b0
     try clear c4b1
     try clear c5
     try clear c5b0
     try clear c5b1
     try clear p6
     try clear c7
     try clear c11
     try clear c11b0
     try clear c12
     try clear c12b0
     try clear c13
     try clear c13b0
     try clear c16
     try clear c19
     try clear c19b0
     try clear c20
     try clear c20b0
     try clear c21
     try clear c21b0
     try clear c22
     try clear c22b0
     try clear c23
     try clear c23b0
     try clear c23b1
     try clear c24
     try clear c24b0
     try clear q25
     try clear c26
     try clear c28
     try clear c29
     try clear p32
     try clear q32
     try clear hx32
     try clear hf32
     try clear c33
     try clear p34
     try clear q34
     try clear hx34
     try clear c35
     try clear c36
     try clear c45
     try clear c46
     try clear c49
     try clear c50
     try clear c52
     try clear c53
     try clear hcz17_0
     try clear hcz17_1
     try clear hcz17_2
     try clear hcz18_0
     try clear hcz18_1
     try clear hcz30_0
     try clear hcz30_1
     try clear hcz30_2
     try clear hcz37_0
     try clear hcz37_1
     try clear hcz37_2
     try clear hcz39_0
     try clear hcz39_1
     try clear hcz39_2
     try clear hcz47_0
     try clear hcz47_1
     try clear hcz47_2
     try clear hcz51_0
     try clear hcz51_1
     try clear hcz51_2
     try clear hfz17_0
     try clear hfz17_1
     try clear hfz17_2
     try clear hfz18_0
     try clear hfz18_1
     try clear hfz30_0
     try clear hfz30_1
     try clear hfz30_2
     try clear hfz37_0
     try clear hfz37_1
     try clear hfz37_2
     try clear hfz39_0
     try clear hfz39_1
     try clear hfz39_2
     try clear hfz47_0
     try clear hfz47_1
     try clear hfz47_2
     try clear hfz51_0
     try clear hfz51_1
     try clear hfz51_2
     try clear hx32_0
     try clear hx340_0
     try clear hx340_1
     try clear hx340_2
     try clear hx343_0
     try clear hx343_1
     try clear hx343_2
     try clear hx345_0
     try clear p2
     try clear p3
     try clear p32
     try clear p340
     try clear p343
     try clear p345
     try clear q3
     try clear q32
     try clear q340
     try clear q343
     try clear q345
     obtain⟨x16_2,x68_2,rfl,HA,HK2,HO_8,HO_9,HO_16,BK333,HB⟩:=hrel
     cases gk with
     | zero=>exact absurd HA.out (by simp [impl_matched.l2])
     | succ k2 =>
      have H:=HA.out
      clear HA
      simp only[impl_matched.l2] at H
      rcases itc H with⟨c56,H⟩|⟨c56,H⟩
      ·have c56b0:=decide_eq_true c56
       clear c56
       obtain⟨c57b0,H⟩:=ifb H
       obtain⟨c58b0,H⟩:=ifb H
       obtain⟨bq59,hbq59⟩:∃ b_:Bool,b_=(rdOf false x8_1 x68_2):=⟨_,rfl⟩
       replace H:(if bq59=true then(impl_matched.l2 k2 x8_1 x9_1 x16_2 (l2.length:Int) (wrap64 (x68_2+1))) else(if x16_2.length<17592186044416 then(impl_matched.l2 k2 x8_1 x9_1 (x16_2 ++ [x68_2]) (l2.length:Int) (wrap64 (x68_2+1))) else(none)))=some (r1,r2):=by rw[← hbq59] at H;exact H
       have Nbq59:=am hbq59
       clear hbq59
       by_cases c60:bq59=true
       ·subst c60
        replace H:=(if_pos rfl).symm.trans H
        have H':=am H
        clear H
        obtain⟨Ao61,co61,eo61⟩:=Kd.R_slice HO_8.out
        subst eo61
        have p356:0≤(x68_2:Int):=od
        have q356:x68_2<(x8_1.length:Int):=od
        obtain⟨ad356,e356,hx356_0⟩:=Kd.at_bool (Kd.R_reads' HO_8.out).2.2 x68_2 p356 q356
        (try rw[← Nbq59.out] at hx356_0)
        cases e356
        replace p356:=eq_true p356
        replace q356:=eq_true q356
        go_wp2
        go_roundg k2
        case measure=>have:=HK1.out;have:=HK2.out;omega
        case rel=>exact⟨(x16_2),(wrap64 (x68_2+1)),fin2,H',⟨by have:=HK1.out;have:=HK2.out;omega⟩,⟨rup HO_8.out⟩,⟨rup HO_9.out⟩,⟨rup HO_16.out⟩,⟨bup BK333.out⟩,⟨bl⟩⟩
       ·replace c60:=Bool.eq_false_iff.mpr c60
        subst c60
        replace H:=(if_neg Bool.false_ne_true).symm.trans H
        obtain⟨c62,H⟩:=ifp H
        have LMc62:=am c62
        clear c62
        obtain⟨y357,hy357⟩:∃ y_:List Int,y_=(x16_2 ++ [x68_2]):=⟨_,rfl⟩
        replace H:(impl_matched.l2 k2 x8_1 x9_1 y357 (l2.length:Int) (wrap64 (x68_2+1)))=some (r1,r2):=by subst hy357;exact H
        have Ny357:=am hy357
        clear hy357
        have H':=am H
        clear H
        obtain⟨Ao63,co63,eo63⟩:=Kd.R_slice HO_8.out
        subst eo63
        have p356:0≤(x68_2:Int):=od
        have q356:x68_2<(x8_1.length:Int):=od
        obtain⟨ad356,e356,hx356_0⟩:=Kd.at_bool (Kd.R_reads' HO_8.out).2.2 x68_2 p356 q356
        (try rw[← Nbq59.out] at hx356_0)
        cases e356
        replace p356:=eq_true p356
        replace q356:=eq_true q356
        go_wp2_with (first|((with_reducible refine gate_builtin (b := .append) (xs := #[.tmp 76,.tmp 78]) rfl ?_);at_builtin;refine Kd.R_append (Kd.int .i64) (w0:=w) w.heap.size rfl (.tmp 76) (.tmp 78) 22 3 (.int .i64 0) 8 rfl Try.underlying22 info3 rfl (by decide) (by omega) u16 x16_2 x68_2 [.int .i64 x68_2] (fun k_=>some k_≠(u9:Value).ownBlock) (fun _=>False) rfl rfl ?aP (fun _ hk=>hk.elim) ?aF ?aO ?aB ?aS ?aL ?_;(case aP=>exact rfl);(case aB=>exact bl);(case aF=>exact(fun k_ hk=>Kd.fresh' (Kd.R_lt (rup HO_9.out)) k_ hk));(case aO=>exact(rup HO_16.out));(case aS=>exact(below_size bl));(case aL=>have:=LMc62.out;omega);intro v358 w64 ho hb hg hat;rw[← Ny357.out] at ho;replace HO_8:=am (Kd.R_over' (rup HO_8.out) (Kd.R_typed (rup HO_16.out)) (by decide) hg);replace HO_9:=am (Kd.R_after (ok:=(fun _=>True)) (rup (Kd.R_mono HO_9.out (fun _ hk=>⟨trivial,hk⟩))) hg hat);replace BK333:=am (blk_grown (bup BK333.out) hg (Kd.R_ne HO_16.out BK333.out (by decide)));replace HB:=am (hb);have HO359:=am (ho);clear HO_16 ho hb hg hat))
        go_roundg k2
        case measure=>have:=HK1.out;have:=HK2.out;omega
        case rel=>exact⟨(y357),(wrap64 (x68_2+1)),fin2,H',⟨by have:=HK1.out;have:=HK2.out;omega⟩,⟨rup HO_8.out⟩,⟨rup (Kd.R_mono HO_9.out (fun _ hk=>hk.2))⟩,⟨rup HO359.out⟩,⟨bup BK333.out⟩,⟨bl⟩⟩
      ·have c56b0:=decide_eq_false c56
       clear c56
       simp only[Option.some.injEq,Prod.mk.injEq] at H
       obtain⟨rfl,rfl⟩:=H
       go_wp2
       go_ret2
       exact⟨_,_,fin1,by(with_reducible repeat(first|apply Kd.R_alloc|apply Kd.R_drewN|apply Kd.R_drew));exact HO_9.out,by(with_reducible repeat(first|apply Kd.R_alloc|apply Kd.R_drewN|apply Kd.R_drew));exact HO_16.out,bl⟩

end Go.Proofs.Ytipklbjbgbbgpaa.PFnExactLeastTolerance
