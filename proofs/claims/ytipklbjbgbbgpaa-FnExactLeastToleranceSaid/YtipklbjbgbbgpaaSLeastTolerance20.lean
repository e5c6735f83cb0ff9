/- The walks of functions that FnExactLeastTolerance reaches: what they return is what the plain functions of the same names say. Laid by a program of this session after the kit's print. No conditions beyond the arguments' being read. -/
import Derived.Test.YtipklbjbgbbgpaaSLeastTolerance0
import Derived.Test.YtipklbjbgbbgpaaSLeastTolerance1
import Derived.Test.YtipklbjbgbbgpaaSLeastTolerance2
import Derived.Test.YtipklbjbgbbgpaaSLeastTolerance11
import Derived.Test.YtipklbjbgbbgpaaSLeastTolerance19
namespace Go.Proofs.Ytipklbjbgbbgpaa.PFnExactLeastTolerance
open Go.RowKit Go.Proofs.YtipklbjbgbbgpaaW.PrintWords Go.Proofs.YtipklbjbgbbgpaaW.PrintLast Go.Proofs.YtipklbjbgbbgpaaW.PrintMore
attribute [local go_sem] max2_int min2_int max_two min_two max_three min_three max_four min_four   -- for this text's walks alone
set_option linter.unusedVariables false
set_option linter.unusedSimpArgs false

def laws_FnExactLeastTolerance.j0:Nat→List (S64)→List (S68)→List (S62)→List (S66)→Bool→List Int→Int→List Int→Int→Option (Bool)
 | 0,_,_,_,_,_,_,_,_,_=>none
 | k+1,x1,x2,x13,x14,x66,x446000,x446001,x470000,x470001=>if x66=true then(some false) else((laws_toInstrument.f k x446000 x446001).bind fun bt481=>((laws_eqInstrument.f k x470000 x470001 bt481.1 bt481.2).bind fun t485=>(if t485=true then((laws_toNoteS.f k x1).bind fun t486=>((laws_eqNoteS.f k x13 t486).bind fun t489=>(if t489=true then((laws_toHoleS.f k x2).bind fun t490=>((laws_eqHoleS.f k x14 t490).bind fun t493=>(if t493=true then(some true) else(some false)))) else(some false)))) else(some false))))
def laws_FnExactLeastTolerance.f (k:Nat) (l0_0:List Int) (a0_1:Int) (l1:List (S64)) (l2:List (S68)) (a3_0:Int) (a3_1:Int) (a3_2:Int):Option (Bool):=(laws_szInstrument.f l0_0 a0_1 1048576).bind fun t447=>(if t447<0 then(some true) else((laws_szNoteS.f l1 t447).bind fun t448=>(if t448<0 then(some true) else((laws_szHoleS.f l2 t448).bind fun t449=>(if t449<0 then(some true) else((laws_toInstrument.f k l0_0 a0_1).bind fun bt450=>((laws_toNoteS.f k l1).bind fun t454=>((laws_toHoleS.f k l2).bind fun t457=>((laws_toAction.f a3_0 a3_1 a3_2).bind fun bt460=>((spec_LeastTolerance.f k bt450.1 bt450.2 t454 t457 bt460.1 bt460.2.1 bt460.2.2).bind fun bt463=>((laws_toInstrument.f k l0_0 a0_1).bind fun bt465=>((laws_toNoteS.f k l1).bind fun t470=>((laws_toHoleS.f k l2).bind fun t473=>((laws_toAction.f a3_0 a3_1 a3_2).bind fun bt476=>((impl_LeastTolerance.f k bt465.1 bt465.2 t470 t473 bt476.1 bt476.2.1 bt476.2.2).bind fun bt479=>(if bt479.1=bt463.1 then(laws_FnExactLeastTolerance.j0 k l1 l2 t470 t473 (bt479.2 != bt463.2) l0_0 a0_1 bt465.1 bt465.2) else(laws_FnExactLeastTolerance.j0 k l1 l2 t470 t473 true l0_0 a0_1 bt465.1 bt465.2)))))))))))))))))
def laws_FnExactLeastTolerance.T11:Bool×List (List Nat×List Nat):=(true,[([],[]),([0],[0]),([],[]),([2,1],[2]),([],[]),([4,3],[4]),([],[]),([6,5],[6]),([1,3,5,7,7],[1,3,5,7]),([8],[8]),([9],[9]),([9],[9]),([10,8,0,1,2,3,4,5,6,7,8,9,10],[10]),([11,12,0,1,2,3,4,5,6,7,8,9,10,11,12],[11])])
def laws_FnExactLeastTolerance.B11:List Nat:=[0,1,0,7,0,31,0,127,255,511,1023,1023,2047,8191]
theorem laws_FnExactLeastTolerance.tab11:rtab .any (opsOf Try.f4 11)=laws_FnExactLeastTolerance.T11:=by kernel_rfl
theorem laws_FnExactLeastTolerance.bits11:waitsOk laws_FnExactLeastTolerance.T11.2 laws_FnExactLeastTolerance.B11=true:=by kernel_rfl
def laws_FnExactLeastTolerance.T15:Bool×List (List Nat×List Nat):=(true,[([],[]),([],[]),([],[]),([],[]),([3],[3]),([0,1,2,4,4],[0,1,2,4]),([5],[5]),([6],[6]),([6],[6]),([7,5,0,1,2,3,4,5,6,7],[7]),([8,9,0,1,2,3,4,5,6,7,8,9],[8])])
def laws_FnExactLeastTolerance.B15:List Nat:=[0,0,0,0,8,31,63,127,127,255,1023]
theorem laws_FnExactLeastTolerance.tab15:rtab .any (opsOf Try.f4 15)=laws_FnExactLeastTolerance.T15:=by kernel_rfl
theorem laws_FnExactLeastTolerance.bits15:waitsOk laws_FnExactLeastTolerance.T15.2 laws_FnExactLeastTolerance.B15=true:=by kernel_rfl
set_option maxHeartbeats 8000000 in
set_option maxRecDepth 100000 in
theorem laws_FnExactLeastTolerance.calls (k:Nat) (A0_0:Option Addr) (c0_0:Nat) (l0_0:List Int) (a0_1:Int) (A1:Option Addr) (c1:Nat) (l1:List (S64)) (A2:Option Addr) (c2:Nat) (l2:List (S68)) (a3_0:Int) (a3_1:Int) (a3_2:Int) (r:Bool) (w:World) (hr0_0:Kd.C (Kd.int .i64) w A0_0 l0_0.length l0_0) (hc0_0:l0_0.length≤c0_0) (hr1:Kd.C k64 w A1 l1.length l1) (hc1:l1.length≤c1) (hr2:Kd.C k68 w A2 l2.length l2) (hc2:l2.length≤c2) (h:laws_FnExactLeastTolerance.f k l0_0 a0_1 l1 l2 a3_0 a3_1 a3_2=some r) :
  Calls Try.prog 4 #[.agg #[.slice A0_0 l0_0.length c0_0,.int .i64 a0_1],.slice A1 l1.length c1,.slice A2 l2.length c2,.agg #[.int .i64 a3_0,.int .i64 a3_1,.int .i64 a3_2]] w fun e w'=>e = .returned (.bool r)∧Below w.heap.size w w':=by
 have hu24:=Try.underlying24
 have hu28:=Try.underlying28
 have hu34:=Try.underlying34
 have HR0_0:=am hr0_0
 have HC0_0:=am hc0_0
 clear hr0_0 hc0_0
 have HR1:=am hr1
 have HC1:=am hc1
 clear hr1 hc1
 have HR2:=am hr2
 have HC2:=am hc2
 clear hr2 hc2
 have HB:=am (Below.refl w.heap.size w)
 have H:((laws_szInstrument.f l0_0 a0_1 1048576).bind fun t447=>(if t447<0 then(some true) else((laws_szNoteS.f l1 t447).bind fun t448=>(if t448<0 then(some true) else((laws_szHoleS.f l2 t448).bind fun t449=>(if t449<0 then(some true) else((laws_toInstrument.f k l0_0 a0_1).bind fun bt450=>((laws_toNoteS.f k l1).bind fun t454=>((laws_toHoleS.f k l2).bind fun t457=>((laws_toAction.f a3_0 a3_1 a3_2).bind fun bt460=>((spec_LeastTolerance.f k bt450.1 bt450.2 t454 t457 bt460.1 bt460.2.1 bt460.2.2).bind fun bt463=>((laws_toInstrument.f k l0_0 a0_1).bind fun bt465=>((laws_toNoteS.f k l1).bind fun t470=>((laws_toHoleS.f k l2).bind fun t473=>((laws_toAction.f a3_0 a3_1 a3_2).bind fun bt476=>((impl_LeastTolerance.f k bt465.1 bt465.2 t470 t473 bt476.1 bt476.2.1 bt476.2.2).bind fun bt479=>(if bt479.1=bt463.1 then(laws_FnExactLeastTolerance.j0 k l1 l2 t470 t473 (bt479.2 != bt463.2) l0_0 a0_1 bt465.1 bt465.2) else(laws_FnExactLeastTolerance.j0 k l1 l2 t470 t473 true l0_0 a0_1 bt465.1 bt465.2))))))))))))))))))=some r:=h
 clear h
 obtain⟨t447,A5,H⟩:=bnd H
 rcases itc H with⟨c6,H⟩|⟨c6,H⟩
 ·have c6b0:=decide_eq_true c6
  clear c6
  obtain rfl:=Option.some.inj H
  go_enter Try.func4,Try.ntmps4
  go_wp2_with (first|((with_reducible refine gate_dst (N:=4) rfl ?_);refine box_event ?hg (N:=4) ?hd (cs := #[.slice A0_0 l0_0.length c0_0,.int .i64 a0_1]) (t:=24) ?hr ?_;(case hd=>rfl);(case hg=>rfl);(case hr=>first|(go_simp;done)|(go_simp;rfl));intro gb445 hg w7 hbox hb;have BK445:=am (hbox);have GW445:=am (ge_ bl hg);have GE445:=am (ge_ bl hg);replace HB:=am (below_step bl hb);clear hb hbox hg)|((with_reducible refine gate_dst (N:=7) rfl ?_);refine box_event ?hg (N:=7) ?hd (cs := #[.int .i64 a3_0,.int .i64 a3_1,.int .i64 a3_2]) (t:=28) ?hr ?_;(case hd=>rfl);(case hg=>rfl);(case hr=>first|(go_simp;done)|(go_simp;rfl));intro gb446 hg w8 hbox hb;have BK446:=am (hbox);have GW446:=am (ge_ bl hg);have GE446:=am (ge_ bl hg);replace HB:=am (below_step bl hb);have NB445_446:=am (nl (bup BK445.out) hg);have NB446_445:=am (ng (bup BK445.out) hg);replace BK445:=am (blk_below (bup BK445.out) hb);clear hb hbox hg;have hnb9:=NB445_446.out;have hnc9:=NB446_445.out;have hcz10_0:=bc BK445.out 0;have hcz10_1:=bc BK445.out 1;have hfz10_0:=blk_frozen BK445.out 0;have hfz10_1:=blk_frozen BK445.out 1)|((with_reducible refine gate_callee (f:=6) rfl ?_);refine goesL_ (some 19) rfl rfl Try.func6 (by kernel_rfl) rfl #[.agg #[.slice A0_0 l0_0.length c0_0,.int .i64 a0_1],.int .i64 1048576] rfl tl ?_;(with_reducible refine(laws_szInstrument.calls _ _ l0_0 a0_1 1048576 t447 _ ?side1 ?side2 A5.out).mono ?_);(case side1=>exact cup (Kd.C_below HR0_0.out HB.out));(case side2=>exact HC0_0.out);rintro e w11 ⟨rfl,hb⟩;refine⟨_,rfl,?_⟩;replace BK445:=am (blk_below (bup BK445.out) hb);replace BK446:=am (blk_below (bup BK446.out) hb);replace HB:=am (below_step bl hb);(try clear hb)))
  go_ret
  exact⟨fin1,bl⟩
 ·have c6b0:=decide_eq_false c6
  clear c6
  obtain⟨t448,A12,H⟩:=bnd H
  rcases itc H with⟨c13,H⟩|⟨c13,H⟩
  ·have c13b0:=decide_eq_true c13
   clear c13
   obtain rfl:=Option.some.inj H
   go_enter Try.func4,Try.ntmps4
   go_wp2_with (first|((with_reducible refine gate_dst (N:=4) rfl ?_);refine box_event ?hg (N:=4) ?hd (cs := #[.slice A0_0 l0_0.length c0_0,.int .i64 a0_1]) (t:=24) ?hr ?_;(case hd=>rfl);(case hg=>rfl);(case hr=>first|(go_simp;done)|(go_simp;rfl));intro gb445 hg w14 hbox hb;have BK445:=am (hbox);have GW445:=am (ge_ bl hg);have GE445:=am (ge_ bl hg);replace HB:=am (below_step bl hb);clear hb hbox hg)|((with_reducible refine gate_dst (N:=7) rfl ?_);refine box_event ?hg (N:=7) ?hd (cs := #[.int .i64 a3_0,.int .i64 a3_1,.int .i64 a3_2]) (t:=28) ?hr ?_;(case hd=>rfl);(case hg=>rfl);(case hr=>first|(go_simp;done)|(go_simp;rfl));intro gb446 hg w15 hbox hb;have BK446:=am (hbox);have GW446:=am (ge_ bl hg);have GE446:=am (ge_ bl hg);replace HB:=am (below_step bl hb);have NB445_446:=am (nl (bup BK445.out) hg);have NB446_445:=am (ng (bup BK445.out) hg);replace BK445:=am (blk_below (bup BK445.out) hb);clear hb hbox hg;have hnb16:=NB445_446.out;have hnc16:=NB446_445.out;have hcz17_0:=bc BK445.out 0;have hcz17_1:=bc BK445.out 1;have hfz17_0:=blk_frozen BK445.out 0;have hfz17_1:=blk_frozen BK445.out 1)|((with_reducible refine gate_callee (f:=6) rfl ?_);refine goesL_ (some 19) rfl rfl Try.func6 (by kernel_rfl) rfl #[.agg #[.slice A0_0 l0_0.length c0_0,.int .i64 a0_1],.int .i64 1048576] rfl tl ?_;(with_reducible refine(laws_szInstrument.calls _ _ l0_0 a0_1 1048576 t447 _ ?side1 ?side2 A5.out).mono ?_);(case side1=>exact cup (Kd.C_below HR0_0.out HB.out));(case side2=>exact HC0_0.out);rintro e w18 ⟨rfl,hb⟩;refine⟨_,rfl,?_⟩;replace BK445:=am (blk_below (bup BK445.out) hb);replace BK446:=am (blk_below (bup BK446.out) hb);replace HB:=am (below_step bl hb);(try clear hb))|((with_reducible refine gate_callee (f:=7) rfl ?_);refine goesL_ (some 24) rfl rfl Try.func7 (by kernel_rfl) rfl #[.slice A1 l1.length c1,.int .i64 t447] rfl tl ?_;(with_reducible refine(laws_szNoteS.calls _ _ l1 t447 t448 _ ?side1 ?side2 A12.out).mono ?_);(case side1=>exact cup (Kd.C_below HR1.out HB.out));(case side2=>exact HC1.out);rintro e w' ⟨rfl,⟨nd,rfl⟩⟩;refine⟨_,rfl,?_⟩))
   go_ret
   exact⟨fin1,bl⟩
  ·have c13b0:=decide_eq_false c13
   clear c13
   obtain⟨t449,A19,H⟩:=bnd H
   rcases itc H with⟨c20,H⟩|⟨c20,H⟩
   ·have c20b0:=decide_eq_true c20
    clear c20
    obtain rfl:=Option.some.inj H
    go_enter Try.func4,Try.ntmps4
    go_wp2_with (first|((with_reducible refine gate_dst (N:=4) rfl ?_);refine box_event ?hg (N:=4) ?hd (cs := #[.slice A0_0 l0_0.length c0_0,.int .i64 a0_1]) (t:=24) ?hr ?_;(case hd=>rfl);(case hg=>rfl);(case hr=>first|(go_simp;done)|(go_simp;rfl));intro gb445 hg w21 hbox hb;have BK445:=am (hbox);have GW445:=am (ge_ bl hg);have GE445:=am (ge_ bl hg);replace HB:=am (below_step bl hb);clear hb hbox hg)|((with_reducible refine gate_dst (N:=7) rfl ?_);refine box_event ?hg (N:=7) ?hd (cs := #[.int .i64 a3_0,.int .i64 a3_1,.int .i64 a3_2]) (t:=28) ?hr ?_;(case hd=>rfl);(case hg=>rfl);(case hr=>first|(go_simp;done)|(go_simp;rfl));intro gb446 hg w22 hbox hb;have BK446:=am (hbox);have GW446:=am (ge_ bl hg);have GE446:=am (ge_ bl hg);replace HB:=am (below_step bl hb);have NB445_446:=am (nl (bup BK445.out) hg);have NB446_445:=am (ng (bup BK445.out) hg);replace BK445:=am (blk_below (bup BK445.out) hb);clear hb hbox hg;have hnb23:=NB445_446.out;have hnc23:=NB446_445.out;have hcz24_0:=bc BK445.out 0;have hcz24_1:=bc BK445.out 1;have hfz24_0:=blk_frozen BK445.out 0;have hfz24_1:=blk_frozen BK445.out 1)|((with_reducible refine gate_callee (f:=6) rfl ?_);refine goesL_ (some 19) rfl rfl Try.func6 (by kernel_rfl) rfl #[.agg #[.slice A0_0 l0_0.length c0_0,.int .i64 a0_1],.int .i64 1048576] rfl tl ?_;(with_reducible refine(laws_szInstrument.calls _ _ l0_0 a0_1 1048576 t447 _ ?side1 ?side2 A5.out).mono ?_);(case side1=>exact cup (Kd.C_below HR0_0.out HB.out));(case side2=>exact HC0_0.out);rintro e w25 ⟨rfl,hb⟩;refine⟨_,rfl,?_⟩;replace BK445:=am (blk_below (bup BK445.out) hb);replace BK446:=am (blk_below (bup BK446.out) hb);replace HB:=am (below_step bl hb);(try clear hb))|((with_reducible refine gate_callee (f:=7) rfl ?_);refine goesL_ (some 24) rfl rfl Try.func7 (by kernel_rfl) rfl #[.slice A1 l1.length c1,.int .i64 t447] rfl tl ?_;(with_reducible refine(laws_szNoteS.calls _ _ l1 t447 t448 _ ?side1 ?side2 A12.out).mono ?_);(case side1=>exact cup (Kd.C_below HR1.out HB.out));(case side2=>exact HC1.out);rintro e w' ⟨rfl,⟨nd,rfl⟩⟩;refine⟨_,rfl,?_⟩)|((with_reducible refine gate_callee (f:=8) rfl ?_);refine goesL_ (some 29) rfl rfl Try.func8 (by kernel_rfl) rfl #[.slice A2 l2.length c2,.int .i64 t448] rfl tl ?_;(with_reducible refine(laws_szHoleS.calls _ _ l2 t448 t449 _ ?side1 ?side2 A19.out).mono ?_);(case side1=>repeat(first|exact(Kd.C_below HR2.out bl)|(with_reducible refine Kd.C_alloc ?_ _)|(with_reducible refine Kd.C_drewN ?_ _)|(with_reducible refine Kd.C_drew ?_)));(case side2=>exact HC2.out);rintro e w' ⟨rfl,⟨nd,rfl⟩⟩;refine⟨_,rfl,?_⟩))
    go_ret
    exact⟨fin1,bl⟩
   ·have c20b0:=decide_eq_false c20
    clear c20
    obtain⟨⟨t450,t453⟩,A26,H⟩:=bnd H;dsimp only at H
    obtain⟨t454,A27,H⟩:=bnd H
    obtain⟨t457,A28,H⟩:=bnd H
    obtain⟨⟨t460,t461,t462⟩,A29,H⟩:=bnd H;dsimp only at H
    obtain⟨⟨t463,t464⟩,A30,H⟩:=bnd H;dsimp only at H
    obtain⟨⟨t465,t468⟩,A31,H⟩:=bnd H;dsimp only at H
    obtain⟨t470,A32,H⟩:=bnd H
    obtain⟨t473,A33,H⟩:=bnd H
    obtain⟨⟨t476,t477,t478⟩,A34,H⟩:=bnd H;dsimp only at H
    obtain⟨⟨t479,t480⟩,A35,H⟩:=bnd H;dsimp only at H
    have HC36:=am H
    clear H
    go_enter Try.func4,Try.ntmps4
    try go_wp2_with (first|((with_reducible refine gate_dst (N:=4) rfl ?_);refine box_event ?hg (N:=4) ?hd (cs := #[.slice A0_0 l0_0.length c0_0,.int .i64 a0_1]) (t:=24) ?hr ?_;(case hd=>rfl);(case hg=>rfl);(case hr=>first|(go_simp;done)|(go_simp;rfl));intro gb445 hg w37 hbox hb;have BK445:=am (hbox);have GW445:=am (ge_ bl hg);have GE445:=am (ge_ bl hg);replace HB:=am (below_step bl hb);clear hb hbox hg)|((with_reducible refine gate_dst (N:=7) rfl ?_);refine box_event ?hg (N:=7) ?hd (cs := #[.int .i64 a3_0,.int .i64 a3_1,.int .i64 a3_2]) (t:=28) ?hr ?_;(case hd=>rfl);(case hg=>rfl);(case hr=>first|(go_simp;done)|(go_simp;rfl));intro gb446 hg w38 hbox hb;have BK446:=am (hbox);have GW446:=am (ge_ bl hg);have GE446:=am (ge_ bl hg);replace HB:=am (below_step bl hb);have NB445_446:=am (nl (bup BK445.out) hg);have NB446_445:=am (ng (bup BK445.out) hg);replace BK445:=am (blk_below (bup BK445.out) hb);clear hb hbox hg;have hnb39:=NB445_446.out;have hnc39:=NB446_445.out;have hcz40_0:=bc BK445.out 0;have hcz40_1:=bc BK445.out 1;have hfz40_0:=blk_frozen BK445.out 0;have hfz40_1:=blk_frozen BK445.out 1)|((with_reducible refine gate_callee (f:=6) rfl ?_);refine goesL_ (some 19) rfl rfl Try.func6 (by kernel_rfl) rfl #[.agg #[.slice A0_0 l0_0.length c0_0,.int .i64 a0_1],.int .i64 1048576] rfl tl ?_;(with_reducible refine(laws_szInstrument.calls _ _ l0_0 a0_1 1048576 t447 _ ?side1 ?side2 A5.out).mono ?_);(case side1=>exact cup (Kd.C_below HR0_0.out HB.out));(case side2=>exact HC0_0.out);rintro e w41 ⟨rfl,hb⟩;refine⟨_,rfl,?_⟩;replace BK445:=am (blk_below (bup BK445.out) hb);replace BK446:=am (blk_below (bup BK446.out) hb);replace HB:=am (below_step bl hb);(try clear hb))|((with_reducible refine gate_callee (f:=7) rfl ?_);refine goesL_ (some 24) rfl rfl Try.func7 (by kernel_rfl) rfl #[.slice A1 l1.length c1,.int .i64 t447] rfl tl ?_;(with_reducible refine(laws_szNoteS.calls _ _ l1 t447 t448 _ ?side1 ?side2 A12.out).mono ?_);(case side1=>exact cup (Kd.C_below HR1.out HB.out));(case side2=>exact HC1.out);rintro e w' ⟨rfl,⟨nd,rfl⟩⟩;refine⟨_,rfl,?_⟩;(try(rw[drewN_self w41];generalize hq_:World.drewN w41 _=w41;have n0_:Aside0 (w41.heap[gb445]?=some (.cells #[.slice A0_0 l0_0.length c0_0,.int .i64 a0_1] 24 (0,0))):=⟨by rw[← hq_];exact(bup BK445.out)⟩;have n1_:Aside0 (w41.heap[gb446]?=some (.cells #[.int .i64 a3_0,.int .i64 a3_1,.int .i64 a3_2] 28 (0,0))):=⟨by rw[← hq_];exact(bup BK446.out)⟩;have n2_:Aside0 (Below w.heap.size w w41):=⟨by rw[← hq_];exact bl⟩;clear BK445 BK446 HB hq_;have BK445:=n0_;have BK446:=n1_;have HB:=n2_;clear n0_ n1_ n2_)))|((with_reducible refine gate_callee (f:=8) rfl ?_);refine goesL_ (some 29) rfl rfl Try.func8 (by kernel_rfl) rfl #[.slice A2 l2.length c2,.int .i64 t448] rfl tl ?_;(with_reducible refine(laws_szHoleS.calls _ _ l2 t448 t449 _ ?side1 ?side2 A19.out).mono ?_);(case side1=>exact cup (Kd.C_below HR2.out HB.out));(case side2=>exact HC2.out);rintro e w' ⟨rfl,⟨nd,rfl⟩⟩;refine⟨_,rfl,?_⟩;(try(rw[drewN_self w41];generalize hq_:World.drewN w41 _=w41;have n0_:Aside0 (w41.heap[gb445]?=some (.cells #[.slice A0_0 l0_0.length c0_0,.int .i64 a0_1] 24 (0,0))):=⟨by rw[← hq_];exact(bup BK445.out)⟩;have n1_:Aside0 (w41.heap[gb446]?=some (.cells #[.int .i64 a3_0,.int .i64 a3_1,.int .i64 a3_2] 28 (0,0))):=⟨by rw[← hq_];exact(bup BK446.out)⟩;have n2_:Aside0 (Below w.heap.size w w41):=⟨by rw[← hq_];exact bl⟩;clear BK445 BK446 HB hq_;have BK445:=n0_;have BK446:=n1_;have HB:=n2_;clear n0_ n1_ n2_))))
    replace BK445:=am (bD_ BK445.out)
    replace BK446:=am (bD_ BK446.out)
    replace HB:=am (below_drew1 HB.out)
    refine start_ (n:=14) (S:=fun w'=>w'.cell? ⟨gb445,0,none⟩=some (.slice A0_0 l0_0.length c0_0)∧w'.cell? ⟨gb445,1,none⟩=some (.int .i64 a0_1)∧w'.cell? ⟨gb446,0,none⟩=some (.int .i64 a3_0)∧w'.cell? ⟨gb446,1,none⟩=some (.int .i64 a3_1)∧w'.cell? ⟨gb446,2,none⟩=some (.int .i64 a3_2)) (ds:=[]) (fl 0 14) (by kernel_rfl) rfl rfl ⟨bc BK445.out 0,bc BK445.out 1,bc BK446.out 0,bc BK446.out 1,bc BK446.out 2⟩ (fun hHeld=>?_);refine with_tabW laws_FnExactLeastTolerance.tab11 laws_FnExactLeastTolerance.bits11 (fun HT_ HW_=>?_)
    generalize w41.drew=w42 at BK445 BK446 HB hHeld ⊢
    refine pu HT_.out 2 (some 35) #[false,false,true,false,false,false,false,false,false,false,false,false,false,false] (h:=?_)
    refine pu HT_.out 4 (some 37) #[false,false,true,false,true,false,false,false,false,false,false,false,false,false] (h:=?_)
    refine ta HT_.out HW_.out 0 (some 33) #[true,false,true,false,true,false,false,false,false,false,false,false,false,false] hHeld rfl (by rintro w' ⟨s0,s1,s2,s3,s4⟩;go_simp;with_reducible rfl) (h:=?_)
    refine ta HT_.out HW_.out 6 (some 39) #[true,false,true,false,true,false,true,false,false,false,false,false,false,false] hHeld rfl (by rintro w' ⟨s0,s1,s2,s3,s4⟩;go_simp;with_reducible rfl) (h:=?_)
    refine one_ (i:=1) (N:=some 34) #[true,true,true,false,true,false,true,false,false,false,false,false,false,false] rfl rfl (one_of HT_.out (by kernel_rfl)) (by decide) (fun K hK=>?_)
    refine goes_ Try.func10 (by kernel_rfl) rfl #[.agg #[.slice A0_0 l0_0.length c0_0,.int .i64 a0_1]] (by rfl) rfl rfl tl ?_
    with_reducible refine(laws_toInstrument.calls k _ _ l0_0 a0_1 t450 t453 _ ?side1 ?side2 A26.out).mono ?_
    (case side1=>exact cup (Kd.C_below HR0_0.out HB.out))
    (case side2=>exact HC0_0.out)
    rintro e w43 ⟨v451,rfl,ho0,hb⟩
    refine⟨_,rfl,?_⟩
    have HO452:=am (Kd.R_lower ho0 (below_size bl))
    replace BK445:=am (blk_below (bup BK445.out) hb)
    replace BK446:=am (blk_below (bup BK446.out) hb)
    replace HB:=am (below_step bl hb)
    (try clear hb)
    (try clear ho0)
    refine hK.out _ _ ⟨bc BK445.out 0,bc BK445.out 1,bc BK446.out 0,bc BK446.out 1,bc BK446.out 2⟩ (fun hHeld=>?_)
    clear hK K
    refine norm_ (a':=?_) ?_ ?_
    rotate_left
    ·show Act.put _ (some 34) _=_
     simp only[Act.put,List.setIfInBounds_toArray,List.set_cons_zero,List.set_cons_succ,i64_w,i32_w]
     rfl
    refine one_ (i:=3) (N:=some 36) #[true,true,true,true,true,false,true,false,false,false,false,false,false,false] rfl rfl (one_of HT_.out (by kernel_rfl)) (by decide) (fun K hK=>?_)
    refine goes_ Try.func11 (by kernel_rfl) rfl #[.slice A1 l1.length c1] (by rfl) rfl rfl tl ?_
    with_reducible refine(laws_toNoteS.calls k _ _ l1 t454 _ ?side1 ?side2 A27.out).mono ?_
    (case side1=>exact cup (Kd.C_below HR1.out HB.out))
    (case side2=>exact HC1.out)
    rintro e w44 ⟨v455,rfl,ho0,hb⟩
    refine⟨_,rfl,?_⟩
    replace HO452:=am (Kd.R_below (rup HO452.out) hb)
    have HO456:=am (Kd.R_lower ho0 (below_size bl))
    replace BK445:=am (blk_below (bup BK445.out) hb)
    replace BK446:=am (blk_below (bup BK446.out) hb)
    replace HB:=am (below_step bl hb)
    (try clear hb)
    (try clear ho0)
    refine hK.out _ _ ⟨bc BK445.out 0,bc BK445.out 1,bc BK446.out 0,bc BK446.out 1,bc BK446.out 2⟩ (fun hHeld=>?_)
    clear hK K
    refine norm_ (a':=?_) ?_ ?_
    rotate_left
    ·show Act.put _ (some 36) _=_
     simp only[Act.put,List.setIfInBounds_toArray,List.set_cons_zero,List.set_cons_succ,i64_w,i32_w]
     rfl
    refine one_ (i:=5) (N:=some 38) (fl 7 14) rfl rfl (one_of HT_.out (by kernel_rfl)) (by decide) (fun K hK=>?_)
    refine goes_ Try.func12 (by kernel_rfl) rfl #[.slice A2 l2.length c2] (by rfl) rfl rfl tl ?_
    with_reducible refine(laws_toHoleS.calls k _ _ l2 t457 _ ?side1 ?side2 A28.out).mono ?_
    (case side1=>exact cup (Kd.C_below HR2.out HB.out))
    (case side2=>exact HC2.out)
    rintro e w45 ⟨v458,rfl,ho0,hb⟩
    refine⟨_,rfl,?_⟩
    replace HO452:=am (Kd.R_below (rup HO452.out) hb)
    replace HO456:=am (Kd.R_below (rup HO456.out) hb)
    have HO459:=am (Kd.R_lower ho0 (below_size bl))
    replace BK445:=am (blk_below (bup BK445.out) hb)
    replace BK446:=am (blk_below (bup BK446.out) hb)
    replace HB:=am (below_step bl hb)
    (try clear hb)
    (try clear ho0)
    refine hK.out _ _ ⟨bc BK445.out 0,bc BK445.out 1,bc BK446.out 0,bc BK446.out 1,bc BK446.out 2⟩ (fun hHeld=>?_)
    clear hK K
    refine norm_ (a':=?_) ?_ ?_
    rotate_left
    ·show Act.put _ (some 38) _=_
     simp only[Act.put,List.setIfInBounds_toArray,List.set_cons_zero,List.set_cons_succ,i64_w,i32_w]
     rfl
    refine one_ (i:=7) (N:=some 40) (fl 8 14) rfl rfl (one_of HT_.out (by kernel_rfl)) (by decide) (fun K hK=>?_)
    refine goes_ Try.func13 (by kernel_rfl) rfl #[.agg #[.int .i64 a3_0,.int .i64 a3_1,.int .i64 a3_2]] (by rfl) rfl rfl tl ?_
    with_reducible refine(laws_toAction.calls a3_0 a3_1 a3_2 t460 t461 t462 _ A29.out).mono ?_
    rintro e w46 ⟨rfl,hb⟩
    refine⟨_,rfl,?_⟩
    replace HO452:=am (Kd.R_below (rup HO452.out) hb)
    replace HO456:=am (Kd.R_below (rup HO456.out) hb)
    replace HO459:=am (Kd.R_below (rup HO459.out) hb)
    replace BK445:=am (blk_below (bup BK445.out) hb)
    replace BK446:=am (blk_below (bup BK446.out) hb)
    replace HB:=am (below_step bl hb)
    (try clear hb)
    obtain⟨Ao47,co47,eo47⟩:=Kd.R_slice HO452.out
    (first|subst eo47|(injection eo47 with f1_ f2_ f3_;have f4_:=f1_.symm;have f5_:=f3_.symm;clear f1_ f2_ f3_;subst f4_;subst f5_))
    obtain⟨Ao48,co48,eo48⟩:=Kd.R_slice HO456.out
    (first|subst eo48|(injection eo48 with f1_ f2_ f3_;have f4_:=f1_.symm;have f5_:=f3_.symm;clear f1_ f2_ f3_;subst f4_;subst f5_))
    obtain⟨Ao49,co49,eo49⟩:=Kd.R_slice HO459.out
    (first|subst eo49|(injection eo49 with f1_ f2_ f3_;have f4_:=f1_.symm;have f5_:=f3_.symm;clear f1_ f2_ f3_;subst f4_;subst f5_))
    refine hK.out _ _ ⟨bc BK445.out 0,bc BK445.out 1,bc BK446.out 0,bc BK446.out 1,bc BK446.out 2⟩ (fun hHeld=>?_)
    clear hK K
    refine norm_ (a':=?_) ?_ ?_
    rotate_left
    ·show Act.put _ (some 40) _=_
     simp only[Act.put,List.setIfInBounds_toArray,List.set_cons_zero,List.set_cons_succ,i64_w,i32_w]
     rfl
    refine one_ (i:=8) (N:=some 41) (fl 9 14) rfl rfl (one_of HT_.out (by kernel_rfl)) (by decide) (fun K hK=>?_)
    refine goes_ Try.func18 (by kernel_rfl) rfl #[.agg #[.slice Ao47 t450.length co47,.int .i64 t453],.slice Ao48 t454.length co48,.slice Ao49 t457.length co49,.agg #[.int .i64 t460,.int .i64 t461,.int .i64 t462]] (by rfl) rfl rfl tl ?_
    with_reducible refine(spec_LeastTolerance.calls k _ _ t450 t453 _ _ t454 _ _ t457 t460 t461 t462 t463 t464 _ ?side1 ?side2 ?side3 ?side4 ?side5 ?side6 A30.out).mono ?_
    (case side1=>repeat(first|exact(Kd.R_reads' HO452.out).2.2|(with_reducible refine Kd.C_alloc ?_ _)|(with_reducible refine Kd.C_drewN ?_ _)|(with_reducible refine Kd.C_drew ?_)))
    (case side2=>exact(Kd.R_reads' HO452.out).2.1)
    (case side3=>repeat(first|exact(Kd.R_reads' HO456.out).2.2|(with_reducible refine Kd.C_alloc ?_ _)|(with_reducible refine Kd.C_drewN ?_ _)|(with_reducible refine Kd.C_drew ?_)))
    (case side4=>exact(Kd.R_reads' HO456.out).2.1)
    (case side5=>repeat(first|exact(Kd.R_reads' HO459.out).2.2|(with_reducible refine Kd.C_alloc ?_ _)|(with_reducible refine Kd.C_drewN ?_ _)|(with_reducible refine Kd.C_drew ?_)))
    (case side6=>exact(Kd.R_reads' HO459.out).2.1)
    rintro e w50 ⟨rfl,hb⟩
    refine⟨_,rfl,?_⟩
    replace HO452:=am (Kd.R_below (rup HO452.out) hb)
    replace HO456:=am (Kd.R_below (rup HO456.out) hb)
    replace HO459:=am (Kd.R_below (rup HO459.out) hb)
    replace BK445:=am (blk_below (bup BK445.out) hb)
    replace BK446:=am (blk_below (bup BK446.out) hb)
    replace HB:=am (below_step bl hb)
    (try clear hb)
    refine hK.out _ _ ⟨bc BK445.out 0,bc BK445.out 1,bc BK446.out 0,bc BK446.out 1,bc BK446.out 2⟩ (fun hHeld=>?_)
    clear hK K
    refine norm_ (a':=?_) ?_ ?_
    rotate_left
    ·show Act.put _ (some 41) _=_
     simp only[Act.put,List.setIfInBounds_toArray,List.set_cons_zero,List.set_cons_succ,i64_w,i32_w]
     rfl
    refine pu HT_.out 9 (some 32) (fl 10 14) (h:=?_)
    refine pu HT_.out 10 (some 42) (fl 11 14) (h:=?_)
    refine pu HT_.out 11 (some 43) (fl 12 14) (h:=?_)
    refine pu HT_.out 12 (some 10) (fl 13 14) (h:=?_)
    refine pu HT_.out 13 (some 11) (fl 14 14) (h:=?_)
    refine done_ (done_of HT_.out (by kernel_rfl)) ?_
    have hcz51_0:=bc BK445.out 0
    have hcz51_1:=bc BK445.out 1
    have hfz51_0:=blk_frozen BK445.out 0
    have hfz51_1:=blk_frozen BK445.out 1
    try go_wp2_with (first|((with_reducible refine gate_callee (f:=10) rfl ?_);refine goesL_ (some 45) rfl rfl Try.func10 (by kernel_rfl) rfl #[.agg #[.slice A0_0 l0_0.length c0_0,.int .i64 a0_1]] rfl tl ?_;(with_reducible refine(laws_toInstrument.calls k _ _ l0_0 a0_1 t465 t468 _ ?side1 ?side2 A31.out).mono ?_);(case side1=>exact cup (Kd.C_below HR0_0.out HB.out));(case side2=>exact HC0_0.out);rintro e w52 ⟨v466,rfl,ho0,hb⟩;refine⟨_,rfl,?_⟩;replace HO456:=am (Kd.R_below (rup HO456.out) hb);replace HO459:=am (Kd.R_below (rup HO459.out) hb);have HO467:=am (Kd.R_lower (Kd.R_new' ho0 (Kd.R_lt (rup HO452.out))) (below_size bl));replace HO452:=am (Kd.R_elder' (rup HO452.out) (Kd.R_base ho0) hb);replace BK445:=am (blk_below (bup BK445.out) hb);replace BK446:=am (blk_below (bup BK446.out) hb);replace HB:=am (below_step bl hb);(try clear hb);(try clear ho0))|((with_reducible refine gate_dst (N:=12) rfl ?_);refine box_event ?hg (N:=12) ?hd (cs := #[.slice none 0 0,.int .i64 0]) (t:=34) ?hr ?_;(case hd=>rfl);(case hg=>rfl);(case hr=>first|(go_simp;done)|(go_simp;rfl));intro gb469 hg w53 hbox hb;replace HO452:=am (Kd.R_below (rup HO452.out) hb);replace HO456:=am (Kd.R_below (rup HO456.out) hb);replace HO459:=am (Kd.R_below (rup HO459.out) hb);replace HO467:=am (Kd.R_below (rup HO467.out) hb);have BK469:=am (hbox);have GW469:=am (ge_ bl hg);have GE469:=am (ge_ bl hg);replace HB:=am (below_step bl hb);have NB445_469:=am (nl (bup BK445.out) hg);have NB469_445:=am (ng (bup BK445.out) hg);replace BK445:=am (blk_below (bup BK445.out) hb);have NB446_469:=am (nl (bup BK446.out) hg);have NB469_446:=am (ng (bup BK446.out) hg);replace BK446:=am (blk_below (bup BK446.out) hb);clear hb hbox hg;obtain⟨Ao54,co54,eo54⟩:=Kd.R_slice HO467.out;subst eo54;have hnb55:=NB469_445.out;have hnc55:=NB445_469.out;have hnb56:=NB469_446.out;have hnc56:=NB446_469.out;have hcz57_0:=bc BK469.out 0;have hcz57_1:=bc BK469.out 1;have hfz57_0:=blk_frozen BK469.out 0;have hfz57_1:=blk_frozen BK469.out 1)|((with_reducible refine gate_callee (f:=11) rfl ?_);refine goesL_ (some 47) rfl rfl Try.func11 (by kernel_rfl) rfl #[.slice A1 l1.length c1] rfl tl ?_;(with_reducible refine(laws_toNoteS.calls k _ _ l1 t470 _ ?side1 ?side2 A32.out).mono ?_);(case side1=>exact Kd.C_below HR1.out bl);(case side2=>exact HC1.out);rintro e w58 ⟨v471,rfl,ho0,hb⟩;refine⟨_,rfl,?_⟩;replace HO452:=am (Kd.R_below (by(with_reducible repeat(first|apply Kd.R_alloc|apply Kd.R_drewN|apply Kd.R_drew));exact(Kd.R_mono (Kd.R_far (p:=⟨gb469,1,none⟩) (Kd.R_far (p:=⟨gb469,0,none⟩) (Kd.R_types HO452.out BK469.out (by decide)) (fun _ hk=>hk.2) (.slice Ao54 t465.length co54)) (fun _ hk=>hk.2) (.int .i64 t468)) (fun _ h_=>h_.1))) hb);replace HO459:=am (Kd.R_below (by(with_reducible repeat(first|apply Kd.R_alloc|apply Kd.R_drewN|apply Kd.R_drew));exact(Kd.R_mono (Kd.R_far (p:=⟨gb469,1,none⟩) (Kd.R_far (p:=⟨gb469,0,none⟩) (Kd.R_types HO459.out BK469.out (by decide)) (fun _ hk=>hk.2) (.slice Ao54 t465.length co54)) (fun _ hk=>hk.2) (.int .i64 t468)) (fun _ h_=>h_.1))) hb);replace HO467:=am (Kd.R_below (by(with_reducible repeat(first|apply Kd.R_alloc|apply Kd.R_drewN|apply Kd.R_drew));exact(Kd.R_mono (Kd.R_far (p:=⟨gb469,1,none⟩) (Kd.R_far (p:=⟨gb469,0,none⟩) (Kd.R_types HO467.out BK469.out (by decide)) (fun _ hk=>hk.2) (.slice Ao54 t465.length co54)) (fun _ hk=>hk.2) (.int .i64 t468)) (fun _ h_=>h_.1))) hb);have HO472:=am (Kd.R_lower (Kd.R_new' ho0 (Kd.R_lt (by(with_reducible repeat(first|apply Kd.R_alloc|apply Kd.R_drewN|apply Kd.R_drew));exact(Kd.R_mono (Kd.R_far (p:=⟨gb469,1,none⟩) (Kd.R_far (p:=⟨gb469,0,none⟩) (Kd.R_types HO456.out BK469.out (by decide)) (fun _ hk=>hk.2) (.slice Ao54 t465.length co54)) (fun _ hk=>hk.2) (.int .i64 t468)) (fun _ h_=>h_.1))))) (below_size bl));replace HO456:=am (Kd.R_elder' (by(with_reducible repeat(first|apply Kd.R_alloc|apply Kd.R_drewN|apply Kd.R_drew));exact(Kd.R_mono (Kd.R_far (p:=⟨gb469,1,none⟩) (Kd.R_far (p:=⟨gb469,0,none⟩) (Kd.R_types HO456.out BK469.out (by decide)) (fun _ hk=>hk.2) (.slice Ao54 t465.length co54)) (fun _ hk=>hk.2) (.int .i64 t468)) (fun _ h_=>h_.1))) (Kd.R_base ho0) hb);replace BK445:=am (blk_below (g:=gb445) (o := .cells #[.slice A0_0 l0_0.length c0_0,.int .i64 a0_1] 24 (0,0)) (by(with_reducible repeat(first|refine bN_ ?_ _|refine bD_ ?_|refine bA_ ?_ _));refine blk_far ?_ NB445_469.out _;(with_reducible repeat(first|refine bN_ ?_ _|refine bD_ ?_|refine bA_ ?_ _));refine blk_far ?_ NB445_469.out _;exact bup BK445.out) hb);replace BK446:=am (blk_below (g:=gb446) (o := .cells #[.int .i64 a3_0,.int .i64 a3_1,.int .i64 a3_2] 28 (0,0)) (by(with_reducible repeat(first|refine bN_ ?_ _|refine bD_ ?_|refine bA_ ?_ _));refine blk_far ?_ NB446_469.out _;(with_reducible repeat(first|refine bN_ ?_ _|refine bD_ ?_|refine bA_ ?_ _));refine blk_far ?_ NB446_469.out _;exact bup BK446.out) hb);replace BK469:=am (blk_below (g:=gb469) (o := .cells #[.slice Ao54 t465.length co54,.int .i64 t468] 34 (0,0)) (by(with_reducible repeat(first|refine bN_ ?_ _|refine bD_ ?_|refine bA_ ?_ _));refine blk_put (cs := #[.slice Ao54 t465.length co54,.int .i64 0]) ?_ 1 _ rfl;(with_reducible repeat(first|refine bN_ ?_ _|refine bD_ ?_|refine bA_ ?_ _));refine blk_put (cs := #[.slice none 0 0,.int .i64 0]) ?_ 0 _ rfl;exact bup BK469.out) hb);replace HB:=am (below_step bl hb);(try clear hb);(try clear hk);(try clear ho0))|((with_reducible refine gate_callee (f:=12) rfl ?_);refine goesL_ (some 49) rfl rfl Try.func12 (by kernel_rfl) rfl #[.slice A2 l2.length c2] rfl tl ?_;(with_reducible refine(laws_toHoleS.calls k _ _ l2 t473 _ ?side1 ?side2 A33.out).mono ?_);(case side1=>exact cup (Kd.C_below HR2.out HB.out));(case side2=>exact HC2.out);rintro e w59 ⟨v474,rfl,ho0,hb⟩;refine⟨_,rfl,?_⟩;replace HO452:=am (Kd.R_below (rup HO452.out) hb);replace HO456:=am (Kd.R_below (rup HO456.out) hb);replace HO467:=am (Kd.R_below (rup HO467.out) hb);replace HO472:=am (Kd.R_below (rup HO472.out) hb);have HO475:=am (Kd.R_lower (Kd.R_new' ho0 (Kd.R_lt (rup HO459.out))) (below_size bl));replace HO459:=am (Kd.R_elder' (rup HO459.out) (Kd.R_base ho0) hb);replace BK445:=am (blk_below (bup BK445.out) hb);replace BK446:=am (blk_below (bup BK446.out) hb);replace BK469:=am (blk_below (bup BK469.out) hb);replace HB:=am (below_step bl hb);(try clear hb);(try clear ho0)))
    replace HO452:=am (Kd.R_drew HO452.out)
    replace HO456:=am (Kd.R_drew HO456.out)
    replace HO459:=am (Kd.R_drew HO459.out)
    replace HO467:=am (Kd.R_drew HO467.out)
    replace HO472:=am (Kd.R_drew HO472.out)
    replace HO475:=am (Kd.R_drew HO475.out)
    replace BK445:=am (bD_ BK445.out)
    replace BK446:=am (bD_ BK446.out)
    replace BK469:=am (bD_ BK469.out)
    replace HB:=am (below_drew1 HB.out)
    refine start_ (n:=11) (S:=fun w'=>w'.cell? ⟨gb469,0,none⟩=some (.slice Ao54 t465.length co54)∧w'.cell? ⟨gb469,1,none⟩=some (.int .i64 t468)∧w'.cell? ⟨gb446,0,none⟩=some (.int .i64 a3_0)∧w'.cell? ⟨gb446,1,none⟩=some (.int .i64 a3_1)∧w'.cell? ⟨gb446,2,none⟩=some (.int .i64 a3_2)) (ds:=[]) (fl 0 11) (by kernel_rfl) rfl rfl ⟨bc BK469.out 0,bc BK469.out 1,bc BK446.out 0,bc BK446.out 1,bc BK446.out 2⟩ (fun hHeld=>?_);refine with_tabW laws_FnExactLeastTolerance.tab15 laws_FnExactLeastTolerance.bits15 (fun HT_ HW_=>?_)
    generalize w59.drew=w60 at HO452 HO456 HO459 HO467 HO472 HO475 BK445 BK446 BK469 HB hHeld ⊢
    refine pu HT_.out 1 (some 52) #[false,true,false,false,false,false,false,false,false,false,false] (h:=?_)
    refine pu HT_.out 2 (some 53) #[false,true,true,false,false,false,false,false,false,false,false] (h:=?_)
    refine ta HT_.out HW_.out 0 (some 51) (fl 3 11) hHeld rfl (by rintro w' ⟨s0,s1,s2,s3,s4⟩;go_simp;with_reducible rfl) (h:=?_)
    refine ta HT_.out HW_.out 3 (some 54) (fl 4 11) hHeld rfl (by rintro w' ⟨s0,s1,s2,s3,s4⟩;go_simp;with_reducible rfl) (h:=?_)
    refine one_ (i:=4) (N:=some 55) (fl 5 11) rfl rfl (one_of HT_.out (by kernel_rfl)) (by decide) (fun K hK=>?_)
    refine goes_ Try.func13 (by kernel_rfl) rfl #[.agg #[.int .i64 a3_0,.int .i64 a3_1,.int .i64 a3_2]] (by rfl) rfl rfl tl ?_
    with_reducible refine(laws_toAction.calls a3_0 a3_1 a3_2 t476 t477 t478 _ A34.out).mono ?_
    rintro e w61 ⟨rfl,hb⟩
    refine⟨_,rfl,?_⟩
    replace HO452:=am (Kd.R_below (rup HO452.out) hb)
    replace HO456:=am (Kd.R_below (rup HO456.out) hb)
    replace HO459:=am (Kd.R_below (rup HO459.out) hb)
    replace HO467:=am (Kd.R_below (rup HO467.out) hb)
    replace HO472:=am (Kd.R_below (rup HO472.out) hb)
    replace HO475:=am (Kd.R_below (rup HO475.out) hb)
    replace BK445:=am (blk_below (bup BK445.out) hb)
    replace BK446:=am (blk_below (bup BK446.out) hb)
    replace BK469:=am (blk_below (bup BK469.out) hb)
    replace HB:=am (below_step bl hb)
    (try clear hb)
    obtain⟨Ao62,co62,eo62⟩:=Kd.R_slice HO472.out
    (first|subst eo62|(injection eo62 with f1_ f2_ f3_;have f4_:=f1_.symm;have f5_:=f3_.symm;clear f1_ f2_ f3_;subst f4_;subst f5_))
    obtain⟨Ao63,co63,eo63⟩:=Kd.R_slice HO475.out
    (first|subst eo63|(injection eo63 with f1_ f2_ f3_;have f4_:=f1_.symm;have f5_:=f3_.symm;clear f1_ f2_ f3_;subst f4_;subst f5_))
    refine hK.out _ _ ⟨bc BK469.out 0,bc BK469.out 1,bc BK446.out 0,bc BK446.out 1,bc BK446.out 2⟩ (fun hHeld=>?_)
    clear hK K
    refine norm_ (a':=?_) ?_ ?_
    rotate_left
    ·show Act.put _ (some 55) _=_
     simp only[Act.put,List.setIfInBounds_toArray,List.set_cons_zero,List.set_cons_succ,i64_w,i32_w]
     rfl
    refine one_ (i:=5) (N:=some 56) (fl 6 11) rfl rfl (one_of HT_.out (by kernel_rfl)) (by decide) (fun K hK=>?_)
    refine goes_ Try.func19 (by kernel_rfl) rfl #[.agg #[.slice Ao54 t465.length co54,.int .i64 t468],.slice Ao62 t470.length co62,.slice Ao63 t473.length co63,.agg #[.int .i64 t476,.int .i64 t477,.int .i64 t478]] (by rfl) rfl rfl tl ?_
    with_reducible refine(impl_LeastTolerance.calls k _ _ t465 t468 _ _ t470 _ _ t473 t476 t477 t478 t479 t480 _ ?side1 ?side2 ?side3 ?side4 ?side5 ?side6 A35.out).mono ?_
    (case side1=>repeat(first|exact(Kd.R_reads' HO467.out).2.2|(with_reducible refine Kd.C_alloc ?_ _)|(with_reducible refine Kd.C_drewN ?_ _)|(with_reducible refine Kd.C_drew ?_)))
    (case side2=>exact(Kd.R_reads' HO467.out).2.1)
    (case side3=>repeat(first|exact(Kd.R_reads' HO472.out).2.2|(with_reducible refine Kd.C_alloc ?_ _)|(with_reducible refine Kd.C_drewN ?_ _)|(with_reducible refine Kd.C_drew ?_)))
    (case side4=>exact(Kd.R_reads' HO472.out).2.1)
    (case side5=>repeat(first|exact(Kd.R_reads' HO475.out).2.2|(with_reducible refine Kd.C_alloc ?_ _)|(with_reducible refine Kd.C_drewN ?_ _)|(with_reducible refine Kd.C_drew ?_)))
    (case side6=>exact(Kd.R_reads' HO475.out).2.1)
    rintro e w64 ⟨rfl,hb⟩
    refine⟨_,rfl,?_⟩
    replace HO452:=am (Kd.R_below (rup HO452.out) hb)
    replace HO456:=am (Kd.R_below (rup HO456.out) hb)
    replace HO459:=am (Kd.R_below (rup HO459.out) hb)
    replace HO467:=am (Kd.R_below (rup HO467.out) hb)
    replace HO472:=am (Kd.R_below (rup HO472.out) hb)
    replace HO475:=am (Kd.R_below (rup HO475.out) hb)
    replace BK445:=am (blk_below (bup BK445.out) hb)
    replace BK446:=am (blk_below (bup BK446.out) hb)
    replace BK469:=am (blk_below (bup BK469.out) hb)
    replace HB:=am (below_step bl hb)
    (try clear hb)
    refine hK.out _ _ ⟨bc BK469.out 0,bc BK469.out 1,bc BK446.out 0,bc BK446.out 1,bc BK446.out 2⟩ (fun hHeld=>?_)
    clear hK K
    refine norm_ (a':=?_) ?_ ?_
    rotate_left
    ·show Act.put _ (some 56) _=_
     simp only[Act.put,List.setIfInBounds_toArray,List.set_cons_zero,List.set_cons_succ,i64_w,i32_w]
     rfl
    refine pu HT_.out 6 (some 50) (fl 7 11) (h:=?_)
    refine pu HT_.out 7 (some 57) (fl 8 11) (h:=?_)
    refine pu HT_.out 8 (some 58) (fl 9 11) (h:=?_)
    refine pu HT_.out 9 (some 15) (fl 10 11) (h:=?_)
    refine pu HT_.out 10 (some 16) (fl 11 11) (h:=?_)
    refine done_ (done_of HT_.out (by kernel_rfl)) ?_
    go_upto_region 16 with(fail)
    go_cut [66] (fun v66 wc=>∃(kq:Nat) (x66_35:Bool),v66 = .bool x66_35∧Aside0 (laws_FnExactLeastTolerance.j0 kq l1 l2 t470 t473 x66_35 l0_0 a0_1 t465 t468=some r)∧Aside0 (kq≤k)∧Aside0 (Kd.R k62 62 wc w.heap.size (fun _=>True) (.slice Ao62 t470.length co62) t470)∧Aside0 (Kd.R k66 66 wc w.heap.size (fun _=>True) (.slice Ao63 t473.length co63) t473)∧Aside0 (Kd.R (Kd.int .i64) 3 wc w.heap.size (fun _=>True) (.slice Ao54 t465.length co54) t465)∧Aside0 (wc.heap[gb445]?=some (.cells #[(.slice A0_0 l0_0.length c0_0),.int .i64 a0_1] 24 (0,0)))∧Aside0 (wc.heap[gb469]?=some (.cells #[(.slice Ao54 t465.length co54),.int .i64 t468] 34 (0,0)))∧Aside0 (Below w.heap.size w wc))
    case first =>
     have H:=HC36.out
     clear HC36
     rcases itc H with⟨c65,H⟩|⟨c65,H⟩
     ·have c65b0:(t479 == t463)=true:=beq_iff_eq.mpr c65
      have c65b1:(t479 != t463)=false:=bne_eq_false_iff_eq.mpr c65
      clear c65
      (first|rw[c65b0]|(simp only[i64_w,i32_w];rw[c65b0])|skip)
      have H':=am H
      clear H
      go_wp2
      go_meet
      case rel=>exact⟨_,((t480 != t464)),fin2,H',⟨by first|omega|exact Nat.le_refl _⟩,⟨rup (Kd.R_mono HO472.out (fun _ hk=>trivial))⟩,⟨rup (Kd.R_mono HO475.out (fun _ hk=>trivial))⟩,⟨rup (Kd.R_mono HO467.out (fun _ hk=>trivial))⟩,⟨bup BK445.out⟩,⟨bup BK469.out⟩,⟨bl⟩⟩
     ·have c65b0:(t479 == t463)=false:=beq_eq_false_iff_ne.mpr c65
      have c65b1:(t479 != t463)=true:=bne_iff_ne.mpr c65
      (first|rw[c65b0]|(simp only[i64_w,i32_w];rw[c65b0])|skip)
      have H':=am H
      clear H
      go_wp2
      go_meet
      case rel=>exact⟨_,(true),fin2,H',⟨by first|omega|exact Nat.le_refl _⟩,⟨rup (Kd.R_mono HO472.out (fun _ hk=>trivial))⟩,⟨rup (Kd.R_mono HO475.out (fun _ hk=>trivial))⟩,⟨rup (Kd.R_mono HO467.out (fun _ hk=>trivial))⟩,⟨bup BK445.out⟩,⟨bup BK469.out⟩,⟨bl⟩⟩
    case rest =>
     clear HC36
     try clear c1
     try clear c2
     try clear p2
     try clear c3
     try clear c4
     try clear c5
     try clear c6
     try clear c7
     try clear c8
     try clear c10
     try clear c11
     try clear c12
     try clear c13
     try clear c13b0
     try clear c16
     try clear c18
     try clear c19
     try clear c20
     try clear c20b0
     try clear c23
     try clear c39
     try clear c55
     try clear c56
     try clear c65
     try clear c65b0
     try clear c65b1
     try clear hcz17_0
     try clear hcz17_1
     try clear hcz24_0
     try clear hcz24_1
     try clear hcz40_0
     try clear hcz40_1
     try clear hcz51_0
     try clear hcz51_1
     try clear hcz57_0
     try clear hcz57_1
     try clear hfz17_0
     try clear hfz17_1
     try clear hfz24_0
     try clear hfz24_1
     try clear hfz40_0
     try clear hfz40_1
     try clear hfz51_0
     try clear hfz51_1
     try clear hfz57_0
     try clear hfz57_1
     obtain⟨kq,x66_35,rfl,HA,HJ35,HO_13,HO_14,HO_470000,BK445,BK469,HB⟩:=hcut
     cases kq with
     | zero=>exact absurd HA.out (by simp [laws_FnExactLeastTolerance.j0])
     | succ kj35 =>
      have H:=HA.out
      clear HA
      simp only[laws_FnExactLeastTolerance.j0] at H
      by_cases c66:x66_35=true
      ·subst c66
       replace H:=(if_pos rfl).symm.trans H
       obtain rfl:=Option.some.inj H
       go_wp2
       go_ret
       exact⟨fin1,bl⟩
      ·replace c66:=Bool.eq_false_iff.mpr c66
       subst c66
       replace H:=(if_neg Bool.false_ne_true).symm.trans H
       obtain⟨⟨t481,t484⟩,A67,H⟩:=bnd H;dsimp only at H
       obtain⟨t485,A68,H⟩:=bnd H
       by_cases c69:t485=true
       ·subst c69
        replace H:=(if_pos rfl).symm.trans H
        obtain⟨t486,A70,H⟩:=bnd H
        obtain⟨t489,A71,H⟩:=bnd H
        by_cases c72:t489=true
        ·subst c72
         replace H:=(if_pos rfl).symm.trans H
         obtain⟨t490,A73,H⟩:=bnd H
         obtain⟨t493,A74,H⟩:=bnd H
         by_cases c75:t493=true
         ·subst c75
          replace H:=(if_pos rfl).symm.trans H
          obtain rfl:=Option.some.inj H
          try go_wp2
          replace HO_13:=am (Kd.R_drew HO_13.out)
          replace HO_14:=am (Kd.R_drew HO_14.out)
          replace HO_470000:=am (Kd.R_drew HO_470000.out)
          replace BK445:=am (bD_ BK445.out)
          replace BK469:=am (bD_ BK469.out)
          replace HB:=am (below_drew1 HB.out)
          refine start_ (n:=5) (S:=fun w'=>w'.cell? ⟨gb469,0,none⟩=some (.slice Ao54 t465.length co54)∧w'.cell? ⟨gb469,1,none⟩=some (.int .i64 t468)∧w'.cell? ⟨gb445,0,none⟩=some (.slice A0_0 l0_0.length c0_0)∧w'.cell? ⟨gb445,1,none⟩=some (.int .i64 a0_1)) (ds:=[]) (fl 0 5) (by kernel_rfl) rfl rfl ⟨bc BK469.out 0,bc BK469.out 1,bc BK445.out 0,bc BK445.out 1⟩ (fun hHeld=>?_)
          generalize wc.drew=w76 at HO_13 HO_14 HO_470000 BK445 BK469 HB hHeld ⊢
          refine take_ (i:=0) (N:=some 67) (v:=?_) (a':=?_) (fl 1 5) rfl rfl (by kernel_rfl) (fun _ _ _ h=>h) (Or.inl ⟨by rfl,?_⟩) hHeld ?_ ?_
          rotate_left
          ·rintro w' ⟨s0,s1,s2,s3⟩
           go_simp
           with_reducible rfl
          rotate_left
          ·simp only[Act.put,List.setIfInBounds_toArray,List.set_cons_zero,List.set_cons_succ,i64_w,i32_w]
           rfl
          refine take_ (i:=1) (N:=some 68) (v:=?_) (a':=?_) (fl 2 5) rfl rfl (by kernel_rfl) (fun _ _ _ h=>h) (Or.inl ⟨by rfl,?_⟩) hHeld ?_ ?_
          rotate_left
          ·rintro w' ⟨s0,s1,s2,s3⟩
           go_simp
           with_reducible rfl
          rotate_left
          ·simp only[Act.put,List.setIfInBounds_toArray,List.set_cons_zero,List.set_cons_succ,i64_w,i32_w]
           rfl
          refine one_ (i:=2) (N:=some 69) (fl 3 5) rfl rfl (by kernel_rfl) (by decide) (fun K hK=>?_)
          refine goes_ Try.func10 (by kernel_rfl) rfl #[.agg #[.slice A0_0 l0_0.length c0_0,.int .i64 a0_1]] (by rfl) rfl rfl tl ?_
          with_reducible refine(laws_toInstrument.calls kj35 _ _ l0_0 a0_1 t481 t484 _ ?side1 ?side2 A67.out).mono ?_
          (case side1=>exact cup (Kd.C_below HR0_0.out HB.out))
          (case side2=>exact HC0_0.out)
          rintro e w77 ⟨v482,rfl,ho0,hb⟩
          refine⟨_,rfl,?_⟩
          replace HO_13:=am (Kd.R_below (rup HO_13.out) hb)
          replace HO_14:=am (Kd.R_below (rup HO_14.out) hb)
          have HO483:=am (Kd.R_lower (Kd.R_new' ho0 (Kd.R_lt (rup HO_470000.out))) (below_size bl))
          replace HO_470000:=am (Kd.R_elder' (rup HO_470000.out) (Kd.R_base ho0) hb)
          replace BK445:=am (blk_below (bup BK445.out) hb)
          replace BK469:=am (blk_below (bup BK469.out) hb)
          replace HB:=am (below_step bl hb)
          (try clear hb)
          (try clear ho0)
          obtain⟨Ao78,co78,eo78⟩:=Kd.R_slice HO483.out
          (first|subst eo78|(injection eo78 with f1_ f2_ f3_;have f4_:=f1_.symm;have f5_:=f3_.symm;clear f1_ f2_ f3_;subst f4_;subst f5_))
          refine hK.out _ _ ⟨bc BK469.out 0,bc BK469.out 1,bc BK445.out 0,bc BK445.out 1⟩ (fun hHeld=>?_)
          clear hK K
          refine norm_ (a':=?_) ?_ ?_
          rotate_left
          ·show Act.put _ (some 69) _=_
           simp only[Act.put,List.setIfInBounds_toArray,List.set_cons_zero,List.set_cons_succ,i64_w,i32_w]
           rfl
          refine one_ (i:=3) (N:=some 70) (fl 4 5) rfl rfl (by kernel_rfl) (by decide) (fun K hK=>?_)
          refine goes_ Try.func15 (by kernel_rfl) rfl #[.agg #[.slice Ao54 t465.length co54,.int .i64 t468],.agg #[.slice Ao78 t481.length co78,.int .i64 t484]] (by rfl) rfl rfl tl ?_
          with_reducible refine(laws_eqInstrument.calls kj35 _ _ t465 t468 _ _ t481 t484 true _ ?side1 ?side2 ?side3 ?side4 A68.out).mono ?_
          (case side1=>repeat(first|exact(Kd.R_reads' HO_470000.out).2.2|(with_reducible refine Kd.C_alloc ?_ _)|(with_reducible refine Kd.C_drewN ?_ _)|(with_reducible refine Kd.C_drew ?_)))
          (case side2=>exact(Kd.R_reads' HO_470000.out).2.1)
          (case side3=>repeat(first|exact(Kd.R_reads' HO483.out).2.2|(with_reducible refine Kd.C_alloc ?_ _)|(with_reducible refine Kd.C_drewN ?_ _)|(with_reducible refine Kd.C_drew ?_)))
          (case side4=>exact(Kd.R_reads' HO483.out).2.1)
          rintro e w79 ⟨rfl,hb⟩
          refine⟨_,rfl,?_⟩
          replace HO_13:=am (Kd.R_below (rup HO_13.out) hb)
          replace HO_14:=am (Kd.R_below (rup HO_14.out) hb)
          replace HO_470000:=am (Kd.R_below (rup HO_470000.out) hb)
          replace HO483:=am (Kd.R_below (rup HO483.out) hb)
          replace BK445:=am (blk_below (bup BK445.out) hb)
          replace BK469:=am (blk_below (bup BK469.out) hb)
          replace HB:=am (below_step bl hb)
          (try clear hb)
          refine hK.out _ _ ⟨bc BK469.out 0,bc BK469.out 1,bc BK445.out 0,bc BK445.out 1⟩ (fun hHeld=>?_)
          clear hK K
          refine norm_ (a':=?_) ?_ ?_
          rotate_left
          ·show Act.put _ (some 70) _=_
           simp only[Act.put,List.setIfInBounds_toArray,List.set_cons_zero,List.set_cons_succ,i64_w,i32_w]
           rfl
          refine pure_ (i:=4) (N:=some 71) (v:=?_) (a':=?_) (fl 5 5) rfl rfl (by kernel_rfl) (fun _ _ _ h=>h) (Or.inl ⟨by rfl,?_⟩) ?_ ?_
          rotate_left
          ·intro w'
           go_simp
           with_reducible rfl
          rotate_left
          ·simp only[Act.put,List.setIfInBounds_toArray,List.set_cons_zero,List.set_cons_succ,i64_w,i32_w]
           rfl
          refine done_ (by kernel_rfl) ?_
          try go_wp2_with (first|((with_reducible refine gate_callee (f:=11) rfl ?_);refine goesL_ (some 74) rfl rfl Try.func11 (by kernel_rfl) rfl #[.slice A1 l1.length c1] rfl tl ?_;(with_reducible refine(laws_toNoteS.calls kj35 _ _ l1 t486 _ ?side1 ?side2 A70.out).mono ?_);(case side1=>exact cup (Kd.C_below HR1.out HB.out));(case side2=>exact HC1.out);rintro e w80 ⟨v487,rfl,ho0,hb⟩;refine⟨_,rfl,?_⟩;replace HO_14:=am (Kd.R_below (rup HO_14.out) hb);replace HO_470000:=am (Kd.R_below (rup HO_470000.out) hb);replace HO483:=am (Kd.R_below (rup HO483.out) hb);have HO488:=am (Kd.R_lower (Kd.R_new' ho0 (Kd.R_lt (rup HO_13.out))) (below_size bl));replace HO_13:=am (Kd.R_elder' (rup HO_13.out) (Kd.R_base ho0) hb);replace BK445:=am (blk_below (bup BK445.out) hb);replace BK469:=am (blk_below (bup BK469.out) hb);replace HB:=am (below_step bl hb);(try clear hb);(try clear ho0);obtain⟨Ao81,co81,eo81⟩:=Kd.R_slice HO488.out;subst eo81)|((with_reducible refine gate_callee (f:=16) rfl ?_);refine goesL_ (some 75) rfl rfl Try.func16 (by kernel_rfl) rfl #[.slice Ao62 t470.length co62,.slice Ao81 t486.length co81] rfl tl ?_;(with_reducible refine(laws_eqNoteS.calls kj35 _ _ t470 _ _ t486 true _ ?side1 ?side2 ?side3 ?side4 A71.out).mono ?_);(case side1=>repeat(first|exact(Kd.R_reads' HO_13.out).2.2|(with_reducible refine Kd.C_alloc ?_ _)|(with_reducible refine Kd.C_drewN ?_ _)|(with_reducible refine Kd.C_drew ?_)));(case side2=>exact(Kd.R_reads' HO_13.out).2.1);(case side3=>repeat(first|exact(Kd.R_reads' HO488.out).2.2|(with_reducible refine Kd.C_alloc ?_ _)|(with_reducible refine Kd.C_drewN ?_ _)|(with_reducible refine Kd.C_drew ?_)));(case side4=>exact(Kd.R_reads' HO488.out).2.1);rintro e w82 ⟨rfl,hb⟩;refine⟨_,rfl,?_⟩;replace HO_13:=am (Kd.R_below (rup HO_13.out) hb);replace HO_14:=am (Kd.R_below (rup HO_14.out) hb);replace HO_470000:=am (Kd.R_below (rup HO_470000.out) hb);replace HO483:=am (Kd.R_below (rup HO483.out) hb);replace HO488:=am (Kd.R_below (rup HO488.out) hb);replace BK445:=am (blk_below (bup BK445.out) hb);replace BK469:=am (blk_below (bup BK469.out) hb);replace HB:=am (below_step bl hb);(try clear hb))|((with_reducible refine gate_callee (f:=12) rfl ?_);refine goesL_ (some 79) rfl rfl Try.func12 (by kernel_rfl) rfl #[.slice A2 l2.length c2] rfl tl ?_;(with_reducible refine(laws_toHoleS.calls kj35 _ _ l2 t490 _ ?side1 ?side2 A73.out).mono ?_);(case side1=>exact cup (Kd.C_below HR2.out HB.out));(case side2=>exact HC2.out);rintro e w83 ⟨v491,rfl,ho0,hb⟩;refine⟨_,rfl,?_⟩;replace HO_13:=am (Kd.R_below (rup HO_13.out) hb);replace HO_470000:=am (Kd.R_below (rup HO_470000.out) hb);replace HO483:=am (Kd.R_below (rup HO483.out) hb);replace HO488:=am (Kd.R_below (rup HO488.out) hb);have HO492:=am (Kd.R_lower (Kd.R_new' ho0 (Kd.R_lt (rup HO_14.out))) (below_size bl));replace HO_14:=am (Kd.R_elder' (rup HO_14.out) (Kd.R_base ho0) hb);replace BK445:=am (blk_below (bup BK445.out) hb);replace BK469:=am (blk_below (bup BK469.out) hb);replace HB:=am (below_step bl hb);(try clear hb);(try clear ho0);obtain⟨Ao84,co84,eo84⟩:=Kd.R_slice HO492.out;subst eo84)|((with_reducible refine gate_callee (f:=17) rfl ?_);refine goesL_ (some 80) rfl rfl Try.func17 (by kernel_rfl) rfl #[.slice Ao63 t473.length co63,.slice Ao84 t490.length co84] rfl tl ?_;(with_reducible refine(laws_eqHoleS.calls kj35 _ _ t473 _ _ t490 true _ ?side1 ?side2 ?side3 ?side4 A74.out).mono ?_);(case side1=>repeat(first|exact(Kd.R_reads' HO_14.out).2.2|(with_reducible refine Kd.C_alloc ?_ _)|(with_reducible refine Kd.C_drewN ?_ _)|(with_reducible refine Kd.C_drew ?_)));(case side2=>exact(Kd.R_reads' HO_14.out).2.1);(case side3=>repeat(first|exact(Kd.R_reads' HO492.out).2.2|(with_reducible refine Kd.C_alloc ?_ _)|(with_reducible refine Kd.C_drewN ?_ _)|(with_reducible refine Kd.C_drew ?_)));(case side4=>exact(Kd.R_reads' HO492.out).2.1);rintro e w85 ⟨rfl,hb⟩;refine⟨_,rfl,?_⟩;replace HO_13:=am (Kd.R_below (rup HO_13.out) hb);replace HO_14:=am (Kd.R_below (rup HO_14.out) hb);replace HO_470000:=am (Kd.R_below (rup HO_470000.out) hb);replace HO483:=am (Kd.R_below (rup HO483.out) hb);replace HO488:=am (Kd.R_below (rup HO488.out) hb);replace HO492:=am (Kd.R_below (rup HO492.out) hb);replace BK445:=am (blk_below (bup BK445.out) hb);replace BK469:=am (blk_below (bup BK469.out) hb);replace HB:=am (below_step bl hb);(try clear hb)))
          go_ret
          exact⟨fin1,bl⟩
         ·replace c75:=Bool.eq_false_iff.mpr c75
          subst c75
          replace H:=(if_neg Bool.false_ne_true).symm.trans H
          obtain rfl:=Option.some.inj H
          try go_wp2
          replace HO_13:=am (Kd.R_drew HO_13.out)
          replace HO_14:=am (Kd.R_drew HO_14.out)
          replace HO_470000:=am (Kd.R_drew HO_470000.out)
          replace BK445:=am (bD_ BK445.out)
          replace BK469:=am (bD_ BK469.out)
          replace HB:=am (below_drew1 HB.out)
          refine start_ (n:=5) (S:=fun w'=>w'.cell? ⟨gb469,0,none⟩=some (.slice Ao54 t465.length co54)∧w'.cell? ⟨gb469,1,none⟩=some (.int .i64 t468)∧w'.cell? ⟨gb445,0,none⟩=some (.slice A0_0 l0_0.length c0_0)∧w'.cell? ⟨gb445,1,none⟩=some (.int .i64 a0_1)) (ds:=[]) (fl 0 5) (by kernel_rfl) rfl rfl ⟨bc BK469.out 0,bc BK469.out 1,bc BK445.out 0,bc BK445.out 1⟩ (fun hHeld=>?_)
          generalize wc.drew=w86 at HO_13 HO_14 HO_470000 BK445 BK469 HB hHeld ⊢
          refine take_ (i:=0) (N:=some 67) (v:=?_) (a':=?_) (fl 1 5) rfl rfl (by kernel_rfl) (fun _ _ _ h=>h) (Or.inl ⟨by rfl,?_⟩) hHeld ?_ ?_
          rotate_left
          ·rintro w' ⟨s0,s1,s2,s3⟩
           go_simp
           with_reducible rfl
          rotate_left
          ·simp only[Act.put,List.setIfInBounds_toArray,List.set_cons_zero,List.set_cons_succ,i64_w,i32_w]
           rfl
          refine take_ (i:=1) (N:=some 68) (v:=?_) (a':=?_) (fl 2 5) rfl rfl (by kernel_rfl) (fun _ _ _ h=>h) (Or.inl ⟨by rfl,?_⟩) hHeld ?_ ?_
          rotate_left
          ·rintro w' ⟨s0,s1,s2,s3⟩
           go_simp
           with_reducible rfl
          rotate_left
          ·simp only[Act.put,List.setIfInBounds_toArray,List.set_cons_zero,List.set_cons_succ,i64_w,i32_w]
           rfl
          refine one_ (i:=2) (N:=some 69) (fl 3 5) rfl rfl (by kernel_rfl) (by decide) (fun K hK=>?_)
          refine goes_ Try.func10 (by kernel_rfl) rfl #[.agg #[.slice A0_0 l0_0.length c0_0,.int .i64 a0_1]] (by rfl) rfl rfl tl ?_
          with_reducible refine(laws_toInstrument.calls kj35 _ _ l0_0 a0_1 t481 t484 _ ?side1 ?side2 A67.out).mono ?_
          (case side1=>exact cup (Kd.C_below HR0_0.out HB.out))
          (case side2=>exact HC0_0.out)
          rintro e w87 ⟨v482,rfl,ho0,hb⟩
          refine⟨_,rfl,?_⟩
          replace HO_13:=am (Kd.R_below (rup HO_13.out) hb)
          replace HO_14:=am (Kd.R_below (rup HO_14.out) hb)
          have HO483:=am (Kd.R_lower (Kd.R_new' ho0 (Kd.R_lt (rup HO_470000.out))) (below_size bl))
          replace HO_470000:=am (Kd.R_elder' (rup HO_470000.out) (Kd.R_base ho0) hb)
          replace BK445:=am (blk_below (bup BK445.out) hb)
          replace BK469:=am (blk_below (bup BK469.out) hb)
          replace HB:=am (below_step bl hb)
          (try clear hb)
          (try clear ho0)
          obtain⟨Ao88,co88,eo88⟩:=Kd.R_slice HO483.out
          (first|subst eo88|(injection eo88 with f1_ f2_ f3_;have f4_:=f1_.symm;have f5_:=f3_.symm;clear f1_ f2_ f3_;subst f4_;subst f5_))
          refine hK.out _ _ ⟨bc BK469.out 0,bc BK469.out 1,bc BK445.out 0,bc BK445.out 1⟩ (fun hHeld=>?_)
          clear hK K
          refine norm_ (a':=?_) ?_ ?_
          rotate_left
          ·show Act.put _ (some 69) _=_
           simp only[Act.put,List.setIfInBounds_toArray,List.set_cons_zero,List.set_cons_succ,i64_w,i32_w]
           rfl
          refine one_ (i:=3) (N:=some 70) (fl 4 5) rfl rfl (by kernel_rfl) (by decide) (fun K hK=>?_)
          refine goes_ Try.func15 (by kernel_rfl) rfl #[.agg #[.slice Ao54 t465.length co54,.int .i64 t468],.agg #[.slice Ao88 t481.length co88,.int .i64 t484]] (by rfl) rfl rfl tl ?_
          with_reducible refine(laws_eqInstrument.calls kj35 _ _ t465 t468 _ _ t481 t484 true _ ?side1 ?side2 ?side3 ?side4 A68.out).mono ?_
          (case side1=>repeat(first|exact(Kd.R_reads' HO_470000.out).2.2|(with_reducible refine Kd.C_alloc ?_ _)|(with_reducible refine Kd.C_drewN ?_ _)|(with_reducible refine Kd.C_drew ?_)))
          (case side2=>exact(Kd.R_reads' HO_470000.out).2.1)
          (case side3=>repeat(first|exact(Kd.R_reads' HO483.out).2.2|(with_reducible refine Kd.C_alloc ?_ _)|(with_reducible refine Kd.C_drewN ?_ _)|(with_reducible refine Kd.C_drew ?_)))
          (case side4=>exact(Kd.R_reads' HO483.out).2.1)
          rintro e w89 ⟨rfl,hb⟩
          refine⟨_,rfl,?_⟩
          replace HO_13:=am (Kd.R_below (rup HO_13.out) hb)
          replace HO_14:=am (Kd.R_below (rup HO_14.out) hb)
          replace HO_470000:=am (Kd.R_below (rup HO_470000.out) hb)
          replace HO483:=am (Kd.R_below (rup HO483.out) hb)
          replace BK445:=am (blk_below (bup BK445.out) hb)
          replace BK469:=am (blk_below (bup BK469.out) hb)
          replace HB:=am (below_step bl hb)
          (try clear hb)
          refine hK.out _ _ ⟨bc BK469.out 0,bc BK469.out 1,bc BK445.out 0,bc BK445.out 1⟩ (fun hHeld=>?_)
          clear hK K
          refine norm_ (a':=?_) ?_ ?_
          rotate_left
          ·show Act.put _ (some 70) _=_
           simp only[Act.put,List.setIfInBounds_toArray,List.set_cons_zero,List.set_cons_succ,i64_w,i32_w]
           rfl
          refine pure_ (i:=4) (N:=some 71) (v:=?_) (a':=?_) (fl 5 5) rfl rfl (by kernel_rfl) (fun _ _ _ h=>h) (Or.inl ⟨by rfl,?_⟩) ?_ ?_
          rotate_left
          ·intro w'
           go_simp
           with_reducible rfl
          rotate_left
          ·simp only[Act.put,List.setIfInBounds_toArray,List.set_cons_zero,List.set_cons_succ,i64_w,i32_w]
           rfl
          refine done_ (by kernel_rfl) ?_
          try go_wp2_with (first|((with_reducible refine gate_callee (f:=11) rfl ?_);refine goesL_ (some 74) rfl rfl Try.func11 (by kernel_rfl) rfl #[.slice A1 l1.length c1] rfl tl ?_;(with_reducible refine(laws_toNoteS.calls kj35 _ _ l1 t486 _ ?side1 ?side2 A70.out).mono ?_);(case side1=>exact cup (Kd.C_below HR1.out HB.out));(case side2=>exact HC1.out);rintro e w90 ⟨v487,rfl,ho0,hb⟩;refine⟨_,rfl,?_⟩;replace HO_14:=am (Kd.R_below (rup HO_14.out) hb);replace HO_470000:=am (Kd.R_below (rup HO_470000.out) hb);replace HO483:=am (Kd.R_below (rup HO483.out) hb);have HO488:=am (Kd.R_lower (Kd.R_new' ho0 (Kd.R_lt (rup HO_13.out))) (below_size bl));replace HO_13:=am (Kd.R_elder' (rup HO_13.out) (Kd.R_base ho0) hb);replace BK445:=am (blk_below (bup BK445.out) hb);replace BK469:=am (blk_below (bup BK469.out) hb);replace HB:=am (below_step bl hb);(try clear hb);(try clear ho0);obtain⟨Ao91,co91,eo91⟩:=Kd.R_slice HO488.out;subst eo91)|((with_reducible refine gate_callee (f:=16) rfl ?_);refine goesL_ (some 75) rfl rfl Try.func16 (by kernel_rfl) rfl #[.slice Ao62 t470.length co62,.slice Ao91 t486.length co91] rfl tl ?_;(with_reducible refine(laws_eqNoteS.calls kj35 _ _ t470 _ _ t486 true _ ?side1 ?side2 ?side3 ?side4 A71.out).mono ?_);(case side1=>repeat(first|exact(Kd.R_reads' HO_13.out).2.2|(with_reducible refine Kd.C_alloc ?_ _)|(with_reducible refine Kd.C_drewN ?_ _)|(with_reducible refine Kd.C_drew ?_)));(case side2=>exact(Kd.R_reads' HO_13.out).2.1);(case side3=>repeat(first|exact(Kd.R_reads' HO488.out).2.2|(with_reducible refine Kd.C_alloc ?_ _)|(with_reducible refine Kd.C_drewN ?_ _)|(with_reducible refine Kd.C_drew ?_)));(case side4=>exact(Kd.R_reads' HO488.out).2.1);rintro e w92 ⟨rfl,hb⟩;refine⟨_,rfl,?_⟩;replace HO_13:=am (Kd.R_below (rup HO_13.out) hb);replace HO_14:=am (Kd.R_below (rup HO_14.out) hb);replace HO_470000:=am (Kd.R_below (rup HO_470000.out) hb);replace HO483:=am (Kd.R_below (rup HO483.out) hb);replace HO488:=am (Kd.R_below (rup HO488.out) hb);replace BK445:=am (blk_below (bup BK445.out) hb);replace BK469:=am (blk_below (bup BK469.out) hb);replace HB:=am (below_step bl hb);(try clear hb))|((with_reducible refine gate_callee (f:=12) rfl ?_);refine goesL_ (some 79) rfl rfl Try.func12 (by kernel_rfl) rfl #[.slice A2 l2.length c2] rfl tl ?_;(with_reducible refine(laws_toHoleS.calls kj35 _ _ l2 t490 _ ?side1 ?side2 A73.out).mono ?_);(case side1=>exact cup (Kd.C_below HR2.out HB.out));(case side2=>exact HC2.out);rintro e w93 ⟨v491,rfl,ho0,hb⟩;refine⟨_,rfl,?_⟩;replace HO_13:=am (Kd.R_below (rup HO_13.out) hb);replace HO_470000:=am (Kd.R_below (rup HO_470000.out) hb);replace HO483:=am (Kd.R_below (rup HO483.out) hb);replace HO488:=am (Kd.R_below (rup HO488.out) hb);have HO492:=am (Kd.R_lower (Kd.R_new' ho0 (Kd.R_lt (rup HO_14.out))) (below_size bl));replace HO_14:=am (Kd.R_elder' (rup HO_14.out) (Kd.R_base ho0) hb);replace BK445:=am (blk_below (bup BK445.out) hb);replace BK469:=am (blk_below (bup BK469.out) hb);replace HB:=am (below_step bl hb);(try clear hb);(try clear ho0);obtain⟨Ao94,co94,eo94⟩:=Kd.R_slice HO492.out;subst eo94)|((with_reducible refine gate_callee (f:=17) rfl ?_);refine goesL_ (some 80) rfl rfl Try.func17 (by kernel_rfl) rfl #[.slice Ao63 t473.length co63,.slice Ao94 t490.length co94] rfl tl ?_;(with_reducible refine(laws_eqHoleS.calls kj35 _ _ t473 _ _ t490 false _ ?side1 ?side2 ?side3 ?side4 A74.out).mono ?_);(case side1=>repeat(first|exact(Kd.R_reads' HO_14.out).2.2|(with_reducible refine Kd.C_alloc ?_ _)|(with_reducible refine Kd.C_drewN ?_ _)|(with_reducible refine Kd.C_drew ?_)));(case side2=>exact(Kd.R_reads' HO_14.out).2.1);(case side3=>repeat(first|exact(Kd.R_reads' HO492.out).2.2|(with_reducible refine Kd.C_alloc ?_ _)|(with_reducible refine Kd.C_drewN ?_ _)|(with_reducible refine Kd.C_drew ?_)));(case side4=>exact(Kd.R_reads' HO492.out).2.1);rintro e w95 ⟨rfl,hb⟩;refine⟨_,rfl,?_⟩;replace HO_13:=am (Kd.R_below (rup HO_13.out) hb);replace HO_14:=am (Kd.R_below (rup HO_14.out) hb);replace HO_470000:=am (Kd.R_below (rup HO_470000.out) hb);replace HO483:=am (Kd.R_below (rup HO483.out) hb);replace HO488:=am (Kd.R_below (rup HO488.out) hb);replace HO492:=am (Kd.R_below (rup HO492.out) hb);replace BK445:=am (blk_below (bup BK445.out) hb);replace BK469:=am (blk_below (bup BK469.out) hb);replace HB:=am (below_step bl hb);(try clear hb)))
          go_ret
          exact⟨fin1,bl⟩
        ·replace c72:=Bool.eq_false_iff.mpr c72
         subst c72
         replace H:=(if_neg Bool.false_ne_true).symm.trans H
         obtain rfl:=Option.some.inj H
         try go_wp2
         replace HO_13:=am (Kd.R_drew HO_13.out)
         replace HO_14:=am (Kd.R_drew HO_14.out)
         replace HO_470000:=am (Kd.R_drew HO_470000.out)
         replace BK445:=am (bD_ BK445.out)
         replace BK469:=am (bD_ BK469.out)
         replace HB:=am (below_drew1 HB.out)
         refine start_ (n:=5) (S:=fun w'=>w'.cell? ⟨gb469,0,none⟩=some (.slice Ao54 t465.length co54)∧w'.cell? ⟨gb469,1,none⟩=some (.int .i64 t468)∧w'.cell? ⟨gb445,0,none⟩=some (.slice A0_0 l0_0.length c0_0)∧w'.cell? ⟨gb445,1,none⟩=some (.int .i64 a0_1)) (ds:=[]) (fl 0 5) (by kernel_rfl) rfl rfl ⟨bc BK469.out 0,bc BK469.out 1,bc BK445.out 0,bc BK445.out 1⟩ (fun hHeld=>?_)
         generalize wc.drew=w96 at HO_13 HO_14 HO_470000 BK445 BK469 HB hHeld ⊢
         refine take_ (i:=0) (N:=some 67) (v:=?_) (a':=?_) (fl 1 5) rfl rfl (by kernel_rfl) (fun _ _ _ h=>h) (Or.inl ⟨by rfl,?_⟩) hHeld ?_ ?_
         rotate_left
         ·rintro w' ⟨s0,s1,s2,s3⟩
          go_simp
          with_reducible rfl
         rotate_left
         ·simp only[Act.put,List.setIfInBounds_toArray,List.set_cons_zero,List.set_cons_succ,i64_w,i32_w]
          rfl
         refine take_ (i:=1) (N:=some 68) (v:=?_) (a':=?_) (fl 2 5) rfl rfl (by kernel_rfl) (fun _ _ _ h=>h) (Or.inl ⟨by rfl,?_⟩) hHeld ?_ ?_
         rotate_left
         ·rintro w' ⟨s0,s1,s2,s3⟩
          go_simp
          with_reducible rfl
         rotate_left
         ·simp only[Act.put,List.setIfInBounds_toArray,List.set_cons_zero,List.set_cons_succ,i64_w,i32_w]
          rfl
         refine one_ (i:=2) (N:=some 69) (fl 3 5) rfl rfl (by kernel_rfl) (by decide) (fun K hK=>?_)
         refine goes_ Try.func10 (by kernel_rfl) rfl #[.agg #[.slice A0_0 l0_0.length c0_0,.int .i64 a0_1]] (by rfl) rfl rfl tl ?_
         with_reducible refine(laws_toInstrument.calls kj35 _ _ l0_0 a0_1 t481 t484 _ ?side1 ?side2 A67.out).mono ?_
         (case side1=>exact cup (Kd.C_below HR0_0.out HB.out))
         (case side2=>exact HC0_0.out)
         rintro e w97 ⟨v482,rfl,ho0,hb⟩
         refine⟨_,rfl,?_⟩
         replace HO_13:=am (Kd.R_below (rup HO_13.out) hb)
         replace HO_14:=am (Kd.R_below (rup HO_14.out) hb)
         have HO483:=am (Kd.R_lower (Kd.R_new' ho0 (Kd.R_lt (rup HO_470000.out))) (below_size bl))
         replace HO_470000:=am (Kd.R_elder' (rup HO_470000.out) (Kd.R_base ho0) hb)
         replace BK445:=am (blk_below (bup BK445.out) hb)
         replace BK469:=am (blk_below (bup BK469.out) hb)
         replace HB:=am (below_step bl hb)
         (try clear hb)
         (try clear ho0)
         obtain⟨Ao98,co98,eo98⟩:=Kd.R_slice HO483.out
         (first|subst eo98|(injection eo98 with f1_ f2_ f3_;have f4_:=f1_.symm;have f5_:=f3_.symm;clear f1_ f2_ f3_;subst f4_;subst f5_))
         refine hK.out _ _ ⟨bc BK469.out 0,bc BK469.out 1,bc BK445.out 0,bc BK445.out 1⟩ (fun hHeld=>?_)
         clear hK K
         refine norm_ (a':=?_) ?_ ?_
         rotate_left
         ·show Act.put _ (some 69) _=_
          simp only[Act.put,List.setIfInBounds_toArray,List.set_cons_zero,List.set_cons_succ,i64_w,i32_w]
          rfl
         refine one_ (i:=3) (N:=some 70) (fl 4 5) rfl rfl (by kernel_rfl) (by decide) (fun K hK=>?_)
         refine goes_ Try.func15 (by kernel_rfl) rfl #[.agg #[.slice Ao54 t465.length co54,.int .i64 t468],.agg #[.slice Ao98 t481.length co98,.int .i64 t484]] (by rfl) rfl rfl tl ?_
         with_reducible refine(laws_eqInstrument.calls kj35 _ _ t465 t468 _ _ t481 t484 true _ ?side1 ?side2 ?side3 ?side4 A68.out).mono ?_
         (case side1=>repeat(first|exact(Kd.R_reads' HO_470000.out).2.2|(with_reducible refine Kd.C_alloc ?_ _)|(with_reducible refine Kd.C_drewN ?_ _)|(with_reducible refine Kd.C_drew ?_)))
         (case side2=>exact(Kd.R_reads' HO_470000.out).2.1)
         (case side3=>repeat(first|exact(Kd.R_reads' HO483.out).2.2|(with_reducible refine Kd.C_alloc ?_ _)|(with_reducible refine Kd.C_drewN ?_ _)|(with_reducible refine Kd.C_drew ?_)))
         (case side4=>exact(Kd.R_reads' HO483.out).2.1)
         rintro e w99 ⟨rfl,hb⟩
         refine⟨_,rfl,?_⟩
         replace HO_13:=am (Kd.R_below (rup HO_13.out) hb)
         replace HO_14:=am (Kd.R_below (rup HO_14.out) hb)
         replace HO_470000:=am (Kd.R_below (rup HO_470000.out) hb)
         replace HO483:=am (Kd.R_below (rup HO483.out) hb)
         replace BK445:=am (blk_below (bup BK445.out) hb)
         replace BK469:=am (blk_below (bup BK469.out) hb)
         replace HB:=am (below_step bl hb)
         (try clear hb)
         refine hK.out _ _ ⟨bc BK469.out 0,bc BK469.out 1,bc BK445.out 0,bc BK445.out 1⟩ (fun hHeld=>?_)
         clear hK K
         refine norm_ (a':=?_) ?_ ?_
         rotate_left
         ·show Act.put _ (some 70) _=_
          simp only[Act.put,List.setIfInBounds_toArray,List.set_cons_zero,List.set_cons_succ,i64_w,i32_w]
          rfl
         refine pure_ (i:=4) (N:=some 71) (v:=?_) (a':=?_) (fl 5 5) rfl rfl (by kernel_rfl) (fun _ _ _ h=>h) (Or.inl ⟨by rfl,?_⟩) ?_ ?_
         rotate_left
         ·intro w'
          go_simp
          with_reducible rfl
         rotate_left
         ·simp only[Act.put,List.setIfInBounds_toArray,List.set_cons_zero,List.set_cons_succ,i64_w,i32_w]
          rfl
         refine done_ (by kernel_rfl) ?_
         try go_wp2_with (first|((with_reducible refine gate_callee (f:=11) rfl ?_);refine goesL_ (some 74) rfl rfl Try.func11 (by kernel_rfl) rfl #[.slice A1 l1.length c1] rfl tl ?_;(with_reducible refine(laws_toNoteS.calls kj35 _ _ l1 t486 _ ?side1 ?side2 A70.out).mono ?_);(case side1=>exact cup (Kd.C_below HR1.out HB.out));(case side2=>exact HC1.out);rintro e w100 ⟨v487,rfl,ho0,hb⟩;refine⟨_,rfl,?_⟩;replace HO_14:=am (Kd.R_below (rup HO_14.out) hb);replace HO_470000:=am (Kd.R_below (rup HO_470000.out) hb);replace HO483:=am (Kd.R_below (rup HO483.out) hb);have HO488:=am (Kd.R_lower (Kd.R_new' ho0 (Kd.R_lt (rup HO_13.out))) (below_size bl));replace HO_13:=am (Kd.R_elder' (rup HO_13.out) (Kd.R_base ho0) hb);replace BK445:=am (blk_below (bup BK445.out) hb);replace BK469:=am (blk_below (bup BK469.out) hb);replace HB:=am (below_step bl hb);(try clear hb);(try clear ho0);obtain⟨Ao101,co101,eo101⟩:=Kd.R_slice HO488.out;subst eo101)|((with_reducible refine gate_callee (f:=16) rfl ?_);refine goesL_ (some 75) rfl rfl Try.func16 (by kernel_rfl) rfl #[.slice Ao62 t470.length co62,.slice Ao101 t486.length co101] rfl tl ?_;(with_reducible refine(laws_eqNoteS.calls kj35 _ _ t470 _ _ t486 false _ ?side1 ?side2 ?side3 ?side4 A71.out).mono ?_);(case side1=>repeat(first|exact(Kd.R_reads' HO_13.out).2.2|(with_reducible refine Kd.C_alloc ?_ _)|(with_reducible refine Kd.C_drewN ?_ _)|(with_reducible refine Kd.C_drew ?_)));(case side2=>exact(Kd.R_reads' HO_13.out).2.1);(case side3=>repeat(first|exact(Kd.R_reads' HO488.out).2.2|(with_reducible refine Kd.C_alloc ?_ _)|(with_reducible refine Kd.C_drewN ?_ _)|(with_reducible refine Kd.C_drew ?_)));(case side4=>exact(Kd.R_reads' HO488.out).2.1);rintro e w102 ⟨rfl,hb⟩;refine⟨_,rfl,?_⟩;replace HO_13:=am (Kd.R_below (rup HO_13.out) hb);replace HO_14:=am (Kd.R_below (rup HO_14.out) hb);replace HO_470000:=am (Kd.R_below (rup HO_470000.out) hb);replace HO483:=am (Kd.R_below (rup HO483.out) hb);replace HO488:=am (Kd.R_below (rup HO488.out) hb);replace BK445:=am (blk_below (bup BK445.out) hb);replace BK469:=am (blk_below (bup BK469.out) hb);replace HB:=am (below_step bl hb);(try clear hb)))
         go_ret
         exact⟨fin1,bl⟩
       ·replace c69:=Bool.eq_false_iff.mpr c69
        subst c69
        replace H:=(if_neg Bool.false_ne_true).symm.trans H
        obtain rfl:=Option.some.inj H
        try go_wp2
        replace HO_13:=am (Kd.R_drew HO_13.out)
        replace HO_14:=am (Kd.R_drew HO_14.out)
        replace HO_470000:=am (Kd.R_drew HO_470000.out)
        replace BK445:=am (bD_ BK445.out)
        replace BK469:=am (bD_ BK469.out)
        replace HB:=am (below_drew1 HB.out)
        refine start_ (n:=5) (S:=fun w'=>w'.cell? ⟨gb469,0,none⟩=some (.slice Ao54 t465.length co54)∧w'.cell? ⟨gb469,1,none⟩=some (.int .i64 t468)∧w'.cell? ⟨gb445,0,none⟩=some (.slice A0_0 l0_0.length c0_0)∧w'.cell? ⟨gb445,1,none⟩=some (.int .i64 a0_1)) (ds:=[]) (fl 0 5) (by kernel_rfl) rfl rfl ⟨bc BK469.out 0,bc BK469.out 1,bc BK445.out 0,bc BK445.out 1⟩ (fun hHeld=>?_)
        generalize wc.drew=w103 at HO_13 HO_14 HO_470000 BK445 BK469 HB hHeld ⊢
        refine take_ (i:=0) (N:=some 67) (v:=?_) (a':=?_) (fl 1 5) rfl rfl (by kernel_rfl) (fun _ _ _ h=>h) (Or.inl ⟨by rfl,?_⟩) hHeld ?_ ?_
        rotate_left
        ·rintro w' ⟨s0,s1,s2,s3⟩
         go_simp
         with_reducible rfl
        rotate_left
        ·simp only[Act.put,List.setIfInBounds_toArray,List.set_cons_zero,List.set_cons_succ,i64_w,i32_w]
         rfl
        refine take_ (i:=1) (N:=some 68) (v:=?_) (a':=?_) (fl 2 5) rfl rfl (by kernel_rfl) (fun _ _ _ h=>h) (Or.inl ⟨by rfl,?_⟩) hHeld ?_ ?_
        rotate_left
        ·rintro w' ⟨s0,s1,s2,s3⟩
         go_simp
         with_reducible rfl
        rotate_left
        ·simp only[Act.put,List.setIfInBounds_toArray,List.set_cons_zero,List.set_cons_succ,i64_w,i32_w]
         rfl
        refine one_ (i:=2) (N:=some 69) (fl 3 5) rfl rfl (by kernel_rfl) (by decide) (fun K hK=>?_)
        refine goes_ Try.func10 (by kernel_rfl) rfl #[.agg #[.slice A0_0 l0_0.length c0_0,.int .i64 a0_1]] (by rfl) rfl rfl tl ?_
        with_reducible refine(laws_toInstrument.calls kj35 _ _ l0_0 a0_1 t481 t484 _ ?side1 ?side2 A67.out).mono ?_
        (case side1=>exact cup (Kd.C_below HR0_0.out HB.out))
        (case side2=>exact HC0_0.out)
        rintro e w104 ⟨v482,rfl,ho0,hb⟩
        refine⟨_,rfl,?_⟩
        replace HO_13:=am (Kd.R_below (rup HO_13.out) hb)
        replace HO_14:=am (Kd.R_below (rup HO_14.out) hb)
        have HO483:=am (Kd.R_lower (Kd.R_new' ho0 (Kd.R_lt (rup HO_470000.out))) (below_size bl))
        replace HO_470000:=am (Kd.R_elder' (rup HO_470000.out) (Kd.R_base ho0) hb)
        replace BK445:=am (blk_below (bup BK445.out) hb)
        replace BK469:=am (blk_below (bup BK469.out) hb)
        replace HB:=am (below_step bl hb)
        (try clear hb)
        (try clear ho0)
        obtain⟨Ao105,co105,eo105⟩:=Kd.R_slice HO483.out
        (first|subst eo105|(injection eo105 with f1_ f2_ f3_;have f4_:=f1_.symm;have f5_:=f3_.symm;clear f1_ f2_ f3_;subst f4_;subst f5_))
        refine hK.out _ _ ⟨bc BK469.out 0,bc BK469.out 1,bc BK445.out 0,bc BK445.out 1⟩ (fun hHeld=>?_)
        clear hK K
        refine norm_ (a':=?_) ?_ ?_
        rotate_left
        ·show Act.put _ (some 69) _=_
         simp only[Act.put,List.setIfInBounds_toArray,List.set_cons_zero,List.set_cons_succ,i64_w,i32_w]
         rfl
        refine one_ (i:=3) (N:=some 70) (fl 4 5) rfl rfl (by kernel_rfl) (by decide) (fun K hK=>?_)
        refine goes_ Try.func15 (by kernel_rfl) rfl #[.agg #[.slice Ao54 t465.length co54,.int .i64 t468],.agg #[.slice Ao105 t481.length co105,.int .i64 t484]] (by rfl) rfl rfl tl ?_
        with_reducible refine(laws_eqInstrument.calls kj35 _ _ t465 t468 _ _ t481 t484 false _ ?side1 ?side2 ?side3 ?side4 A68.out).mono ?_
        (case side1=>repeat(first|exact(Kd.R_reads' HO_470000.out).2.2|(with_reducible refine Kd.C_alloc ?_ _)|(with_reducible refine Kd.C_drewN ?_ _)|(with_reducible refine Kd.C_drew ?_)))
        (case side2=>exact(Kd.R_reads' HO_470000.out).2.1)
        (case side3=>repeat(first|exact(Kd.R_reads' HO483.out).2.2|(with_reducible refine Kd.C_alloc ?_ _)|(with_reducible refine Kd.C_drewN ?_ _)|(with_reducible refine Kd.C_drew ?_)))
        (case side4=>exact(Kd.R_reads' HO483.out).2.1)
        rintro e w106 ⟨rfl,hb⟩
        refine⟨_,rfl,?_⟩
        replace HO_13:=am (Kd.R_below (rup HO_13.out) hb)
        replace HO_14:=am (Kd.R_below (rup HO_14.out) hb)
        replace HO_470000:=am (Kd.R_below (rup HO_470000.out) hb)
        replace HO483:=am (Kd.R_below (rup HO483.out) hb)
        replace BK445:=am (blk_below (bup BK445.out) hb)
        replace BK469:=am (blk_below (bup BK469.out) hb)
        replace HB:=am (below_step bl hb)
        (try clear hb)
        refine hK.out _ _ ⟨bc BK469.out 0,bc BK469.out 1,bc BK445.out 0,bc BK445.out 1⟩ (fun hHeld=>?_)
        clear hK K
        refine norm_ (a':=?_) ?_ ?_
        rotate_left
        ·show Act.put _ (some 70) _=_
         simp only[Act.put,List.setIfInBounds_toArray,List.set_cons_zero,List.set_cons_succ,i64_w,i32_w]
         rfl
        refine pure_ (i:=4) (N:=some 71) (v:=?_) (a':=?_) (fl 5 5) rfl rfl (by kernel_rfl) (fun _ _ _ h=>h) (Or.inl ⟨by rfl,?_⟩) ?_ ?_
        rotate_left
        ·intro w'
         go_simp
         with_reducible rfl
        rotate_left
        ·simp only[Act.put,List.setIfInBounds_toArray,List.set_cons_zero,List.set_cons_succ,i64_w,i32_w]
         rfl
        refine done_ (by kernel_rfl) ?_
        try go_wp2
        go_ret
        exact⟨fin1,bl⟩

end Go.Proofs.Ytipklbjbgbbgpaa.PFnExactLeastTolerance
