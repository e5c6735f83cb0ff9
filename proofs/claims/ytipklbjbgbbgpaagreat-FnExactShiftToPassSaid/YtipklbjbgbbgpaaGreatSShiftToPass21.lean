/- Walks of functions that FnExactShiftToPass reaches. No conditions beyond the arguments' being read. -/
import Derived.Test.YtipklbjbgbbgpaaGreatSShiftToPass0
import Derived.Test.YtipklbjbgbbgpaaGreatSShiftToPass1
import Derived.Test.YtipklbjbgbbgpaaGreatSShiftToPass9
import Derived.Test.YtipklbjbgbbgpaaGreatSShiftToPass19
import Derived.Test.YtipklbjbgbbgpaaGreatSShiftToPass20
namespace Go.Proofs.YtipklbjbgbbgpaaGreat.PFnExactShiftToPass
open Go.RowKit Go.Proofs.YtipklbjbgbbgpaaGreatW.PrintWords Go.Proofs.YtipklbjbgbbgpaaGreatW.PrintLast Go.Proofs.YtipklbjbgbbgpaaGreatW.PrintMore
attribute [local go_sem] max2_int min2_int max_two min_two max_three min_three max_four min_four
set_option linter.unusedVariables false
set_option linter.unusedSimpArgs false

def laws_FnExactShiftToPass.j0:Nat→List (S57)→List (S61)→List (S55)→List (S59)→Bool→List Int→Int→List Int→Int→Option (Bool)
 | 0,_,_,_,_,_,_,_,_,_=>none
 | k+1,x1,x2,x15,x16,x70,x491000,x491001,x515000,x515001=>if x70=true then(some false) else((laws_toInstrument.f k x491000 x491001).bind fun bt526=>((laws_eqInstrument.f k x515000 x515001 bt526.1 bt526.2).bind fun t530=>(if t530=true then((laws_toNoteS.f k x1).bind fun t531=>((laws_eqNoteS.f k x15 t531).bind fun t534=>(if t534=true then((laws_toHoleS.f k x2).bind fun t535=>((laws_eqHoleS.f k x16 t535).bind fun t538=>(if t538=true then(some true) else(some false)))) else(some false)))) else(some false))))
def laws_FnExactShiftToPass.f (k:Nat) (l0_0:List Int) (a0_1:Int) (l1:List (S57)) (l2:List (S61)) (a3_0:Int) (a3_1:Int) (a3_2:Int) (a4:Int):Option (Bool):=(laws_szInstrument.f l0_0 a0_1 1048576).bind fun t492=>(if t492<0 then(some true) else((laws_szNoteS.f l1 t492).bind fun t493=>(if t493<0 then(some true) else((laws_szHoleS.f l2 t493).bind fun t494=>(if t494<0 then(some true) else((laws_toInstrument.f k l0_0 a0_1).bind fun bt495=>((laws_toNoteS.f k l1).bind fun t499=>((laws_toHoleS.f k l2).bind fun t502=>((laws_toAction.f a3_0 a3_1 a3_2).bind fun bt505=>((spec_ShiftToPass.f k bt495.1 bt495.2 t499 t502 bt505.1 bt505.2.1 bt505.2.2 a4).bind fun bt508=>((laws_toInstrument.f k l0_0 a0_1).bind fun bt510=>((laws_toNoteS.f k l1).bind fun t515=>((laws_toHoleS.f k l2).bind fun t518=>((laws_toAction.f a3_0 a3_1 a3_2).bind fun bt521=>((impl_ShiftToPass.f k bt510.1 bt510.2 t515 t518 bt521.1 bt521.2.1 bt521.2.2 a4).bind fun bt524=>(if bt524.1=bt508.1 then(laws_FnExactShiftToPass.j0 k l1 l2 t515 t518 (bt524.2 != bt508.2) l0_0 a0_1 bt510.1 bt510.2) else(laws_FnExactShiftToPass.j0 k l1 l2 t515 t518 true l0_0 a0_1 bt510.1 bt510.2)))))))))))))))))
def laws_FnExactShiftToPass.T11:Bool×List (List Nat×List Nat):=(true,[([],[]),([0],[0]),([],[]),([2,1],[2]),([],[]),([4,3],[4]),([],[]),([6,5],[6]),([],[]),([1,3,5,7,8,7],[1,3,5,7,8]),([9],[9]),([10],[10]),([10],[10]),([11,9,0,1,2,3,4,5,6,7,8,9,10,11],[11]),([12,13,0,1,2,3,4,5,6,7,8,9,10,11,12,13],[12])])
def laws_FnExactShiftToPass.B11:List Nat:=[0,1,0,7,0,31,0,127,0,511,1023,2047,2047,4095,16383]
theorem laws_FnExactShiftToPass.tab11:rtab .any (opsOf Tryz.f3 11)=laws_FnExactShiftToPass.T11:=by kernel_rfl
theorem laws_FnExactShiftToPass.bits11:waitsOk laws_FnExactShiftToPass.T11.2 laws_FnExactShiftToPass.B11=true:=by kernel_rfl
def laws_FnExactShiftToPass.T15:Bool×List (List Nat×List Nat):=(true,[([],[]),([],[]),([],[]),([],[]),([3],[3]),([],[]),([0,1,2,4,5,4],[0,1,2,4,5]),([6],[6]),([7],[7]),([7],[7]),([8,6,0,1,2,3,4,5,6,7,8],[8]),([9,10,0,1,2,3,4,5,6,7,8,9,10],[9])])
def laws_FnExactShiftToPass.B15:List Nat:=[0,0,0,0,8,0,63,127,255,255,511,2047]
theorem laws_FnExactShiftToPass.tab15:rtab .any (opsOf Tryz.f3 15)=laws_FnExactShiftToPass.T15:=by kernel_rfl
theorem laws_FnExactShiftToPass.bits15:waitsOk laws_FnExactShiftToPass.T15.2 laws_FnExactShiftToPass.B15=true:=by kernel_rfl
set_option maxHeartbeats 8000000 in
set_option maxRecDepth 100000 in
theorem laws_FnExactShiftToPass.calls (k:Nat) (A0_0:Option Addr) (c0_0:Nat) (l0_0:List Int) (a0_1:Int) (A1:Option Addr) (c1:Nat) (l1:List (S57)) (A2:Option Addr) (c2:Nat) (l2:List (S61)) (a3_0:Int) (a3_1:Int) (a3_2:Int) (a4:Int) (r:Bool) (w:World) (hr0_0:Kd.C (Kd.int .i64) w A0_0 l0_0.length l0_0) (hc0_0:l0_0.length≤c0_0) (hr1:Kd.C k57 w A1 l1.length l1) (hc1:l1.length≤c1) (hr2:Kd.C k61 w A2 l2.length l2) (hc2:l2.length≤c2) (h:laws_FnExactShiftToPass.f k l0_0 a0_1 l1 l2 a3_0 a3_1 a3_2 a4=some r) :
  Calls Tryz.prog 3 #[.agg #[.slice A0_0 l0_0.length c0_0,.int .i64 a0_1],.slice A1 l1.length c1,.slice A2 l2.length c2,.agg #[.int .i64 a3_0,.int .i64 a3_1,.int .i64 a3_2],.int .i64 a4] w fun e w'=>e = .returned (.bool r)∧Below w.heap.size w w':=by
 have hu24:=Tryz.underlying24
 have hu28:=Tryz.underlying28
 have hu34:=Tryz.underlying34
 have HR0_0:=am hr0_0
 have HC0_0:=am hc0_0
 clear hr0_0 hc0_0
 have HR1:=am hr1
 have HC1:=am hc1
 clear hr1 hc1
 have HR2:=am hr2
 have HC2:=am hc2
 clear hr2 hc2
 have HB:=am (Below.refl w.heap.size w)
 have H:((laws_szInstrument.f l0_0 a0_1 1048576).bind fun t492=>(if t492<0 then(some true) else((laws_szNoteS.f l1 t492).bind fun t493=>(if t493<0 then(some true) else((laws_szHoleS.f l2 t493).bind fun t494=>(if t494<0 then(some true) else((laws_toInstrument.f k l0_0 a0_1).bind fun bt495=>((laws_toNoteS.f k l1).bind fun t499=>((laws_toHoleS.f k l2).bind fun t502=>((laws_toAction.f a3_0 a3_1 a3_2).bind fun bt505=>((spec_ShiftToPass.f k bt495.1 bt495.2 t499 t502 bt505.1 bt505.2.1 bt505.2.2 a4).bind fun bt508=>((laws_toInstrument.f k l0_0 a0_1).bind fun bt510=>((laws_toNoteS.f k l1).bind fun t515=>((laws_toHoleS.f k l2).bind fun t518=>((laws_toAction.f a3_0 a3_1 a3_2).bind fun bt521=>((impl_ShiftToPass.f k bt510.1 bt510.2 t515 t518 bt521.1 bt521.2.1 bt521.2.2 a4).bind fun bt524=>(if bt524.1=bt508.1 then(laws_FnExactShiftToPass.j0 k l1 l2 t515 t518 (bt524.2 != bt508.2) l0_0 a0_1 bt510.1 bt510.2) else(laws_FnExactShiftToPass.j0 k l1 l2 t515 t518 true l0_0 a0_1 bt510.1 bt510.2))))))))))))))))))=some r:=h
 clear h
 obtain⟨t492,A6,H⟩:=bnd H
 rcases itc H with⟨c7,H⟩|⟨c7,H⟩
 ·have c7b0:=decide_eq_true c7
  clear c7
  obtain rfl:=Option.some.inj H
  go_enter Tryz.func3,Tryz.ntmps3
  go_wp2_with (first|((with_reducible refine gate_dst (N:=5) rfl ?_);refine box_event ?hg (N:=5) ?hd (cs := #[.slice A0_0 l0_0.length c0_0,.int .i64 a0_1]) (t:=24) ?hr ?_;(case hd=>rfl);(case hg=>rfl);(case hr=>first|(go_simp;done)|(go_simp;rfl));intro gb490 hg w8 hbox hb;have BK490:=am (hbox);have GW490:=am (ge_ bl hg);have GE490:=am (ge_ bl hg);replace HB:=am (below_step bl hb);clear hb hbox hg)|((with_reducible refine gate_dst (N:=8) rfl ?_);refine box_event ?hg (N:=8) ?hd (cs := #[.int .i64 a3_0,.int .i64 a3_1,.int .i64 a3_2]) (t:=28) ?hr ?_;(case hd=>rfl);(case hg=>rfl);(case hr=>first|(go_simp;done)|(go_simp;rfl));intro gb491 hg w9 hbox hb;have BK491:=am (hbox);have GW491:=am (ge_ bl hg);have GE491:=am (ge_ bl hg);replace HB:=am (below_step bl hb);have NB490_491:=am (nl (bup BK490.out) hg);have NB491_490:=am (ng (bup BK490.out) hg);replace BK490:=am (blk_below (bup BK490.out) hb);clear hb hbox hg;have hnb10:=NB490_491.out;have hnc10:=NB491_490.out;have hcz11_0:=bc BK490.out 0;have hcz11_1:=bc BK490.out 1;have hfz11_0:=blk_frozen BK490.out 0;have hfz11_1:=blk_frozen BK490.out 1)|((with_reducible refine gate_callee (f:=4) rfl ?_);refine goesL_ (some 21) rfl rfl Tryz.func4 (by kernel_rfl) rfl #[.agg #[.slice A0_0 l0_0.length c0_0,.int .i64 a0_1],.int .i64 1048576] rfl tl ?_;(with_reducible refine(laws_szInstrument.calls _ _ l0_0 a0_1 1048576 t492 _ ?side1 ?side2 A6.out).mono ?_);(case side1=>exact cup (Kd.C_below HR0_0.out HB.out));(case side2=>exact HC0_0.out);rintro e w12 ⟨rfl,hb⟩;refine⟨_,rfl,?_⟩;replace BK490:=am (blk_below (bup BK490.out) hb);replace BK491:=am (blk_below (bup BK491.out) hb);replace HB:=am (below_step bl hb);(try clear hb)))
  go_ret
  exact⟨fin1,bl⟩
 ·have c7b0:=decide_eq_false c7
  clear c7
  obtain⟨t493,A13,H⟩:=bnd H
  rcases itc H with⟨c14,H⟩|⟨c14,H⟩
  ·have c14b0:=decide_eq_true c14
   clear c14
   obtain rfl:=Option.some.inj H
   go_enter Tryz.func3,Tryz.ntmps3
   go_wp2_with (first|((with_reducible refine gate_dst (N:=5) rfl ?_);refine box_event ?hg (N:=5) ?hd (cs := #[.slice A0_0 l0_0.length c0_0,.int .i64 a0_1]) (t:=24) ?hr ?_;(case hd=>rfl);(case hg=>rfl);(case hr=>first|(go_simp;done)|(go_simp;rfl));intro gb490 hg w15 hbox hb;have BK490:=am (hbox);have GW490:=am (ge_ bl hg);have GE490:=am (ge_ bl hg);replace HB:=am (below_step bl hb);clear hb hbox hg)|((with_reducible refine gate_dst (N:=8) rfl ?_);refine box_event ?hg (N:=8) ?hd (cs := #[.int .i64 a3_0,.int .i64 a3_1,.int .i64 a3_2]) (t:=28) ?hr ?_;(case hd=>rfl);(case hg=>rfl);(case hr=>first|(go_simp;done)|(go_simp;rfl));intro gb491 hg w16 hbox hb;have BK491:=am (hbox);have GW491:=am (ge_ bl hg);have GE491:=am (ge_ bl hg);replace HB:=am (below_step bl hb);have NB490_491:=am (nl (bup BK490.out) hg);have NB491_490:=am (ng (bup BK490.out) hg);replace BK490:=am (blk_below (bup BK490.out) hb);clear hb hbox hg;have hnb17:=NB490_491.out;have hnc17:=NB491_490.out;have hcz18_0:=bc BK490.out 0;have hcz18_1:=bc BK490.out 1;have hfz18_0:=blk_frozen BK490.out 0;have hfz18_1:=blk_frozen BK490.out 1)|((with_reducible refine gate_callee (f:=4) rfl ?_);refine goesL_ (some 21) rfl rfl Tryz.func4 (by kernel_rfl) rfl #[.agg #[.slice A0_0 l0_0.length c0_0,.int .i64 a0_1],.int .i64 1048576] rfl tl ?_;(with_reducible refine(laws_szInstrument.calls _ _ l0_0 a0_1 1048576 t492 _ ?side1 ?side2 A6.out).mono ?_);(case side1=>exact cup (Kd.C_below HR0_0.out HB.out));(case side2=>exact HC0_0.out);rintro e w19 ⟨rfl,hb⟩;refine⟨_,rfl,?_⟩;replace BK490:=am (blk_below (bup BK490.out) hb);replace BK491:=am (blk_below (bup BK491.out) hb);replace HB:=am (below_step bl hb);(try clear hb))|((with_reducible refine gate_callee (f:=5) rfl ?_);refine goesL_ (some 26) rfl rfl Tryz.func5 (by kernel_rfl) rfl #[.slice A1 l1.length c1,.int .i64 t492] rfl tl ?_;(with_reducible refine(laws_szNoteS.calls _ _ l1 t492 t493 _ ?side1 ?side2 A13.out).mono ?_);(case side1=>exact cup (Kd.C_below HR1.out HB.out));(case side2=>exact HC1.out);rintro e w' ⟨rfl,⟨nd,rfl⟩⟩;refine⟨_,rfl,?_⟩))
   go_ret
   exact⟨fin1,bl⟩
  ·have c14b0:=decide_eq_false c14
   clear c14
   obtain⟨t494,A20,H⟩:=bnd H
   rcases itc H with⟨c21,H⟩|⟨c21,H⟩
   ·have c21b0:=decide_eq_true c21
    clear c21
    obtain rfl:=Option.some.inj H
    go_enter Tryz.func3,Tryz.ntmps3
    go_wp2_with (first|((with_reducible refine gate_dst (N:=5) rfl ?_);refine box_event ?hg (N:=5) ?hd (cs := #[.slice A0_0 l0_0.length c0_0,.int .i64 a0_1]) (t:=24) ?hr ?_;(case hd=>rfl);(case hg=>rfl);(case hr=>first|(go_simp;done)|(go_simp;rfl));intro gb490 hg w22 hbox hb;have BK490:=am (hbox);have GW490:=am (ge_ bl hg);have GE490:=am (ge_ bl hg);replace HB:=am (below_step bl hb);clear hb hbox hg)|((with_reducible refine gate_dst (N:=8) rfl ?_);refine box_event ?hg (N:=8) ?hd (cs := #[.int .i64 a3_0,.int .i64 a3_1,.int .i64 a3_2]) (t:=28) ?hr ?_;(case hd=>rfl);(case hg=>rfl);(case hr=>first|(go_simp;done)|(go_simp;rfl));intro gb491 hg w23 hbox hb;have BK491:=am (hbox);have GW491:=am (ge_ bl hg);have GE491:=am (ge_ bl hg);replace HB:=am (below_step bl hb);have NB490_491:=am (nl (bup BK490.out) hg);have NB491_490:=am (ng (bup BK490.out) hg);replace BK490:=am (blk_below (bup BK490.out) hb);clear hb hbox hg;have hnb24:=NB490_491.out;have hnc24:=NB491_490.out;have hcz25_0:=bc BK490.out 0;have hcz25_1:=bc BK490.out 1;have hfz25_0:=blk_frozen BK490.out 0;have hfz25_1:=blk_frozen BK490.out 1)|((with_reducible refine gate_callee (f:=4) rfl ?_);refine goesL_ (some 21) rfl rfl Tryz.func4 (by kernel_rfl) rfl #[.agg #[.slice A0_0 l0_0.length c0_0,.int .i64 a0_1],.int .i64 1048576] rfl tl ?_;(with_reducible refine(laws_szInstrument.calls _ _ l0_0 a0_1 1048576 t492 _ ?side1 ?side2 A6.out).mono ?_);(case side1=>exact cup (Kd.C_below HR0_0.out HB.out));(case side2=>exact HC0_0.out);rintro e w26 ⟨rfl,hb⟩;refine⟨_,rfl,?_⟩;replace BK490:=am (blk_below (bup BK490.out) hb);replace BK491:=am (blk_below (bup BK491.out) hb);replace HB:=am (below_step bl hb);(try clear hb))|((with_reducible refine gate_callee (f:=5) rfl ?_);refine goesL_ (some 26) rfl rfl Tryz.func5 (by kernel_rfl) rfl #[.slice A1 l1.length c1,.int .i64 t492] rfl tl ?_;(with_reducible refine(laws_szNoteS.calls _ _ l1 t492 t493 _ ?side1 ?side2 A13.out).mono ?_);(case side1=>exact cup (Kd.C_below HR1.out HB.out));(case side2=>exact HC1.out);rintro e w' ⟨rfl,⟨nd,rfl⟩⟩;refine⟨_,rfl,?_⟩)|((with_reducible refine gate_callee (f:=6) rfl ?_);refine goesL_ (some 31) rfl rfl Tryz.func6 (by kernel_rfl) rfl #[.slice A2 l2.length c2,.int .i64 t493] rfl tl ?_;(with_reducible refine(laws_szHoleS.calls _ _ l2 t493 t494 _ ?side1 ?side2 A20.out).mono ?_);(case side1=>repeat(first|exact(Kd.C_below HR2.out bl)|(with_reducible refine Kd.C_alloc ?_ _)|(with_reducible refine Kd.C_drewN ?_ _)|(with_reducible refine Kd.C_drew ?_)));(case side2=>exact HC2.out);rintro e w' ⟨rfl,⟨nd,rfl⟩⟩;refine⟨_,rfl,?_⟩))
    go_ret
    exact⟨fin1,bl⟩
   ·have c21b0:=decide_eq_false c21
    clear c21
    obtain⟨⟨t495,t498⟩,A27,H⟩:=bnd H;dsimp only at H
    obtain⟨t499,A28,H⟩:=bnd H
    obtain⟨t502,A29,H⟩:=bnd H
    obtain⟨⟨t505,t506,t507⟩,A30,H⟩:=bnd H;dsimp only at H
    obtain⟨⟨t508,t509⟩,A31,H⟩:=bnd H;dsimp only at H
    obtain⟨⟨t510,t513⟩,A32,H⟩:=bnd H;dsimp only at H
    obtain⟨t515,A33,H⟩:=bnd H
    obtain⟨t518,A34,H⟩:=bnd H
    obtain⟨⟨t521,t522,t523⟩,A35,H⟩:=bnd H;dsimp only at H
    obtain⟨⟨t524,t525⟩,A36,H⟩:=bnd H;dsimp only at H
    have HC37:=am H
    clear H
    go_enter Tryz.func3,Tryz.ntmps3
    try go_wp2_with (first|((with_reducible refine gate_dst (N:=5) rfl ?_);refine box_event ?hg (N:=5) ?hd (cs := #[.slice A0_0 l0_0.length c0_0,.int .i64 a0_1]) (t:=24) ?hr ?_;(case hd=>rfl);(case hg=>rfl);(case hr=>first|(go_simp;done)|(go_simp;rfl));intro gb490 hg w38 hbox hb;have BK490:=am (hbox);have GW490:=am (ge_ bl hg);have GE490:=am (ge_ bl hg);replace HB:=am (below_step bl hb);clear hb hbox hg)|((with_reducible refine gate_dst (N:=8) rfl ?_);refine box_event ?hg (N:=8) ?hd (cs := #[.int .i64 a3_0,.int .i64 a3_1,.int .i64 a3_2]) (t:=28) ?hr ?_;(case hd=>rfl);(case hg=>rfl);(case hr=>first|(go_simp;done)|(go_simp;rfl));intro gb491 hg w39 hbox hb;have BK491:=am (hbox);have GW491:=am (ge_ bl hg);have GE491:=am (ge_ bl hg);replace HB:=am (below_step bl hb);have NB490_491:=am (nl (bup BK490.out) hg);have NB491_490:=am (ng (bup BK490.out) hg);replace BK490:=am (blk_below (bup BK490.out) hb);clear hb hbox hg;have hnb40:=NB490_491.out;have hnc40:=NB491_490.out;have hcz41_0:=bc BK490.out 0;have hcz41_1:=bc BK490.out 1;have hfz41_0:=blk_frozen BK490.out 0;have hfz41_1:=blk_frozen BK490.out 1)|((with_reducible refine gate_callee (f:=4) rfl ?_);refine goesL_ (some 21) rfl rfl Tryz.func4 (by kernel_rfl) rfl #[.agg #[.slice A0_0 l0_0.length c0_0,.int .i64 a0_1],.int .i64 1048576] rfl tl ?_;(with_reducible refine(laws_szInstrument.calls _ _ l0_0 a0_1 1048576 t492 _ ?side1 ?side2 A6.out).mono ?_);(case side1=>exact cup (Kd.C_below HR0_0.out HB.out));(case side2=>exact HC0_0.out);rintro e w42 ⟨rfl,hb⟩;refine⟨_,rfl,?_⟩;replace BK490:=am (blk_below (bup BK490.out) hb);replace BK491:=am (blk_below (bup BK491.out) hb);replace HB:=am (below_step bl hb);(try clear hb))|((with_reducible refine gate_callee (f:=5) rfl ?_);refine goesL_ (some 26) rfl rfl Tryz.func5 (by kernel_rfl) rfl #[.slice A1 l1.length c1,.int .i64 t492] rfl tl ?_;(with_reducible refine(laws_szNoteS.calls _ _ l1 t492 t493 _ ?side1 ?side2 A13.out).mono ?_);(case side1=>exact cup (Kd.C_below HR1.out HB.out));(case side2=>exact HC1.out);rintro e w' ⟨rfl,⟨nd,rfl⟩⟩;refine⟨_,rfl,?_⟩;(try(rw[drewN_self w42];generalize hq_:World.drewN w42 _=w42;have n0_:Aside0 (w42.heap[gb490]?=some (.cells #[.slice A0_0 l0_0.length c0_0,.int .i64 a0_1] 24 (0,0))):=⟨by rw[← hq_];exact(bup BK490.out)⟩;have n1_:Aside0 (w42.heap[gb491]?=some (.cells #[.int .i64 a3_0,.int .i64 a3_1,.int .i64 a3_2] 28 (0,0))):=⟨by rw[← hq_];exact(bup BK491.out)⟩;have n2_:Aside0 (Below w.heap.size w w42):=⟨by rw[← hq_];exact bl⟩;clear BK490 BK491 HB hq_;have BK490:=n0_;have BK491:=n1_;have HB:=n2_;clear n0_ n1_ n2_)))|((with_reducible refine gate_callee (f:=6) rfl ?_);refine goesL_ (some 31) rfl rfl Tryz.func6 (by kernel_rfl) rfl #[.slice A2 l2.length c2,.int .i64 t493] rfl tl ?_;(with_reducible refine(laws_szHoleS.calls _ _ l2 t493 t494 _ ?side1 ?side2 A20.out).mono ?_);(case side1=>exact cup (Kd.C_below HR2.out HB.out));(case side2=>exact HC2.out);rintro e w' ⟨rfl,⟨nd,rfl⟩⟩;refine⟨_,rfl,?_⟩;(try(rw[drewN_self w42];generalize hq_:World.drewN w42 _=w42;have n0_:Aside0 (w42.heap[gb490]?=some (.cells #[.slice A0_0 l0_0.length c0_0,.int .i64 a0_1] 24 (0,0))):=⟨by rw[← hq_];exact(bup BK490.out)⟩;have n1_:Aside0 (w42.heap[gb491]?=some (.cells #[.int .i64 a3_0,.int .i64 a3_1,.int .i64 a3_2] 28 (0,0))):=⟨by rw[← hq_];exact(bup BK491.out)⟩;have n2_:Aside0 (Below w.heap.size w w42):=⟨by rw[← hq_];exact bl⟩;clear BK490 BK491 HB hq_;have BK490:=n0_;have BK491:=n1_;have HB:=n2_;clear n0_ n1_ n2_))))
    replace BK490:=am (bD_ BK490.out)
    replace BK491:=am (bD_ BK491.out)
    replace HB:=am (below_drew1 HB.out)
    refine start_ (n:=15) (S:=fun w'=>w'.cell? ⟨gb490,0,none⟩=some (.slice A0_0 l0_0.length c0_0)∧w'.cell? ⟨gb490,1,none⟩=some (.int .i64 a0_1)∧w'.cell? ⟨gb491,0,none⟩=some (.int .i64 a3_0)∧w'.cell? ⟨gb491,1,none⟩=some (.int .i64 a3_1)∧w'.cell? ⟨gb491,2,none⟩=some (.int .i64 a3_2)) (ds:=[]) (fl 0 15) (by kernel_rfl) rfl rfl ⟨bc BK490.out 0,bc BK490.out 1,bc BK491.out 0,bc BK491.out 1,bc BK491.out 2⟩ (fun hHeld=>?_);refine with_tabW laws_FnExactShiftToPass.tab11 laws_FnExactShiftToPass.bits11 (fun HT_ HW_=>?_)
    generalize w42.drew=w43 at BK490 BK491 HB hHeld ⊢
    refine pu HT_.out 2 (some 37) #[false,false,true,false,false,false,false,false,false,false,false,false,false,false,false] (h:=?_)
    refine pu HT_.out 4 (some 39) #[false,false,true,false,true,false,false,false,false,false,false,false,false,false,false] (h:=?_)
    refine pu HT_.out 8 (some 43) #[false,false,true,false,true,false,false,false,true,false,false,false,false,false,false] (h:=?_)
    refine ta HT_.out HW_.out 0 (some 35) #[true,false,true,false,true,false,false,false,true,false,false,false,false,false,false] hHeld rfl (by rintro w' ⟨s0,s1,s2,s3,s4⟩;go_simp;with_reducible rfl) (h:=?_)
    refine ta HT_.out HW_.out 6 (some 41) #[true,false,true,false,true,false,true,false,true,false,false,false,false,false,false] hHeld rfl (by rintro w' ⟨s0,s1,s2,s3,s4⟩;go_simp;with_reducible rfl) (h:=?_)
    refine one_ (i:=1) (N:=some 36) #[true,true,true,false,true,false,true,false,true,false,false,false,false,false,false] rfl rfl (one_of HT_.out (by kernel_rfl)) (by decide) (fun K hK=>?_)
    refine goes_ Tryz.func8 (by kernel_rfl) rfl #[.agg #[.slice A0_0 l0_0.length c0_0,.int .i64 a0_1]] (by rfl) rfl rfl tl ?_
    with_reducible refine(laws_toInstrument.calls k _ _ l0_0 a0_1 t495 t498 _ ?side1 ?side2 A27.out).mono ?_
    (case side1=>exact cup (Kd.C_below HR0_0.out HB.out))
    (case side2=>exact HC0_0.out)
    rintro e w44 ⟨v496,rfl,ho0,hb⟩
    refine⟨_,rfl,?_⟩
    have HO497:=am (Kd.R_lower ho0 (below_size bl))
    replace BK490:=am (blk_below (bup BK490.out) hb)
    replace BK491:=am (blk_below (bup BK491.out) hb)
    replace HB:=am (below_step bl hb)
    (try clear hb)
    (try clear ho0)
    refine hK.out _ _ ⟨bc BK490.out 0,bc BK490.out 1,bc BK491.out 0,bc BK491.out 1,bc BK491.out 2⟩ (fun hHeld=>?_)
    clear hK K
    refine norm_ (a':=?_) ?_ ?_
    rotate_left
    ·show Act.put _ (some 36) _=_
     simp only[Act.put,List.setIfInBounds_toArray,List.set_cons_zero,List.set_cons_succ,i64_w,i32_w]
     rfl
    refine one_ (i:=3) (N:=some 38) #[true,true,true,true,true,false,true,false,true,false,false,false,false,false,false] rfl rfl (one_of HT_.out (by kernel_rfl)) (by decide) (fun K hK=>?_)
    refine goes_ Tryz.func9 (by kernel_rfl) rfl #[.slice A1 l1.length c1] (by rfl) rfl rfl tl ?_
    with_reducible refine(laws_toNoteS.calls k _ _ l1 t499 _ ?side1 ?side2 A28.out).mono ?_
    (case side1=>exact cup (Kd.C_below HR1.out HB.out))
    (case side2=>exact HC1.out)
    rintro e w45 ⟨v500,rfl,ho0,hb⟩
    refine⟨_,rfl,?_⟩
    replace HO497:=am (Kd.R_below (rup HO497.out) hb)
    have HO501:=am (Kd.R_lower ho0 (below_size bl))
    replace BK490:=am (blk_below (bup BK490.out) hb)
    replace BK491:=am (blk_below (bup BK491.out) hb)
    replace HB:=am (below_step bl hb)
    (try clear hb)
    (try clear ho0)
    refine hK.out _ _ ⟨bc BK490.out 0,bc BK490.out 1,bc BK491.out 0,bc BK491.out 1,bc BK491.out 2⟩ (fun hHeld=>?_)
    clear hK K
    refine norm_ (a':=?_) ?_ ?_
    rotate_left
    ·show Act.put _ (some 38) _=_
     simp only[Act.put,List.setIfInBounds_toArray,List.set_cons_zero,List.set_cons_succ,i64_w,i32_w]
     rfl
    refine one_ (i:=5) (N:=some 40) #[true,true,true,true,true,true,true,false,true,false,false,false,false,false,false] rfl rfl (one_of HT_.out (by kernel_rfl)) (by decide) (fun K hK=>?_)
    refine goes_ Tryz.func10 (by kernel_rfl) rfl #[.slice A2 l2.length c2] (by rfl) rfl rfl tl ?_
    with_reducible refine(laws_toHoleS.calls k _ _ l2 t502 _ ?side1 ?side2 A29.out).mono ?_
    (case side1=>exact cup (Kd.C_below HR2.out HB.out))
    (case side2=>exact HC2.out)
    rintro e w46 ⟨v503,rfl,ho0,hb⟩
    refine⟨_,rfl,?_⟩
    replace HO497:=am (Kd.R_below (rup HO497.out) hb)
    replace HO501:=am (Kd.R_below (rup HO501.out) hb)
    have HO504:=am (Kd.R_lower ho0 (below_size bl))
    replace BK490:=am (blk_below (bup BK490.out) hb)
    replace BK491:=am (blk_below (bup BK491.out) hb)
    replace HB:=am (below_step bl hb)
    (try clear hb)
    (try clear ho0)
    refine hK.out _ _ ⟨bc BK490.out 0,bc BK490.out 1,bc BK491.out 0,bc BK491.out 1,bc BK491.out 2⟩ (fun hHeld=>?_)
    clear hK K
    refine norm_ (a':=?_) ?_ ?_
    rotate_left
    ·show Act.put _ (some 40) _=_
     simp only[Act.put,List.setIfInBounds_toArray,List.set_cons_zero,List.set_cons_succ,i64_w,i32_w]
     rfl
    refine one_ (i:=7) (N:=some 42) (fl 9 15) rfl rfl (one_of HT_.out (by kernel_rfl)) (by decide) (fun K hK=>?_)
    refine goes_ Tryz.func11 (by kernel_rfl) rfl #[.agg #[.int .i64 a3_0,.int .i64 a3_1,.int .i64 a3_2]] (by rfl) rfl rfl tl ?_
    with_reducible refine(laws_toAction.calls a3_0 a3_1 a3_2 t505 t506 t507 _ A30.out).mono ?_
    rintro e w47 ⟨rfl,hb⟩
    refine⟨_,rfl,?_⟩
    replace HO497:=am (Kd.R_below (rup HO497.out) hb)
    replace HO501:=am (Kd.R_below (rup HO501.out) hb)
    replace HO504:=am (Kd.R_below (rup HO504.out) hb)
    replace BK490:=am (blk_below (bup BK490.out) hb)
    replace BK491:=am (blk_below (bup BK491.out) hb)
    replace HB:=am (below_step bl hb)
    (try clear hb)
    obtain⟨Ao48,co48,eo48⟩:=Kd.R_slice HO497.out
    (first|subst eo48|(injection eo48 with f1_ f2_ f3_;have f4_:=f1_.symm;have f5_:=f3_.symm;clear f1_ f2_ f3_;subst f4_;subst f5_))
    obtain⟨Ao49,co49,eo49⟩:=Kd.R_slice HO501.out
    (first|subst eo49|(injection eo49 with f1_ f2_ f3_;have f4_:=f1_.symm;have f5_:=f3_.symm;clear f1_ f2_ f3_;subst f4_;subst f5_))
    obtain⟨Ao50,co50,eo50⟩:=Kd.R_slice HO504.out
    (first|subst eo50|(injection eo50 with f1_ f2_ f3_;have f4_:=f1_.symm;have f5_:=f3_.symm;clear f1_ f2_ f3_;subst f4_;subst f5_))
    refine hK.out _ _ ⟨bc BK490.out 0,bc BK490.out 1,bc BK491.out 0,bc BK491.out 1,bc BK491.out 2⟩ (fun hHeld=>?_)
    clear hK K
    refine norm_ (a':=?_) ?_ ?_
    rotate_left
    ·show Act.put _ (some 42) _=_
     simp only[Act.put,List.setIfInBounds_toArray,List.set_cons_zero,List.set_cons_succ,i64_w,i32_w]
     rfl
    refine one_ (i:=9) (N:=some 44) (fl 10 15) rfl rfl (one_of HT_.out (by kernel_rfl)) (by decide) (fun K hK=>?_)
    refine goes_ Tryz.func7 (by kernel_rfl) rfl #[.agg #[.slice Ao48 t495.length co48,.int .i64 t498],.slice Ao49 t499.length co49,.slice Ao50 t502.length co50,.agg #[.int .i64 t505,.int .i64 t506,.int .i64 t507],.int .i64 a4] (by rfl) rfl rfl tl ?_
    with_reducible refine(spec_ShiftToPass.calls k _ _ t495 t498 _ _ t499 _ _ t502 t505 t506 t507 a4 t508 t509 _ ?side1 ?side2 ?side3 ?side4 ?side5 ?side6 A31.out).mono ?_
    (case side1=>repeat(first|exact(Kd.R_reads' HO497.out).2.2|(with_reducible refine Kd.C_alloc ?_ _)|(with_reducible refine Kd.C_drewN ?_ _)|(with_reducible refine Kd.C_drew ?_)))
    (case side2=>exact(Kd.R_reads' HO497.out).2.1)
    (case side3=>repeat(first|exact(Kd.R_reads' HO501.out).2.2|(with_reducible refine Kd.C_alloc ?_ _)|(with_reducible refine Kd.C_drewN ?_ _)|(with_reducible refine Kd.C_drew ?_)))
    (case side4=>exact(Kd.R_reads' HO501.out).2.1)
    (case side5=>repeat(first|exact(Kd.R_reads' HO504.out).2.2|(with_reducible refine Kd.C_alloc ?_ _)|(with_reducible refine Kd.C_drewN ?_ _)|(with_reducible refine Kd.C_drew ?_)))
    (case side6=>exact(Kd.R_reads' HO504.out).2.1)
    rintro e w51 ⟨rfl,hb⟩
    refine⟨_,rfl,?_⟩
    replace HO497:=am (Kd.R_below (rup HO497.out) hb)
    replace HO501:=am (Kd.R_below (rup HO501.out) hb)
    replace HO504:=am (Kd.R_below (rup HO504.out) hb)
    replace BK490:=am (blk_below (bup BK490.out) hb)
    replace BK491:=am (blk_below (bup BK491.out) hb)
    replace HB:=am (below_step bl hb)
    (try clear hb)
    refine hK.out _ _ ⟨bc BK490.out 0,bc BK490.out 1,bc BK491.out 0,bc BK491.out 1,bc BK491.out 2⟩ (fun hHeld=>?_)
    clear hK K
    refine norm_ (a':=?_) ?_ ?_
    rotate_left
    ·show Act.put _ (some 44) _=_
     simp only[Act.put,List.setIfInBounds_toArray,List.set_cons_zero,List.set_cons_succ,i64_w,i32_w]
     rfl
    refine pu HT_.out 10 (some 34) (fl 11 15) (h:=?_)
    refine pu HT_.out 11 (some 45) (fl 12 15) (h:=?_)
    refine pu HT_.out 12 (some 46) (fl 13 15) (h:=?_)
    refine pu HT_.out 13 (some 12) (fl 14 15) (h:=?_)
    refine pu HT_.out 14 (some 13) (fl 15 15) (h:=?_)
    refine done_ (done_of HT_.out (by kernel_rfl)) ?_
    have hcz52_0:=bc BK490.out 0
    have hcz52_1:=bc BK490.out 1
    have hfz52_0:=blk_frozen BK490.out 0
    have hfz52_1:=blk_frozen BK490.out 1
    try go_wp2_with (first|((with_reducible refine gate_callee (f:=8) rfl ?_);refine goesL_ (some 48) rfl rfl Tryz.func8 (by kernel_rfl) rfl #[.agg #[.slice A0_0 l0_0.length c0_0,.int .i64 a0_1]] rfl tl ?_;(with_reducible refine(laws_toInstrument.calls k _ _ l0_0 a0_1 t510 t513 _ ?side1 ?side2 A32.out).mono ?_);(case side1=>exact cup (Kd.C_below HR0_0.out HB.out));(case side2=>exact HC0_0.out);rintro e w53 ⟨v511,rfl,ho0,hb⟩;refine⟨_,rfl,?_⟩;replace HO501:=am (Kd.R_below (rup HO501.out) hb);replace HO504:=am (Kd.R_below (rup HO504.out) hb);have HO512:=am (Kd.R_lower (Kd.R_new' ho0 (Kd.R_lt (rup HO497.out))) (below_size bl));replace HO497:=am (Kd.R_elder' (rup HO497.out) (Kd.R_base ho0) hb);replace BK490:=am (blk_below (bup BK490.out) hb);replace BK491:=am (blk_below (bup BK491.out) hb);replace HB:=am (below_step bl hb);(try clear hb);(try clear ho0))|((with_reducible refine gate_dst (N:=14) rfl ?_);refine box_event ?hg (N:=14) ?hd (cs := #[.slice none 0 0,.int .i64 0]) (t:=34) ?hr ?_;(case hd=>rfl);(case hg=>rfl);(case hr=>first|(go_simp;done)|(go_simp;rfl));intro gb514 hg w54 hbox hb;replace HO497:=am (Kd.R_below (rup HO497.out) hb);replace HO501:=am (Kd.R_below (rup HO501.out) hb);replace HO504:=am (Kd.R_below (rup HO504.out) hb);replace HO512:=am (Kd.R_below (rup HO512.out) hb);have BK514:=am (hbox);have GW514:=am (ge_ bl hg);have GE514:=am (ge_ bl hg);replace HB:=am (below_step bl hb);have NB490_514:=am (nl (bup BK490.out) hg);have NB514_490:=am (ng (bup BK490.out) hg);replace BK490:=am (blk_below (bup BK490.out) hb);have NB491_514:=am (nl (bup BK491.out) hg);have NB514_491:=am (ng (bup BK491.out) hg);replace BK491:=am (blk_below (bup BK491.out) hb);clear hb hbox hg;obtain⟨Ao55,co55,eo55⟩:=Kd.R_slice HO512.out;subst eo55;have hnb56:=NB514_490.out;have hnc56:=NB490_514.out;have hnb57:=NB514_491.out;have hnc57:=NB491_514.out;have hcz58_0:=bc BK514.out 0;have hcz58_1:=bc BK514.out 1;have hfz58_0:=blk_frozen BK514.out 0;have hfz58_1:=blk_frozen BK514.out 1)|((with_reducible refine gate_callee (f:=9) rfl ?_);refine goesL_ (some 50) rfl rfl Tryz.func9 (by kernel_rfl) rfl #[.slice A1 l1.length c1] rfl tl ?_;(with_reducible refine(laws_toNoteS.calls k _ _ l1 t515 _ ?side1 ?side2 A33.out).mono ?_);(case side1=>exact Kd.C_below HR1.out bl);(case side2=>exact HC1.out);rintro e w59 ⟨v516,rfl,ho0,hb⟩;refine⟨_,rfl,?_⟩;replace HO497:=am (Kd.R_below (by(with_reducible repeat(first|apply Kd.R_alloc|apply Kd.R_drewN|apply Kd.R_drew));exact(Kd.R_mono (Kd.R_far (p:=⟨gb514,1,none⟩) (Kd.R_far (p:=⟨gb514,0,none⟩) (Kd.R_types HO497.out BK514.out (by decide)) (fun _ hk=>hk.2) (.slice Ao55 t510.length co55)) (fun _ hk=>hk.2) (.int .i64 t513)) (fun _ h_=>h_.1))) hb);replace HO504:=am (Kd.R_below (by(with_reducible repeat(first|apply Kd.R_alloc|apply Kd.R_drewN|apply Kd.R_drew));exact(Kd.R_mono (Kd.R_far (p:=⟨gb514,1,none⟩) (Kd.R_far (p:=⟨gb514,0,none⟩) (Kd.R_types HO504.out BK514.out (by decide)) (fun _ hk=>hk.2) (.slice Ao55 t510.length co55)) (fun _ hk=>hk.2) (.int .i64 t513)) (fun _ h_=>h_.1))) hb);replace HO512:=am (Kd.R_below (by(with_reducible repeat(first|apply Kd.R_alloc|apply Kd.R_drewN|apply Kd.R_drew));exact(Kd.R_mono (Kd.R_far (p:=⟨gb514,1,none⟩) (Kd.R_far (p:=⟨gb514,0,none⟩) (Kd.R_types HO512.out BK514.out (by decide)) (fun _ hk=>hk.2) (.slice Ao55 t510.length co55)) (fun _ hk=>hk.2) (.int .i64 t513)) (fun _ h_=>h_.1))) hb);have HO517:=am (Kd.R_lower (Kd.R_new' ho0 (Kd.R_lt (by(with_reducible repeat(first|apply Kd.R_alloc|apply Kd.R_drewN|apply Kd.R_drew));exact(Kd.R_mono (Kd.R_far (p:=⟨gb514,1,none⟩) (Kd.R_far (p:=⟨gb514,0,none⟩) (Kd.R_types HO501.out BK514.out (by decide)) (fun _ hk=>hk.2) (.slice Ao55 t510.length co55)) (fun _ hk=>hk.2) (.int .i64 t513)) (fun _ h_=>h_.1))))) (below_size bl));replace HO501:=am (Kd.R_elder' (by(with_reducible repeat(first|apply Kd.R_alloc|apply Kd.R_drewN|apply Kd.R_drew));exact(Kd.R_mono (Kd.R_far (p:=⟨gb514,1,none⟩) (Kd.R_far (p:=⟨gb514,0,none⟩) (Kd.R_types HO501.out BK514.out (by decide)) (fun _ hk=>hk.2) (.slice Ao55 t510.length co55)) (fun _ hk=>hk.2) (.int .i64 t513)) (fun _ h_=>h_.1))) (Kd.R_base ho0) hb);replace BK490:=am (blk_below (g:=gb490) (o := .cells #[.slice A0_0 l0_0.length c0_0,.int .i64 a0_1] 24 (0,0)) (by(with_reducible repeat(first|refine bN_ ?_ _|refine bD_ ?_|refine bA_ ?_ _));refine blk_far ?_ NB490_514.out _;(with_reducible repeat(first|refine bN_ ?_ _|refine bD_ ?_|refine bA_ ?_ _));refine blk_far ?_ NB490_514.out _;exact bup BK490.out) hb);replace BK491:=am (blk_below (g:=gb491) (o := .cells #[.int .i64 a3_0,.int .i64 a3_1,.int .i64 a3_2] 28 (0,0)) (by(with_reducible repeat(first|refine bN_ ?_ _|refine bD_ ?_|refine bA_ ?_ _));refine blk_far ?_ NB491_514.out _;(with_reducible repeat(first|refine bN_ ?_ _|refine bD_ ?_|refine bA_ ?_ _));refine blk_far ?_ NB491_514.out _;exact bup BK491.out) hb);replace BK514:=am (blk_below (g:=gb514) (o := .cells #[.slice Ao55 t510.length co55,.int .i64 t513] 34 (0,0)) (by(with_reducible repeat(first|refine bN_ ?_ _|refine bD_ ?_|refine bA_ ?_ _));refine blk_put (cs := #[.slice Ao55 t510.length co55,.int .i64 0]) ?_ 1 _ rfl;(with_reducible repeat(first|refine bN_ ?_ _|refine bD_ ?_|refine bA_ ?_ _));refine blk_put (cs := #[.slice none 0 0,.int .i64 0]) ?_ 0 _ rfl;exact bup BK514.out) hb);replace HB:=am (below_step bl hb);(try clear hb);(try clear hk);(try clear ho0))|((with_reducible refine gate_callee (f:=10) rfl ?_);refine goesL_ (some 52) rfl rfl Tryz.func10 (by kernel_rfl) rfl #[.slice A2 l2.length c2] rfl tl ?_;(with_reducible refine(laws_toHoleS.calls k _ _ l2 t518 _ ?side1 ?side2 A34.out).mono ?_);(case side1=>exact cup (Kd.C_below HR2.out HB.out));(case side2=>exact HC2.out);rintro e w60 ⟨v519,rfl,ho0,hb⟩;refine⟨_,rfl,?_⟩;replace HO497:=am (Kd.R_below (rup HO497.out) hb);replace HO501:=am (Kd.R_below (rup HO501.out) hb);replace HO512:=am (Kd.R_below (rup HO512.out) hb);replace HO517:=am (Kd.R_below (rup HO517.out) hb);have HO520:=am (Kd.R_lower (Kd.R_new' ho0 (Kd.R_lt (rup HO504.out))) (below_size bl));replace HO504:=am (Kd.R_elder' (rup HO504.out) (Kd.R_base ho0) hb);replace BK490:=am (blk_below (bup BK490.out) hb);replace BK491:=am (blk_below (bup BK491.out) hb);replace BK514:=am (blk_below (bup BK514.out) hb);replace HB:=am (below_step bl hb);(try clear hb);(try clear ho0)))
    replace HO497:=am (Kd.R_drew HO497.out)
    replace HO501:=am (Kd.R_drew HO501.out)
    replace HO504:=am (Kd.R_drew HO504.out)
    replace HO512:=am (Kd.R_drew HO512.out)
    replace HO517:=am (Kd.R_drew HO517.out)
    replace HO520:=am (Kd.R_drew HO520.out)
    replace BK490:=am (bD_ BK490.out)
    replace BK491:=am (bD_ BK491.out)
    replace BK514:=am (bD_ BK514.out)
    replace HB:=am (below_drew1 HB.out)
    refine start_ (n:=12) (S:=fun w'=>w'.cell? ⟨gb514,0,none⟩=some (.slice Ao55 t510.length co55)∧w'.cell? ⟨gb514,1,none⟩=some (.int .i64 t513)∧w'.cell? ⟨gb491,0,none⟩=some (.int .i64 a3_0)∧w'.cell? ⟨gb491,1,none⟩=some (.int .i64 a3_1)∧w'.cell? ⟨gb491,2,none⟩=some (.int .i64 a3_2)) (ds:=[]) (fl 0 12) (by kernel_rfl) rfl rfl ⟨bc BK514.out 0,bc BK514.out 1,bc BK491.out 0,bc BK491.out 1,bc BK491.out 2⟩ (fun hHeld=>?_);refine with_tabW laws_FnExactShiftToPass.tab15 laws_FnExactShiftToPass.bits15 (fun HT_ HW_=>?_)
    generalize w60.drew=w61 at HO497 HO501 HO504 HO512 HO517 HO520 BK490 BK491 BK514 HB hHeld ⊢
    refine pu HT_.out 1 (some 55) #[false,true,false,false,false,false,false,false,false,false,false,false] (h:=?_)
    refine pu HT_.out 2 (some 56) #[false,true,true,false,false,false,false,false,false,false,false,false] (h:=?_)
    refine pu HT_.out 5 (some 59) #[false,true,true,false,false,true,false,false,false,false,false,false] (h:=?_)
    refine ta HT_.out HW_.out 0 (some 54) #[true,true,true,false,false,true,false,false,false,false,false,false] hHeld rfl (by rintro w' ⟨s0,s1,s2,s3,s4⟩;go_simp;with_reducible rfl) (h:=?_)
    refine ta HT_.out HW_.out 3 (some 57) #[true,true,true,true,false,true,false,false,false,false,false,false] hHeld rfl (by rintro w' ⟨s0,s1,s2,s3,s4⟩;go_simp;with_reducible rfl) (h:=?_)
    refine one_ (i:=4) (N:=some 58) (fl 6 12) rfl rfl (one_of HT_.out (by kernel_rfl)) (by decide) (fun K hK=>?_)
    refine goes_ Tryz.func11 (by kernel_rfl) rfl #[.agg #[.int .i64 a3_0,.int .i64 a3_1,.int .i64 a3_2]] (by rfl) rfl rfl tl ?_
    with_reducible refine(laws_toAction.calls a3_0 a3_1 a3_2 t521 t522 t523 _ A35.out).mono ?_
    rintro e w62 ⟨rfl,hb⟩
    refine⟨_,rfl,?_⟩
    replace HO497:=am (Kd.R_below (rup HO497.out) hb)
    replace HO501:=am (Kd.R_below (rup HO501.out) hb)
    replace HO504:=am (Kd.R_below (rup HO504.out) hb)
    replace HO512:=am (Kd.R_below (rup HO512.out) hb)
    replace HO517:=am (Kd.R_below (rup HO517.out) hb)
    replace HO520:=am (Kd.R_below (rup HO520.out) hb)
    replace BK490:=am (blk_below (bup BK490.out) hb)
    replace BK491:=am (blk_below (bup BK491.out) hb)
    replace BK514:=am (blk_below (bup BK514.out) hb)
    replace HB:=am (below_step bl hb)
    (try clear hb)
    obtain⟨Ao63,co63,eo63⟩:=Kd.R_slice HO517.out
    (first|subst eo63|(injection eo63 with f1_ f2_ f3_;have f4_:=f1_.symm;have f5_:=f3_.symm;clear f1_ f2_ f3_;subst f4_;subst f5_))
    obtain⟨Ao64,co64,eo64⟩:=Kd.R_slice HO520.out
    (first|subst eo64|(injection eo64 with f1_ f2_ f3_;have f4_:=f1_.symm;have f5_:=f3_.symm;clear f1_ f2_ f3_;subst f4_;subst f5_))
    refine hK.out _ _ ⟨bc BK514.out 0,bc BK514.out 1,bc BK491.out 0,bc BK491.out 1,bc BK491.out 2⟩ (fun hHeld=>?_)
    clear hK K
    refine norm_ (a':=?_) ?_ ?_
    rotate_left
    ·show Act.put _ (some 58) _=_
     simp only[Act.put,List.setIfInBounds_toArray,List.set_cons_zero,List.set_cons_succ,i64_w,i32_w]
     rfl
    refine one_ (i:=6) (N:=some 60) (fl 7 12) rfl rfl (one_of HT_.out (by kernel_rfl)) (by decide) (fun K hK=>?_)
    refine goes_ Tryz.func12 (by kernel_rfl) rfl #[.agg #[.slice Ao55 t510.length co55,.int .i64 t513],.slice Ao63 t515.length co63,.slice Ao64 t518.length co64,.agg #[.int .i64 t521,.int .i64 t522,.int .i64 t523],.int .i64 a4] (by rfl) rfl rfl tl ?_
    with_reducible refine(impl_ShiftToPass.calls k _ _ t510 t513 _ _ t515 _ _ t518 t521 t522 t523 a4 t524 t525 _ ?side1 ?side2 ?side3 ?side4 ?side5 ?side6 A36.out).mono ?_
    (case side1=>repeat(first|exact(Kd.R_reads' HO512.out).2.2|(with_reducible refine Kd.C_alloc ?_ _)|(with_reducible refine Kd.C_drewN ?_ _)|(with_reducible refine Kd.C_drew ?_)))
    (case side2=>exact(Kd.R_reads' HO512.out).2.1)
    (case side3=>repeat(first|exact(Kd.R_reads' HO517.out).2.2|(with_reducible refine Kd.C_alloc ?_ _)|(with_reducible refine Kd.C_drewN ?_ _)|(with_reducible refine Kd.C_drew ?_)))
    (case side4=>exact(Kd.R_reads' HO517.out).2.1)
    (case side5=>repeat(first|exact(Kd.R_reads' HO520.out).2.2|(with_reducible refine Kd.C_alloc ?_ _)|(with_reducible refine Kd.C_drewN ?_ _)|(with_reducible refine Kd.C_drew ?_)))
    (case side6=>exact(Kd.R_reads' HO520.out).2.1)
    rintro e w65 ⟨rfl,hb⟩
    refine⟨_,rfl,?_⟩
    replace HO497:=am (Kd.R_below (rup HO497.out) hb)
    replace HO501:=am (Kd.R_below (rup HO501.out) hb)
    replace HO504:=am (Kd.R_below (rup HO504.out) hb)
    replace HO512:=am (Kd.R_below (rup HO512.out) hb)
    replace HO517:=am (Kd.R_below (rup HO517.out) hb)
    replace HO520:=am (Kd.R_below (rup HO520.out) hb)
    replace BK490:=am (blk_below (bup BK490.out) hb)
    replace BK491:=am (blk_below (bup BK491.out) hb)
    replace BK514:=am (blk_below (bup BK514.out) hb)
    replace HB:=am (below_step bl hb)
    (try clear hb)
    refine hK.out _ _ ⟨bc BK514.out 0,bc BK514.out 1,bc BK491.out 0,bc BK491.out 1,bc BK491.out 2⟩ (fun hHeld=>?_)
    clear hK K
    refine norm_ (a':=?_) ?_ ?_
    rotate_left
    ·show Act.put _ (some 60) _=_
     simp only[Act.put,List.setIfInBounds_toArray,List.set_cons_zero,List.set_cons_succ,i64_w,i32_w]
     rfl
    refine pu HT_.out 7 (some 53) (fl 8 12) (h:=?_)
    refine pu HT_.out 8 (some 61) (fl 9 12) (h:=?_)
    refine pu HT_.out 9 (some 62) (fl 10 12) (h:=?_)
    refine pu HT_.out 10 (some 17) (fl 11 12) (h:=?_)
    refine pu HT_.out 11 (some 18) (fl 12 12) (h:=?_)
    refine done_ (done_of HT_.out (by kernel_rfl)) ?_
    go_upto_region 16 with(fail)
    go_cut [70] (fun v70 wc=>∃(kq:Nat) (x70_36:Bool),v70 = .bool x70_36∧Aside0 (laws_FnExactShiftToPass.j0 kq l1 l2 t515 t518 x70_36 l0_0 a0_1 t510 t513=some r)∧Aside0 (kq≤k)∧Aside0 (Kd.R k55 55 wc w.heap.size (fun _=>True) (.slice Ao63 t515.length co63) t515)∧Aside0 (Kd.R k59 59 wc w.heap.size (fun _=>True) (.slice Ao64 t518.length co64) t518)∧Aside0 (Kd.R (Kd.int .i64) 3 wc w.heap.size (fun _=>True) (.slice Ao55 t510.length co55) t510)∧Aside0 (wc.heap[gb490]?=some (.cells #[(.slice A0_0 l0_0.length c0_0),.int .i64 a0_1] 24 (0,0)))∧Aside0 (wc.heap[gb514]?=some (.cells #[(.slice Ao55 t510.length co55),.int .i64 t513] 34 (0,0)))∧Aside0 (Below w.heap.size w wc))
    case first =>
     have H:=HC37.out
     clear HC37
     rcases itc H with⟨c66,H⟩|⟨c66,H⟩
     ·have c66b0:(t524 == t508)=true:=beq_iff_eq.mpr c66
      have c66b1:(t524 != t508)=false:=bne_eq_false_iff_eq.mpr c66
      clear c66
      (first|rw[c66b0]|(simp only[i64_w,i32_w];rw[c66b0])|skip)
      have H':=am H
      clear H
      go_wp2
      go_meet
      case rel=>exact⟨_,((t525 != t509)),fin2,H',⟨by first|omega|exact Nat.le_refl _⟩,⟨rup (Kd.R_mono HO517.out (fun _ hk=>trivial))⟩,⟨rup (Kd.R_mono HO520.out (fun _ hk=>trivial))⟩,⟨rup (Kd.R_mono HO512.out (fun _ hk=>trivial))⟩,⟨bup BK490.out⟩,⟨bup BK514.out⟩,⟨bl⟩⟩
     ·have c66b0:(t524 == t508)=false:=beq_eq_false_iff_ne.mpr c66
      have c66b1:(t524 != t508)=true:=bne_iff_ne.mpr c66
      (first|rw[c66b0]|(simp only[i64_w,i32_w];rw[c66b0])|skip)
      have H':=am H
      clear H
      go_wp2
      go_meet
      case rel=>exact⟨_,(true),fin2,H',⟨by first|omega|exact Nat.le_refl _⟩,⟨rup (Kd.R_mono HO517.out (fun _ hk=>trivial))⟩,⟨rup (Kd.R_mono HO520.out (fun _ hk=>trivial))⟩,⟨rup (Kd.R_mono HO512.out (fun _ hk=>trivial))⟩,⟨bup BK490.out⟩,⟨bup BK514.out⟩,⟨bl⟩⟩
    case rest =>
     clear HC37
     try clear c14b0
     try clear c21b0
     try clear hcz41_0
     try clear hcz41_1
     try clear hcz52_0
     try clear hcz52_1
     try clear hcz58_0
     try clear hcz58_1
     try clear hfz41_0
     try clear hfz41_1
     try clear hfz52_0
     try clear hfz52_1
     try clear hfz58_0
     try clear hfz58_1
     obtain⟨kq,x70_36,rfl,HA,HJ36,HO_15,HO_16,HO_515000,BK490,BK514,HB⟩:=hcut
     cases kq with
     | zero=>exact absurd HA.out (by simp [laws_FnExactShiftToPass.j0])
     | succ kj36 =>
      have H:=HA.out
      clear HA
      simp only[laws_FnExactShiftToPass.j0] at H
      by_cases c67:x70_36=true
      ·subst c67
       replace H:=(if_pos rfl).symm.trans H
       obtain rfl:=Option.some.inj H
       go_wp2
       go_ret
       exact⟨fin1,bl⟩
      ·replace c67:=Bool.eq_false_iff.mpr c67
       subst c67
       replace H:=(if_neg Bool.false_ne_true).symm.trans H
       obtain⟨⟨t526,t529⟩,A68,H⟩:=bnd H;dsimp only at H
       obtain⟨t530,A69,H⟩:=bnd H
       by_cases c70:t530=true
       ·subst c70
        replace H:=(if_pos rfl).symm.trans H
        obtain⟨t531,A71,H⟩:=bnd H
        obtain⟨t534,A72,H⟩:=bnd H
        by_cases c73:t534=true
        ·subst c73
         replace H:=(if_pos rfl).symm.trans H
         obtain⟨t535,A74,H⟩:=bnd H
         obtain⟨t538,A75,H⟩:=bnd H
         by_cases c76:t538=true
         ·subst c76
          replace H:=(if_pos rfl).symm.trans H
          obtain rfl:=Option.some.inj H
          try go_wp2
          replace HO_15:=am (Kd.R_drew HO_15.out)
          replace HO_16:=am (Kd.R_drew HO_16.out)
          replace HO_515000:=am (Kd.R_drew HO_515000.out)
          replace BK490:=am (bD_ BK490.out)
          replace BK514:=am (bD_ BK514.out)
          replace HB:=am (below_drew1 HB.out)
          refine start_ (n:=5) (S:=fun w'=>w'.cell? ⟨gb514,0,none⟩=some (.slice Ao55 t510.length co55)∧w'.cell? ⟨gb514,1,none⟩=some (.int .i64 t513)∧w'.cell? ⟨gb490,0,none⟩=some (.slice A0_0 l0_0.length c0_0)∧w'.cell? ⟨gb490,1,none⟩=some (.int .i64 a0_1)) (ds:=[]) (fl 0 5) (by kernel_rfl) rfl rfl ⟨bc BK514.out 0,bc BK514.out 1,bc BK490.out 0,bc BK490.out 1⟩ (fun hHeld=>?_)
          generalize wc.drew=w77 at HO_15 HO_16 HO_515000 BK490 BK514 HB hHeld ⊢
          refine take_ (i:=0) (N:=some 71) (v:=?_) (a':=?_) (fl 1 5) rfl rfl (by kernel_rfl) (fun _ _ _ h=>h) (Or.inl ⟨by rfl,?_⟩) hHeld ?_ ?_
          rotate_left
          ·rintro w' ⟨s0,s1,s2,s3⟩
           go_simp
           with_reducible rfl
          rotate_left
          ·simp only[Act.put,List.setIfInBounds_toArray,List.set_cons_zero,List.set_cons_succ,i64_w,i32_w]
           rfl
          refine take_ (i:=1) (N:=some 72) (v:=?_) (a':=?_) (fl 2 5) rfl rfl (by kernel_rfl) (fun _ _ _ h=>h) (Or.inl ⟨by rfl,?_⟩) hHeld ?_ ?_
          rotate_left
          ·rintro w' ⟨s0,s1,s2,s3⟩
           go_simp
           with_reducible rfl
          rotate_left
          ·simp only[Act.put,List.setIfInBounds_toArray,List.set_cons_zero,List.set_cons_succ,i64_w,i32_w]
           rfl
          refine one_ (i:=2) (N:=some 73) (fl 3 5) rfl rfl (by kernel_rfl) (by decide) (fun K hK=>?_)
          refine goes_ Tryz.func8 (by kernel_rfl) rfl #[.agg #[.slice A0_0 l0_0.length c0_0,.int .i64 a0_1]] (by rfl) rfl rfl tl ?_
          with_reducible refine(laws_toInstrument.calls kj36 _ _ l0_0 a0_1 t526 t529 _ ?side1 ?side2 A68.out).mono ?_
          (case side1=>exact cup (Kd.C_below HR0_0.out HB.out))
          (case side2=>exact HC0_0.out)
          rintro e w78 ⟨v527,rfl,ho0,hb⟩
          refine⟨_,rfl,?_⟩
          replace HO_15:=am (Kd.R_below (rup HO_15.out) hb)
          replace HO_16:=am (Kd.R_below (rup HO_16.out) hb)
          have HO528:=am (Kd.R_lower (Kd.R_new' ho0 (Kd.R_lt (rup HO_515000.out))) (below_size bl))
          replace HO_515000:=am (Kd.R_elder' (rup HO_515000.out) (Kd.R_base ho0) hb)
          replace BK490:=am (blk_below (bup BK490.out) hb)
          replace BK514:=am (blk_below (bup BK514.out) hb)
          replace HB:=am (below_step bl hb)
          (try clear hb)
          (try clear ho0)
          obtain⟨Ao79,co79,eo79⟩:=Kd.R_slice HO528.out
          (first|subst eo79|(injection eo79 with f1_ f2_ f3_;have f4_:=f1_.symm;have f5_:=f3_.symm;clear f1_ f2_ f3_;subst f4_;subst f5_))
          refine hK.out _ _ ⟨bc BK514.out 0,bc BK514.out 1,bc BK490.out 0,bc BK490.out 1⟩ (fun hHeld=>?_)
          clear hK K
          refine norm_ (a':=?_) ?_ ?_
          rotate_left
          ·show Act.put _ (some 73) _=_
           simp only[Act.put,List.setIfInBounds_toArray,List.set_cons_zero,List.set_cons_succ,i64_w,i32_w]
           rfl
          refine one_ (i:=3) (N:=some 74) (fl 4 5) rfl rfl (by kernel_rfl) (by decide) (fun K hK=>?_)
          refine goes_ Tryz.func13 (by kernel_rfl) rfl #[.agg #[.slice Ao55 t510.length co55,.int .i64 t513],.agg #[.slice Ao79 t526.length co79,.int .i64 t529]] (by rfl) rfl rfl tl ?_
          with_reducible refine(laws_eqInstrument.calls kj36 _ _ t510 t513 _ _ t526 t529 true _ ?side1 ?side2 ?side3 ?side4 A69.out).mono ?_
          (case side1=>repeat(first|exact(Kd.R_reads' HO_515000.out).2.2|(with_reducible refine Kd.C_alloc ?_ _)|(with_reducible refine Kd.C_drewN ?_ _)|(with_reducible refine Kd.C_drew ?_)))
          (case side2=>exact(Kd.R_reads' HO_515000.out).2.1)
          (case side3=>repeat(first|exact(Kd.R_reads' HO528.out).2.2|(with_reducible refine Kd.C_alloc ?_ _)|(with_reducible refine Kd.C_drewN ?_ _)|(with_reducible refine Kd.C_drew ?_)))
          (case side4=>exact(Kd.R_reads' HO528.out).2.1)
          rintro e w80 ⟨rfl,hb⟩
          refine⟨_,rfl,?_⟩
          replace HO_15:=am (Kd.R_below (rup HO_15.out) hb)
          replace HO_16:=am (Kd.R_below (rup HO_16.out) hb)
          replace HO_515000:=am (Kd.R_below (rup HO_515000.out) hb)
          replace HO528:=am (Kd.R_below (rup HO528.out) hb)
          replace BK490:=am (blk_below (bup BK490.out) hb)
          replace BK514:=am (blk_below (bup BK514.out) hb)
          replace HB:=am (below_step bl hb)
          (try clear hb)
          refine hK.out _ _ ⟨bc BK514.out 0,bc BK514.out 1,bc BK490.out 0,bc BK490.out 1⟩ (fun hHeld=>?_)
          clear hK K
          refine norm_ (a':=?_) ?_ ?_
          rotate_left
          ·show Act.put _ (some 74) _=_
           simp only[Act.put,List.setIfInBounds_toArray,List.set_cons_zero,List.set_cons_succ,i64_w,i32_w]
           rfl
          refine pure_ (i:=4) (N:=some 75) (v:=?_) (a':=?_) (fl 5 5) rfl rfl (by kernel_rfl) (fun _ _ _ h=>h) (Or.inl ⟨by rfl,?_⟩) ?_ ?_
          rotate_left
          ·intro w'
           go_simp
           with_reducible rfl
          rotate_left
          ·simp only[Act.put,List.setIfInBounds_toArray,List.set_cons_zero,List.set_cons_succ,i64_w,i32_w]
           rfl
          refine done_ (by kernel_rfl) ?_
          try go_wp2_with (first|((with_reducible refine gate_callee (f:=9) rfl ?_);refine goesL_ (some 78) rfl rfl Tryz.func9 (by kernel_rfl) rfl #[.slice A1 l1.length c1] rfl tl ?_;(with_reducible refine(laws_toNoteS.calls kj36 _ _ l1 t531 _ ?side1 ?side2 A71.out).mono ?_);(case side1=>exact cup (Kd.C_below HR1.out HB.out));(case side2=>exact HC1.out);rintro e w81 ⟨v532,rfl,ho0,hb⟩;refine⟨_,rfl,?_⟩;replace HO_16:=am (Kd.R_below (rup HO_16.out) hb);replace HO_515000:=am (Kd.R_below (rup HO_515000.out) hb);replace HO528:=am (Kd.R_below (rup HO528.out) hb);have HO533:=am (Kd.R_lower (Kd.R_new' ho0 (Kd.R_lt (rup HO_15.out))) (below_size bl));replace HO_15:=am (Kd.R_elder' (rup HO_15.out) (Kd.R_base ho0) hb);replace BK490:=am (blk_below (bup BK490.out) hb);replace BK514:=am (blk_below (bup BK514.out) hb);replace HB:=am (below_step bl hb);(try clear hb);(try clear ho0);obtain⟨Ao82,co82,eo82⟩:=Kd.R_slice HO533.out;subst eo82)|((with_reducible refine gate_callee (f:=14) rfl ?_);refine goesL_ (some 79) rfl rfl Tryz.func14 (by kernel_rfl) rfl #[.slice Ao63 t515.length co63,.slice Ao82 t531.length co82] rfl tl ?_;(with_reducible refine(laws_eqNoteS.calls kj36 _ _ t515 _ _ t531 true _ ?side1 ?side2 ?side3 ?side4 A72.out).mono ?_);(case side1=>repeat(first|exact(Kd.R_reads' HO_15.out).2.2|(with_reducible refine Kd.C_alloc ?_ _)|(with_reducible refine Kd.C_drewN ?_ _)|(with_reducible refine Kd.C_drew ?_)));(case side2=>exact(Kd.R_reads' HO_15.out).2.1);(case side3=>repeat(first|exact(Kd.R_reads' HO533.out).2.2|(with_reducible refine Kd.C_alloc ?_ _)|(with_reducible refine Kd.C_drewN ?_ _)|(with_reducible refine Kd.C_drew ?_)));(case side4=>exact(Kd.R_reads' HO533.out).2.1);rintro e w83 ⟨rfl,hb⟩;refine⟨_,rfl,?_⟩;replace HO_15:=am (Kd.R_below (rup HO_15.out) hb);replace HO_16:=am (Kd.R_below (rup HO_16.out) hb);replace HO_515000:=am (Kd.R_below (rup HO_515000.out) hb);replace HO528:=am (Kd.R_below (rup HO528.out) hb);replace HO533:=am (Kd.R_below (rup HO533.out) hb);replace BK490:=am (blk_below (bup BK490.out) hb);replace BK514:=am (blk_below (bup BK514.out) hb);replace HB:=am (below_step bl hb);(try clear hb))|((with_reducible refine gate_callee (f:=10) rfl ?_);refine goesL_ (some 83) rfl rfl Tryz.func10 (by kernel_rfl) rfl #[.slice A2 l2.length c2] rfl tl ?_;(with_reducible refine(laws_toHoleS.calls kj36 _ _ l2 t535 _ ?side1 ?side2 A74.out).mono ?_);(case side1=>exact cup (Kd.C_below HR2.out HB.out));(case side2=>exact HC2.out);rintro e w84 ⟨v536,rfl,ho0,hb⟩;refine⟨_,rfl,?_⟩;replace HO_15:=am (Kd.R_below (rup HO_15.out) hb);replace HO_515000:=am (Kd.R_below (rup HO_515000.out) hb);replace HO528:=am (Kd.R_below (rup HO528.out) hb);replace HO533:=am (Kd.R_below (rup HO533.out) hb);have HO537:=am (Kd.R_lower (Kd.R_new' ho0 (Kd.R_lt (rup HO_16.out))) (below_size bl));replace HO_16:=am (Kd.R_elder' (rup HO_16.out) (Kd.R_base ho0) hb);replace BK490:=am (blk_below (bup BK490.out) hb);replace BK514:=am (blk_below (bup BK514.out) hb);replace HB:=am (below_step bl hb);(try clear hb);(try clear ho0);obtain⟨Ao85,co85,eo85⟩:=Kd.R_slice HO537.out;subst eo85)|((with_reducible refine gate_callee (f:=15) rfl ?_);refine goesL_ (some 84) rfl rfl Tryz.func15 (by kernel_rfl) rfl #[.slice Ao64 t518.length co64,.slice Ao85 t535.length co85] rfl tl ?_;(with_reducible refine(laws_eqHoleS.calls kj36 _ _ t518 _ _ t535 true _ ?side1 ?side2 ?side3 ?side4 A75.out).mono ?_);(case side1=>repeat(first|exact(Kd.R_reads' HO_16.out).2.2|(with_reducible refine Kd.C_alloc ?_ _)|(with_reducible refine Kd.C_drewN ?_ _)|(with_reducible refine Kd.C_drew ?_)));(case side2=>exact(Kd.R_reads' HO_16.out).2.1);(case side3=>repeat(first|exact(Kd.R_reads' HO537.out).2.2|(with_reducible refine Kd.C_alloc ?_ _)|(with_reducible refine Kd.C_drewN ?_ _)|(with_reducible refine Kd.C_drew ?_)));(case side4=>exact(Kd.R_reads' HO537.out).2.1);rintro e w86 ⟨rfl,hb⟩;refine⟨_,rfl,?_⟩;replace HO_15:=am (Kd.R_below (rup HO_15.out) hb);replace HO_16:=am (Kd.R_below (rup HO_16.out) hb);replace HO_515000:=am (Kd.R_below (rup HO_515000.out) hb);replace HO528:=am (Kd.R_below (rup HO528.out) hb);replace HO533:=am (Kd.R_below (rup HO533.out) hb);replace HO537:=am (Kd.R_below (rup HO537.out) hb);replace BK490:=am (blk_below (bup BK490.out) hb);replace BK514:=am (blk_below (bup BK514.out) hb);replace HB:=am (below_step bl hb);(try clear hb)))
          go_ret
          exact⟨fin1,bl⟩
         ·replace c76:=Bool.eq_false_iff.mpr c76
          subst c76
          replace H:=(if_neg Bool.false_ne_true).symm.trans H
          obtain rfl:=Option.some.inj H
          try go_wp2
          replace HO_15:=am (Kd.R_drew HO_15.out)
          replace HO_16:=am (Kd.R_drew HO_16.out)
          replace HO_515000:=am (Kd.R_drew HO_515000.out)
          replace BK490:=am (bD_ BK490.out)
          replace BK514:=am (bD_ BK514.out)
          replace HB:=am (below_drew1 HB.out)
          refine start_ (n:=5) (S:=fun w'=>w'.cell? ⟨gb514,0,none⟩=some (.slice Ao55 t510.length co55)∧w'.cell? ⟨gb514,1,none⟩=some (.int .i64 t513)∧w'.cell? ⟨gb490,0,none⟩=some (.slice A0_0 l0_0.length c0_0)∧w'.cell? ⟨gb490,1,none⟩=some (.int .i64 a0_1)) (ds:=[]) (fl 0 5) (by kernel_rfl) rfl rfl ⟨bc BK514.out 0,bc BK514.out 1,bc BK490.out 0,bc BK490.out 1⟩ (fun hHeld=>?_)
          generalize wc.drew=w87 at HO_15 HO_16 HO_515000 BK490 BK514 HB hHeld ⊢
          refine take_ (i:=0) (N:=some 71) (v:=?_) (a':=?_) (fl 1 5) rfl rfl (by kernel_rfl) (fun _ _ _ h=>h) (Or.inl ⟨by rfl,?_⟩) hHeld ?_ ?_
          rotate_left
          ·rintro w' ⟨s0,s1,s2,s3⟩
           go_simp
           with_reducible rfl
          rotate_left
          ·simp only[Act.put,List.setIfInBounds_toArray,List.set_cons_zero,List.set_cons_succ,i64_w,i32_w]
           rfl
          refine take_ (i:=1) (N:=some 72) (v:=?_) (a':=?_) (fl 2 5) rfl rfl (by kernel_rfl) (fun _ _ _ h=>h) (Or.inl ⟨by rfl,?_⟩) hHeld ?_ ?_
          rotate_left
          ·rintro w' ⟨s0,s1,s2,s3⟩
           go_simp
           with_reducible rfl
          rotate_left
          ·simp only[Act.put,List.setIfInBounds_toArray,List.set_cons_zero,List.set_cons_succ,i64_w,i32_w]
           rfl
          refine one_ (i:=2) (N:=some 73) (fl 3 5) rfl rfl (by kernel_rfl) (by decide) (fun K hK=>?_)
          refine goes_ Tryz.func8 (by kernel_rfl) rfl #[.agg #[.slice A0_0 l0_0.length c0_0,.int .i64 a0_1]] (by rfl) rfl rfl tl ?_
          with_reducible refine(laws_toInstrument.calls kj36 _ _ l0_0 a0_1 t526 t529 _ ?side1 ?side2 A68.out).mono ?_
          (case side1=>exact cup (Kd.C_below HR0_0.out HB.out))
          (case side2=>exact HC0_0.out)
          rintro e w88 ⟨v527,rfl,ho0,hb⟩
          refine⟨_,rfl,?_⟩
          replace HO_15:=am (Kd.R_below (rup HO_15.out) hb)
          replace HO_16:=am (Kd.R_below (rup HO_16.out) hb)
          have HO528:=am (Kd.R_lower (Kd.R_new' ho0 (Kd.R_lt (rup HO_515000.out))) (below_size bl))
          replace HO_515000:=am (Kd.R_elder' (rup HO_515000.out) (Kd.R_base ho0) hb)
          replace BK490:=am (blk_below (bup BK490.out) hb)
          replace BK514:=am (blk_below (bup BK514.out) hb)
          replace HB:=am (below_step bl hb)
          (try clear hb)
          (try clear ho0)
          obtain⟨Ao89,co89,eo89⟩:=Kd.R_slice HO528.out
          (first|subst eo89|(injection eo89 with f1_ f2_ f3_;have f4_:=f1_.symm;have f5_:=f3_.symm;clear f1_ f2_ f3_;subst f4_;subst f5_))
          refine hK.out _ _ ⟨bc BK514.out 0,bc BK514.out 1,bc BK490.out 0,bc BK490.out 1⟩ (fun hHeld=>?_)
          clear hK K
          refine norm_ (a':=?_) ?_ ?_
          rotate_left
          ·show Act.put _ (some 73) _=_
           simp only[Act.put,List.setIfInBounds_toArray,List.set_cons_zero,List.set_cons_succ,i64_w,i32_w]
           rfl
          refine one_ (i:=3) (N:=some 74) (fl 4 5) rfl rfl (by kernel_rfl) (by decide) (fun K hK=>?_)
          refine goes_ Tryz.func13 (by kernel_rfl) rfl #[.agg #[.slice Ao55 t510.length co55,.int .i64 t513],.agg #[.slice Ao89 t526.length co89,.int .i64 t529]] (by rfl) rfl rfl tl ?_
          with_reducible refine(laws_eqInstrument.calls kj36 _ _ t510 t513 _ _ t526 t529 true _ ?side1 ?side2 ?side3 ?side4 A69.out).mono ?_
          (case side1=>repeat(first|exact(Kd.R_reads' HO_515000.out).2.2|(with_reducible refine Kd.C_alloc ?_ _)|(with_reducible refine Kd.C_drewN ?_ _)|(with_reducible refine Kd.C_drew ?_)))
          (case side2=>exact(Kd.R_reads' HO_515000.out).2.1)
          (case side3=>repeat(first|exact(Kd.R_reads' HO528.out).2.2|(with_reducible refine Kd.C_alloc ?_ _)|(with_reducible refine Kd.C_drewN ?_ _)|(with_reducible refine Kd.C_drew ?_)))
          (case side4=>exact(Kd.R_reads' HO528.out).2.1)
          rintro e w90 ⟨rfl,hb⟩
          refine⟨_,rfl,?_⟩
          replace HO_15:=am (Kd.R_below (rup HO_15.out) hb)
          replace HO_16:=am (Kd.R_below (rup HO_16.out) hb)
          replace HO_515000:=am (Kd.R_below (rup HO_515000.out) hb)
          replace HO528:=am (Kd.R_below (rup HO528.out) hb)
          replace BK490:=am (blk_below (bup BK490.out) hb)
          replace BK514:=am (blk_below (bup BK514.out) hb)
          replace HB:=am (below_step bl hb)
          (try clear hb)
          refine hK.out _ _ ⟨bc BK514.out 0,bc BK514.out 1,bc BK490.out 0,bc BK490.out 1⟩ (fun hHeld=>?_)
          clear hK K
          refine norm_ (a':=?_) ?_ ?_
          rotate_left
          ·show Act.put _ (some 74) _=_
           simp only[Act.put,List.setIfInBounds_toArray,List.set_cons_zero,List.set_cons_succ,i64_w,i32_w]
           rfl
          refine pure_ (i:=4) (N:=some 75) (v:=?_) (a':=?_) (fl 5 5) rfl rfl (by kernel_rfl) (fun _ _ _ h=>h) (Or.inl ⟨by rfl,?_⟩) ?_ ?_
          rotate_left
          ·intro w'
           go_simp
           with_reducible rfl
          rotate_left
          ·simp only[Act.put,List.setIfInBounds_toArray,List.set_cons_zero,List.set_cons_succ,i64_w,i32_w]
           rfl
          refine done_ (by kernel_rfl) ?_
          try go_wp2_with (first|((with_reducible refine gate_callee (f:=9) rfl ?_);refine goesL_ (some 78) rfl rfl Tryz.func9 (by kernel_rfl) rfl #[.slice A1 l1.length c1] rfl tl ?_;(with_reducible refine(laws_toNoteS.calls kj36 _ _ l1 t531 _ ?side1 ?side2 A71.out).mono ?_);(case side1=>exact cup (Kd.C_below HR1.out HB.out));(case side2=>exact HC1.out);rintro e w91 ⟨v532,rfl,ho0,hb⟩;refine⟨_,rfl,?_⟩;replace HO_16:=am (Kd.R_below (rup HO_16.out) hb);replace HO_515000:=am (Kd.R_below (rup HO_515000.out) hb);replace HO528:=am (Kd.R_below (rup HO528.out) hb);have HO533:=am (Kd.R_lower (Kd.R_new' ho0 (Kd.R_lt (rup HO_15.out))) (below_size bl));replace HO_15:=am (Kd.R_elder' (rup HO_15.out) (Kd.R_base ho0) hb);replace BK490:=am (blk_below (bup BK490.out) hb);replace BK514:=am (blk_below (bup BK514.out) hb);replace HB:=am (below_step bl hb);(try clear hb);(try clear ho0);obtain⟨Ao92,co92,eo92⟩:=Kd.R_slice HO533.out;subst eo92)|((with_reducible refine gate_callee (f:=14) rfl ?_);refine goesL_ (some 79) rfl rfl Tryz.func14 (by kernel_rfl) rfl #[.slice Ao63 t515.length co63,.slice Ao92 t531.length co92] rfl tl ?_;(with_reducible refine(laws_eqNoteS.calls kj36 _ _ t515 _ _ t531 true _ ?side1 ?side2 ?side3 ?side4 A72.out).mono ?_);(case side1=>repeat(first|exact(Kd.R_reads' HO_15.out).2.2|(with_reducible refine Kd.C_alloc ?_ _)|(with_reducible refine Kd.C_drewN ?_ _)|(with_reducible refine Kd.C_drew ?_)));(case side2=>exact(Kd.R_reads' HO_15.out).2.1);(case side3=>repeat(first|exact(Kd.R_reads' HO533.out).2.2|(with_reducible refine Kd.C_alloc ?_ _)|(with_reducible refine Kd.C_drewN ?_ _)|(with_reducible refine Kd.C_drew ?_)));(case side4=>exact(Kd.R_reads' HO533.out).2.1);rintro e w93 ⟨rfl,hb⟩;refine⟨_,rfl,?_⟩;replace HO_15:=am (Kd.R_below (rup HO_15.out) hb);replace HO_16:=am (Kd.R_below (rup HO_16.out) hb);replace HO_515000:=am (Kd.R_below (rup HO_515000.out) hb);replace HO528:=am (Kd.R_below (rup HO528.out) hb);replace HO533:=am (Kd.R_below (rup HO533.out) hb);replace BK490:=am (blk_below (bup BK490.out) hb);replace BK514:=am (blk_below (bup BK514.out) hb);replace HB:=am (below_step bl hb);(try clear hb))|((with_reducible refine gate_callee (f:=10) rfl ?_);refine goesL_ (some 83) rfl rfl Tryz.func10 (by kernel_rfl) rfl #[.slice A2 l2.length c2] rfl tl ?_;(with_reducible refine(laws_toHoleS.calls kj36 _ _ l2 t535 _ ?side1 ?side2 A74.out).mono ?_);(case side1=>exact cup (Kd.C_below HR2.out HB.out));(case side2=>exact HC2.out);rintro e w94 ⟨v536,rfl,ho0,hb⟩;refine⟨_,rfl,?_⟩;replace HO_15:=am (Kd.R_below (rup HO_15.out) hb);replace HO_515000:=am (Kd.R_below (rup HO_515000.out) hb);replace HO528:=am (Kd.R_below (rup HO528.out) hb);replace HO533:=am (Kd.R_below (rup HO533.out) hb);have HO537:=am (Kd.R_lower (Kd.R_new' ho0 (Kd.R_lt (rup HO_16.out))) (below_size bl));replace HO_16:=am (Kd.R_elder' (rup HO_16.out) (Kd.R_base ho0) hb);replace BK490:=am (blk_below (bup BK490.out) hb);replace BK514:=am (blk_below (bup BK514.out) hb);replace HB:=am (below_step bl hb);(try clear hb);(try clear ho0);obtain⟨Ao95,co95,eo95⟩:=Kd.R_slice HO537.out;subst eo95)|((with_reducible refine gate_callee (f:=15) rfl ?_);refine goesL_ (some 84) rfl rfl Tryz.func15 (by kernel_rfl) rfl #[.slice Ao64 t518.length co64,.slice Ao95 t535.length co95] rfl tl ?_;(with_reducible refine(laws_eqHoleS.calls kj36 _ _ t518 _ _ t535 false _ ?side1 ?side2 ?side3 ?side4 A75.out).mono ?_);(case side1=>repeat(first|exact(Kd.R_reads' HO_16.out).2.2|(with_reducible refine Kd.C_alloc ?_ _)|(with_reducible refine Kd.C_drewN ?_ _)|(with_reducible refine Kd.C_drew ?_)));(case side2=>exact(Kd.R_reads' HO_16.out).2.1);(case side3=>repeat(first|exact(Kd.R_reads' HO537.out).2.2|(with_reducible refine Kd.C_alloc ?_ _)|(with_reducible refine Kd.C_drewN ?_ _)|(with_reducible refine Kd.C_drew ?_)));(case side4=>exact(Kd.R_reads' HO537.out).2.1);rintro e w96 ⟨rfl,hb⟩;refine⟨_,rfl,?_⟩;replace HO_15:=am (Kd.R_below (rup HO_15.out) hb);replace HO_16:=am (Kd.R_below (rup HO_16.out) hb);replace HO_515000:=am (Kd.R_below (rup HO_515000.out) hb);replace HO528:=am (Kd.R_below (rup HO528.out) hb);replace HO533:=am (Kd.R_below (rup HO533.out) hb);replace HO537:=am (Kd.R_below (rup HO537.out) hb);replace BK490:=am (blk_below (bup BK490.out) hb);replace BK514:=am (blk_below (bup BK514.out) hb);replace HB:=am (below_step bl hb);(try clear hb)))
          go_ret
          exact⟨fin1,bl⟩
        ·replace c73:=Bool.eq_false_iff.mpr c73
         subst c73
         replace H:=(if_neg Bool.false_ne_true).symm.trans H
         obtain rfl:=Option.some.inj H
         try go_wp2
         replace HO_15:=am (Kd.R_drew HO_15.out)
         replace HO_16:=am (Kd.R_drew HO_16.out)
         replace HO_515000:=am (Kd.R_drew HO_515000.out)
         replace BK490:=am (bD_ BK490.out)
         replace BK514:=am (bD_ BK514.out)
         replace HB:=am (below_drew1 HB.out)
         refine start_ (n:=5) (S:=fun w'=>w'.cell? ⟨gb514,0,none⟩=some (.slice Ao55 t510.length co55)∧w'.cell? ⟨gb514,1,none⟩=some (.int .i64 t513)∧w'.cell? ⟨gb490,0,none⟩=some (.slice A0_0 l0_0.length c0_0)∧w'.cell? ⟨gb490,1,none⟩=some (.int .i64 a0_1)) (ds:=[]) (fl 0 5) (by kernel_rfl) rfl rfl ⟨bc BK514.out 0,bc BK514.out 1,bc BK490.out 0,bc BK490.out 1⟩ (fun hHeld=>?_)
         generalize wc.drew=w97 at HO_15 HO_16 HO_515000 BK490 BK514 HB hHeld ⊢
         refine take_ (i:=0) (N:=some 71) (v:=?_) (a':=?_) (fl 1 5) rfl rfl (by kernel_rfl) (fun _ _ _ h=>h) (Or.inl ⟨by rfl,?_⟩) hHeld ?_ ?_
         rotate_left
         ·rintro w' ⟨s0,s1,s2,s3⟩
          go_simp
          with_reducible rfl
         rotate_left
         ·simp only[Act.put,List.setIfInBounds_toArray,List.set_cons_zero,List.set_cons_succ,i64_w,i32_w]
          rfl
         refine take_ (i:=1) (N:=some 72) (v:=?_) (a':=?_) (fl 2 5) rfl rfl (by kernel_rfl) (fun _ _ _ h=>h) (Or.inl ⟨by rfl,?_⟩) hHeld ?_ ?_
         rotate_left
         ·rintro w' ⟨s0,s1,s2,s3⟩
          go_simp
          with_reducible rfl
         rotate_left
         ·simp only[Act.put,List.setIfInBounds_toArray,List.set_cons_zero,List.set_cons_succ,i64_w,i32_w]
          rfl
         refine one_ (i:=2) (N:=some 73) (fl 3 5) rfl rfl (by kernel_rfl) (by decide) (fun K hK=>?_)
         refine goes_ Tryz.func8 (by kernel_rfl) rfl #[.agg #[.slice A0_0 l0_0.length c0_0,.int .i64 a0_1]] (by rfl) rfl rfl tl ?_
         with_reducible refine(laws_toInstrument.calls kj36 _ _ l0_0 a0_1 t526 t529 _ ?side1 ?side2 A68.out).mono ?_
         (case side1=>exact cup (Kd.C_below HR0_0.out HB.out))
         (case side2=>exact HC0_0.out)
         rintro e w98 ⟨v527,rfl,ho0,hb⟩
         refine⟨_,rfl,?_⟩
         replace HO_15:=am (Kd.R_below (rup HO_15.out) hb)
         replace HO_16:=am (Kd.R_below (rup HO_16.out) hb)
         have HO528:=am (Kd.R_lower (Kd.R_new' ho0 (Kd.R_lt (rup HO_515000.out))) (below_size bl))
         replace HO_515000:=am (Kd.R_elder' (rup HO_515000.out) (Kd.R_base ho0) hb)
         replace BK490:=am (blk_below (bup BK490.out) hb)
         replace BK514:=am (blk_below (bup BK514.out) hb)
         replace HB:=am (below_step bl hb)
         (try clear hb)
         (try clear ho0)
         obtain⟨Ao99,co99,eo99⟩:=Kd.R_slice HO528.out
         (first|subst eo99|(injection eo99 with f1_ f2_ f3_;have f4_:=f1_.symm;have f5_:=f3_.symm;clear f1_ f2_ f3_;subst f4_;subst f5_))
         refine hK.out _ _ ⟨bc BK514.out 0,bc BK514.out 1,bc BK490.out 0,bc BK490.out 1⟩ (fun hHeld=>?_)
         clear hK K
         refine norm_ (a':=?_) ?_ ?_
         rotate_left
         ·show Act.put _ (some 73) _=_
          simp only[Act.put,List.setIfInBounds_toArray,List.set_cons_zero,List.set_cons_succ,i64_w,i32_w]
          rfl
         refine one_ (i:=3) (N:=some 74) (fl 4 5) rfl rfl (by kernel_rfl) (by decide) (fun K hK=>?_)
         refine goes_ Tryz.func13 (by kernel_rfl) rfl #[.agg #[.slice Ao55 t510.length co55,.int .i64 t513],.agg #[.slice Ao99 t526.length co99,.int .i64 t529]] (by rfl) rfl rfl tl ?_
         with_reducible refine(laws_eqInstrument.calls kj36 _ _ t510 t513 _ _ t526 t529 true _ ?side1 ?side2 ?side3 ?side4 A69.out).mono ?_
         (case side1=>repeat(first|exact(Kd.R_reads' HO_515000.out).2.2|(with_reducible refine Kd.C_alloc ?_ _)|(with_reducible refine Kd.C_drewN ?_ _)|(with_reducible refine Kd.C_drew ?_)))
         (case side2=>exact(Kd.R_reads' HO_515000.out).2.1)
         (case side3=>repeat(first|exact(Kd.R_reads' HO528.out).2.2|(with_reducible refine Kd.C_alloc ?_ _)|(with_reducible refine Kd.C_drewN ?_ _)|(with_reducible refine Kd.C_drew ?_)))
         (case side4=>exact(Kd.R_reads' HO528.out).2.1)
         rintro e w100 ⟨rfl,hb⟩
         refine⟨_,rfl,?_⟩
         replace HO_15:=am (Kd.R_below (rup HO_15.out) hb)
         replace HO_16:=am (Kd.R_below (rup HO_16.out) hb)
         replace HO_515000:=am (Kd.R_below (rup HO_515000.out) hb)
         replace HO528:=am (Kd.R_below (rup HO528.out) hb)
         replace BK490:=am (blk_below (bup BK490.out) hb)
         replace BK514:=am (blk_below (bup BK514.out) hb)
         replace HB:=am (below_step bl hb)
         (try clear hb)
         refine hK.out _ _ ⟨bc BK514.out 0,bc BK514.out 1,bc BK490.out 0,bc BK490.out 1⟩ (fun hHeld=>?_)
         clear hK K
         refine norm_ (a':=?_) ?_ ?_
         rotate_left
         ·show Act.put _ (some 74) _=_
          simp only[Act.put,List.setIfInBounds_toArray,List.set_cons_zero,List.set_cons_succ,i64_w,i32_w]
          rfl
         refine pure_ (i:=4) (N:=some 75) (v:=?_) (a':=?_) (fl 5 5) rfl rfl (by kernel_rfl) (fun _ _ _ h=>h) (Or.inl ⟨by rfl,?_⟩) ?_ ?_
         rotate_left
         ·intro w'
          go_simp
          with_reducible rfl
         rotate_left
         ·simp only[Act.put,List.setIfInBounds_toArray,List.set_cons_zero,List.set_cons_succ,i64_w,i32_w]
          rfl
         refine done_ (by kernel_rfl) ?_
         try go_wp2_with (first|((with_reducible refine gate_callee (f:=9) rfl ?_);refine goesL_ (some 78) rfl rfl Tryz.func9 (by kernel_rfl) rfl #[.slice A1 l1.length c1] rfl tl ?_;(with_reducible refine(laws_toNoteS.calls kj36 _ _ l1 t531 _ ?side1 ?side2 A71.out).mono ?_);(case side1=>exact cup (Kd.C_below HR1.out HB.out));(case side2=>exact HC1.out);rintro e w101 ⟨v532,rfl,ho0,hb⟩;refine⟨_,rfl,?_⟩;replace HO_16:=am (Kd.R_below (rup HO_16.out) hb);replace HO_515000:=am (Kd.R_below (rup HO_515000.out) hb);replace HO528:=am (Kd.R_below (rup HO528.out) hb);have HO533:=am (Kd.R_lower (Kd.R_new' ho0 (Kd.R_lt (rup HO_15.out))) (below_size bl));replace HO_15:=am (Kd.R_elder' (rup HO_15.out) (Kd.R_base ho0) hb);replace BK490:=am (blk_below (bup BK490.out) hb);replace BK514:=am (blk_below (bup BK514.out) hb);replace HB:=am (below_step bl hb);(try clear hb);(try clear ho0);obtain⟨Ao102,co102,eo102⟩:=Kd.R_slice HO533.out;subst eo102)|((with_reducible refine gate_callee (f:=14) rfl ?_);refine goesL_ (some 79) rfl rfl Tryz.func14 (by kernel_rfl) rfl #[.slice Ao63 t515.length co63,.slice Ao102 t531.length co102] rfl tl ?_;(with_reducible refine(laws_eqNoteS.calls kj36 _ _ t515 _ _ t531 false _ ?side1 ?side2 ?side3 ?side4 A72.out).mono ?_);(case side1=>repeat(first|exact(Kd.R_reads' HO_15.out).2.2|(with_reducible refine Kd.C_alloc ?_ _)|(with_reducible refine Kd.C_drewN ?_ _)|(with_reducible refine Kd.C_drew ?_)));(case side2=>exact(Kd.R_reads' HO_15.out).2.1);(case side3=>repeat(first|exact(Kd.R_reads' HO533.out).2.2|(with_reducible refine Kd.C_alloc ?_ _)|(with_reducible refine Kd.C_drewN ?_ _)|(with_reducible refine Kd.C_drew ?_)));(case side4=>exact(Kd.R_reads' HO533.out).2.1);rintro e w103 ⟨rfl,hb⟩;refine⟨_,rfl,?_⟩;replace HO_15:=am (Kd.R_below (rup HO_15.out) hb);replace HO_16:=am (Kd.R_below (rup HO_16.out) hb);replace HO_515000:=am (Kd.R_below (rup HO_515000.out) hb);replace HO528:=am (Kd.R_below (rup HO528.out) hb);replace HO533:=am (Kd.R_below (rup HO533.out) hb);replace BK490:=am (blk_below (bup BK490.out) hb);replace BK514:=am (blk_below (bup BK514.out) hb);replace HB:=am (below_step bl hb);(try clear hb)))
         go_ret
         exact⟨fin1,bl⟩
       ·replace c70:=Bool.eq_false_iff.mpr c70
        subst c70
        replace H:=(if_neg Bool.false_ne_true).symm.trans H
        obtain rfl:=Option.some.inj H
        try go_wp2
        replace HO_15:=am (Kd.R_drew HO_15.out)
        replace HO_16:=am (Kd.R_drew HO_16.out)
        replace HO_515000:=am (Kd.R_drew HO_515000.out)
        replace BK490:=am (bD_ BK490.out)
        replace BK514:=am (bD_ BK514.out)
        replace HB:=am (below_drew1 HB.out)
        refine start_ (n:=5) (S:=fun w'=>w'.cell? ⟨gb514,0,none⟩=some (.slice Ao55 t510.length co55)∧w'.cell? ⟨gb514,1,none⟩=some (.int .i64 t513)∧w'.cell? ⟨gb490,0,none⟩=some (.slice A0_0 l0_0.length c0_0)∧w'.cell? ⟨gb490,1,none⟩=some (.int .i64 a0_1)) (ds:=[]) (fl 0 5) (by kernel_rfl) rfl rfl ⟨bc BK514.out 0,bc BK514.out 1,bc BK490.out 0,bc BK490.out 1⟩ (fun hHeld=>?_)
        generalize wc.drew=w104 at HO_15 HO_16 HO_515000 BK490 BK514 HB hHeld ⊢
        refine take_ (i:=0) (N:=some 71) (v:=?_) (a':=?_) (fl 1 5) rfl rfl (by kernel_rfl) (fun _ _ _ h=>h) (Or.inl ⟨by rfl,?_⟩) hHeld ?_ ?_
        rotate_left
        ·rintro w' ⟨s0,s1,s2,s3⟩
         go_simp
         with_reducible rfl
        rotate_left
        ·simp only[Act.put,List.setIfInBounds_toArray,List.set_cons_zero,List.set_cons_succ,i64_w,i32_w]
         rfl
        refine take_ (i:=1) (N:=some 72) (v:=?_) (a':=?_) (fl 2 5) rfl rfl (by kernel_rfl) (fun _ _ _ h=>h) (Or.inl ⟨by rfl,?_⟩) hHeld ?_ ?_
        rotate_left
        ·rintro w' ⟨s0,s1,s2,s3⟩
         go_simp
         with_reducible rfl
        rotate_left
        ·simp only[Act.put,List.setIfInBounds_toArray,List.set_cons_zero,List.set_cons_succ,i64_w,i32_w]
         rfl
        refine one_ (i:=2) (N:=some 73) (fl 3 5) rfl rfl (by kernel_rfl) (by decide) (fun K hK=>?_)
        refine goes_ Tryz.func8 (by kernel_rfl) rfl #[.agg #[.slice A0_0 l0_0.length c0_0,.int .i64 a0_1]] (by rfl) rfl rfl tl ?_
        with_reducible refine(laws_toInstrument.calls kj36 _ _ l0_0 a0_1 t526 t529 _ ?side1 ?side2 A68.out).mono ?_
        (case side1=>exact cup (Kd.C_below HR0_0.out HB.out))
        (case side2=>exact HC0_0.out)
        rintro e w105 ⟨v527,rfl,ho0,hb⟩
        refine⟨_,rfl,?_⟩
        replace HO_15:=am (Kd.R_below (rup HO_15.out) hb)
        replace HO_16:=am (Kd.R_below (rup HO_16.out) hb)
        have HO528:=am (Kd.R_lower (Kd.R_new' ho0 (Kd.R_lt (rup HO_515000.out))) (below_size bl))
        replace HO_515000:=am (Kd.R_elder' (rup HO_515000.out) (Kd.R_base ho0) hb)
        replace BK490:=am (blk_below (bup BK490.out) hb)
        replace BK514:=am (blk_below (bup BK514.out) hb)
        replace HB:=am (below_step bl hb)
        (try clear hb)
        (try clear ho0)
        obtain⟨Ao106,co106,eo106⟩:=Kd.R_slice HO528.out
        (first|subst eo106|(injection eo106 with f1_ f2_ f3_;have f4_:=f1_.symm;have f5_:=f3_.symm;clear f1_ f2_ f3_;subst f4_;subst f5_))
        refine hK.out _ _ ⟨bc BK514.out 0,bc BK514.out 1,bc BK490.out 0,bc BK490.out 1⟩ (fun hHeld=>?_)
        clear hK K
        refine norm_ (a':=?_) ?_ ?_
        rotate_left
        ·show Act.put _ (some 73) _=_
         simp only[Act.put,List.setIfInBounds_toArray,List.set_cons_zero,List.set_cons_succ,i64_w,i32_w]
         rfl
        refine one_ (i:=3) (N:=some 74) (fl 4 5) rfl rfl (by kernel_rfl) (by decide) (fun K hK=>?_)
        refine goes_ Tryz.func13 (by kernel_rfl) rfl #[.agg #[.slice Ao55 t510.length co55,.int .i64 t513],.agg #[.slice Ao106 t526.length co106,.int .i64 t529]] (by rfl) rfl rfl tl ?_
        with_reducible refine(laws_eqInstrument.calls kj36 _ _ t510 t513 _ _ t526 t529 false _ ?side1 ?side2 ?side3 ?side4 A69.out).mono ?_
        (case side1=>repeat(first|exact(Kd.R_reads' HO_515000.out).2.2|(with_reducible refine Kd.C_alloc ?_ _)|(with_reducible refine Kd.C_drewN ?_ _)|(with_reducible refine Kd.C_drew ?_)))
        (case side2=>exact(Kd.R_reads' HO_515000.out).2.1)
        (case side3=>repeat(first|exact(Kd.R_reads' HO528.out).2.2|(with_reducible refine Kd.C_alloc ?_ _)|(with_reducible refine Kd.C_drewN ?_ _)|(with_reducible refine Kd.C_drew ?_)))
        (case side4=>exact(Kd.R_reads' HO528.out).2.1)
        rintro e w107 ⟨rfl,hb⟩
        refine⟨_,rfl,?_⟩
        replace HO_15:=am (Kd.R_below (rup HO_15.out) hb)
        replace HO_16:=am (Kd.R_below (rup HO_16.out) hb)
        replace HO_515000:=am (Kd.R_below (rup HO_515000.out) hb)
        replace HO528:=am (Kd.R_below (rup HO528.out) hb)
        replace BK490:=am (blk_below (bup BK490.out) hb)
        replace BK514:=am (blk_below (bup BK514.out) hb)
        replace HB:=am (below_step bl hb)
        (try clear hb)
        refine hK.out _ _ ⟨bc BK514.out 0,bc BK514.out 1,bc BK490.out 0,bc BK490.out 1⟩ (fun hHeld=>?_)
        clear hK K
        refine norm_ (a':=?_) ?_ ?_
        rotate_left
        ·show Act.put _ (some 74) _=_
         simp only[Act.put,List.setIfInBounds_toArray,List.set_cons_zero,List.set_cons_succ,i64_w,i32_w]
         rfl
        refine pure_ (i:=4) (N:=some 75) (v:=?_) (a':=?_) (fl 5 5) rfl rfl (by kernel_rfl) (fun _ _ _ h=>h) (Or.inl ⟨by rfl,?_⟩) ?_ ?_
        rotate_left
        ·intro w'
         go_simp
         with_reducible rfl
        rotate_left
        ·simp only[Act.put,List.setIfInBounds_toArray,List.set_cons_zero,List.set_cons_succ,i64_w,i32_w]
         rfl
        refine done_ (by kernel_rfl) ?_
        try go_wp2
        go_ret
        exact⟨fin1,bl⟩

end Go.Proofs.YtipklbjbgbbgpaaGreat.PFnExactShiftToPass
