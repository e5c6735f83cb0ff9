/- The walks of functions that FnExactPassesVerifier reaches: what they return is what the plain functions of the same names say. Laid by a program of this session after the kit's print. No conditions beyond the arguments' being read. -/
import Derived.Test.YtipklbjbgbbgpaaSPassesVerifier0
import Derived.Test.YtipklbjbgbbgpaaSPassesVerifier1
import Derived.Test.YtipklbjbgbbgpaaSPassesVerifier9
import Derived.Test.YtipklbjbgbbgpaaSPassesVerifier18
import Derived.Test.YtipklbjbgbbgpaaSPassesVerifier19
namespace Go.Proofs.Ytipklbjbgbbgpaa.PFnExactPassesVerifier
open Go.RowKit Go.Proofs.YtipklbjbgbbgpaaW.PrintWords Go.Proofs.YtipklbjbgbbgpaaW.PrintLast Go.Proofs.YtipklbjbgbbgpaaW.PrintMore
attribute [local go_sem] max2_int min2_int max_two min_two max_three min_three max_four min_four   -- for this text's walks alone
set_option linter.unusedVariables false
set_option linter.unusedSimpArgs false

def laws_FnExactPassesVerifier.j0:Nat→List (S64)→List (S68)→List (S62)→List (S66)→Bool→List Int→Int→List Int→Int→Option (Bool)
 | 0,_,_,_,_,_,_,_,_,_=>none
 | k+1,x1,x2,x15,x16,x70,x453000,x453001,x477000,x477001=>if x70=true then(some false) else((laws_toInstrument.f k x453000 x453001).bind fun bt488=>((laws_eqInstrument.f k x477000 x477001 bt488.1 bt488.2).bind fun t492=>(if t492=true then((laws_toNoteS.f k x1).bind fun t493=>((laws_eqNoteS.f k x15 t493).bind fun t496=>(if t496=true then((laws_toHoleS.f k x2).bind fun t497=>((laws_eqHoleS.f k x16 t497).bind fun t500=>(if t500=true then(some true) else(some false)))) else(some false)))) else(some false))))
def laws_FnExactPassesVerifier.f (k:Nat) (l0_0:List Int) (a0_1:Int) (l1:List (S64)) (l2:List (S68)) (a3_0:Int) (a3_1:Int) (a3_2:Int) (a4:Int):Option (Bool):=(laws_szInstrument.f l0_0 a0_1 1048576).bind fun t454=>(if t454<0 then(some true) else((laws_szNoteS.f l1 t454).bind fun t455=>(if t455<0 then(some true) else((laws_szHoleS.f l2 t455).bind fun t456=>(if t456<0 then(some true) else((laws_toInstrument.f k l0_0 a0_1).bind fun bt457=>((laws_toNoteS.f k l1).bind fun t461=>((laws_toHoleS.f k l2).bind fun t464=>((laws_toAction.f a3_0 a3_1 a3_2).bind fun bt467=>((spec_PassesVerifier.f k bt457.1 bt457.2 t461 t464 bt467.1 bt467.2.1 bt467.2.2 a4).bind fun bt470=>((laws_toInstrument.f k l0_0 a0_1).bind fun bt472=>((laws_toNoteS.f k l1).bind fun t477=>((laws_toHoleS.f k l2).bind fun t480=>((laws_toAction.f a3_0 a3_1 a3_2).bind fun bt483=>((impl_PassesVerifier.f k bt472.1 bt472.2 t477 t480 bt483.1 bt483.2.1 bt483.2.2 a4).bind fun bt486=>(if(bt486.1 != bt470.1)=true then(laws_FnExactPassesVerifier.j0 k l1 l2 t477 t480 true l0_0 a0_1 bt472.1 bt472.2) else(laws_FnExactPassesVerifier.j0 k l1 l2 t477 t480 (bt486.2 != bt470.2) l0_0 a0_1 bt472.1 bt472.2)))))))))))))))))
def laws_FnExactPassesVerifier.T11:Bool×List (List Nat×List Nat):=(true,[([],[]),([0],[0]),([],[]),([2,1],[2]),([],[]),([4,3],[4]),([],[]),([6,5],[6]),([],[]),([1,3,5,7,8,7],[1,3,5,7,8]),([9],[9]),([10],[10]),([10],[10]),([11,9,0,1,2,3,4,5,6,7,8,9,10,11],[11]),([12,13,0,1,2,3,4,5,6,7,8,9,10,11,12,13],[12])])
def laws_FnExactPassesVerifier.B11:List Nat:=[0,1,0,7,0,31,0,127,0,511,1023,2047,2047,4095,16383]
theorem laws_FnExactPassesVerifier.tab11:rtab .any (opsOf Try.f3 11)=laws_FnExactPassesVerifier.T11:=by kernel_rfl
theorem laws_FnExactPassesVerifier.bits11:waitsOk laws_FnExactPassesVerifier.T11.2 laws_FnExactPassesVerifier.B11=true:=by kernel_rfl
def laws_FnExactPassesVerifier.T15:Bool×List (List Nat×List Nat):=(true,[([],[]),([],[]),([],[]),([],[]),([3],[3]),([],[]),([0,1,2,4,5,4],[0,1,2,4,5]),([6],[6]),([7],[7]),([7],[7]),([8,6,0,1,2,3,4,5,6,7,8],[8]),([9,10,0,1,2,3,4,5,6,7,8,9,10],[9])])
def laws_FnExactPassesVerifier.B15:List Nat:=[0,0,0,0,8,0,63,127,255,255,511,2047]
theorem laws_FnExactPassesVerifier.tab15:rtab .any (opsOf Try.f3 15)=laws_FnExactPassesVerifier.T15:=by kernel_rfl
theorem laws_FnExactPassesVerifier.bits15:waitsOk laws_FnExactPassesVerifier.T15.2 laws_FnExactPassesVerifier.B15=true:=by kernel_rfl
set_option maxHeartbeats 8000000 in
set_option maxRecDepth 100000 in
theorem laws_FnExactPassesVerifier.calls (k:Nat) (A0_0:Option Addr) (c0_0:Nat) (l0_0:List Int) (a0_1:Int) (A1:Option Addr) (c1:Nat) (l1:List (S64)) (A2:Option Addr) (c2:Nat) (l2:List (S68)) (a3_0:Int) (a3_1:Int) (a3_2:Int) (a4:Int) (r:Bool) (w:World) (hr0_0:Kd.C (Kd.int .i64) w A0_0 l0_0.length l0_0) (hc0_0:l0_0.length≤c0_0) (hr1:Kd.C k64 w A1 l1.length l1) (hc1:l1.length≤c1) (hr2:Kd.C k68 w A2 l2.length l2) (hc2:l2.length≤c2) (h:laws_FnExactPassesVerifier.f k l0_0 a0_1 l1 l2 a3_0 a3_1 a3_2 a4=some r) :
  Calls Try.prog 3 #[.agg #[.slice A0_0 l0_0.length c0_0,.int .i64 a0_1],.slice A1 l1.length c1,.slice A2 l2.length c2,.agg #[.int .i64 a3_0,.int .i64 a3_1,.int .i64 a3_2],.int .i64 a4] w fun e w'=>e = .returned (.bool r)∧Below w.heap.size w w':=by
 have hu24:=Try.underlying24
 have hu28:=Try.underlying28
 have hu34:=Try.underlying34
 have HR0_0:=am hr0_0
 have HC0_0:=am hc0_0
 clear hr0_0 hc0_0
 have HR1:=am hr1
 have HC1:=am hc1
 clear hr1 hc1
 have HR2:=am hr2
 have HC2:=am hc2
 clear hr2 hc2
 have HB:=am (Below.refl w.heap.size w)
 have H:((laws_szInstrument.f l0_0 a0_1 1048576).bind fun t454=>(if t454<0 then(some true) else((laws_szNoteS.f l1 t454).bind fun t455=>(if t455<0 then(some true) else((laws_szHoleS.f l2 t455).bind fun t456=>(if t456<0 then(some true) else((laws_toInstrument.f k l0_0 a0_1).bind fun bt457=>((laws_toNoteS.f k l1).bind fun t461=>((laws_toHoleS.f k l2).bind fun t464=>((laws_toAction.f a3_0 a3_1 a3_2).bind fun bt467=>((spec_PassesVerifier.f k bt457.1 bt457.2 t461 t464 bt467.1 bt467.2.1 bt467.2.2 a4).bind fun bt470=>((laws_toInstrument.f k l0_0 a0_1).bind fun bt472=>((laws_toNoteS.f k l1).bind fun t477=>((laws_toHoleS.f k l2).bind fun t480=>((laws_toAction.f a3_0 a3_1 a3_2).bind fun bt483=>((impl_PassesVerifier.f k bt472.1 bt472.2 t477 t480 bt483.1 bt483.2.1 bt483.2.2 a4).bind fun bt486=>(if(bt486.1 != bt470.1)=true then(laws_FnExactPassesVerifier.j0 k l1 l2 t477 t480 true l0_0 a0_1 bt472.1 bt472.2) else(laws_FnExactPassesVerifier.j0 k l1 l2 t477 t480 (bt486.2 != bt470.2) l0_0 a0_1 bt472.1 bt472.2))))))))))))))))))=some r:=h
 clear h
 obtain⟨t454,A6,H⟩:=bnd H
 rcases itc H with⟨c7,H⟩|⟨c7,H⟩
 ·have c7b0:=decide_eq_true c7
  clear c7
  obtain rfl:=Option.some.inj H
  go_enter Try.func3,Try.ntmps3
  go_wp2_with (first|((with_reducible refine gate_dst (N:=5) rfl ?_);refine box_event ?hg (N:=5) ?hd (cs := #[.slice A0_0 l0_0.length c0_0,.int .i64 a0_1]) (t:=24) ?hr ?_;(case hd=>rfl);(case hg=>rfl);(case hr=>first|(go_simp;done)|(go_simp;rfl));intro gb452 hg w8 hbox hb;have BK452:=am (hbox);have GW452:=am (ge_ bl hg);have GE452:=am (ge_ bl hg);replace HB:=am (below_step bl hb);clear hb hbox hg)|((with_reducible refine gate_dst (N:=8) rfl ?_);refine box_event ?hg (N:=8) ?hd (cs := #[.int .i64 a3_0,.int .i64 a3_1,.int .i64 a3_2]) (t:=28) ?hr ?_;(case hd=>rfl);(case hg=>rfl);(case hr=>first|(go_simp;done)|(go_simp;rfl));intro gb453 hg w9 hbox hb;have BK453:=am (hbox);have GW453:=am (ge_ bl hg);have GE453:=am (ge_ bl hg);replace HB:=am (below_step bl hb);have NB452_453:=am (nl (bup BK452.out) hg);have NB453_452:=am (ng (bup BK452.out) hg);replace BK452:=am (blk_below (bup BK452.out) hb);clear hb hbox hg;have hnb10:=NB452_453.out;have hnc10:=NB453_452.out;have hcz11_0:=bc BK452.out 0;have hcz11_1:=bc BK452.out 1;have hfz11_0:=blk_frozen BK452.out 0;have hfz11_1:=blk_frozen BK452.out 1)|((with_reducible refine gate_callee (f:=6) rfl ?_);refine goesL_ (some 21) rfl rfl Try.func6 (by kernel_rfl) rfl #[.agg #[.slice A0_0 l0_0.length c0_0,.int .i64 a0_1],.int .i64 1048576] rfl tl ?_;(with_reducible refine(laws_szInstrument.calls _ _ l0_0 a0_1 1048576 t454 _ ?side1 ?side2 A6.out).mono ?_);(case side1=>exact cup (Kd.C_below HR0_0.out HB.out));(case side2=>exact HC0_0.out);rintro e w12 ⟨rfl,hb⟩;refine⟨_,rfl,?_⟩;replace BK452:=am (blk_below (bup BK452.out) hb);replace BK453:=am (blk_below (bup BK453.out) hb);replace HB:=am (below_step bl hb);(try clear hb)))
  go_ret
  exact⟨fin1,bl⟩
 ·have c7b0:=decide_eq_false c7
  clear c7
  obtain⟨t455,A13,H⟩:=bnd H
  rcases itc H with⟨c14,H⟩|⟨c14,H⟩
  ·have c14b0:=decide_eq_true c14
   clear c14
   obtain rfl:=Option.some.inj H
   go_enter Try.func3,Try.ntmps3
   go_wp2_with (first|((with_reducible refine gate_dst (N:=5) rfl ?_);refine box_event ?hg (N:=5) ?hd (cs := #[.slice A0_0 l0_0.length c0_0,.int .i64 a0_1]) (t:=24) ?hr ?_;(case hd=>rfl);(case hg=>rfl);(case hr=>first|(go_simp;done)|(go_simp;rfl));intro gb452 hg w15 hbox hb;have BK452:=am (hbox);have GW452:=am (ge_ bl hg);have GE452:=am (ge_ bl hg);replace HB:=am (below_step bl hb);clear hb hbox hg)|((with_reducible refine gate_dst (N:=8) rfl ?_);refine box_event ?hg (N:=8) ?hd (cs := #[.int .i64 a3_0,.int .i64 a3_1,.int .i64 a3_2]) (t:=28) ?hr ?_;(case hd=>rfl);(case hg=>rfl);(case hr=>first|(go_simp;done)|(go_simp;rfl));intro gb453 hg w16 hbox hb;have BK453:=am (hbox);have GW453:=am (ge_ bl hg);have GE453:=am (ge_ bl hg);replace HB:=am (below_step bl hb);have NB452_453:=am (nl (bup BK452.out) hg);have NB453_452:=am (ng (bup BK452.out) hg);replace BK452:=am (blk_below (bup BK452.out) hb);clear hb hbox hg;have hnb17:=NB452_453.out;have hnc17:=NB453_452.out;have hcz18_0:=bc BK452.out 0;have hcz18_1:=bc BK452.out 1;have hfz18_0:=blk_frozen BK452.out 0;have hfz18_1:=blk_frozen BK452.out 1)|((with_reducible refine gate_callee (f:=6) rfl ?_);refine goesL_ (some 21) rfl rfl Try.func6 (by kernel_rfl) rfl #[.agg #[.slice A0_0 l0_0.length c0_0,.int .i64 a0_1],.int .i64 1048576] rfl tl ?_;(with_reducible refine(laws_szInstrument.calls _ _ l0_0 a0_1 1048576 t454 _ ?side1 ?side2 A6.out).mono ?_);(case side1=>exact cup (Kd.C_below HR0_0.out HB.out));(case side2=>exact HC0_0.out);rintro e w19 ⟨rfl,hb⟩;refine⟨_,rfl,?_⟩;replace BK452:=am (blk_below (bup BK452.out) hb);replace BK453:=am (blk_below (bup BK453.out) hb);replace HB:=am (below_step bl hb);(try clear hb))|((with_reducible refine gate_callee (f:=7) rfl ?_);refine goesL_ (some 26) rfl rfl Try.func7 (by kernel_rfl) rfl #[.slice A1 l1.length c1,.int .i64 t454] rfl tl ?_;(with_reducible refine(laws_szNoteS.calls _ _ l1 t454 t455 _ ?side1 ?side2 A13.out).mono ?_);(case side1=>exact cup (Kd.C_below HR1.out HB.out));(case side2=>exact HC1.out);rintro e w' ⟨rfl,⟨nd,rfl⟩⟩;refine⟨_,rfl,?_⟩))
   go_ret
   exact⟨fin1,bl⟩
  ·have c14b0:=decide_eq_false c14
   clear c14
   obtain⟨t456,A20,H⟩:=bnd H
   rcases itc H with⟨c21,H⟩|⟨c21,H⟩
   ·have c21b0:=decide_eq_true c21
    clear c21
    obtain rfl:=Option.some.inj H
    go_enter Try.func3,Try.ntmps3
    go_wp2_with (first|((with_reducible refine gate_dst (N:=5) rfl ?_);refine box_event ?hg (N:=5) ?hd (cs := #[.slice A0_0 l0_0.length c0_0,.int .i64 a0_1]) (t:=24) ?hr ?_;(case hd=>rfl);(case hg=>rfl);(case hr=>first|(go_simp;done)|(go_simp;rfl));intro gb452 hg w22 hbox hb;have BK452:=am (hbox);have GW452:=am (ge_ bl hg);have GE452:=am (ge_ bl hg);replace HB:=am (below_step bl hb);clear hb hbox hg)|((with_reducible refine gate_dst (N:=8) rfl ?_);refine box_event ?hg (N:=8) ?hd (cs := #[.int .i64 a3_0,.int .i64 a3_1,.int .i64 a3_2]) (t:=28) ?hr ?_;(case hd=>rfl);(case hg=>rfl);(case hr=>first|(go_simp;done)|(go_simp;rfl));intro gb453 hg w23 hbox hb;have BK453:=am (hbox);have GW453:=am (ge_ bl hg);have GE453:=am (ge_ bl hg);replace HB:=am (below_step bl hb);have NB452_453:=am (nl (bup BK452.out) hg);have NB453_452:=am (ng (bup BK452.out) hg);replace BK452:=am (blk_below (bup BK452.out) hb);clear hb hbox hg;have hnb24:=NB452_453.out;have hnc24:=NB453_452.out;have hcz25_0:=bc BK452.out 0;have hcz25_1:=bc BK452.out 1;have hfz25_0:=blk_frozen BK452.out 0;have hfz25_1:=blk_frozen BK452.out 1)|((with_reducible refine gate_callee (f:=6) rfl ?_);refine goesL_ (some 21) rfl rfl Try.func6 (by kernel_rfl) rfl #[.agg #[.slice A0_0 l0_0.length c0_0,.int .i64 a0_1],.int .i64 1048576] rfl tl ?_;(with_reducible refine(laws_szInstrument.calls _ _ l0_0 a0_1 1048576 t454 _ ?side1 ?side2 A6.out).mono ?_);(case side1=>exact cup (Kd.C_below HR0_0.out HB.out));(case side2=>exact HC0_0.out);rintro e w26 ⟨rfl,hb⟩;refine⟨_,rfl,?_⟩;replace BK452:=am (blk_below (bup BK452.out) hb);replace BK453:=am (blk_below (bup BK453.out) hb);replace HB:=am (below_step bl hb);(try clear hb))|((with_reducible refine gate_callee (f:=7) rfl ?_);refine goesL_ (some 26) rfl rfl Try.func7 (by kernel_rfl) rfl #[.slice A1 l1.length c1,.int .i64 t454] rfl tl ?_;(with_reducible refine(laws_szNoteS.calls _ _ l1 t454 t455 _ ?side1 ?side2 A13.out).mono ?_);(case side1=>exact cup (Kd.C_below HR1.out HB.out));(case side2=>exact HC1.out);rintro e w' ⟨rfl,⟨nd,rfl⟩⟩;refine⟨_,rfl,?_⟩)|((with_reducible refine gate_callee (f:=8) rfl ?_);refine goesL_ (some 31) rfl rfl Try.func8 (by kernel_rfl) rfl #[.slice A2 l2.length c2,.int .i64 t455] rfl tl ?_;(with_reducible refine(laws_szHoleS.calls _ _ l2 t455 t456 _ ?side1 ?side2 A20.out).mono ?_);(case side1=>repeat(first|exact(Kd.C_below HR2.out bl)|(with_reducible refine Kd.C_alloc ?_ _)|(with_reducible refine Kd.C_drewN ?_ _)|(with_reducible refine Kd.C_drew ?_)));(case side2=>exact HC2.out);rintro e w' ⟨rfl,⟨nd,rfl⟩⟩;refine⟨_,rfl,?_⟩))
    go_ret
    exact⟨fin1,bl⟩
   ·have c21b0:=decide_eq_false c21
    clear c21
    obtain⟨⟨t457,t460⟩,A27,H⟩:=bnd H;dsimp only at H
    obtain⟨t461,A28,H⟩:=bnd H
    obtain⟨t464,A29,H⟩:=bnd H
    obtain⟨⟨t467,t468,t469⟩,A30,H⟩:=bnd H;dsimp only at H
    obtain⟨⟨t470,t471⟩,A31,H⟩:=bnd H;dsimp only at H
    obtain⟨⟨t472,t475⟩,A32,H⟩:=bnd H;dsimp only at H
    obtain⟨t477,A33,H⟩:=bnd H
    obtain⟨t480,A34,H⟩:=bnd H
    obtain⟨⟨t483,t484,t485⟩,A35,H⟩:=bnd H;dsimp only at H
    obtain⟨⟨t486,t487⟩,A36,H⟩:=bnd H;dsimp only at H
    have HC37:=am H
    clear H
    go_enter Try.func3,Try.ntmps3
    try go_wp2_with (first|((with_reducible refine gate_dst (N:=5) rfl ?_);refine box_event ?hg (N:=5) ?hd (cs := #[.slice A0_0 l0_0.length c0_0,.int .i64 a0_1]) (t:=24) ?hr ?_;(case hd=>rfl);(case hg=>rfl);(case hr=>first|(go_simp;done)|(go_simp;rfl));intro gb452 hg w38 hbox hb;have BK452:=am (hbox);have GW452:=am (ge_ bl hg);have GE452:=am (ge_ bl hg);replace HB:=am (below_step bl hb);clear hb hbox hg)|((with_reducible refine gate_dst (N:=8) rfl ?_);refine box_event ?hg (N:=8) ?hd (cs := #[.int .i64 a3_0,.int .i64 a3_1,.int .i64 a3_2]) (t:=28) ?hr ?_;(case hd=>rfl);(case hg=>rfl);(case hr=>first|(go_simp;done)|(go_simp;rfl));intro gb453 hg w39 hbox hb;have BK453:=am (hbox);have GW453:=am (ge_ bl hg);have GE453:=am (ge_ bl hg);replace HB:=am (below_step bl hb);have NB452_453:=am (nl (bup BK452.out) hg);have NB453_452:=am (ng (bup BK452.out) hg);replace BK452:=am (blk_below (bup BK452.out) hb);clear hb hbox hg;have hnb40:=NB452_453.out;have hnc40:=NB453_452.out;have hcz41_0:=bc BK452.out 0;have hcz41_1:=bc BK452.out 1;have hfz41_0:=blk_frozen BK452.out 0;have hfz41_1:=blk_frozen BK452.out 1)|((with_reducible refine gate_callee (f:=6) rfl ?_);refine goesL_ (some 21) rfl rfl Try.func6 (by kernel_rfl) rfl #[.agg #[.slice A0_0 l0_0.length c0_0,.int .i64 a0_1],.int .i64 1048576] rfl tl ?_;(with_reducible refine(laws_szInstrument.calls _ _ l0_0 a0_1 1048576 t454 _ ?side1 ?side2 A6.out).mono ?_);(case side1=>exact cup (Kd.C_below HR0_0.out HB.out));(case side2=>exact HC0_0.out);rintro e w42 ⟨rfl,hb⟩;refine⟨_,rfl,?_⟩;replace BK452:=am (blk_below (bup BK452.out) hb);replace BK453:=am (blk_below (bup BK453.out) hb);replace HB:=am (below_step bl hb);(try clear hb))|((with_reducible refine gate_callee (f:=7) rfl ?_);refine goesL_ (some 26) rfl rfl Try.func7 (by kernel_rfl) rfl #[.slice A1 l1.length c1,.int .i64 t454] rfl tl ?_;(with_reducible refine(laws_szNoteS.calls _ _ l1 t454 t455 _ ?side1 ?side2 A13.out).mono ?_);(case side1=>exact cup (Kd.C_below HR1.out HB.out));(case side2=>exact HC1.out);rintro e w' ⟨rfl,⟨nd,rfl⟩⟩;refine⟨_,rfl,?_⟩;(try(rw[drewN_self w42];generalize hq_:World.drewN w42 _=w42;have n0_:Aside0 (w42.heap[gb452]?=some (.cells #[.slice A0_0 l0_0.length c0_0,.int .i64 a0_1] 24 (0,0))):=⟨by rw[← hq_];exact(bup BK452.out)⟩;have n1_:Aside0 (w42.heap[gb453]?=some (.cells #[.int .i64 a3_0,.int .i64 a3_1,.int .i64 a3_2] 28 (0,0))):=⟨by rw[← hq_];exact(bup BK453.out)⟩;have n2_:Aside0 (Below w.heap.size w w42):=⟨by rw[← hq_];exact bl⟩;clear BK452 BK453 HB hq_;have BK452:=n0_;have BK453:=n1_;have HB:=n2_;clear n0_ n1_ n2_)))|((with_reducible refine gate_callee (f:=8) rfl ?_);refine goesL_ (some 31) rfl rfl Try.func8 (by kernel_rfl) rfl #[.slice A2 l2.length c2,.int .i64 t455] rfl tl ?_;(with_reducible refine(laws_szHoleS.calls _ _ l2 t455 t456 _ ?side1 ?side2 A20.out).mono ?_);(case side1=>exact cup (Kd.C_below HR2.out HB.out));(case side2=>exact HC2.out);rintro e w' ⟨rfl,⟨nd,rfl⟩⟩;refine⟨_,rfl,?_⟩;(try(rw[drewN_self w42];generalize hq_:World.drewN w42 _=w42;have n0_:Aside0 (w42.heap[gb452]?=some (.cells #[.slice A0_0 l0_0.length c0_0,.int .i64 a0_1] 24 (0,0))):=⟨by rw[← hq_];exact(bup BK452.out)⟩;have n1_:Aside0 (w42.heap[gb453]?=some (.cells #[.int .i64 a3_0,.int .i64 a3_1,.int .i64 a3_2] 28 (0,0))):=⟨by rw[← hq_];exact(bup BK453.out)⟩;have n2_:Aside0 (Below w.heap.size w w42):=⟨by rw[← hq_];exact bl⟩;clear BK452 BK453 HB hq_;have BK452:=n0_;have BK453:=n1_;have HB:=n2_;clear n0_ n1_ n2_))))
    replace BK452:=am (bD_ BK452.out)
    replace BK453:=am (bD_ BK453.out)
    replace HB:=am (below_drew1 HB.out)
    refine start_ (n:=15) (S:=fun w'=>w'.cell? ⟨gb452,0,none⟩=some (.slice A0_0 l0_0.length c0_0)∧w'.cell? ⟨gb452,1,none⟩=some (.int .i64 a0_1)∧w'.cell? ⟨gb453,0,none⟩=some (.int .i64 a3_0)∧w'.cell? ⟨gb453,1,none⟩=some (.int .i64 a3_1)∧w'.cell? ⟨gb453,2,none⟩=some (.int .i64 a3_2)) (ds:=[]) (fl 0 15) (by kernel_rfl) rfl rfl ⟨bc BK452.out 0,bc BK452.out 1,bc BK453.out 0,bc BK453.out 1,bc BK453.out 2⟩ (fun hHeld=>?_);refine with_tabW laws_FnExactPassesVerifier.tab11 laws_FnExactPassesVerifier.bits11 (fun HT_ HW_=>?_)
    generalize w42.drew=w43 at BK452 BK453 HB hHeld ⊢
    refine pu HT_.out 2 (some 37) #[false,false,true,false,false,false,false,false,false,false,false,false,false,false,false] (h:=?_)
    refine pu HT_.out 4 (some 39) #[false,false,true,false,true,false,false,false,false,false,false,false,false,false,false] (h:=?_)
    refine pu HT_.out 8 (some 43) #[false,false,true,false,true,false,false,false,true,false,false,false,false,false,false] (h:=?_)
    refine ta HT_.out HW_.out 0 (some 35) #[true,false,true,false,true,false,false,false,true,false,false,false,false,false,false] hHeld rfl (by rintro w' ⟨s0,s1,s2,s3,s4⟩;go_simp;with_reducible rfl) (h:=?_)
    refine ta HT_.out HW_.out 6 (some 41) #[true,false,true,false,true,false,true,false,true,false,false,false,false,false,false] hHeld rfl (by rintro w' ⟨s0,s1,s2,s3,s4⟩;go_simp;with_reducible rfl) (h:=?_)
    refine one_ (i:=1) (N:=some 36) #[true,true,true,false,true,false,true,false,true,false,false,false,false,false,false] rfl rfl (one_of HT_.out (by kernel_rfl)) (by decide) (fun K hK=>?_)
    refine goes_ Try.func10 (by kernel_rfl) rfl #[.agg #[.slice A0_0 l0_0.length c0_0,.int .i64 a0_1]] (by rfl) rfl rfl tl ?_
    with_reducible refine(laws_toInstrument.calls k _ _ l0_0 a0_1 t457 t460 _ ?side1 ?side2 A27.out).mono ?_
    (case side1=>exact cup (Kd.C_below HR0_0.out HB.out))
    (case side2=>exact HC0_0.out)
    rintro e w44 ⟨v458,rfl,ho0,hb⟩
    refine⟨_,rfl,?_⟩
    have HO459:=am (Kd.R_lower ho0 (below_size bl))
    replace BK452:=am (blk_below (bup BK452.out) hb)
    replace BK453:=am (blk_below (bup BK453.out) hb)
    replace HB:=am (below_step bl hb)
    (try clear hb)
    (try clear ho0)
    refine hK.out _ _ ⟨bc BK452.out 0,bc BK452.out 1,bc BK453.out 0,bc BK453.out 1,bc BK453.out 2⟩ (fun hHeld=>?_)
    clear hK K
    refine norm_ (a':=?_) ?_ ?_
    rotate_left
    ·show Act.put _ (some 36) _=_
     simp only[Act.put,List.setIfInBounds_toArray,List.set_cons_zero,List.set_cons_succ,i64_w,i32_w]
     rfl
    refine one_ (i:=3) (N:=some 38) #[true,true,true,true,true,false,true,false,true,false,false,false,false,false,false] rfl rfl (one_of HT_.out (by kernel_rfl)) (by decide) (fun K hK=>?_)
    refine goes_ Try.func11 (by kernel_rfl) rfl #[.slice A1 l1.length c1] (by rfl) rfl rfl tl ?_
    with_reducible refine(laws_toNoteS.calls k _ _ l1 t461 _ ?side1 ?side2 A28.out).mono ?_
    (case side1=>exact cup (Kd.C_below HR1.out HB.out))
    (case side2=>exact HC1.out)
    rintro e w45 ⟨v462,rfl,ho0,hb⟩
    refine⟨_,rfl,?_⟩
    replace HO459:=am (Kd.R_below (rup HO459.out) hb)
    have HO463:=am (Kd.R_lower ho0 (below_size bl))
    replace BK452:=am (blk_below (bup BK452.out) hb)
    replace BK453:=am (blk_below (bup BK453.out) hb)
    replace HB:=am (below_step bl hb)
    (try clear hb)
    (try clear ho0)
    refine hK.out _ _ ⟨bc BK452.out 0,bc BK452.out 1,bc BK453.out 0,bc BK453.out 1,bc BK453.out 2⟩ (fun hHeld=>?_)
    clear hK K
    refine norm_ (a':=?_) ?_ ?_
    rotate_left
    ·show Act.put _ (some 38) _=_
     simp only[Act.put,List.setIfInBounds_toArray,List.set_cons_zero,List.set_cons_succ,i64_w,i32_w]
     rfl
    refine one_ (i:=5) (N:=some 40) #[true,true,true,true,true,true,true,false,true,false,false,false,false,false,false] rfl rfl (one_of HT_.out (by kernel_rfl)) (by decide) (fun K hK=>?_)
    refine goes_ Try.func12 (by kernel_rfl) rfl #[.slice A2 l2.length c2] (by rfl) rfl rfl tl ?_
    with_reducible refine(laws_toHoleS.calls k _ _ l2 t464 _ ?side1 ?side2 A29.out).mono ?_
    (case side1=>exact cup (Kd.C_below HR2.out HB.out))
    (case side2=>exact HC2.out)
    rintro e w46 ⟨v465,rfl,ho0,hb⟩
    refine⟨_,rfl,?_⟩
    replace HO459:=am (Kd.R_below (rup HO459.out) hb)
    replace HO463:=am (Kd.R_below (rup HO463.out) hb)
    have HO466:=am (Kd.R_lower ho0 (below_size bl))
    replace BK452:=am (blk_below (bup BK452.out) hb)
    replace BK453:=am (blk_below (bup BK453.out) hb)
    replace HB:=am (below_step bl hb)
    (try clear hb)
    (try clear ho0)
    refine hK.out _ _ ⟨bc BK452.out 0,bc BK452.out 1,bc BK453.out 0,bc BK453.out 1,bc BK453.out 2⟩ (fun hHeld=>?_)
    clear hK K
    refine norm_ (a':=?_) ?_ ?_
    rotate_left
    ·show Act.put _ (some 40) _=_
     simp only[Act.put,List.setIfInBounds_toArray,List.set_cons_zero,List.set_cons_succ,i64_w,i32_w]
     rfl
    refine one_ (i:=7) (N:=some 42) (fl 9 15) rfl rfl (one_of HT_.out (by kernel_rfl)) (by decide) (fun K hK=>?_)
    refine goes_ Try.func13 (by kernel_rfl) rfl #[.agg #[.int .i64 a3_0,.int .i64 a3_1,.int .i64 a3_2]] (by rfl) rfl rfl tl ?_
    with_reducible refine(laws_toAction.calls a3_0 a3_1 a3_2 t467 t468 t469 _ A30.out).mono ?_
    rintro e w47 ⟨rfl,hb⟩
    refine⟨_,rfl,?_⟩
    replace HO459:=am (Kd.R_below (rup HO459.out) hb)
    replace HO463:=am (Kd.R_below (rup HO463.out) hb)
    replace HO466:=am (Kd.R_below (rup HO466.out) hb)
    replace BK452:=am (blk_below (bup BK452.out) hb)
    replace BK453:=am (blk_below (bup BK453.out) hb)
    replace HB:=am (below_step bl hb)
    (try clear hb)
    obtain⟨Ao48,co48,eo48⟩:=Kd.R_slice HO459.out
    (first|subst eo48|(injection eo48 with f1_ f2_ f3_;have f4_:=f1_.symm;have f5_:=f3_.symm;clear f1_ f2_ f3_;subst f4_;subst f5_))
    obtain⟨Ao49,co49,eo49⟩:=Kd.R_slice HO463.out
    (first|subst eo49|(injection eo49 with f1_ f2_ f3_;have f4_:=f1_.symm;have f5_:=f3_.symm;clear f1_ f2_ f3_;subst f4_;subst f5_))
    obtain⟨Ao50,co50,eo50⟩:=Kd.R_slice HO466.out
    (first|subst eo50|(injection eo50 with f1_ f2_ f3_;have f4_:=f1_.symm;have f5_:=f3_.symm;clear f1_ f2_ f3_;subst f4_;subst f5_))
    refine hK.out _ _ ⟨bc BK452.out 0,bc BK452.out 1,bc BK453.out 0,bc BK453.out 1,bc BK453.out 2⟩ (fun hHeld=>?_)
    clear hK K
    refine norm_ (a':=?_) ?_ ?_
    rotate_left
    ·show Act.put _ (some 42) _=_
     simp only[Act.put,List.setIfInBounds_toArray,List.set_cons_zero,List.set_cons_succ,i64_w,i32_w]
     rfl
    refine one_ (i:=9) (N:=some 44) (fl 10 15) rfl rfl (one_of HT_.out (by kernel_rfl)) (by decide) (fun K hK=>?_)
    refine goes_ Try.func9 (by kernel_rfl) rfl #[.agg #[.slice Ao48 t457.length co48,.int .i64 t460],.slice Ao49 t461.length co49,.slice Ao50 t464.length co50,.agg #[.int .i64 t467,.int .i64 t468,.int .i64 t469],.int .i64 a4] (by rfl) rfl rfl tl ?_
    with_reducible refine(spec_PassesVerifier.calls k _ _ t457 t460 _ _ t461 _ _ t464 t467 t468 t469 a4 t470 t471 _ ?side1 ?side2 ?side3 ?side4 ?side5 ?side6 A31.out).mono ?_
    (case side1=>repeat(first|exact(Kd.R_reads' HO459.out).2.2|(with_reducible refine Kd.C_alloc ?_ _)|(with_reducible refine Kd.C_drewN ?_ _)|(with_reducible refine Kd.C_drew ?_)))
    (case side2=>exact(Kd.R_reads' HO459.out).2.1)
    (case side3=>repeat(first|exact(Kd.R_reads' HO463.out).2.2|(with_reducible refine Kd.C_alloc ?_ _)|(with_reducible refine Kd.C_drewN ?_ _)|(with_reducible refine Kd.C_drew ?_)))
    (case side4=>exact(Kd.R_reads' HO463.out).2.1)
    (case side5=>repeat(first|exact(Kd.R_reads' HO466.out).2.2|(with_reducible refine Kd.C_alloc ?_ _)|(with_reducible refine Kd.C_drewN ?_ _)|(with_reducible refine Kd.C_drew ?_)))
    (case side6=>exact(Kd.R_reads' HO466.out).2.1)
    rintro e w51 ⟨rfl,hb⟩
    refine⟨_,rfl,?_⟩
    replace HO459:=am (Kd.R_below (rup HO459.out) hb)
    replace HO463:=am (Kd.R_below (rup HO463.out) hb)
    replace HO466:=am (Kd.R_below (rup HO466.out) hb)
    replace BK452:=am (blk_below (bup BK452.out) hb)
    replace BK453:=am (blk_below (bup BK453.out) hb)
    replace HB:=am (below_step bl hb)
    (try clear hb)
    refine hK.out _ _ ⟨bc BK452.out 0,bc BK452.out 1,bc BK453.out 0,bc BK453.out 1,bc BK453.out 2⟩ (fun hHeld=>?_)
    clear hK K
    refine norm_ (a':=?_) ?_ ?_
    rotate_left
    ·show Act.put _ (some 44) _=_
     simp only[Act.put,List.setIfInBounds_toArray,List.set_cons_zero,List.set_cons_succ,i64_w,i32_w]
     rfl
    refine pu HT_.out 10 (some 34) (fl 11 15) (h:=?_)
    refine pu HT_.out 11 (some 45) (fl 12 15) (h:=?_)
    refine pu HT_.out 12 (some 46) (fl 13 15) (h:=?_)
    refine pu HT_.out 13 (some 12) (fl 14 15) (h:=?_)
    refine pu HT_.out 14 (some 13) (fl 15 15) (h:=?_)
    refine done_ (done_of HT_.out (by kernel_rfl)) ?_
    have hcz52_0:=bc BK452.out 0
    have hcz52_1:=bc BK452.out 1
    have hfz52_0:=blk_frozen BK452.out 0
    have hfz52_1:=blk_frozen BK452.out 1
    try go_wp2_with (first|((with_reducible refine gate_callee (f:=10) rfl ?_);refine goesL_ (some 48) rfl rfl Try.func10 (by kernel_rfl) rfl #[.agg #[.slice A0_0 l0_0.length c0_0,.int .i64 a0_1]] rfl tl ?_;(with_reducible refine(laws_toInstrument.calls k _ _ l0_0 a0_1 t472 t475 _ ?side1 ?side2 A32.out).mono ?_);(case side1=>exact cup (Kd.C_below HR0_0.out HB.out));(case side2=>exact HC0_0.out);rintro e w53 ⟨v473,rfl,ho0,hb⟩;refine⟨_,rfl,?_⟩;replace HO463:=am (Kd.R_below (rup HO463.out) hb);replace HO466:=am (Kd.R_below (rup HO466.out) hb);have HO474:=am (Kd.R_lower (Kd.R_new' ho0 (Kd.R_lt (rup HO459.out))) (below_size bl));replace HO459:=am (Kd.R_elder' (rup HO459.out) (Kd.R_base ho0) hb);replace BK452:=am (blk_below (bup BK452.out) hb);replace BK453:=am (blk_below (bup BK453.out) hb);replace HB:=am (below_step bl hb);(try clear hb);(try clear ho0))|((with_reducible refine gate_dst (N:=14) rfl ?_);refine box_event ?hg (N:=14) ?hd (cs := #[.slice none 0 0,.int .i64 0]) (t:=34) ?hr ?_;(case hd=>rfl);(case hg=>rfl);(case hr=>first|(go_simp;done)|(go_simp;rfl));intro gb476 hg w54 hbox hb;replace HO459:=am (Kd.R_below (rup HO459.out) hb);replace HO463:=am (Kd.R_below (rup HO463.out) hb);replace HO466:=am (Kd.R_below (rup HO466.out) hb);replace HO474:=am (Kd.R_below (rup HO474.out) hb);have BK476:=am (hbox);have GW476:=am (ge_ bl hg);have GE476:=am (ge_ bl hg);replace HB:=am (below_step bl hb);have NB452_476:=am (nl (bup BK452.out) hg);have NB476_452:=am (ng (bup BK452.out) hg);replace BK452:=am (blk_below (bup BK452.out) hb);have NB453_476:=am (nl (bup BK453.out) hg);have NB476_453:=am (ng (bup BK453.out) hg);replace BK453:=am (blk_below (bup BK453.out) hb);clear hb hbox hg;obtain⟨Ao55,co55,eo55⟩:=Kd.R_slice HO474.out;subst eo55;have hnb56:=NB476_452.out;have hnc56:=NB452_476.out;have hnb57:=NB476_453.out;have hnc57:=NB453_476.out;have hcz58_0:=bc BK476.out 0;have hcz58_1:=bc BK476.out 1;have hfz58_0:=blk_frozen BK476.out 0;have hfz58_1:=blk_frozen BK476.out 1)|((with_reducible refine gate_callee (f:=11) rfl ?_);refine goesL_ (some 50) rfl rfl Try.func11 (by kernel_rfl) rfl #[.slice A1 l1.length c1] rfl tl ?_;(with_reducible refine(laws_toNoteS.calls k _ _ l1 t477 _ ?side1 ?side2 A33.out).mono ?_);(case side1=>exact Kd.C_below HR1.out bl);(case side2=>exact HC1.out);rintro e w59 ⟨v478,rfl,ho0,hb⟩;refine⟨_,rfl,?_⟩;replace HO459:=am (Kd.R_below (by(with_reducible repeat(first|apply Kd.R_alloc|apply Kd.R_drewN|apply Kd.R_drew));exact(Kd.R_mono (Kd.R_far (p:=⟨gb476,1,none⟩) (Kd.R_far (p:=⟨gb476,0,none⟩) (Kd.R_types HO459.out BK476.out (by decide)) (fun _ hk=>hk.2) (.slice Ao55 t472.length co55)) (fun _ hk=>hk.2) (.int .i64 t475)) (fun _ h_=>h_.1))) hb);replace HO466:=am (Kd.R_below (by(with_reducible repeat(first|apply Kd.R_alloc|apply Kd.R_drewN|apply Kd.R_drew));exact(Kd.R_mono (Kd.R_far (p:=⟨gb476,1,none⟩) (Kd.R_far (p:=⟨gb476,0,none⟩) (Kd.R_types HO466.out BK476.out (by decide)) (fun _ hk=>hk.2) (.slice Ao55 t472.length co55)) (fun _ hk=>hk.2) (.int .i64 t475)) (fun _ h_=>h_.1))) hb);replace HO474:=am (Kd.R_below (by(with_reducible repeat(first|apply Kd.R_alloc|apply Kd.R_drewN|apply Kd.R_drew));exact(Kd.R_mono (Kd.R_far (p:=⟨gb476,1,none⟩) (Kd.R_far (p:=⟨gb476,0,none⟩) (Kd.R_types HO474.out BK476.out (by decide)) (fun _ hk=>hk.2) (.slice Ao55 t472.length co55)) (fun _ hk=>hk.2) (.int .i64 t475)) (fun _ h_=>h_.1))) hb);have HO479:=am (Kd.R_lower (Kd.R_new' ho0 (Kd.R_lt (by(with_reducible repeat(first|apply Kd.R_alloc|apply Kd.R_drewN|apply Kd.R_drew));exact(Kd.R_mono (Kd.R_far (p:=⟨gb476,1,none⟩) (Kd.R_far (p:=⟨gb476,0,none⟩) (Kd.R_types HO463.out BK476.out (by decide)) (fun _ hk=>hk.2) (.slice Ao55 t472.length co55)) (fun _ hk=>hk.2) (.int .i64 t475)) (fun _ h_=>h_.1))))) (below_size bl));replace HO463:=am (Kd.R_elder' (by(with_reducible repeat(first|apply Kd.R_alloc|apply Kd.R_drewN|apply Kd.R_drew));exact(Kd.R_mono (Kd.R_far (p:=⟨gb476,1,none⟩) (Kd.R_far (p:=⟨gb476,0,none⟩) (Kd.R_types HO463.out BK476.out (by decide)) (fun _ hk=>hk.2) (.slice Ao55 t472.length co55)) (fun _ hk=>hk.2) (.int .i64 t475)) (fun _ h_=>h_.1))) (Kd.R_base ho0) hb);replace BK452:=am (blk_below (g:=gb452) (o := .cells #[.slice A0_0 l0_0.length c0_0,.int .i64 a0_1] 24 (0,0)) (by(with_reducible repeat(first|refine bN_ ?_ _|refine bD_ ?_|refine bA_ ?_ _));refine blk_far ?_ NB452_476.out _;(with_reducible repeat(first|refine bN_ ?_ _|refine bD_ ?_|refine bA_ ?_ _));refine blk_far ?_ NB452_476.out _;exact bup BK452.out) hb);replace BK453:=am (blk_below (g:=gb453) (o := .cells #[.int .i64 a3_0,.int .i64 a3_1,.int .i64 a3_2] 28 (0,0)) (by(with_reducible repeat(first|refine bN_ ?_ _|refine bD_ ?_|refine bA_ ?_ _));refine blk_far ?_ NB453_476.out _;(with_reducible repeat(first|refine bN_ ?_ _|refine bD_ ?_|refine bA_ ?_ _));refine blk_far ?_ NB453_476.out _;exact bup BK453.out) hb);replace BK476:=am (blk_below (g:=gb476) (o := .cells #[.slice Ao55 t472.length co55,.int .i64 t475] 34 (0,0)) (by(with_reducible repeat(first|refine bN_ ?_ _|refine bD_ ?_|refine bA_ ?_ _));refine blk_put (cs := #[.slice Ao55 t472.length co55,.int .i64 0]) ?_ 1 _ rfl;(with_reducible repeat(first|refine bN_ ?_ _|refine bD_ ?_|refine bA_ ?_ _));refine blk_put (cs := #[.slice none 0 0,.int .i64 0]) ?_ 0 _ rfl;exact bup BK476.out) hb);replace HB:=am (below_step bl hb);(try clear hb);(try clear hk);(try clear ho0))|((with_reducible refine gate_callee (f:=12) rfl ?_);refine goesL_ (some 52) rfl rfl Try.func12 (by kernel_rfl) rfl #[.slice A2 l2.length c2] rfl tl ?_;(with_reducible refine(laws_toHoleS.calls k _ _ l2 t480 _ ?side1 ?side2 A34.out).mono ?_);(case side1=>exact cup (Kd.C_below HR2.out HB.out));(case side2=>exact HC2.out);rintro e w60 ⟨v481,rfl,ho0,hb⟩;refine⟨_,rfl,?_⟩;replace HO459:=am (Kd.R_below (rup HO459.out) hb);replace HO463:=am (Kd.R_below (rup HO463.out) hb);replace HO474:=am (Kd.R_below (rup HO474.out) hb);replace HO479:=am (Kd.R_below (rup HO479.out) hb);have HO482:=am (Kd.R_lower (Kd.R_new' ho0 (Kd.R_lt (rup HO466.out))) (below_size bl));replace HO466:=am (Kd.R_elder' (rup HO466.out) (Kd.R_base ho0) hb);replace BK452:=am (blk_below (bup BK452.out) hb);replace BK453:=am (blk_below (bup BK453.out) hb);replace BK476:=am (blk_below (bup BK476.out) hb);replace HB:=am (below_step bl hb);(try clear hb);(try clear ho0)))
    replace HO459:=am (Kd.R_drew HO459.out)
    replace HO463:=am (Kd.R_drew HO463.out)
    replace HO466:=am (Kd.R_drew HO466.out)
    replace HO474:=am (Kd.R_drew HO474.out)
    replace HO479:=am (Kd.R_drew HO479.out)
    replace HO482:=am (Kd.R_drew HO482.out)
    replace BK452:=am (bD_ BK452.out)
    replace BK453:=am (bD_ BK453.out)
    replace BK476:=am (bD_ BK476.out)
    replace HB:=am (below_drew1 HB.out)
    refine start_ (n:=12) (S:=fun w'=>w'.cell? ⟨gb476,0,none⟩=some (.slice Ao55 t472.length co55)∧w'.cell? ⟨gb476,1,none⟩=some (.int .i64 t475)∧w'.cell? ⟨gb453,0,none⟩=some (.int .i64 a3_0)∧w'.cell? ⟨gb453,1,none⟩=some (.int .i64 a3_1)∧w'.cell? ⟨gb453,2,none⟩=some (.int .i64 a3_2)) (ds:=[]) (fl 0 12) (by kernel_rfl) rfl rfl ⟨bc BK476.out 0,bc BK476.out 1,bc BK453.out 0,bc BK453.out 1,bc BK453.out 2⟩ (fun hHeld=>?_);refine with_tabW laws_FnExactPassesVerifier.tab15 laws_FnExactPassesVerifier.bits15 (fun HT_ HW_=>?_)
    generalize w60.drew=w61 at HO459 HO463 HO466 HO474 HO479 HO482 BK452 BK453 BK476 HB hHeld ⊢
    refine pu HT_.out 1 (some 55) #[false,true,false,false,false,false,false,false,false,false,false,false] (h:=?_)
    refine pu HT_.out 2 (some 56) #[false,true,true,false,false,false,false,false,false,false,false,false] (h:=?_)
    refine pu HT_.out 5 (some 59) #[false,true,true,false,false,true,false,false,false,false,false,false] (h:=?_)
    refine ta HT_.out HW_.out 0 (some 54) #[true,true,true,false,false,true,false,false,false,false,false,false] hHeld rfl (by rintro w' ⟨s0,s1,s2,s3,s4⟩;go_simp;with_reducible rfl) (h:=?_)
    refine ta HT_.out HW_.out 3 (some 57) #[true,true,true,true,false,true,false,false,false,false,false,false] hHeld rfl (by rintro w' ⟨s0,s1,s2,s3,s4⟩;go_simp;with_reducible rfl) (h:=?_)
    refine one_ (i:=4) (N:=some 58) (fl 6 12) rfl rfl (one_of HT_.out (by kernel_rfl)) (by decide) (fun K hK=>?_)
    refine goes_ Try.func13 (by kernel_rfl) rfl #[.agg #[.int .i64 a3_0,.int .i64 a3_1,.int .i64 a3_2]] (by rfl) rfl rfl tl ?_
    with_reducible refine(laws_toAction.calls a3_0 a3_1 a3_2 t483 t484 t485 _ A35.out).mono ?_
    rintro e w62 ⟨rfl,hb⟩
    refine⟨_,rfl,?_⟩
    replace HO459:=am (Kd.R_below (rup HO459.out) hb)
    replace HO463:=am (Kd.R_below (rup HO463.out) hb)
    replace HO466:=am (Kd.R_below (rup HO466.out) hb)
    replace HO474:=am (Kd.R_below (rup HO474.out) hb)
    replace HO479:=am (Kd.R_below (rup HO479.out) hb)
    replace HO482:=am (Kd.R_below (rup HO482.out) hb)
    replace BK452:=am (blk_below (bup BK452.out) hb)
    replace BK453:=am (blk_below (bup BK453.out) hb)
    replace BK476:=am (blk_below (bup BK476.out) hb)
    replace HB:=am (below_step bl hb)
    (try clear hb)
    obtain⟨Ao63,co63,eo63⟩:=Kd.R_slice HO479.out
    (first|subst eo63|(injection eo63 with f1_ f2_ f3_;have f4_:=f1_.symm;have f5_:=f3_.symm;clear f1_ f2_ f3_;subst f4_;subst f5_))
    obtain⟨Ao64,co64,eo64⟩:=Kd.R_slice HO482.out
    (first|subst eo64|(injection eo64 with f1_ f2_ f3_;have f4_:=f1_.symm;have f5_:=f3_.symm;clear f1_ f2_ f3_;subst f4_;subst f5_))
    refine hK.out _ _ ⟨bc BK476.out 0,bc BK476.out 1,bc BK453.out 0,bc BK453.out 1,bc BK453.out 2⟩ (fun hHeld=>?_)
    clear hK K
    refine norm_ (a':=?_) ?_ ?_
    rotate_left
    ·show Act.put _ (some 58) _=_
     simp only[Act.put,List.setIfInBounds_toArray,List.set_cons_zero,List.set_cons_succ,i64_w,i32_w]
     rfl
    refine one_ (i:=6) (N:=some 60) (fl 7 12) rfl rfl (one_of HT_.out (by kernel_rfl)) (by decide) (fun K hK=>?_)
    refine goes_ Try.func14 (by kernel_rfl) rfl #[.agg #[.slice Ao55 t472.length co55,.int .i64 t475],.slice Ao63 t477.length co63,.slice Ao64 t480.length co64,.agg #[.int .i64 t483,.int .i64 t484,.int .i64 t485],.int .i64 a4] (by rfl) rfl rfl tl ?_
    with_reducible refine(impl_PassesVerifier.calls k _ _ t472 t475 _ _ t477 _ _ t480 t483 t484 t485 a4 t486 t487 _ ?side1 ?side2 ?side3 ?side4 ?side5 ?side6 A36.out).mono ?_
    (case side1=>repeat(first|exact(Kd.R_reads' HO474.out).2.2|(with_reducible refine Kd.C_alloc ?_ _)|(with_reducible refine Kd.C_drewN ?_ _)|(with_reducible refine Kd.C_drew ?_)))
    (case side2=>exact(Kd.R_reads' HO474.out).2.1)
    (case side3=>repeat(first|exact(Kd.R_reads' HO479.out).2.2|(with_reducible refine Kd.C_alloc ?_ _)|(with_reducible refine Kd.C_drewN ?_ _)|(with_reducible refine Kd.C_drew ?_)))
    (case side4=>exact(Kd.R_reads' HO479.out).2.1)
    (case side5=>repeat(first|exact(Kd.R_reads' HO482.out).2.2|(with_reducible refine Kd.C_alloc ?_ _)|(with_reducible refine Kd.C_drewN ?_ _)|(with_reducible refine Kd.C_drew ?_)))
    (case side6=>exact(Kd.R_reads' HO482.out).2.1)
    rintro e w65 ⟨rfl,hb⟩
    refine⟨_,rfl,?_⟩
    replace HO459:=am (Kd.R_below (rup HO459.out) hb)
    replace HO463:=am (Kd.R_below (rup HO463.out) hb)
    replace HO466:=am (Kd.R_below (rup HO466.out) hb)
    replace HO474:=am (Kd.R_below (rup HO474.out) hb)
    replace HO479:=am (Kd.R_below (rup HO479.out) hb)
    replace HO482:=am (Kd.R_below (rup HO482.out) hb)
    replace BK452:=am (blk_below (bup BK452.out) hb)
    replace BK453:=am (blk_below (bup BK453.out) hb)
    replace BK476:=am (blk_below (bup BK476.out) hb)
    replace HB:=am (below_step bl hb)
    (try clear hb)
    refine hK.out _ _ ⟨bc BK476.out 0,bc BK476.out 1,bc BK453.out 0,bc BK453.out 1,bc BK453.out 2⟩ (fun hHeld=>?_)
    clear hK K
    refine norm_ (a':=?_) ?_ ?_
    rotate_left
    ·show Act.put _ (some 60) _=_
     simp only[Act.put,List.setIfInBounds_toArray,List.set_cons_zero,List.set_cons_succ,i64_w,i32_w]
     rfl
    refine pu HT_.out 7 (some 53) (fl 8 12) (h:=?_)
    refine pu HT_.out 8 (some 61) (fl 9 12) (h:=?_)
    refine pu HT_.out 9 (some 62) (fl 10 12) (h:=?_)
    refine pu HT_.out 10 (some 17) (fl 11 12) (h:=?_)
    refine pu HT_.out 11 (some 18) (fl 12 12) (h:=?_)
    refine done_ (done_of HT_.out (by kernel_rfl)) ?_
    go_upto_region 16 with(fail)
    go_cut [70] (fun v70 wc=>∃(kq:Nat) (x70_36:Bool),v70 = .bool x70_36∧Aside0 (laws_FnExactPassesVerifier.j0 kq l1 l2 t477 t480 x70_36 l0_0 a0_1 t472 t475=some r)∧Aside0 (kq≤k)∧Aside0 (Kd.R k62 62 wc w.heap.size (fun _=>True) (.slice Ao63 t477.length co63) t477)∧Aside0 (Kd.R k66 66 wc w.heap.size (fun _=>True) (.slice Ao64 t480.length co64) t480)∧Aside0 (Kd.R (Kd.int .i64) 3 wc w.heap.size (fun _=>True) (.slice Ao55 t472.length co55) t472)∧Aside0 (wc.heap[gb452]?=some (.cells #[(.slice A0_0 l0_0.length c0_0),.int .i64 a0_1] 24 (0,0)))∧Aside0 (wc.heap[gb476]?=some (.cells #[(.slice Ao55 t472.length co55),.int .i64 t475] 34 (0,0)))∧Aside0 (Below w.heap.size w wc))
    case first =>
     have H:=HC37.out
     clear HC37
     rcases itc H with⟨c66,H⟩|⟨c66,H⟩
     ·have c66b0:(t486 != t470)=true:=c66
      (try(have c66b1:decide (t486=t470)=false:=by simpa using c66))
      (try(have c66b2:(t486 == t470)=false:=by simpa using c66))
      (try(have c66b3:¬ (t486=t470):=by simpa using c66))
      clear c66
      (first|rw[c66b0]|(simp only[i64_w,i32_w];rw[c66b0])|skip)
      have H':=am H
      clear H
      go_wp2
      go_meet
      case rel=>exact⟨_,(true),fin2,H',⟨by first|omega|exact Nat.le_refl _⟩,⟨rup (Kd.R_mono HO479.out (fun _ hk=>trivial))⟩,⟨rup (Kd.R_mono HO482.out (fun _ hk=>trivial))⟩,⟨rup (Kd.R_mono HO474.out (fun _ hk=>trivial))⟩,⟨bup BK452.out⟩,⟨bup BK476.out⟩,⟨bl⟩⟩
     ·have c66b0:(t486 != t470)=false:=by simpa using c66
      (try(have c66b1:decide (t486=t470)=true:=by simpa using c66))
      (try(have c66b2:(t486 == t470)=true:=by simpa using c66))
      clear c66
      (first|rw[c66b0]|(simp only[i64_w,i32_w];rw[c66b0])|skip)
      have H':=am H
      clear H
      go_wp2
      go_meet
      case rel=>exact⟨_,((t487 != t471)),fin2,H',⟨by first|omega|exact Nat.le_refl _⟩,⟨rup (Kd.R_mono HO479.out (fun _ hk=>trivial))⟩,⟨rup (Kd.R_mono HO482.out (fun _ hk=>trivial))⟩,⟨rup (Kd.R_mono HO474.out (fun _ hk=>trivial))⟩,⟨bup BK452.out⟩,⟨bup BK476.out⟩,⟨bl⟩⟩
    case rest =>
     clear HC37
     try clear c1
     try clear c2
     try clear p2
     try clear c3
     try clear c4
     try clear c5
     try clear c6
     try clear c7
     try clear c8
     try clear c9
     try clear c10
     try clear c11
     try clear c12
     try clear c13
     try clear c14
     try clear c21
     try clear c21b0
     try clear c24
     try clear c40
     try clear c56
     try clear c57
     try clear c66
     try clear c66b0
     try clear c66b1
     try clear c66b2
     try clear hcz25_0
     try clear hcz25_1
     try clear hcz41_0
     try clear hcz41_1
     try clear hcz52_0
     try clear hcz52_1
     try clear hcz58_0
     try clear hcz58_1
     try clear hfz25_0
     try clear hfz25_1
     try clear hfz41_0
     try clear hfz41_1
     try clear hfz52_0
     try clear hfz52_1
     try clear hfz58_0
     try clear hfz58_1
     obtain⟨kq,x70_36,rfl,HA,HJ36,HO_15,HO_16,HO_477000,BK452,BK476,HB⟩:=hcut
     cases kq with
     | zero=>exact absurd HA.out (by simp [laws_FnExactPassesVerifier.j0])
     | succ kj36 =>
      have H:=HA.out
      clear HA
      simp only[laws_FnExactPassesVerifier.j0] at H
      by_cases c67:x70_36=true
      ·subst c67
       replace H:=(if_pos rfl).symm.trans H
       obtain rfl:=Option.some.inj H
       go_wp2
       go_ret
       exact⟨fin1,bl⟩
      ·replace c67:=Bool.eq_false_iff.mpr c67
       subst c67
       replace H:=(if_neg Bool.false_ne_true).symm.trans H
       obtain⟨⟨t488,t491⟩,A68,H⟩:=bnd H;dsimp only at H
       obtain⟨t492,A69,H⟩:=bnd H
       by_cases c70:t492=true
       ·subst c70
        replace H:=(if_pos rfl).symm.trans H
        obtain⟨t493,A71,H⟩:=bnd H
        obtain⟨t496,A72,H⟩:=bnd H
        by_cases c73:t496=true
        ·subst c73
         replace H:=(if_pos rfl).symm.trans H
         obtain⟨t497,A74,H⟩:=bnd H
         obtain⟨t500,A75,H⟩:=bnd H
         by_cases c76:t500=true
         ·subst c76
          replace H:=(if_pos rfl).symm.trans H
          obtain rfl:=Option.some.inj H
          try go_wp2
          replace HO_15:=am (Kd.R_drew HO_15.out)
          replace HO_16:=am (Kd.R_drew HO_16.out)
          replace HO_477000:=am (Kd.R_drew HO_477000.out)
          replace BK452:=am (bD_ BK452.out)
          replace BK476:=am (bD_ BK476.out)
          replace HB:=am (below_drew1 HB.out)
          refine start_ (n:=5) (S:=fun w'=>w'.cell? ⟨gb476,0,none⟩=some (.slice Ao55 t472.length co55)∧w'.cell? ⟨gb476,1,none⟩=some (.int .i64 t475)∧w'.cell? ⟨gb452,0,none⟩=some (.slice A0_0 l0_0.length c0_0)∧w'.cell? ⟨gb452,1,none⟩=some (.int .i64 a0_1)) (ds:=[]) (fl 0 5) (by kernel_rfl) rfl rfl ⟨bc BK476.out 0,bc BK476.out 1,bc BK452.out 0,bc BK452.out 1⟩ (fun hHeld=>?_)
          generalize wc.drew=w77 at HO_15 HO_16 HO_477000 BK452 BK476 HB hHeld ⊢
          refine take_ (i:=0) (N:=some 71) (v:=?_) (a':=?_) (fl 1 5) rfl rfl (by kernel_rfl) (fun _ _ _ h=>h) (Or.inl ⟨by rfl,?_⟩) hHeld ?_ ?_
          rotate_left
          ·rintro w' ⟨s0,s1,s2,s3⟩
           go_simp
           with_reducible rfl
          rotate_left
          ·simp only[Act.put,List.setIfInBounds_toArray,List.set_cons_zero,List.set_cons_succ,i64_w,i32_w]
           rfl
          refine take_ (i:=1) (N:=some 72) (v:=?_) (a':=?_) (fl 2 5) rfl rfl (by kernel_rfl) (fun _ _ _ h=>h) (Or.inl ⟨by rfl,?_⟩) hHeld ?_ ?_
          rotate_left
          ·rintro w' ⟨s0,s1,s2,s3⟩
           go_simp
           with_reducible rfl
          rotate_left
          ·simp only[Act.put,List.setIfInBounds_toArray,List.set_cons_zero,List.set_cons_succ,i64_w,i32_w]
           rfl
          refine one_ (i:=2) (N:=some 73) (fl 3 5) rfl rfl (by kernel_rfl) (by decide) (fun K hK=>?_)
          refine goes_ Try.func10 (by kernel_rfl) rfl #[.agg #[.slice A0_0 l0_0.length c0_0,.int .i64 a0_1]] (by rfl) rfl rfl tl ?_
          with_reducible refine(laws_toInstrument.calls kj36 _ _ l0_0 a0_1 t488 t491 _ ?side1 ?side2 A68.out).mono ?_
          (case side1=>exact cup (Kd.C_below HR0_0.out HB.out))
          (case side2=>exact HC0_0.out)
          rintro e w78 ⟨v489,rfl,ho0,hb⟩
          refine⟨_,rfl,?_⟩
          replace HO_15:=am (Kd.R_below (rup HO_15.out) hb)
          replace HO_16:=am (Kd.R_below (rup HO_16.out) hb)
          have HO490:=am (Kd.R_lower (Kd.R_new' ho0 (Kd.R_lt (rup HO_477000.out))) (below_size bl))
          replace HO_477000:=am (Kd.R_elder' (rup HO_477000.out) (Kd.R_base ho0) hb)
          replace BK452:=am (blk_below (bup BK452.out) hb)
          replace BK476:=am (blk_below (bup BK476.out) hb)
          replace HB:=am (below_step bl hb)
          (try clear hb)
          (try clear ho0)
          obtain⟨Ao79,co79,eo79⟩:=Kd.R_slice HO490.out
          (first|subst eo79|(injection eo79 with f1_ f2_ f3_;have f4_:=f1_.symm;have f5_:=f3_.symm;clear f1_ f2_ f3_;subst f4_;subst f5_))
          refine hK.out _ _ ⟨bc BK476.out 0,bc BK476.out 1,bc BK452.out 0,bc BK452.out 1⟩ (fun hHeld=>?_)
          clear hK K
          refine norm_ (a':=?_) ?_ ?_
          rotate_left
          ·show Act.put _ (some 73) _=_
           simp only[Act.put,List.setIfInBounds_toArray,List.set_cons_zero,List.set_cons_succ,i64_w,i32_w]
           rfl
          refine one_ (i:=3) (N:=some 74) (fl 4 5) rfl rfl (by kernel_rfl) (by decide) (fun K hK=>?_)
          refine goes_ Try.func15 (by kernel_rfl) rfl #[.agg #[.slice Ao55 t472.length co55,.int .i64 t475],.agg #[.slice Ao79 t488.length co79,.int .i64 t491]] (by rfl) rfl rfl tl ?_
          with_reducible refine(laws_eqInstrument.calls kj36 _ _ t472 t475 _ _ t488 t491 true _ ?side1 ?side2 ?side3 ?side4 A69.out).mono ?_
          (case side1=>repeat(first|exact(Kd.R_reads' HO_477000.out).2.2|(with_reducible refine Kd.C_alloc ?_ _)|(with_reducible refine Kd.C_drewN ?_ _)|(with_reducible refine Kd.C_drew ?_)))
          (case side2=>exact(Kd.R_reads' HO_477000.out).2.1)
          (case side3=>repeat(first|exact(Kd.R_reads' HO490.out).2.2|(with_reducible refine Kd.C_alloc ?_ _)|(with_reducible refine Kd.C_drewN ?_ _)|(with_reducible refine Kd.C_drew ?_)))
          (case side4=>exact(Kd.R_reads' HO490.out).2.1)
          rintro e w80 ⟨rfl,hb⟩
          refine⟨_,rfl,?_⟩
          replace HO_15:=am (Kd.R_below (rup HO_15.out) hb)
          replace HO_16:=am (Kd.R_below (rup HO_16.out) hb)
          replace HO_477000:=am (Kd.R_below (rup HO_477000.out) hb)
          replace HO490:=am (Kd.R_below (rup HO490.out) hb)
          replace BK452:=am (blk_below (bup BK452.out) hb)
          replace BK476:=am (blk_below (bup BK476.out) hb)
          replace HB:=am (below_step bl hb)
          (try clear hb)
          refine hK.out _ _ ⟨bc BK476.out 0,bc BK476.out 1,bc BK452.out 0,bc BK452.out 1⟩ (fun hHeld=>?_)
          clear hK K
          refine norm_ (a':=?_) ?_ ?_
          rotate_left
          ·show Act.put _ (some 74) _=_
           simp only[Act.put,List.setIfInBounds_toArray,List.set_cons_zero,List.set_cons_succ,i64_w,i32_w]
           rfl
          refine pure_ (i:=4) (N:=some 75) (v:=?_) (a':=?_) (fl 5 5) rfl rfl (by kernel_rfl) (fun _ _ _ h=>h) (Or.inl ⟨by rfl,?_⟩) ?_ ?_
          rotate_left
          ·intro w'
           go_simp
           with_reducible rfl
          rotate_left
          ·simp only[Act.put,List.setIfInBounds_toArray,List.set_cons_zero,List.set_cons_succ,i64_w,i32_w]
           rfl
          refine done_ (by kernel_rfl) ?_
          try go_wp2_with (first|((with_reducible refine gate_callee (f:=11) rfl ?_);refine goesL_ (some 78) rfl rfl Try.func11 (by kernel_rfl) rfl #[.slice A1 l1.length c1] rfl tl ?_;(with_reducible refine(laws_toNoteS.calls kj36 _ _ l1 t493 _ ?side1 ?side2 A71.out).mono ?_);(case side1=>exact cup (Kd.C_below HR1.out HB.out));(case side2=>exact HC1.out);rintro e w81 ⟨v494,rfl,ho0,hb⟩;refine⟨_,rfl,?_⟩;replace HO_16:=am (Kd.R_below (rup HO_16.out) hb);replace HO_477000:=am (Kd.R_below (rup HO_477000.out) hb);replace HO490:=am (Kd.R_below (rup HO490.out) hb);have HO495:=am (Kd.R_lower (Kd.R_new' ho0 (Kd.R_lt (rup HO_15.out))) (below_size bl));replace HO_15:=am (Kd.R_elder' (rup HO_15.out) (Kd.R_base ho0) hb);replace BK452:=am (blk_below (bup BK452.out) hb);replace BK476:=am (blk_below (bup BK476.out) hb);replace HB:=am (below_step bl hb);(try clear hb);(try clear ho0);obtain⟨Ao82,co82,eo82⟩:=Kd.R_slice HO495.out;subst eo82)|((with_reducible refine gate_callee (f:=16) rfl ?_);refine goesL_ (some 79) rfl rfl Try.func16 (by kernel_rfl) rfl #[.slice Ao63 t477.length co63,.slice Ao82 t493.length co82] rfl tl ?_;(with_reducible refine(laws_eqNoteS.calls kj36 _ _ t477 _ _ t493 true _ ?side1 ?side2 ?side3 ?side4 A72.out).mono ?_);(case side1=>repeat(first|exact(Kd.R_reads' HO_15.out).2.2|(with_reducible refine Kd.C_alloc ?_ _)|(with_reducible refine Kd.C_drewN ?_ _)|(with_reducible refine Kd.C_drew ?_)));(case side2=>exact(Kd.R_reads' HO_15.out).2.1);(case side3=>repeat(first|exact(Kd.R_reads' HO495.out).2.2|(with_reducible refine Kd.C_alloc ?_ _)|(with_reducible refine Kd.C_drewN ?_ _)|(with_reducible refine Kd.C_drew ?_)));(case side4=>exact(Kd.R_reads' HO495.out).2.1);rintro e w83 ⟨rfl,hb⟩;refine⟨_,rfl,?_⟩;replace HO_15:=am (Kd.R_below (rup HO_15.out) hb);replace HO_16:=am (Kd.R_below (rup HO_16.out) hb);replace HO_477000:=am (Kd.R_below (rup HO_477000.out) hb);replace HO490:=am (Kd.R_below (rup HO490.out) hb);replace HO495:=am (Kd.R_below (rup HO495.out) hb);replace BK452:=am (blk_below (bup BK452.out) hb);replace BK476:=am (blk_below (bup BK476.out) hb);replace HB:=am (below_step bl hb);(try clear hb))|((with_reducible refine gate_callee (f:=12) rfl ?_);refine goesL_ (some 83) rfl rfl Try.func12 (by kernel_rfl) rfl #[.slice A2 l2.length c2] rfl tl ?_;(with_reducible refine(laws_toHoleS.calls kj36 _ _ l2 t497 _ ?side1 ?side2 A74.out).mono ?_);(case side1=>exact cup (Kd.C_below HR2.out HB.out));(case side2=>exact HC2.out);rintro e w84 ⟨v498,rfl,ho0,hb⟩;refine⟨_,rfl,?_⟩;replace HO_15:=am (Kd.R_below (rup HO_15.out) hb);replace HO_477000:=am (Kd.R_below (rup HO_477000.out) hb);replace HO490:=am (Kd.R_below (rup HO490.out) hb);replace HO495:=am (Kd.R_below (rup HO495.out) hb);have HO499:=am (Kd.R_lower (Kd.R_new' ho0 (Kd.R_lt (rup HO_16.out))) (below_size bl));replace HO_16:=am (Kd.R_elder' (rup HO_16.out) (Kd.R_base ho0) hb);replace BK452:=am (blk_below (bup BK452.out) hb);replace BK476:=am (blk_below (bup BK476.out) hb);replace HB:=am (below_step bl hb);(try clear hb);(try clear ho0);obtain⟨Ao85,co85,eo85⟩:=Kd.R_slice HO499.out;subst eo85)|((with_reducible refine gate_callee (f:=17) rfl ?_);refine goesL_ (some 84) rfl rfl Try.func17 (by kernel_rfl) rfl #[.slice Ao64 t480.length co64,.slice Ao85 t497.length co85] rfl tl ?_;(with_reducible refine(laws_eqHoleS.calls kj36 _ _ t480 _ _ t497 true _ ?side1 ?side2 ?side3 ?side4 A75.out).mono ?_);(case side1=>repeat(first|exact(Kd.R_reads' HO_16.out).2.2|(with_reducible refine Kd.C_alloc ?_ _)|(with_reducible refine Kd.C_drewN ?_ _)|(with_reducible refine Kd.C_drew ?_)));(case side2=>exact(Kd.R_reads' HO_16.out).2.1);(case side3=>repeat(first|exact(Kd.R_reads' HO499.out).2.2|(with_reducible refine Kd.C_alloc ?_ _)|(with_reducible refine Kd.C_drewN ?_ _)|(with_reducible refine Kd.C_drew ?_)));(case side4=>exact(Kd.R_reads' HO499.out).2.1);rintro e w86 ⟨rfl,hb⟩;refine⟨_,rfl,?_⟩;replace HO_15:=am (Kd.R_below (rup HO_15.out) hb);replace HO_16:=am (Kd.R_below (rup HO_16.out) hb);replace HO_477000:=am (Kd.R_below (rup HO_477000.out) hb);replace HO490:=am (Kd.R_below (rup HO490.out) hb);replace HO495:=am (Kd.R_below (rup HO495.out) hb);replace HO499:=am (Kd.R_below (rup HO499.out) hb);replace BK452:=am (blk_below (bup BK452.out) hb);replace BK476:=am (blk_below (bup BK476.out) hb);replace HB:=am (below_step bl hb);(try clear hb)))
          go_ret
          exact⟨fin1,bl⟩
         ·replace c76:=Bool.eq_false_iff.mpr c76
          subst c76
          replace H:=(if_neg Bool.false_ne_true).symm.trans H
          obtain rfl:=Option.some.inj H
          try go_wp2
          replace HO_15:=am (Kd.R_drew HO_15.out)
          replace HO_16:=am (Kd.R_drew HO_16.out)
          replace HO_477000:=am (Kd.R_drew HO_477000.out)
          replace BK452:=am (bD_ BK452.out)
          replace BK476:=am (bD_ BK476.out)
          replace HB:=am (below_drew1 HB.out)
          refine start_ (n:=5) (S:=fun w'=>w'.cell? ⟨gb476,0,none⟩=some (.slice Ao55 t472.length co55)∧w'.cell? ⟨gb476,1,none⟩=some (.int .i64 t475)∧w'.cell? ⟨gb452,0,none⟩=some (.slice A0_0 l0_0.length c0_0)∧w'.cell? ⟨gb452,1,none⟩=some (.int .i64 a0_1)) (ds:=[]) (fl 0 5) (by kernel_rfl) rfl rfl ⟨bc BK476.out 0,bc BK476.out 1,bc BK452.out 0,bc BK452.out 1⟩ (fun hHeld=>?_)
          generalize wc.drew=w87 at HO_15 HO_16 HO_477000 BK452 BK476 HB hHeld ⊢
          refine take_ (i:=0) (N:=some 71) (v:=?_) (a':=?_) (fl 1 5) rfl rfl (by kernel_rfl) (fun _ _ _ h=>h) (Or.inl ⟨by rfl,?_⟩) hHeld ?_ ?_
          rotate_left
          ·rintro w' ⟨s0,s1,s2,s3⟩
           go_simp
           with_reducible rfl
          rotate_left
          ·simp only[Act.put,List.setIfInBounds_toArray,List.set_cons_zero,List.set_cons_succ,i64_w,i32_w]
           rfl
          refine take_ (i:=1) (N:=some 72) (v:=?_) (a':=?_) (fl 2 5) rfl rfl (by kernel_rfl) (fun _ _ _ h=>h) (Or.inl ⟨by rfl,?_⟩) hHeld ?_ ?_
          rotate_left
          ·rintro w' ⟨s0,s1,s2,s3⟩
           go_simp
           with_reducible rfl
          rotate_left
          ·simp only[Act.put,List.setIfInBounds_toArray,List.set_cons_zero,List.set_cons_succ,i64_w,i32_w]
           rfl
          refine one_ (i:=2) (N:=some 73) (fl 3 5) rfl rfl (by kernel_rfl) (by decide) (fun K hK=>?_)
          refine goes_ Try.func10 (by kernel_rfl) rfl #[.agg #[.slice A0_0 l0_0.length c0_0,.int .i64 a0_1]] (by rfl) rfl rfl tl ?_
          with_reducible refine(laws_toInstrument.calls kj36 _ _ l0_0 a0_1 t488 t491 _ ?side1 ?side2 A68.out).mono ?_
          (case side1=>exact cup (Kd.C_below HR0_0.out HB.out))
          (case side2=>exact HC0_0.out)
          rintro e w88 ⟨v489,rfl,ho0,hb⟩
          refine⟨_,rfl,?_⟩
          replace HO_15:=am (Kd.R_below (rup HO_15.out) hb)
          replace HO_16:=am (Kd.R_below (rup HO_16.out) hb)
          have HO490:=am (Kd.R_lower (Kd.R_new' ho0 (Kd.R_lt (rup HO_477000.out))) (below_size bl))
          replace HO_477000:=am (Kd.R_elder' (rup HO_477000.out) (Kd.R_base ho0) hb)
          replace BK452:=am (blk_below (bup BK452.out) hb)
          replace BK476:=am (blk_below (bup BK476.out) hb)
          replace HB:=am (below_step bl hb)
          (try clear hb)
          (try clear ho0)
          obtain⟨Ao89,co89,eo89⟩:=Kd.R_slice HO490.out
          (first|subst eo89|(injection eo89 with f1_ f2_ f3_;have f4_:=f1_.symm;have f5_:=f3_.symm;clear f1_ f2_ f3_;subst f4_;subst f5_))
          refine hK.out _ _ ⟨bc BK476.out 0,bc BK476.out 1,bc BK452.out 0,bc BK452.out 1⟩ (fun hHeld=>?_)
          clear hK K
          refine norm_ (a':=?_) ?_ ?_
          rotate_left
          ·show Act.put _ (some 73) _=_
           simp only[Act.put,List.setIfInBounds_toArray,List.set_cons_zero,List.set_cons_succ,i64_w,i32_w]
           rfl
          refine one_ (i:=3) (N:=some 74) (fl 4 5) rfl rfl (by kernel_rfl) (by decide) (fun K hK=>?_)
          refine goes_ Try.func15 (by kernel_rfl) rfl #[.agg #[.slice Ao55 t472.length co55,.int .i64 t475],.agg #[.slice Ao89 t488.length co89,.int .i64 t491]] (by rfl) rfl rfl tl ?_
          with_reducible refine(laws_eqInstrument.calls kj36 _ _ t472 t475 _ _ t488 t491 true _ ?side1 ?side2 ?side3 ?side4 A69.out).mono ?_
          (case side1=>repeat(first|exact(Kd.R_reads' HO_477000.out).2.2|(with_reducible refine Kd.C_alloc ?_ _)|(with_reducible refine Kd.C_drewN ?_ _)|(with_reducible refine Kd.C_drew ?_)))
          (case side2=>exact(Kd.R_reads' HO_477000.out).2.1)
          (case side3=>repeat(first|exact(Kd.R_reads' HO490.out).2.2|(with_reducible refine Kd.C_alloc ?_ _)|(with_reducible refine Kd.C_drewN ?_ _)|(with_reducible refine Kd.C_drew ?_)))
          (case side4=>exact(Kd.R_reads' HO490.out).2.1)
          rintro e w90 ⟨rfl,hb⟩
          refine⟨_,rfl,?_⟩
          replace HO_15:=am (Kd.R_below (rup HO_15.out) hb)
          replace HO_16:=am (Kd.R_below (rup HO_16.out) hb)
          replace HO_477000:=am (Kd.R_below (rup HO_477000.out) hb)
          replace HO490:=am (Kd.R_below (rup HO490.out) hb)
          replace BK452:=am (blk_below (bup BK452.out) hb)
          replace BK476:=am (blk_below (bup BK476.out) hb)
          replace HB:=am (below_step bl hb)
          (try clear hb)
          refine hK.out _ _ ⟨bc BK476.out 0,bc BK476.out 1,bc BK452.out 0,bc BK452.out 1⟩ (fun hHeld=>?_)
          clear hK K
          refine norm_ (a':=?_) ?_ ?_
          rotate_left
          ·show Act.put _ (some 74) _=_
           simp only[Act.put,List.setIfInBounds_toArray,List.set_cons_zero,List.set_cons_succ,i64_w,i32_w]
           rfl
          refine pure_ (i:=4) (N:=some 75) (v:=?_) (a':=?_) (fl 5 5) rfl rfl (by kernel_rfl) (fun _ _ _ h=>h) (Or.inl ⟨by rfl,?_⟩) ?_ ?_
          rotate_left
          ·intro w'
           go_simp
           with_reducible rfl
          rotate_left
          ·simp only[Act.put,List.setIfInBounds_toArray,List.set_cons_zero,List.set_cons_succ,i64_w,i32_w]
           rfl
          refine done_ (by kernel_rfl) ?_
          try go_wp2_with (first|((with_reducible refine gate_callee (f:=11) rfl ?_);refine goesL_ (some 78) rfl rfl Try.func11 (by kernel_rfl) rfl #[.slice A1 l1.length c1] rfl tl ?_;(with_reducible refine(laws_toNoteS.calls kj36 _ _ l1 t493 _ ?side1 ?side2 A71.out).mono ?_);(case side1=>exact cup (Kd.C_below HR1.out HB.out));(case side2=>exact HC1.out);rintro e w91 ⟨v494,rfl,ho0,hb⟩;refine⟨_,rfl,?_⟩;replace HO_16:=am (Kd.R_below (rup HO_16.out) hb);replace HO_477000:=am (Kd.R_below (rup HO_477000.out) hb);replace HO490:=am (Kd.R_below (rup HO490.out) hb);have HO495:=am (Kd.R_lower (Kd.R_new' ho0 (Kd.R_lt (rup HO_15.out))) (below_size bl));replace HO_15:=am (Kd.R_elder' (rup HO_15.out) (Kd.R_base ho0) hb);replace BK452:=am (blk_below (bup BK452.out) hb);replace BK476:=am (blk_below (bup BK476.out) hb);replace HB:=am (below_step bl hb);(try clear hb);(try clear ho0);obtain⟨Ao92,co92,eo92⟩:=Kd.R_slice HO495.out;subst eo92)|((with_reducible refine gate_callee (f:=16) rfl ?_);refine goesL_ (some 79) rfl rfl Try.func16 (by kernel_rfl) rfl #[.slice Ao63 t477.length co63,.slice Ao92 t493.length co92] rfl tl ?_;(with_reducible refine(laws_eqNoteS.calls kj36 _ _ t477 _ _ t493 true _ ?side1 ?side2 ?side3 ?side4 A72.out).mono ?_);(case side1=>repeat(first|exact(Kd.R_reads' HO_15.out).2.2|(with_reducible refine Kd.C_alloc ?_ _)|(with_reducible refine Kd.C_drewN ?_ _)|(with_reducible refine Kd.C_drew ?_)));(case side2=>exact(Kd.R_reads' HO_15.out).2.1);(case side3=>repeat(first|exact(Kd.R_reads' HO495.out).2.2|(with_reducible refine Kd.C_alloc ?_ _)|(with_reducible refine Kd.C_drewN ?_ _)|(with_reducible refine Kd.C_drew ?_)));(case side4=>exact(Kd.R_reads' HO495.out).2.1);rintro e w93 ⟨rfl,hb⟩;refine⟨_,rfl,?_⟩;replace HO_15:=am (Kd.R_below (rup HO_15.out) hb);replace HO_16:=am (Kd.R_below (rup HO_16.out) hb);replace HO_477000:=am (Kd.R_below (rup HO_477000.out) hb);replace HO490:=am (Kd.R_below (rup HO490.out) hb);replace HO495:=am (Kd.R_below (rup HO495.out) hb);replace BK452:=am (blk_below (bup BK452.out) hb);replace BK476:=am (blk_below (bup BK476.out) hb);replace HB:=am (below_step bl hb);(try clear hb))|((with_reducible refine gate_callee (f:=12) rfl ?_);refine goesL_ (some 83) rfl rfl Try.func12 (by kernel_rfl) rfl #[.slice A2 l2.length c2] rfl tl ?_;(with_reducible refine(laws_toHoleS.calls kj36 _ _ l2 t497 _ ?side1 ?side2 A74.out).mono ?_);(case side1=>exact cup (Kd.C_below HR2.out HB.out));(case side2=>exact HC2.out);rintro e w94 ⟨v498,rfl,ho0,hb⟩;refine⟨_,rfl,?_⟩;replace HO_15:=am (Kd.R_below (rup HO_15.out) hb);replace HO_477000:=am (Kd.R_below (rup HO_477000.out) hb);replace HO490:=am (Kd.R_below (rup HO490.out) hb);replace HO495:=am (Kd.R_below (rup HO495.out) hb);have HO499:=am (Kd.R_lower (Kd.R_new' ho0 (Kd.R_lt (rup HO_16.out))) (below_size bl));replace HO_16:=am (Kd.R_elder' (rup HO_16.out) (Kd.R_base ho0) hb);replace BK452:=am (blk_below (bup BK452.out) hb);replace BK476:=am (blk_below (bup BK476.out) hb);replace HB:=am (below_step bl hb);(try clear hb);(try clear ho0);obtain⟨Ao95,co95,eo95⟩:=Kd.R_slice HO499.out;subst eo95)|((with_reducible refine gate_callee (f:=17) rfl ?_);refine goesL_ (some 84) rfl rfl Try.func17 (by kernel_rfl) rfl #[.slice Ao64 t480.length co64,.slice Ao95 t497.length co95] rfl tl ?_;(with_reducible refine(laws_eqHoleS.calls kj36 _ _ t480 _ _ t497 false _ ?side1 ?side2 ?side3 ?side4 A75.out).mono ?_);(case side1=>repeat(first|exact(Kd.R_reads' HO_16.out).2.2|(with_reducible refine Kd.C_alloc ?_ _)|(with_reducible refine Kd.C_drewN ?_ _)|(with_reducible refine Kd.C_drew ?_)));(case side2=>exact(Kd.R_reads' HO_16.out).2.1);(case side3=>repeat(first|exact(Kd.R_reads' HO499.out).2.2|(with_reducible refine Kd.C_alloc ?_ _)|(with_reducible refine Kd.C_drewN ?_ _)|(with_reducible refine Kd.C_drew ?_)));(case side4=>exact(Kd.R_reads' HO499.out).2.1);rintro e w96 ⟨rfl,hb⟩;refine⟨_,rfl,?_⟩;replace HO_15:=am (Kd.R_below (rup HO_15.out) hb);replace HO_16:=am (Kd.R_below (rup HO_16.out) hb);replace HO_477000:=am (Kd.R_below (rup HO_477000.out) hb);replace HO490:=am (Kd.R_below (rup HO490.out) hb);replace HO495:=am (Kd.R_below (rup HO495.out) hb);replace HO499:=am (Kd.R_below (rup HO499.out) hb);replace BK452:=am (blk_below (bup BK452.out) hb);replace BK476:=am (blk_below (bup BK476.out) hb);replace HB:=am (below_step bl hb);(try clear hb)))
          go_ret
          exact⟨fin1,bl⟩
        ·replace c73:=Bool.eq_false_iff.mpr c73
         subst c73
         replace H:=(if_neg Bool.false_ne_true).symm.trans H
         obtain rfl:=Option.some.inj H
         try go_wp2
         replace HO_15:=am (Kd.R_drew HO_15.out)
         replace HO_16:=am (Kd.R_drew HO_16.out)
         replace HO_477000:=am (Kd.R_drew HO_477000.out)
         replace BK452:=am (bD_ BK452.out)
         replace BK476:=am (bD_ BK476.out)
         replace HB:=am (below_drew1 HB.out)
         refine start_ (n:=5) (S:=fun w'=>w'.cell? ⟨gb476,0,none⟩=some (.slice Ao55 t472.length co55)∧w'.cell? ⟨gb476,1,none⟩=some (.int .i64 t475)∧w'.cell? ⟨gb452,0,none⟩=some (.slice A0_0 l0_0.length c0_0)∧w'.cell? ⟨gb452,1,none⟩=some (.int .i64 a0_1)) (ds:=[]) (fl 0 5) (by kernel_rfl) rfl rfl ⟨bc BK476.out 0,bc BK476.out 1,bc BK452.out 0,bc BK452.out 1⟩ (fun hHeld=>?_)
         generalize wc.drew=w97 at HO_15 HO_16 HO_477000 BK452 BK476 HB hHeld ⊢
         refine take_ (i:=0) (N:=some 71) (v:=?_) (a':=?_) (fl 1 5) rfl rfl (by kernel_rfl) (fun _ _ _ h=>h) (Or.inl ⟨by rfl,?_⟩) hHeld ?_ ?_
         rotate_left
         ·rintro w' ⟨s0,s1,s2,s3⟩
          go_simp
          with_reducible rfl
         rotate_left
         ·simp only[Act.put,List.setIfInBounds_toArray,List.set_cons_zero,List.set_cons_succ,i64_w,i32_w]
          rfl
         refine take_ (i:=1) (N:=some 72) (v:=?_) (a':=?_) (fl 2 5) rfl rfl (by kernel_rfl) (fun _ _ _ h=>h) (Or.inl ⟨by rfl,?_⟩) hHeld ?_ ?_
         rotate_left
         ·rintro w' ⟨s0,s1,s2,s3⟩
          go_simp
          with_reducible rfl
         rotate_left
         ·simp only[Act.put,List.setIfInBounds_toArray,List.set_cons_zero,List.set_cons_succ,i64_w,i32_w]
          rfl
         refine one_ (i:=2) (N:=some 73) (fl 3 5) rfl rfl (by kernel_rfl) (by decide) (fun K hK=>?_)
         refine goes_ Try.func10 (by kernel_rfl) rfl #[.agg #[.slice A0_0 l0_0.length c0_0,.int .i64 a0_1]] (by rfl) rfl rfl tl ?_
         with_reducible refine(laws_toInstrument.calls kj36 _ _ l0_0 a0_1 t488 t491 _ ?side1 ?side2 A68.out).mono ?_
         (case side1=>exact cup (Kd.C_below HR0_0.out HB.out))
         (case side2=>exact HC0_0.out)
         rintro e w98 ⟨v489,rfl,ho0,hb⟩
         refine⟨_,rfl,?_⟩
         replace HO_15:=am (Kd.R_below (rup HO_15.out) hb)
         replace HO_16:=am (Kd.R_below (rup HO_16.out) hb)
         have HO490:=am (Kd.R_lower (Kd.R_new' ho0 (Kd.R_lt (rup HO_477000.out))) (below_size bl))
         replace HO_477000:=am (Kd.R_elder' (rup HO_477000.out) (Kd.R_base ho0) hb)
         replace BK452:=am (blk_below (bup BK452.out) hb)
         replace BK476:=am (blk_below (bup BK476.out) hb)
         replace HB:=am (below_step bl hb)
         (try clear hb)
         (try clear ho0)
         obtain⟨Ao99,co99,eo99⟩:=Kd.R_slice HO490.out
         (first|subst eo99|(injection eo99 with f1_ f2_ f3_;have f4_:=f1_.symm;have f5_:=f3_.symm;clear f1_ f2_ f3_;subst f4_;subst f5_))
         refine hK.out _ _ ⟨bc BK476.out 0,bc BK476.out 1,bc BK452.out 0,bc BK452.out 1⟩ (fun hHeld=>?_)
         clear hK K
         refine norm_ (a':=?_) ?_ ?_
         rotate_left
         ·show Act.put _ (some 73) _=_
          simp only[Act.put,List.setIfInBounds_toArray,List.set_cons_zero,List.set_cons_succ,i64_w,i32_w]
          rfl
         refine one_ (i:=3) (N:=some 74) (fl 4 5) rfl rfl (by kernel_rfl) (by decide) (fun K hK=>?_)
         refine goes_ Try.func15 (by kernel_rfl) rfl #[.agg #[.slice Ao55 t472.length co55,.int .i64 t475],.agg #[.slice Ao99 t488.length co99,.int .i64 t491]] (by rfl) rfl rfl tl ?_
         with_reducible refine(laws_eqInstrument.calls kj36 _ _ t472 t475 _ _ t488 t491 true _ ?side1 ?side2 ?side3 ?side4 A69.out).mono ?_
         (case side1=>repeat(first|exact(Kd.R_reads' HO_477000.out).2.2|(with_reducible refine Kd.C_alloc ?_ _)|(with_reducible refine Kd.C_drewN ?_ _)|(with_reducible refine Kd.C_drew ?_)))
         (case side2=>exact(Kd.R_reads' HO_477000.out).2.1)
         (case side3=>repeat(first|exact(Kd.R_reads' HO490.out).2.2|(with_reducible refine Kd.C_alloc ?_ _)|(with_reducible refine Kd.C_drewN ?_ _)|(with_reducible refine Kd.C_drew ?_)))
         (case side4=>exact(Kd.R_reads' HO490.out).2.1)
         rintro e w100 ⟨rfl,hb⟩
         refine⟨_,rfl,?_⟩
         replace HO_15:=am (Kd.R_below (rup HO_15.out) hb)
         replace HO_16:=am (Kd.R_below (rup HO_16.out) hb)
         replace HO_477000:=am (Kd.R_below (rup HO_477000.out) hb)
         replace HO490:=am (Kd.R_below (rup HO490.out) hb)
         replace BK452:=am (blk_below (bup BK452.out) hb)
         replace BK476:=am (blk_below (bup BK476.out) hb)
         replace HB:=am (below_step bl hb)
         (try clear hb)
         refine hK.out _ _ ⟨bc BK476.out 0,bc BK476.out 1,bc BK452.out 0,bc BK452.out 1⟩ (fun hHeld=>?_)
         clear hK K
         refine norm_ (a':=?_) ?_ ?_
         rotate_left
         ·show Act.put _ (some 74) _=_
          simp only[Act.put,List.setIfInBounds_toArray,List.set_cons_zero,List.set_cons_succ,i64_w,i32_w]
          rfl
         refine pure_ (i:=4) (N:=some 75) (v:=?_) (a':=?_) (fl 5 5) rfl rfl (by kernel_rfl) (fun _ _ _ h=>h) (Or.inl ⟨by rfl,?_⟩) ?_ ?_
         rotate_left
         ·intro w'
          go_simp
          with_reducible rfl
         rotate_left
         ·simp only[Act.put,List.setIfInBounds_toArray,List.set_cons_zero,List.set_cons_succ,i64_w,i32_w]
          rfl
         refine done_ (by kernel_rfl) ?_
         try go_wp2_with (first|((with_reducible refine gate_callee (f:=11) rfl ?_);refine goesL_ (some 78) rfl rfl Try.func11 (by kernel_rfl) rfl #[.slice A1 l1.length c1] rfl tl ?_;(with_reducible refine(laws_toNoteS.calls kj36 _ _ l1 t493 _ ?side1 ?side2 A71.out).mono ?_);(case side1=>exact cup (Kd.C_below HR1.out HB.out));(case side2=>exact HC1.out);rintro e w101 ⟨v494,rfl,ho0,hb⟩;refine⟨_,rfl,?_⟩;replace HO_16:=am (Kd.R_below (rup HO_16.out) hb);replace HO_477000:=am (Kd.R_below (rup HO_477000.out) hb);replace HO490:=am (Kd.R_below (rup HO490.out) hb);have HO495:=am (Kd.R_lower (Kd.R_new' ho0 (Kd.R_lt (rup HO_15.out))) (below_size bl));replace HO_15:=am (Kd.R_elder' (rup HO_15.out) (Kd.R_base ho0) hb);replace BK452:=am (blk_below (bup BK452.out) hb);replace BK476:=am (blk_below (bup BK476.out) hb);replace HB:=am (below_step bl hb);(try clear hb);(try clear ho0);obtain⟨Ao102,co102,eo102⟩:=Kd.R_slice HO495.out;subst eo102)|((with_reducible refine gate_callee (f:=16) rfl ?_);refine goesL_ (some 79) rfl rfl Try.func16 (by kernel_rfl) rfl #[.slice Ao63 t477.length co63,.slice Ao102 t493.length co102] rfl tl ?_;(with_reducible refine(laws_eqNoteS.calls kj36 _ _ t477 _ _ t493 false _ ?side1 ?side2 ?side3 ?side4 A72.out).mono ?_);(case side1=>repeat(first|exact(Kd.R_reads' HO_15.out).2.2|(with_reducible refine Kd.C_alloc ?_ _)|(with_reducible refine Kd.C_drewN ?_ _)|(with_reducible refine Kd.C_drew ?_)));(case side2=>exact(Kd.R_reads' HO_15.out).2.1);(case side3=>repeat(first|exact(Kd.R_reads' HO495.out).2.2|(with_reducible refine Kd.C_alloc ?_ _)|(with_reducible refine Kd.C_drewN ?_ _)|(with_reducible refine Kd.C_drew ?_)));(case side4=>exact(Kd.R_reads' HO495.out).2.1);rintro e w103 ⟨rfl,hb⟩;refine⟨_,rfl,?_⟩;replace HO_15:=am (Kd.R_below (rup HO_15.out) hb);replace HO_16:=am (Kd.R_below (rup HO_16.out) hb);replace HO_477000:=am (Kd.R_below (rup HO_477000.out) hb);replace HO490:=am (Kd.R_below (rup HO490.out) hb);replace HO495:=am (Kd.R_below (rup HO495.out) hb);replace BK452:=am (blk_below (bup BK452.out) hb);replace BK476:=am (blk_below (bup BK476.out) hb);replace HB:=am (below_step bl hb);(try clear hb)))
         go_ret
         exact⟨fin1,bl⟩
       ·replace c70:=Bool.eq_false_iff.mpr c70
        subst c70
        replace H:=(if_neg Bool.false_ne_true).symm.trans H
        obtain rfl:=Option.some.inj H
        try go_wp2
        replace HO_15:=am (Kd.R_drew HO_15.out)
        replace HO_16:=am (Kd.R_drew HO_16.out)
        replace HO_477000:=am (Kd.R_drew HO_477000.out)
        replace BK452:=am (bD_ BK452.out)
        replace BK476:=am (bD_ BK476.out)
        replace HB:=am (below_drew1 HB.out)
        refine start_ (n:=5) (S:=fun w'=>w'.cell? ⟨gb476,0,none⟩=some (.slice Ao55 t472.length co55)∧w'.cell? ⟨gb476,1,none⟩=some (.int .i64 t475)∧w'.cell? ⟨gb452,0,none⟩=some (.slice A0_0 l0_0.length c0_0)∧w'.cell? ⟨gb452,1,none⟩=some (.int .i64 a0_1)) (ds:=[]) (fl 0 5) (by kernel_rfl) rfl rfl ⟨bc BK476.out 0,bc BK476.out 1,bc BK452.out 0,bc BK452.out 1⟩ (fun hHeld=>?_)
        generalize wc.drew=w104 at HO_15 HO_16 HO_477000 BK452 BK476 HB hHeld ⊢
        refine take_ (i:=0) (N:=some 71) (v:=?_) (a':=?_) (fl 1 5) rfl rfl (by kernel_rfl) (fun _ _ _ h=>h) (Or.inl ⟨by rfl,?_⟩) hHeld ?_ ?_
        rotate_left
        ·rintro w' ⟨s0,s1,s2,s3⟩
         go_simp
         with_reducible rfl
        rotate_left
        ·simp only[Act.put,List.setIfInBounds_toArray,List.set_cons_zero,List.set_cons_succ,i64_w,i32_w]
         rfl
        refine take_ (i:=1) (N:=some 72) (v:=?_) (a':=?_) (fl 2 5) rfl rfl (by kernel_rfl) (fun _ _ _ h=>h) (Or.inl ⟨by rfl,?_⟩) hHeld ?_ ?_
        rotate_left
        ·rintro w' ⟨s0,s1,s2,s3⟩
         go_simp
         with_reducible rfl
        rotate_left
        ·simp only[Act.put,List.setIfInBounds_toArray,List.set_cons_zero,List.set_cons_succ,i64_w,i32_w]
         rfl
        refine one_ (i:=2) (N:=some 73) (fl 3 5) rfl rfl (by kernel_rfl) (by decide) (fun K hK=>?_)
        refine goes_ Try.func10 (by kernel_rfl) rfl #[.agg #[.slice A0_0 l0_0.length c0_0,.int .i64 a0_1]] (by rfl) rfl rfl tl ?_
        with_reducible refine(laws_toInstrument.calls kj36 _ _ l0_0 a0_1 t488 t491 _ ?side1 ?side2 A68.out).mono ?_
        (case side1=>exact cup (Kd.C_below HR0_0.out HB.out))
        (case side2=>exact HC0_0.out)
        rintro e w105 ⟨v489,rfl,ho0,hb⟩
        refine⟨_,rfl,?_⟩
        replace HO_15:=am (Kd.R_below (rup HO_15.out) hb)
        replace HO_16:=am (Kd.R_below (rup HO_16.out) hb)
        have HO490:=am (Kd.R_lower (Kd.R_new' ho0 (Kd.R_lt (rup HO_477000.out))) (below_size bl))
        replace HO_477000:=am (Kd.R_elder' (rup HO_477000.out) (Kd.R_base ho0) hb)
        replace BK452:=am (blk_below (bup BK452.out) hb)
        replace BK476:=am (blk_below (bup BK476.out) hb)
        replace HB:=am (below_step bl hb)
        (try clear hb)
        (try clear ho0)
        obtain⟨Ao106,co106,eo106⟩:=Kd.R_slice HO490.out
        (first|subst eo106|(injection eo106 with f1_ f2_ f3_;have f4_:=f1_.symm;have f5_:=f3_.symm;clear f1_ f2_ f3_;subst f4_;subst f5_))
        refine hK.out _ _ ⟨bc BK476.out 0,bc BK476.out 1,bc BK452.out 0,bc BK452.out 1⟩ (fun hHeld=>?_)
        clear hK K
        refine norm_ (a':=?_) ?_ ?_
        rotate_left
        ·show Act.put _ (some 73) _=_
         simp only[Act.put,List.setIfInBounds_toArray,List.set_cons_zero,List.set_cons_succ,i64_w,i32_w]
         rfl
        refine one_ (i:=3) (N:=some 74) (fl 4 5) rfl rfl (by kernel_rfl) (by decide) (fun K hK=>?_)
        refine goes_ Try.func15 (by kernel_rfl) rfl #[.agg #[.slice Ao55 t472.length co55,.int .i64 t475],.agg #[.slice Ao106 t488.length co106,.int .i64 t491]] (by rfl) rfl rfl tl ?_
        with_reducible refine(laws_eqInstrument.calls kj36 _ _ t472 t475 _ _ t488 t491 false _ ?side1 ?side2 ?side3 ?side4 A69.out).mono ?_
        (case side1=>repeat(first|exact(Kd.R_reads' HO_477000.out).2.2|(with_reducible refine Kd.C_alloc ?_ _)|(with_reducible refine Kd.C_drewN ?_ _)|(with_reducible refine Kd.C_drew ?_)))
        (case side2=>exact(Kd.R_reads' HO_477000.out).2.1)
        (case side3=>repeat(first|exact(Kd.R_reads' HO490.out).2.2|(with_reducible refine Kd.C_alloc ?_ _)|(with_reducible refine Kd.C_drewN ?_ _)|(with_reducible refine Kd.C_drew ?_)))
        (case side4=>exact(Kd.R_reads' HO490.out).2.1)
        rintro e w107 ⟨rfl,hb⟩
        refine⟨_,rfl,?_⟩
        replace HO_15:=am (Kd.R_below (rup HO_15.out) hb)
        replace HO_16:=am (Kd.R_below (rup HO_16.out) hb)
        replace HO_477000:=am (Kd.R_below (rup HO_477000.out) hb)
        replace HO490:=am (Kd.R_below (rup HO490.out) hb)
        replace BK452:=am (blk_below (bup BK452.out) hb)
        replace BK476:=am (blk_below (bup BK476.out) hb)
        replace HB:=am (below_step bl hb)
        (try clear hb)
        refine hK.out _ _ ⟨bc BK476.out 0,bc BK476.out 1,bc BK452.out 0,bc BK452.out 1⟩ (fun hHeld=>?_)
        clear hK K
        refine norm_ (a':=?_) ?_ ?_
        rotate_left
        ·show Act.put _ (some 74) _=_
         simp only[Act.put,List.setIfInBounds_toArray,List.set_cons_zero,List.set_cons_succ,i64_w,i32_w]
         rfl
        refine pure_ (i:=4) (N:=some 75) (v:=?_) (a':=?_) (fl 5 5) rfl rfl (by kernel_rfl) (fun _ _ _ h=>h) (Or.inl ⟨by rfl,?_⟩) ?_ ?_
        rotate_left
        ·intro w'
         go_simp
         with_reducible rfl
        rotate_left
        ·simp only[Act.put,List.setIfInBounds_toArray,List.set_cons_zero,List.set_cons_succ,i64_w,i32_w]
         rfl
        refine done_ (by kernel_rfl) ?_
        try go_wp2
        go_ret
        exact⟨fin1,bl⟩

end Go.Proofs.Ytipklbjbgbbgpaa.PFnExactPassesVerifier
