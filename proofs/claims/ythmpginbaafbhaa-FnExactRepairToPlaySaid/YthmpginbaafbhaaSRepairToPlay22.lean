/- The walks of functions that FnExactRepairToPlay reaches: what they return is what the plain functions of the same names say. Laid by a program of this session after the kit's print. No conditions beyond the arguments' being read. -/
import Derived.Test.YthmpginbaafbhaaSRepairToPlay0
import Derived.Test.YthmpginbaafbhaaSRepairToPlay1
import Derived.Test.YthmpginbaafbhaaSRepairToPlay11
import Derived.Test.YthmpginbaafbhaaSRepairToPlay20
import Derived.Test.YthmpginbaafbhaaSRepairToPlay21
namespace Go.Proofs.Ythmpginbaafbhaa.PFnExactRepairToPlay
open Go.RowKit Go.Proofs.YthmpginbaafbhaaW.PrintWords Go.Proofs.YthmpginbaafbhaaW.PrintLast Go.Proofs.YthmpginbaafbhaaW.PrintMore
attribute [local go_sem] max2_int min2_int max_two min_two max_three min_three max_four min_four   -- for this text's walks alone
set_option linter.unusedVariables false
set_option linter.unusedSimpArgs false

def laws_FnExactRepairToPlay.j0:Nat→List (S53)→List (S57)→List (S51)→List (S55)→Bool→List Int→Int→List Int→Int→Option (Bool)
 | 0,_,_,_,_,_,_,_,_,_=>none
 | k+1,x1,x2,x15,x16,x68,x484000,x484001,x504000,x504001=>if x68=true then(some false) else((laws_toInstrument.f k x484000 x484001).bind fun bt512=>((laws_eqInstrument.f k x504000 x504001 bt512.1 bt512.2).bind fun t516=>(if t516=true then((laws_toHoleS.f k x1).bind fun t517=>((laws_eqHoleS.f k x15 t517).bind fun t520=>(if t520=true then((laws_toNoteS.f k x2).bind fun t521=>((laws_eqNoteS.f k x16 t521).bind fun t524=>(if t524=true then(some true) else(some false)))) else(some false)))) else(some false))))
def laws_FnExactRepairToPlay.f (k:Nat) (l0_0:List Int) (a0_1:Int) (l1:List (S53)) (l2:List (S57)) (a3:Int) (a4:Int):Option (Bool):=(laws_szInstrument.f l0_0 a0_1 1048576).bind fun t484=>(if t484<0 then(some true) else((laws_szHoleS.f l1 t484).bind fun t485=>(if t485<0 then(some true) else((laws_szNoteS.f l2 t485).bind fun t486=>(if t486<0 then(some true) else((laws_toInstrument.f k l0_0 a0_1).bind fun bt487=>((laws_toHoleS.f k l1).bind fun t491=>((laws_toNoteS.f k l2).bind fun t494=>((spec_RepairToPlay.f k bt487.1 bt487.2 t491 t494 a3 a4).bind fun bt497=>((laws_toInstrument.f k l0_0 a0_1).bind fun bt499=>((laws_toHoleS.f k l1).bind fun t504=>((laws_toNoteS.f k l2).bind fun t507=>((impl_RepairToPlay.f k bt499.1 bt499.2 t504 t507 a3 a4).bind fun bt510=>(if bt510.1=bt497.1 then(laws_FnExactRepairToPlay.j0 k l1 l2 t504 t507 (bt510.2 != bt497.2) l0_0 a0_1 bt499.1 bt499.2) else(laws_FnExactRepairToPlay.j0 k l1 l2 t504 t507 true l0_0 a0_1 bt499.1 bt499.2)))))))))))))))
set_option maxHeartbeats 8000000 in
set_option maxRecDepth 100000 in
theorem laws_FnExactRepairToPlay.calls (k:Nat) (A0_0:Option Addr) (c0_0:Nat) (l0_0:List Int) (a0_1:Int) (A1:Option Addr) (c1:Nat) (l1:List (S53)) (A2:Option Addr) (c2:Nat) (l2:List (S57)) (a3:Int) (a4:Int) (r:Bool) (w:World) (hr0_0:Kd.C (Kd.int .i64) w A0_0 l0_0.length l0_0) (hc0_0:l0_0.length≤c0_0) (hr1:Kd.C k53 w A1 l1.length l1) (hc1:l1.length≤c1) (hr2:Kd.C k57 w A2 l2.length l2) (hc2:l2.length≤c2) (h:laws_FnExactRepairToPlay.f k l0_0 a0_1 l1 l2 a3 a4=some r) :
  Calls Try.prog 3 #[.agg #[.slice A0_0 l0_0.length c0_0,.int .i64 a0_1],.slice A1 l1.length c1,.slice A2 l2.length c2,.int .i64 a3,.int .i64 a4] w fun e w'=>e = .returned (.bool r)∧Below w.heap.size w w':=by
 have hu24:=Try.underlying24
 have hu32:=Try.underlying32
 have HR0_0:=am hr0_0
 have HC0_0:=am hc0_0
 clear hr0_0 hc0_0
 have HR1:=am hr1
 have HC1:=am hc1
 clear hr1 hc1
 have HR2:=am hr2
 have HC2:=am hc2
 clear hr2 hc2
 have HB:=am (Below.refl w.heap.size w)
 have H:((laws_szInstrument.f l0_0 a0_1 1048576).bind fun t484=>(if t484<0 then(some true) else((laws_szHoleS.f l1 t484).bind fun t485=>(if t485<0 then(some true) else((laws_szNoteS.f l2 t485).bind fun t486=>(if t486<0 then(some true) else((laws_toInstrument.f k l0_0 a0_1).bind fun bt487=>((laws_toHoleS.f k l1).bind fun t491=>((laws_toNoteS.f k l2).bind fun t494=>((spec_RepairToPlay.f k bt487.1 bt487.2 t491 t494 a3 a4).bind fun bt497=>((laws_toInstrument.f k l0_0 a0_1).bind fun bt499=>((laws_toHoleS.f k l1).bind fun t504=>((laws_toNoteS.f k l2).bind fun t507=>((impl_RepairToPlay.f k bt499.1 bt499.2 t504 t507 a3 a4).bind fun bt510=>(if bt510.1=bt497.1 then(laws_FnExactRepairToPlay.j0 k l1 l2 t504 t507 (bt510.2 != bt497.2) l0_0 a0_1 bt499.1 bt499.2) else(laws_FnExactRepairToPlay.j0 k l1 l2 t504 t507 true l0_0 a0_1 bt499.1 bt499.2))))))))))))))))=some r:=h
 clear h
 obtain⟨t484,A6,H⟩:=bnd H
 rcases itc H with⟨c7,H⟩|⟨c7,H⟩
 ·have c7b0:=decide_eq_true c7
  clear c7
  obtain rfl:=Option.some.inj H
  go_enter Try.func3,Try.ntmps3
  go_wp2_with (first|((with_reducible refine gate_dst (N:=5) rfl ?_);refine box_event ?hg (N:=5) ?hd (cs := #[.slice A0_0 l0_0.length c0_0,.int .i64 a0_1]) (t:=24) ?hr ?_;(case hd=>rfl);(case hg=>rfl);(case hr=>first|(go_simp;done)|(go_simp;rfl));intro gb483 hg w8 hbox hb;have BK483:=am (hbox);have GW483:=am (ge_ bl hg);have GE483:=am (ge_ bl hg);replace HB:=am (below_step bl hb);clear hb hbox hg;have hcz9_0:w8.cell? ⟨gb483,0,none⟩=some (.slice A0_0 l0_0.length c0_0):=(blk_cell BK483.out 0).trans rfl;have hcz9_1:w8.cell? ⟨gb483,1,none⟩=some (.int .i64 a0_1):=(blk_cell BK483.out 1).trans rfl;have hfz9_0:=blk_frozen BK483.out 0;have hfz9_1:=blk_frozen BK483.out 1)|((with_reducible refine gate_callee (f:=4) rfl ?_);refine goesL_ (some 21) rfl rfl Try.func4 (by kernel_rfl) rfl #[.agg #[.slice A0_0 l0_0.length c0_0,.int .i64 a0_1],.int .i64 1048576] rfl tl ?_;(with_reducible refine(laws_szInstrument.calls _ _ l0_0 a0_1 1048576 t484 _ ?side1 ?side2 A6.out).mono ?_);(case side1=>exact cup (Kd.C_below HR0_0.out HB.out));(case side2=>exact HC0_0.out);rintro e w10 ⟨rfl,hb⟩;refine⟨_,rfl,?_⟩;replace BK483:=am (blk_below (bup BK483.out) hb);replace HB:=am (below_step bl hb);(try clear hb)))
  go_ret
  exact⟨fin1,bl⟩
 ·have c7b0:=decide_eq_false c7
  clear c7
  obtain⟨t485,A11,H⟩:=bnd H
  rcases itc H with⟨c12,H⟩|⟨c12,H⟩
  ·have c12b0:=decide_eq_true c12
   clear c12
   obtain rfl:=Option.some.inj H
   go_enter Try.func3,Try.ntmps3
   go_wp2_with (first|((with_reducible refine gate_dst (N:=5) rfl ?_);refine box_event ?hg (N:=5) ?hd (cs := #[.slice A0_0 l0_0.length c0_0,.int .i64 a0_1]) (t:=24) ?hr ?_;(case hd=>rfl);(case hg=>rfl);(case hr=>first|(go_simp;done)|(go_simp;rfl));intro gb483 hg w13 hbox hb;have BK483:=am (hbox);have GW483:=am (ge_ bl hg);have GE483:=am (ge_ bl hg);replace HB:=am (below_step bl hb);clear hb hbox hg;have hcz14_0:w13.cell? ⟨gb483,0,none⟩=some (.slice A0_0 l0_0.length c0_0):=(blk_cell BK483.out 0).trans rfl;have hcz14_1:w13.cell? ⟨gb483,1,none⟩=some (.int .i64 a0_1):=(blk_cell BK483.out 1).trans rfl;have hfz14_0:=blk_frozen BK483.out 0;have hfz14_1:=blk_frozen BK483.out 1)|((with_reducible refine gate_callee (f:=4) rfl ?_);refine goesL_ (some 21) rfl rfl Try.func4 (by kernel_rfl) rfl #[.agg #[.slice A0_0 l0_0.length c0_0,.int .i64 a0_1],.int .i64 1048576] rfl tl ?_;(with_reducible refine(laws_szInstrument.calls _ _ l0_0 a0_1 1048576 t484 _ ?side1 ?side2 A6.out).mono ?_);(case side1=>exact cup (Kd.C_below HR0_0.out HB.out));(case side2=>exact HC0_0.out);rintro e w15 ⟨rfl,hb⟩;refine⟨_,rfl,?_⟩;replace BK483:=am (blk_below (bup BK483.out) hb);replace HB:=am (below_step bl hb);(try clear hb))|((with_reducible refine gate_callee (f:=5) rfl ?_);refine goesL_ (some 26) rfl rfl Try.func5 (by kernel_rfl) rfl #[.slice A1 l1.length c1,.int .i64 t484] rfl tl ?_;(with_reducible refine(laws_szHoleS.calls _ _ l1 t484 t485 _ ?side1 ?side2 A11.out).mono ?_);(case side1=>exact cup (Kd.C_below HR1.out HB.out));(case side2=>exact HC1.out);rintro e w' ⟨rfl,⟨nd,rfl⟩⟩;refine⟨_,rfl,?_⟩))
   go_ret
   exact⟨fin1,bl⟩
  ·have c12b0:=decide_eq_false c12
   clear c12
   obtain⟨t486,A16,H⟩:=bnd H
   rcases itc H with⟨c17,H⟩|⟨c17,H⟩
   ·have c17b0:=decide_eq_true c17
    clear c17
    obtain rfl:=Option.some.inj H
    go_enter Try.func3,Try.ntmps3
    go_wp2_with (first|((with_reducible refine gate_dst (N:=5) rfl ?_);refine box_event ?hg (N:=5) ?hd (cs := #[.slice A0_0 l0_0.length c0_0,.int .i64 a0_1]) (t:=24) ?hr ?_;(case hd=>rfl);(case hg=>rfl);(case hr=>first|(go_simp;done)|(go_simp;rfl));intro gb483 hg w18 hbox hb;have BK483:=am (hbox);have GW483:=am (ge_ bl hg);have GE483:=am (ge_ bl hg);replace HB:=am (below_step bl hb);clear hb hbox hg;have hcz19_0:w18.cell? ⟨gb483,0,none⟩=some (.slice A0_0 l0_0.length c0_0):=(blk_cell BK483.out 0).trans rfl;have hcz19_1:w18.cell? ⟨gb483,1,none⟩=some (.int .i64 a0_1):=(blk_cell BK483.out 1).trans rfl;have hfz19_0:=blk_frozen BK483.out 0;have hfz19_1:=blk_frozen BK483.out 1)|((with_reducible refine gate_callee (f:=4) rfl ?_);refine goesL_ (some 21) rfl rfl Try.func4 (by kernel_rfl) rfl #[.agg #[.slice A0_0 l0_0.length c0_0,.int .i64 a0_1],.int .i64 1048576] rfl tl ?_;(with_reducible refine(laws_szInstrument.calls _ _ l0_0 a0_1 1048576 t484 _ ?side1 ?side2 A6.out).mono ?_);(case side1=>exact cup (Kd.C_below HR0_0.out HB.out));(case side2=>exact HC0_0.out);rintro e w20 ⟨rfl,hb⟩;refine⟨_,rfl,?_⟩;replace BK483:=am (blk_below (bup BK483.out) hb);replace HB:=am (below_step bl hb);(try clear hb))|((with_reducible refine gate_callee (f:=5) rfl ?_);refine goesL_ (some 26) rfl rfl Try.func5 (by kernel_rfl) rfl #[.slice A1 l1.length c1,.int .i64 t484] rfl tl ?_;(with_reducible refine(laws_szHoleS.calls _ _ l1 t484 t485 _ ?side1 ?side2 A11.out).mono ?_);(case side1=>exact cup (Kd.C_below HR1.out HB.out));(case side2=>exact HC1.out);rintro e w' ⟨rfl,⟨nd,rfl⟩⟩;refine⟨_,rfl,?_⟩)|((with_reducible refine gate_callee (f:=6) rfl ?_);refine goesL_ (some 31) rfl rfl Try.func6 (by kernel_rfl) rfl #[.slice A2 l2.length c2,.int .i64 t485] rfl tl ?_;(with_reducible refine(laws_szNoteS.calls _ _ l2 t485 t486 _ ?side1 ?side2 A16.out).mono ?_);(case side1=>repeat(first|exact(Kd.C_below HR2.out bl)|(with_reducible refine Kd.C_alloc ?_ _)|(with_reducible refine Kd.C_drewN ?_ _)|(with_reducible refine Kd.C_drew ?_)));(case side2=>exact HC2.out);rintro e w' ⟨rfl,⟨nd,rfl⟩⟩;refine⟨_,rfl,?_⟩))
    go_ret
    exact⟨fin1,bl⟩
   ·have c17b0:=decide_eq_false c17
    clear c17
    obtain⟨⟨t487,t490⟩,A21,H⟩:=bnd H;dsimp only at H
    obtain⟨t491,A22,H⟩:=bnd H
    obtain⟨t494,A23,H⟩:=bnd H
    obtain⟨⟨t497,t498⟩,A24,H⟩:=bnd H;dsimp only at H
    obtain⟨⟨t499,t502⟩,A25,H⟩:=bnd H;dsimp only at H
    obtain⟨t504,A26,H⟩:=bnd H
    obtain⟨t507,A27,H⟩:=bnd H
    obtain⟨⟨t510,t511⟩,A28,H⟩:=bnd H;dsimp only at H
    have HC29:=am H
    clear H
    go_enter Try.func3,Try.ntmps3
    go_upto_region 16 with(first|((with_reducible refine gate_dst (N:=5) rfl ?_);refine box_event ?hg (N:=5) ?hd (cs := #[.slice A0_0 l0_0.length c0_0,.int .i64 a0_1]) (t:=24) ?hr ?_;(case hd=>rfl);(case hg=>rfl);(case hr=>first|(go_simp;done)|(go_simp;rfl));intro gb483 hg w30 hbox hb;have BK483:=am (hbox);have GW483:=am (ge_ bl hg);have GE483:=am (ge_ bl hg);replace HB:=am (below_step bl hb);clear hb hbox hg;have hcz31_0:w30.cell? ⟨gb483,0,none⟩=some (.slice A0_0 l0_0.length c0_0):=(blk_cell BK483.out 0).trans rfl;have hcz31_1:w30.cell? ⟨gb483,1,none⟩=some (.int .i64 a0_1):=(blk_cell BK483.out 1).trans rfl;have hfz31_0:=blk_frozen BK483.out 0;have hfz31_1:=blk_frozen BK483.out 1)|((with_reducible refine gate_callee (f:=4) rfl ?_);refine goesL_ (some 21) rfl rfl Try.func4 (by kernel_rfl) rfl #[.agg #[.slice A0_0 l0_0.length c0_0,.int .i64 a0_1],.int .i64 1048576] rfl tl ?_;(with_reducible refine(laws_szInstrument.calls _ _ l0_0 a0_1 1048576 t484 _ ?side1 ?side2 A6.out).mono ?_);(case side1=>exact cup (Kd.C_below HR0_0.out HB.out));(case side2=>exact HC0_0.out);rintro e w32 ⟨rfl,hb⟩;refine⟨_,rfl,?_⟩;replace BK483:=am (blk_below (bup BK483.out) hb);replace HB:=am (below_step bl hb);(try clear hb))|((with_reducible refine gate_callee (f:=5) rfl ?_);refine goesL_ (some 26) rfl rfl Try.func5 (by kernel_rfl) rfl #[.slice A1 l1.length c1,.int .i64 t484] rfl tl ?_;(with_reducible refine(laws_szHoleS.calls _ _ l1 t484 t485 _ ?side1 ?side2 A11.out).mono ?_);(case side1=>exact cup (Kd.C_below HR1.out HB.out));(case side2=>exact HC1.out);rintro e w' ⟨rfl,⟨nd,rfl⟩⟩;refine⟨_,rfl,?_⟩;(try(rw[drewN_self w32];generalize hq_:World.drewN w32 _=w32;have n0_:Aside0 (w32.heap[gb483]?=some (.cells #[.slice A0_0 l0_0.length c0_0,.int .i64 a0_1] 24 (0,0))):=⟨by rw[← hq_];exact(bup BK483.out)⟩;have n1_:Aside0 (Below w.heap.size w w32):=⟨by rw[← hq_];exact bl⟩;clear BK483 HB hq_;have BK483:=n0_;have HB:=n1_;clear n0_ n1_)))|((with_reducible refine gate_callee (f:=6) rfl ?_);refine goesL_ (some 31) rfl rfl Try.func6 (by kernel_rfl) rfl #[.slice A2 l2.length c2,.int .i64 t485] rfl tl ?_;(with_reducible refine(laws_szNoteS.calls _ _ l2 t485 t486 _ ?side1 ?side2 A16.out).mono ?_);(case side1=>exact cup (Kd.C_below HR2.out HB.out));(case side2=>exact HC2.out);rintro e w' ⟨rfl,⟨nd,rfl⟩⟩;refine⟨_,rfl,?_⟩;(try(rw[drewN_self w32];generalize hq_:World.drewN w32 _=w32;have n0_:Aside0 (w32.heap[gb483]?=some (.cells #[.slice A0_0 l0_0.length c0_0,.int .i64 a0_1] 24 (0,0))):=⟨by rw[← hq_];exact(bup BK483.out)⟩;have n1_:Aside0 (Below w.heap.size w w32):=⟨by rw[← hq_];exact bl⟩;clear BK483 HB hq_;have BK483:=n0_;have HB:=n1_;clear n0_ n1_));have hcz33_0:w32.cell? ⟨gb483,0,none⟩=some (.slice A0_0 l0_0.length c0_0):=(blk_cell BK483.out 0).trans rfl;have hcz33_1:w32.cell? ⟨gb483,1,none⟩=some (.int .i64 a0_1):=(blk_cell BK483.out 1).trans rfl;have hfz33_0:=blk_frozen BK483.out 0;have hfz33_1:=blk_frozen BK483.out 1)|((with_reducible refine gate_callee (f:=8) rfl ?_);refine goesL_ (some 36) rfl rfl Try.func8 (by kernel_rfl) rfl #[.agg #[.slice A0_0 l0_0.length c0_0,.int .i64 a0_1]] rfl tl ?_;(with_reducible refine(laws_toInstrument.calls k _ _ l0_0 a0_1 t487 t490 _ ?side1 ?side2 A21.out).mono ?_);(case side1=>exact cup (Kd.C_below HR0_0.out HB.out));(case side2=>exact HC0_0.out);rintro e w34 ⟨v488,rfl,ho0,hb⟩;refine⟨_,rfl,?_⟩;have HO489:=am (Kd.R_lower ho0 (below_size bl));replace BK483:=am (blk_below (bup BK483.out) hb);replace HB:=am (below_step bl hb);(try clear hb);(try clear ho0))|((with_reducible refine gate_callee (f:=9) rfl ?_);refine goesL_ (some 38) rfl rfl Try.func9 (by kernel_rfl) rfl #[.slice A1 l1.length c1] rfl tl ?_;(with_reducible refine(laws_toHoleS.calls k _ _ l1 t491 _ ?side1 ?side2 A22.out).mono ?_);(case side1=>exact cup (Kd.C_below HR1.out HB.out));(case side2=>exact HC1.out);rintro e w35 ⟨v492,rfl,ho0,hb⟩;refine⟨_,rfl,?_⟩;replace HO489:=am (Kd.R_below (rup HO489.out) hb);have HO493:=am (Kd.R_lower ho0 (below_size bl));replace BK483:=am (blk_below (bup BK483.out) hb);replace HB:=am (below_step bl hb);(try clear hb);(try clear ho0))|((with_reducible refine gate_callee (f:=10) rfl ?_);refine goesL_ (some 40) rfl rfl Try.func10 (by kernel_rfl) rfl #[.slice A2 l2.length c2] rfl tl ?_;(with_reducible refine(laws_toNoteS.calls k _ _ l2 t494 _ ?side1 ?side2 A23.out).mono ?_);(case side1=>exact cup (Kd.C_below HR2.out HB.out));(case side2=>exact HC2.out);rintro e w36 ⟨v495,rfl,ho0,hb⟩;refine⟨_,rfl,?_⟩;replace HO489:=am (Kd.R_below (rup HO489.out) hb);replace HO493:=am (Kd.R_below (rup HO493.out) hb);have HO496:=am (Kd.R_lower ho0 (below_size bl));replace BK483:=am (blk_below (bup BK483.out) hb);replace HB:=am (below_step bl hb);(try clear hb);(try clear ho0);obtain⟨Ao37,co37,eo37⟩:=Kd.R_slice HO489.out;subst eo37;obtain⟨Ao38,co38,eo38⟩:=Kd.R_slice HO493.out;subst eo38;obtain⟨Ao39,co39,eo39⟩:=Kd.R_slice HO496.out;subst eo39)|((with_reducible refine gate_callee (f:=7) rfl ?_);refine goesL_ (some 43) rfl rfl Try.func7 (by kernel_rfl) rfl #[.agg #[.slice Ao37 t487.length co37,.int .i64 t490],.slice Ao38 t491.length co38,.slice Ao39 t494.length co39,.int .i64 a3,.int .i64 a4] rfl tl ?_;(with_reducible refine(spec_RepairToPlay.calls k _ _ t487 t490 _ _ t491 _ _ t494 a3 a4 t497 t498 _ ?side1 ?side2 ?side3 ?side4 ?side5 ?side6 A24.out).mono ?_);(case side1=>repeat(first|exact(Kd.R_reads' HO489.out).2.2|(with_reducible refine Kd.C_alloc ?_ _)|(with_reducible refine Kd.C_drewN ?_ _)|(with_reducible refine Kd.C_drew ?_)));(case side2=>exact(Kd.R_reads' HO489.out).2.1);(case side3=>repeat(first|exact(Kd.R_reads' HO493.out).2.2|(with_reducible refine Kd.C_alloc ?_ _)|(with_reducible refine Kd.C_drewN ?_ _)|(with_reducible refine Kd.C_drew ?_)));(case side4=>exact(Kd.R_reads' HO493.out).2.1);(case side5=>repeat(first|exact(Kd.R_reads' HO496.out).2.2|(with_reducible refine Kd.C_alloc ?_ _)|(with_reducible refine Kd.C_drewN ?_ _)|(with_reducible refine Kd.C_drew ?_)));(case side6=>exact(Kd.R_reads' HO496.out).2.1);rintro e w40 ⟨rfl,hb⟩;refine⟨_,rfl,?_⟩;replace HO489:=am (Kd.R_below (rup HO489.out) hb);replace HO493:=am (Kd.R_below (rup HO493.out) hb);replace HO496:=am (Kd.R_below (rup HO496.out) hb);replace BK483:=am (blk_below (bup BK483.out) hb);replace HB:=am (below_step bl hb);(try clear hb);have hcz41_0:w40.cell? ⟨gb483,0,none⟩=some (.slice A0_0 l0_0.length c0_0):=(blk_cell BK483.out 0).trans rfl;have hcz41_1:w40.cell? ⟨gb483,1,none⟩=some (.int .i64 a0_1):=(blk_cell BK483.out 1).trans rfl;have hfz41_0:=blk_frozen BK483.out 0;have hfz41_1:=blk_frozen BK483.out 1)|((with_reducible refine gate_callee (f:=8) rfl ?_);refine goesL_ (some 47) rfl rfl Try.func8 (by kernel_rfl) rfl #[.agg #[.slice A0_0 l0_0.length c0_0,.int .i64 a0_1]] rfl tl ?_;(with_reducible refine(laws_toInstrument.calls k _ _ l0_0 a0_1 t499 t502 _ ?side1 ?side2 A25.out).mono ?_);(case side1=>exact cup (Kd.C_below HR0_0.out HB.out));(case side2=>exact HC0_0.out);rintro e w42 ⟨v500,rfl,ho0,hb⟩;refine⟨_,rfl,?_⟩;replace HO493:=am (Kd.R_below (rup HO493.out) hb);replace HO496:=am (Kd.R_below (rup HO496.out) hb);have HO501:=am (Kd.R_lower (Kd.R_new' ho0 (Kd.R_lt (rup HO489.out))) (below_size bl));replace HO489:=am (Kd.R_elder' (rup HO489.out) (Kd.R_base ho0) hb);replace BK483:=am (blk_below (bup BK483.out) hb);replace HB:=am (below_step bl hb);(try clear hb);(try clear ho0))|((with_reducible refine gate_dst (N:=14) rfl ?_);refine box_event ?hg (N:=14) ?hd (cs := #[.slice none 0 0,.int .i64 0]) (t:=32) ?hr ?_;(case hd=>rfl);(case hg=>rfl);(case hr=>first|(go_simp;done)|(go_simp;rfl));intro gb503 hg w43 hbox hb;replace HO489:=am (Kd.R_below (rup HO489.out) hb);replace HO493:=am (Kd.R_below (rup HO493.out) hb);replace HO496:=am (Kd.R_below (rup HO496.out) hb);replace HO501:=am (Kd.R_below (rup HO501.out) hb);have BK503:=am (hbox);have GW503:=am (ge_ bl hg);have GE503:=am (ge_ bl hg);replace HB:=am (below_step bl hb);have NB483_503:=am (nl (bup BK483.out) hg);have NB503_483:=am (ng (bup BK483.out) hg);replace BK483:=am (blk_below (bup BK483.out) hb);clear hb hbox hg;obtain⟨Ao44,co44,eo44⟩:=Kd.R_slice HO501.out;subst eo44;have hnb45:=NB503_483.out;have hnc45:=NB483_503.out;have hcz46_0:w43.cell? ⟨gb503,0,none⟩=some (.slice none 0 0):=(blk_cell BK503.out 0).trans rfl;have hcz46_1:w43.cell? ⟨gb503,1,none⟩=some (.int .i64 0):=(blk_cell BK503.out 1).trans rfl;have hfz46_0:=blk_frozen BK503.out 0;have hfz46_1:=blk_frozen BK503.out 1)|((with_reducible refine gate_callee (f:=9) rfl ?_);refine goesL_ (some 49) rfl rfl Try.func9 (by kernel_rfl) rfl #[.slice A1 l1.length c1] rfl tl ?_;(with_reducible refine(laws_toHoleS.calls k _ _ l1 t504 _ ?side1 ?side2 A26.out).mono ?_);(case side1=>exact Kd.C_below HR1.out bl);(case side2=>exact HC1.out);rintro e w47 ⟨v505,rfl,ho0,hb⟩;refine⟨_,rfl,?_⟩;replace HO489:=am (Kd.R_below (by(with_reducible repeat(first|apply Kd.R_alloc|apply Kd.R_drewN|apply Kd.R_drew));exact(Kd.R_mono (Kd.R_far (p:=⟨gb503,1,none⟩) (Kd.R_far (p:=⟨gb503,0,none⟩) (Kd.R_types HO489.out BK503.out (by decide)) (fun _ hk=>hk.2) (.slice Ao44 t499.length co44)) (fun _ hk=>hk.2) (.int .i64 t502)) (fun _ h_=>h_.1))) hb);replace HO496:=am (Kd.R_below (by(with_reducible repeat(first|apply Kd.R_alloc|apply Kd.R_drewN|apply Kd.R_drew));exact(Kd.R_mono (Kd.R_far (p:=⟨gb503,1,none⟩) (Kd.R_far (p:=⟨gb503,0,none⟩) (Kd.R_types HO496.out BK503.out (by decide)) (fun _ hk=>hk.2) (.slice Ao44 t499.length co44)) (fun _ hk=>hk.2) (.int .i64 t502)) (fun _ h_=>h_.1))) hb);replace HO501:=am (Kd.R_below (by(with_reducible repeat(first|apply Kd.R_alloc|apply Kd.R_drewN|apply Kd.R_drew));exact(Kd.R_mono (Kd.R_far (p:=⟨gb503,1,none⟩) (Kd.R_far (p:=⟨gb503,0,none⟩) (Kd.R_types HO501.out BK503.out (by decide)) (fun _ hk=>hk.2) (.slice Ao44 t499.length co44)) (fun _ hk=>hk.2) (.int .i64 t502)) (fun _ h_=>h_.1))) hb);have HO506:=am (Kd.R_lower (Kd.R_new' ho0 (Kd.R_lt (by(with_reducible repeat(first|apply Kd.R_alloc|apply Kd.R_drewN|apply Kd.R_drew));exact(Kd.R_mono (Kd.R_far (p:=⟨gb503,1,none⟩) (Kd.R_far (p:=⟨gb503,0,none⟩) (Kd.R_types HO493.out BK503.out (by decide)) (fun _ hk=>hk.2) (.slice Ao44 t499.length co44)) (fun _ hk=>hk.2) (.int .i64 t502)) (fun _ h_=>h_.1))))) (below_size bl));replace HO493:=am (Kd.R_elder' (by(with_reducible repeat(first|apply Kd.R_alloc|apply Kd.R_drewN|apply Kd.R_drew));exact(Kd.R_mono (Kd.R_far (p:=⟨gb503,1,none⟩) (Kd.R_far (p:=⟨gb503,0,none⟩) (Kd.R_types HO493.out BK503.out (by decide)) (fun _ hk=>hk.2) (.slice Ao44 t499.length co44)) (fun _ hk=>hk.2) (.int .i64 t502)) (fun _ h_=>h_.1))) (Kd.R_base ho0) hb);replace BK483:=am (blk_below (g:=gb483) (o := .cells #[.slice A0_0 l0_0.length c0_0,.int .i64 a0_1] 24 (0,0)) (by(with_reducible repeat(first|refine bN_ ?_ _|refine bD_ ?_|refine bA_ ?_ _));refine blk_far ?_ NB483_503.out _;(with_reducible repeat(first|refine bN_ ?_ _|refine bD_ ?_|refine bA_ ?_ _));refine blk_far ?_ NB483_503.out _;exact bup BK483.out) hb);replace BK503:=am (blk_below (g:=gb503) (o := .cells #[.slice Ao44 t499.length co44,.int .i64 t502] 32 (0,0)) (by(with_reducible repeat(first|refine bN_ ?_ _|refine bD_ ?_|refine bA_ ?_ _));refine blk_put (cs := #[.slice Ao44 t499.length co44,.int .i64 0]) ?_ 1 _ rfl;(with_reducible repeat(first|refine bN_ ?_ _|refine bD_ ?_|refine bA_ ?_ _));refine blk_put (cs := #[.slice none 0 0,.int .i64 0]) ?_ 0 _ rfl;exact bup BK503.out) hb);replace HB:=am (below_step bl hb);(try clear hb);(try clear hk);(try clear ho0))|((with_reducible refine gate_callee (f:=10) rfl ?_);refine goesL_ (some 51) rfl rfl Try.func10 (by kernel_rfl) rfl #[.slice A2 l2.length c2] rfl tl ?_;(with_reducible refine(laws_toNoteS.calls k _ _ l2 t507 _ ?side1 ?side2 A27.out).mono ?_);(case side1=>exact cup (Kd.C_below HR2.out HB.out));(case side2=>exact HC2.out);rintro e w48 ⟨v508,rfl,ho0,hb⟩;refine⟨_,rfl,?_⟩;replace HO489:=am (Kd.R_below (rup HO489.out) hb);replace HO493:=am (Kd.R_below (rup HO493.out) hb);replace HO501:=am (Kd.R_below (rup HO501.out) hb);replace HO506:=am (Kd.R_below (rup HO506.out) hb);have HO509:=am (Kd.R_lower (Kd.R_new' ho0 (Kd.R_lt (rup HO496.out))) (below_size bl));replace HO496:=am (Kd.R_elder' (rup HO496.out) (Kd.R_base ho0) hb);replace BK483:=am (blk_below (bup BK483.out) hb);replace BK503:=am (blk_below (bup BK503.out) hb);replace HB:=am (below_step bl hb);(try clear hb);(try clear ho0);have hcz49_0:w48.cell? ⟨gb503,0,none⟩=some (.slice Ao44 t499.length co44):=(blk_cell BK503.out 0).trans rfl;have hcz49_1:w48.cell? ⟨gb503,1,none⟩=some (.int .i64 t502):=(blk_cell BK503.out 1).trans rfl;have hfz49_0:=blk_frozen BK503.out 0;have hfz49_1:=blk_frozen BK503.out 1;obtain⟨Ao50,co50,eo50⟩:=Kd.R_slice HO506.out;subst eo50;obtain⟨Ao51,co51,eo51⟩:=Kd.R_slice HO509.out;subst eo51)|((with_reducible refine gate_callee (f:=11) rfl ?_);refine goesL_ (some 58) rfl rfl Try.func11 (by kernel_rfl) rfl #[.agg #[.slice Ao44 t499.length co44,.int .i64 t502],.slice Ao50 t504.length co50,.slice Ao51 t507.length co51,.int .i64 a3,.int .i64 a4] rfl tl ?_;(with_reducible refine(impl_RepairToPlay.calls k _ _ t499 t502 _ _ t504 _ _ t507 a3 a4 t510 t511 _ ?side1 ?side2 ?side3 ?side4 ?side5 ?side6 A28.out).mono ?_);(case side1=>repeat(first|exact(Kd.R_reads' HO501.out).2.2|(with_reducible refine Kd.C_alloc ?_ _)|(with_reducible refine Kd.C_drewN ?_ _)|(with_reducible refine Kd.C_drew ?_)));(case side2=>exact(Kd.R_reads' HO501.out).2.1);(case side3=>repeat(first|exact(Kd.R_reads' HO506.out).2.2|(with_reducible refine Kd.C_alloc ?_ _)|(with_reducible refine Kd.C_drewN ?_ _)|(with_reducible refine Kd.C_drew ?_)));(case side4=>exact(Kd.R_reads' HO506.out).2.1);(case side5=>repeat(first|exact(Kd.R_reads' HO509.out).2.2|(with_reducible refine Kd.C_alloc ?_ _)|(with_reducible refine Kd.C_drewN ?_ _)|(with_reducible refine Kd.C_drew ?_)));(case side6=>exact(Kd.R_reads' HO509.out).2.1);rintro e w52 ⟨rfl,hb⟩;refine⟨_,rfl,?_⟩;replace HO489:=am (Kd.R_below (rup HO489.out) hb);replace HO493:=am (Kd.R_below (rup HO493.out) hb);replace HO496:=am (Kd.R_below (rup HO496.out) hb);replace HO501:=am (Kd.R_below (rup HO501.out) hb);replace HO506:=am (Kd.R_below (rup HO506.out) hb);replace HO509:=am (Kd.R_below (rup HO509.out) hb);replace BK483:=am (blk_below (bup BK483.out) hb);replace BK503:=am (blk_below (bup BK503.out) hb);replace HB:=am (below_step bl hb);(try clear hb)))
    (try simp only[Act.put,List.setIfInBounds_toArray,List.set_cons_zero,List.set_cons_succ])
    go_cut [68] (fun v68 wc=>∃(kq:Nat) (x68_28:Bool),v68 = .bool x68_28∧Aside0 (laws_FnExactRepairToPlay.j0 kq l1 l2 t504 t507 x68_28 l0_0 a0_1 t499 t502=some r)∧Aside0 (kq≤k)∧Aside0 (Kd.R k51 51 wc w.heap.size (fun _=>True) (.slice Ao50 t504.length co50) t504)∧Aside0 (Kd.R k55 55 wc w.heap.size (fun _=>True) (.slice Ao51 t507.length co51) t507)∧Aside0 (Kd.R (Kd.int .i64) 3 wc w.heap.size (fun _=>True) (.slice Ao44 t499.length co44) t499)∧Aside0 (wc.heap[gb483]?=some (.cells #[(.slice A0_0 l0_0.length c0_0),.int .i64 a0_1] 24 (0,0)))∧Aside0 (wc.heap[gb503]?=some (.cells #[(.slice Ao44 t499.length co44),.int .i64 t502] 32 (0,0)))∧Aside0 (Below w.heap.size w wc))
    case first =>
     have H:=HC29.out
     clear HC29
     rcases itc H with⟨c53,H⟩|⟨c53,H⟩
     ·have c53b0:(t510 == t497)=true:=beq_iff_eq.mpr c53
      have c53b1:(t510 != t497)=false:=bne_eq_false_iff_eq.mpr c53
      clear c53
      (first|rw[c53b0]|(simp only[i64_w,i32_w];rw[c53b0])|skip)
      have H':=am H
      clear H
      go_wp2
      go_meet
      case rel=>exact⟨_,((t511 != t498)),fin2,H',⟨by first|omega|exact Nat.le_refl _⟩,⟨rup (Kd.R_mono HO506.out (fun _ hk=>trivial))⟩,⟨rup (Kd.R_mono HO509.out (fun _ hk=>trivial))⟩,⟨rup (Kd.R_mono HO501.out (fun _ hk=>trivial))⟩,⟨bup BK483.out⟩,⟨bup BK503.out⟩,⟨bl⟩⟩
     ·have c53b0:(t510 == t497)=false:=beq_eq_false_iff_ne.mpr c53
      have c53b1:(t510 != t497)=true:=bne_iff_ne.mpr c53
      (first|rw[c53b0]|(simp only[i64_w,i32_w];rw[c53b0])|skip)
      have H':=am H
      clear H
      go_wp2
      go_meet
      case rel=>exact⟨_,(true),fin2,H',⟨by first|omega|exact Nat.le_refl _⟩,⟨rup (Kd.R_mono HO506.out (fun _ hk=>trivial))⟩,⟨rup (Kd.R_mono HO509.out (fun _ hk=>trivial))⟩,⟨rup (Kd.R_mono HO501.out (fun _ hk=>trivial))⟩,⟨bup BK483.out⟩,⟨bup BK503.out⟩,⟨bl⟩⟩
    case rest =>
     clear HC29
     try clear c1
     try clear c2
     try clear p2
     try clear c3
     try clear c4
     try clear c5
     try clear c6
     try clear c7
     try clear c7b0
     try clear c8
     try clear c9
     try clear c10
     try clear c11
     try clear c12
     try clear c12b0
     try clear c17
     try clear c17b0
     try clear c45
     try clear c53
     try clear c53b0
     try clear c53b1
     try clear hcz14_0
     try clear hcz14_1
     try clear hcz19_0
     try clear hcz19_1
     try clear hcz31_0
     try clear hcz31_1
     try clear hcz33_0
     try clear hcz33_1
     try clear hcz41_0
     try clear hcz41_1
     try clear hcz46_0
     try clear hcz46_1
     try clear hcz49_0
     try clear hcz49_1
     try clear hcz9_0
     try clear hcz9_1
     try clear hfz14_0
     try clear hfz14_1
     try clear hfz19_0
     try clear hfz19_1
     try clear hfz31_0
     try clear hfz31_1
     try clear hfz33_0
     try clear hfz33_1
     try clear hfz41_0
     try clear hfz41_1
     try clear hfz46_0
     try clear hfz46_1
     try clear hfz49_0
     try clear hfz49_1
     try clear hfz9_0
     try clear hfz9_1
     obtain⟨kq,x68_28,rfl,HA,HJ28,HO_15,HO_16,HO_504000,BK483,BK503,HB⟩:=hcut
     cases kq with
     | zero=>exact absurd HA.out (by simp [laws_FnExactRepairToPlay.j0])
     | succ kj28 =>
      have H:=HA.out
      clear HA
      simp only[laws_FnExactRepairToPlay.j0] at H
      by_cases c54:x68_28=true
      ·subst c54
       replace H:=(if_pos rfl).symm.trans H
       obtain rfl:=Option.some.inj H
       go_wp2
       go_ret
       exact⟨fin1,bl⟩
      ·replace c54:=Bool.eq_false_iff.mpr c54
       subst c54
       replace H:=(if_neg Bool.false_ne_true).symm.trans H
       obtain⟨⟨t512,t515⟩,A55,H⟩:=bnd H;dsimp only at H
       obtain⟨t516,A56,H⟩:=bnd H
       by_cases c57:t516=true
       ·subst c57
        replace H:=(if_pos rfl).symm.trans H
        obtain⟨t517,A58,H⟩:=bnd H
        obtain⟨t520,A59,H⟩:=bnd H
        by_cases c60:t520=true
        ·subst c60
         replace H:=(if_pos rfl).symm.trans H
         obtain⟨t521,A61,H⟩:=bnd H
         obtain⟨t524,A62,H⟩:=bnd H
         by_cases c63:t524=true
         ·subst c63
          replace H:=(if_pos rfl).symm.trans H
          obtain rfl:=Option.some.inj H
          try go_wp2
          replace HO_15:=am (Kd.R_drew HO_15.out)
          replace HO_16:=am (Kd.R_drew HO_16.out)
          replace HO_504000:=am (Kd.R_drew HO_504000.out)
          replace BK483:=am (bD_ BK483.out)
          replace BK503:=am (bD_ BK503.out)
          replace HB:=am (below_drew1 HB.out)
          refine start_ (n:=5) (S:=fun w'=>w'.cell? ⟨gb503,0,none⟩=some (.slice Ao44 t499.length co44)∧w'.cell? ⟨gb503,1,none⟩=some (.int .i64 t502)∧w'.cell? ⟨gb483,0,none⟩=some (.slice A0_0 l0_0.length c0_0)∧w'.cell? ⟨gb483,1,none⟩=some (.int .i64 a0_1)) (ds:=[]) (fl 0 5) (by kernel_rfl) rfl rfl ⟨(blk_cell BK503.out 0).trans rfl,(blk_cell BK503.out 1).trans rfl,(blk_cell BK483.out 0).trans rfl,(blk_cell BK483.out 1).trans rfl⟩ (fun hHeld=>?_)
          generalize wc.drew=w64 at HO_15 HO_16 HO_504000 BK483 BK503 HB hHeld ⊢
          refine take_ (i:=0) (N:=some 69) (v:=?_) (a':=?_) (fl 1 5) rfl rfl (by kernel_rfl) (fun _ _ _ h=>h) (Or.inl ⟨by rfl,?_⟩) hHeld ?_ ?_
          rotate_left
          ·rintro w' ⟨s0,s1,s2,s3⟩
           go_simp
           with_reducible rfl
          rotate_left
          ·simp only[Act.put,List.setIfInBounds_toArray,List.set_cons_zero,List.set_cons_succ,i64_w,i32_w]
           rfl
          refine take_ (i:=1) (N:=some 70) (v:=?_) (a':=?_) (fl 2 5) rfl rfl (by kernel_rfl) (fun _ _ _ h=>h) (Or.inl ⟨by rfl,?_⟩) hHeld ?_ ?_
          rotate_left
          ·rintro w' ⟨s0,s1,s2,s3⟩
           go_simp
           with_reducible rfl
          rotate_left
          ·simp only[Act.put,List.setIfInBounds_toArray,List.set_cons_zero,List.set_cons_succ,i64_w,i32_w]
           rfl
          refine one_ (i:=2) (N:=some 71) (fl 3 5) rfl rfl (by kernel_rfl) (by decide) (fun K hK=>?_)
          refine goes_ Try.func8 (by kernel_rfl) rfl #[.agg #[.slice A0_0 l0_0.length c0_0,.int .i64 a0_1]] (by rfl) rfl rfl tl ?_
          with_reducible refine(laws_toInstrument.calls kj28 _ _ l0_0 a0_1 t512 t515 _ ?side1 ?side2 A55.out).mono ?_
          (case side1=>exact cup (Kd.C_below HR0_0.out HB.out))
          (case side2=>exact HC0_0.out)
          rintro e w65 ⟨v513,rfl,ho0,hb⟩
          refine⟨_,rfl,?_⟩
          replace HO_15:=am (Kd.R_below (rup HO_15.out) hb)
          replace HO_16:=am (Kd.R_below (rup HO_16.out) hb)
          have HO514:=am (Kd.R_lower (Kd.R_new' ho0 (Kd.R_lt (rup HO_504000.out))) (below_size bl))
          replace HO_504000:=am (Kd.R_elder' (rup HO_504000.out) (Kd.R_base ho0) hb)
          replace BK483:=am (blk_below (bup BK483.out) hb)
          replace BK503:=am (blk_below (bup BK503.out) hb)
          replace HB:=am (below_step bl hb)
          (try clear hb)
          (try clear ho0)
          obtain⟨Ao66,co66,eo66⟩:=Kd.R_slice HO514.out
          (first|subst eo66|(injection eo66 with f1_ f2_ f3_;have f4_:=f1_.symm;have f5_:=f3_.symm;clear f1_ f2_ f3_;subst f4_;subst f5_))
          refine hK.out _ _ ⟨(blk_cell BK503.out 0).trans rfl,(blk_cell BK503.out 1).trans rfl,(blk_cell BK483.out 0).trans rfl,(blk_cell BK483.out 1).trans rfl⟩ (fun hHeld=>?_)
          clear hK K
          refine norm_ (a':=?_) ?_ ?_
          rotate_left
          ·show Act.put _ (some 71) _=_
           simp only[Act.put,List.setIfInBounds_toArray,List.set_cons_zero,List.set_cons_succ,i64_w,i32_w]
           rfl
          refine one_ (i:=3) (N:=some 72) (fl 4 5) rfl rfl (by kernel_rfl) (by decide) (fun K hK=>?_)
          refine goes_ Try.func12 (by kernel_rfl) rfl #[.agg #[.slice Ao44 t499.length co44,.int .i64 t502],.agg #[.slice Ao66 t512.length co66,.int .i64 t515]] (by rfl) rfl rfl tl ?_
          with_reducible refine(laws_eqInstrument.calls kj28 _ _ t499 t502 _ _ t512 t515 true _ ?side1 ?side2 ?side3 ?side4 A56.out).mono ?_
          (case side1=>repeat(first|exact(Kd.R_reads' HO_504000.out).2.2|(with_reducible refine Kd.C_alloc ?_ _)|(with_reducible refine Kd.C_drewN ?_ _)|(with_reducible refine Kd.C_drew ?_)))
          (case side2=>exact(Kd.R_reads' HO_504000.out).2.1)
          (case side3=>repeat(first|exact(Kd.R_reads' HO514.out).2.2|(with_reducible refine Kd.C_alloc ?_ _)|(with_reducible refine Kd.C_drewN ?_ _)|(with_reducible refine Kd.C_drew ?_)))
          (case side4=>exact(Kd.R_reads' HO514.out).2.1)
          rintro e w67 ⟨rfl,hb⟩
          refine⟨_,rfl,?_⟩
          replace HO_15:=am (Kd.R_below (rup HO_15.out) hb)
          replace HO_16:=am (Kd.R_below (rup HO_16.out) hb)
          replace HO_504000:=am (Kd.R_below (rup HO_504000.out) hb)
          replace HO514:=am (Kd.R_below (rup HO514.out) hb)
          replace BK483:=am (blk_below (bup BK483.out) hb)
          replace BK503:=am (blk_below (bup BK503.out) hb)
          replace HB:=am (below_step bl hb)
          (try clear hb)
          refine hK.out _ _ ⟨(blk_cell BK503.out 0).trans rfl,(blk_cell BK503.out 1).trans rfl,(blk_cell BK483.out 0).trans rfl,(blk_cell BK483.out 1).trans rfl⟩ (fun hHeld=>?_)
          clear hK K
          refine norm_ (a':=?_) ?_ ?_
          rotate_left
          ·show Act.put _ (some 72) _=_
           simp only[Act.put,List.setIfInBounds_toArray,List.set_cons_zero,List.set_cons_succ,i64_w,i32_w]
           rfl
          refine pure_ (i:=4) (N:=some 73) (v:=?_) (a':=?_) (fl 5 5) rfl rfl (by kernel_rfl) (fun _ _ _ h=>h) (Or.inl ⟨by rfl,?_⟩) ?_ ?_
          rotate_left
          ·intro w'
           go_simp
           with_reducible rfl
          rotate_left
          ·simp only[Act.put,List.setIfInBounds_toArray,List.set_cons_zero,List.set_cons_succ,i64_w,i32_w]
           rfl
          refine done_ (by kernel_rfl) ?_
          try go_wp2_with (first|((with_reducible refine gate_callee (f:=9) rfl ?_);refine goesL_ (some 76) rfl rfl Try.func9 (by kernel_rfl) rfl #[.slice A1 l1.length c1] rfl tl ?_;(with_reducible refine(laws_toHoleS.calls kj28 _ _ l1 t517 _ ?side1 ?side2 A58.out).mono ?_);(case side1=>exact cup (Kd.C_below HR1.out HB.out));(case side2=>exact HC1.out);rintro e w68 ⟨v518,rfl,ho0,hb⟩;refine⟨_,rfl,?_⟩;replace HO_16:=am (Kd.R_below (rup HO_16.out) hb);replace HO_504000:=am (Kd.R_below (rup HO_504000.out) hb);replace HO514:=am (Kd.R_below (rup HO514.out) hb);have HO519:=am (Kd.R_lower (Kd.R_new' ho0 (Kd.R_lt (rup HO_15.out))) (below_size bl));replace HO_15:=am (Kd.R_elder' (rup HO_15.out) (Kd.R_base ho0) hb);replace BK483:=am (blk_below (bup BK483.out) hb);replace BK503:=am (blk_below (bup BK503.out) hb);replace HB:=am (below_step bl hb);(try clear hb);(try clear ho0);obtain⟨Ao69,co69,eo69⟩:=Kd.R_slice HO519.out;subst eo69)|((with_reducible refine gate_callee (f:=13) rfl ?_);refine goesL_ (some 77) rfl rfl Try.func13 (by kernel_rfl) rfl #[.slice Ao50 t504.length co50,.slice Ao69 t517.length co69] rfl tl ?_;(with_reducible refine(laws_eqHoleS.calls kj28 _ _ t504 _ _ t517 true _ ?side1 ?side2 ?side3 ?side4 A59.out).mono ?_);(case side1=>repeat(first|exact(Kd.R_reads' HO_15.out).2.2|(with_reducible refine Kd.C_alloc ?_ _)|(with_reducible refine Kd.C_drewN ?_ _)|(with_reducible refine Kd.C_drew ?_)));(case side2=>exact(Kd.R_reads' HO_15.out).2.1);(case side3=>repeat(first|exact(Kd.R_reads' HO519.out).2.2|(with_reducible refine Kd.C_alloc ?_ _)|(with_reducible refine Kd.C_drewN ?_ _)|(with_reducible refine Kd.C_drew ?_)));(case side4=>exact(Kd.R_reads' HO519.out).2.1);rintro e w70 ⟨rfl,hb⟩;refine⟨_,rfl,?_⟩;replace HO_15:=am (Kd.R_below (rup HO_15.out) hb);replace HO_16:=am (Kd.R_below (rup HO_16.out) hb);replace HO_504000:=am (Kd.R_below (rup HO_504000.out) hb);replace HO514:=am (Kd.R_below (rup HO514.out) hb);replace HO519:=am (Kd.R_below (rup HO519.out) hb);replace BK483:=am (blk_below (bup BK483.out) hb);replace BK503:=am (blk_below (bup BK503.out) hb);replace HB:=am (below_step bl hb);(try clear hb))|((with_reducible refine gate_callee (f:=10) rfl ?_);refine goesL_ (some 81) rfl rfl Try.func10 (by kernel_rfl) rfl #[.slice A2 l2.length c2] rfl tl ?_;(with_reducible refine(laws_toNoteS.calls kj28 _ _ l2 t521 _ ?side1 ?side2 A61.out).mono ?_);(case side1=>exact cup (Kd.C_below HR2.out HB.out));(case side2=>exact HC2.out);rintro e w71 ⟨v522,rfl,ho0,hb⟩;refine⟨_,rfl,?_⟩;replace HO_15:=am (Kd.R_below (rup HO_15.out) hb);replace HO_504000:=am (Kd.R_below (rup HO_504000.out) hb);replace HO514:=am (Kd.R_below (rup HO514.out) hb);replace HO519:=am (Kd.R_below (rup HO519.out) hb);have HO523:=am (Kd.R_lower (Kd.R_new' ho0 (Kd.R_lt (rup HO_16.out))) (below_size bl));replace HO_16:=am (Kd.R_elder' (rup HO_16.out) (Kd.R_base ho0) hb);replace BK483:=am (blk_below (bup BK483.out) hb);replace BK503:=am (blk_below (bup BK503.out) hb);replace HB:=am (below_step bl hb);(try clear hb);(try clear ho0);obtain⟨Ao72,co72,eo72⟩:=Kd.R_slice HO523.out;subst eo72)|((with_reducible refine gate_callee (f:=14) rfl ?_);refine goesL_ (some 82) rfl rfl Try.func14 (by kernel_rfl) rfl #[.slice Ao51 t507.length co51,.slice Ao72 t521.length co72] rfl tl ?_;(with_reducible refine(laws_eqNoteS.calls kj28 _ _ t507 _ _ t521 true _ ?side1 ?side2 ?side3 ?side4 A62.out).mono ?_);(case side1=>repeat(first|exact(Kd.R_reads' HO_16.out).2.2|(with_reducible refine Kd.C_alloc ?_ _)|(with_reducible refine Kd.C_drewN ?_ _)|(with_reducible refine Kd.C_drew ?_)));(case side2=>exact(Kd.R_reads' HO_16.out).2.1);(case side3=>repeat(first|exact(Kd.R_reads' HO523.out).2.2|(with_reducible refine Kd.C_alloc ?_ _)|(with_reducible refine Kd.C_drewN ?_ _)|(with_reducible refine Kd.C_drew ?_)));(case side4=>exact(Kd.R_reads' HO523.out).2.1);rintro e w73 ⟨rfl,hb⟩;refine⟨_,rfl,?_⟩;replace HO_15:=am (Kd.R_below (rup HO_15.out) hb);replace HO_16:=am (Kd.R_below (rup HO_16.out) hb);replace HO_504000:=am (Kd.R_below (rup HO_504000.out) hb);replace HO514:=am (Kd.R_below (rup HO514.out) hb);replace HO519:=am (Kd.R_below (rup HO519.out) hb);replace HO523:=am (Kd.R_below (rup HO523.out) hb);replace BK483:=am (blk_below (bup BK483.out) hb);replace BK503:=am (blk_below (bup BK503.out) hb);replace HB:=am (below_step bl hb);(try clear hb)))
          go_ret
          exact⟨fin1,bl⟩
         ·replace c63:=Bool.eq_false_iff.mpr c63
          subst c63
          replace H:=(if_neg Bool.false_ne_true).symm.trans H
          obtain rfl:=Option.some.inj H
          try go_wp2
          replace HO_15:=am (Kd.R_drew HO_15.out)
          replace HO_16:=am (Kd.R_drew HO_16.out)
          replace HO_504000:=am (Kd.R_drew HO_504000.out)
          replace BK483:=am (bD_ BK483.out)
          replace BK503:=am (bD_ BK503.out)
          replace HB:=am (below_drew1 HB.out)
          refine start_ (n:=5) (S:=fun w'=>w'.cell? ⟨gb503,0,none⟩=some (.slice Ao44 t499.length co44)∧w'.cell? ⟨gb503,1,none⟩=some (.int .i64 t502)∧w'.cell? ⟨gb483,0,none⟩=some (.slice A0_0 l0_0.length c0_0)∧w'.cell? ⟨gb483,1,none⟩=some (.int .i64 a0_1)) (ds:=[]) (fl 0 5) (by kernel_rfl) rfl rfl ⟨(blk_cell BK503.out 0).trans rfl,(blk_cell BK503.out 1).trans rfl,(blk_cell BK483.out 0).trans rfl,(blk_cell BK483.out 1).trans rfl⟩ (fun hHeld=>?_)
          generalize wc.drew=w74 at HO_15 HO_16 HO_504000 BK483 BK503 HB hHeld ⊢
          refine take_ (i:=0) (N:=some 69) (v:=?_) (a':=?_) (fl 1 5) rfl rfl (by kernel_rfl) (fun _ _ _ h=>h) (Or.inl ⟨by rfl,?_⟩) hHeld ?_ ?_
          rotate_left
          ·rintro w' ⟨s0,s1,s2,s3⟩
           go_simp
           with_reducible rfl
          rotate_left
          ·simp only[Act.put,List.setIfInBounds_toArray,List.set_cons_zero,List.set_cons_succ,i64_w,i32_w]
           rfl
          refine take_ (i:=1) (N:=some 70) (v:=?_) (a':=?_) (fl 2 5) rfl rfl (by kernel_rfl) (fun _ _ _ h=>h) (Or.inl ⟨by rfl,?_⟩) hHeld ?_ ?_
          rotate_left
          ·rintro w' ⟨s0,s1,s2,s3⟩
           go_simp
           with_reducible rfl
          rotate_left
          ·simp only[Act.put,List.setIfInBounds_toArray,List.set_cons_zero,List.set_cons_succ,i64_w,i32_w]
           rfl
          refine one_ (i:=2) (N:=some 71) (fl 3 5) rfl rfl (by kernel_rfl) (by decide) (fun K hK=>?_)
          refine goes_ Try.func8 (by kernel_rfl) rfl #[.agg #[.slice A0_0 l0_0.length c0_0,.int .i64 a0_1]] (by rfl) rfl rfl tl ?_
          with_reducible refine(laws_toInstrument.calls kj28 _ _ l0_0 a0_1 t512 t515 _ ?side1 ?side2 A55.out).mono ?_
          (case side1=>exact cup (Kd.C_below HR0_0.out HB.out))
          (case side2=>exact HC0_0.out)
          rintro e w75 ⟨v513,rfl,ho0,hb⟩
          refine⟨_,rfl,?_⟩
          replace HO_15:=am (Kd.R_below (rup HO_15.out) hb)
          replace HO_16:=am (Kd.R_below (rup HO_16.out) hb)
          have HO514:=am (Kd.R_lower (Kd.R_new' ho0 (Kd.R_lt (rup HO_504000.out))) (below_size bl))
          replace HO_504000:=am (Kd.R_elder' (rup HO_504000.out) (Kd.R_base ho0) hb)
          replace BK483:=am (blk_below (bup BK483.out) hb)
          replace BK503:=am (blk_below (bup BK503.out) hb)
          replace HB:=am (below_step bl hb)
          (try clear hb)
          (try clear ho0)
          obtain⟨Ao76,co76,eo76⟩:=Kd.R_slice HO514.out
          (first|subst eo76|(injection eo76 with f1_ f2_ f3_;have f4_:=f1_.symm;have f5_:=f3_.symm;clear f1_ f2_ f3_;subst f4_;subst f5_))
          refine hK.out _ _ ⟨(blk_cell BK503.out 0).trans rfl,(blk_cell BK503.out 1).trans rfl,(blk_cell BK483.out 0).trans rfl,(blk_cell BK483.out 1).trans rfl⟩ (fun hHeld=>?_)
          clear hK K
          refine norm_ (a':=?_) ?_ ?_
          rotate_left
          ·show Act.put _ (some 71) _=_
           simp only[Act.put,List.setIfInBounds_toArray,List.set_cons_zero,List.set_cons_succ,i64_w,i32_w]
           rfl
          refine one_ (i:=3) (N:=some 72) (fl 4 5) rfl rfl (by kernel_rfl) (by decide) (fun K hK=>?_)
          refine goes_ Try.func12 (by kernel_rfl) rfl #[.agg #[.slice Ao44 t499.length co44,.int .i64 t502],.agg #[.slice Ao76 t512.length co76,.int .i64 t515]] (by rfl) rfl rfl tl ?_
          with_reducible refine(laws_eqInstrument.calls kj28 _ _ t499 t502 _ _ t512 t515 true _ ?side1 ?side2 ?side3 ?side4 A56.out).mono ?_
          (case side1=>repeat(first|exact(Kd.R_reads' HO_504000.out).2.2|(with_reducible refine Kd.C_alloc ?_ _)|(with_reducible refine Kd.C_drewN ?_ _)|(with_reducible refine Kd.C_drew ?_)))
          (case side2=>exact(Kd.R_reads' HO_504000.out).2.1)
          (case side3=>repeat(first|exact(Kd.R_reads' HO514.out).2.2|(with_reducible refine Kd.C_alloc ?_ _)|(with_reducible refine Kd.C_drewN ?_ _)|(with_reducible refine Kd.C_drew ?_)))
          (case side4=>exact(Kd.R_reads' HO514.out).2.1)
          rintro e w77 ⟨rfl,hb⟩
          refine⟨_,rfl,?_⟩
          replace HO_15:=am (Kd.R_below (rup HO_15.out) hb)
          replace HO_16:=am (Kd.R_below (rup HO_16.out) hb)
          replace HO_504000:=am (Kd.R_below (rup HO_504000.out) hb)
          replace HO514:=am (Kd.R_below (rup HO514.out) hb)
          replace BK483:=am (blk_below (bup BK483.out) hb)
          replace BK503:=am (blk_below (bup BK503.out) hb)
          replace HB:=am (below_step bl hb)
          (try clear hb)
          refine hK.out _ _ ⟨(blk_cell BK503.out 0).trans rfl,(blk_cell BK503.out 1).trans rfl,(blk_cell BK483.out 0).trans rfl,(blk_cell BK483.out 1).trans rfl⟩ (fun hHeld=>?_)
          clear hK K
          refine norm_ (a':=?_) ?_ ?_
          rotate_left
          ·show Act.put _ (some 72) _=_
           simp only[Act.put,List.setIfInBounds_toArray,List.set_cons_zero,List.set_cons_succ,i64_w,i32_w]
           rfl
          refine pure_ (i:=4) (N:=some 73) (v:=?_) (a':=?_) (fl 5 5) rfl rfl (by kernel_rfl) (fun _ _ _ h=>h) (Or.inl ⟨by rfl,?_⟩) ?_ ?_
          rotate_left
          ·intro w'
           go_simp
           with_reducible rfl
          rotate_left
          ·simp only[Act.put,List.setIfInBounds_toArray,List.set_cons_zero,List.set_cons_succ,i64_w,i32_w]
           rfl
          refine done_ (by kernel_rfl) ?_
          try go_wp2_with (first|((with_reducible refine gate_callee (f:=9) rfl ?_);refine goesL_ (some 76) rfl rfl Try.func9 (by kernel_rfl) rfl #[.slice A1 l1.length c1] rfl tl ?_;(with_reducible refine(laws_toHoleS.calls kj28 _ _ l1 t517 _ ?side1 ?side2 A58.out).mono ?_);(case side1=>exact cup (Kd.C_below HR1.out HB.out));(case side2=>exact HC1.out);rintro e w78 ⟨v518,rfl,ho0,hb⟩;refine⟨_,rfl,?_⟩;replace HO_16:=am (Kd.R_below (rup HO_16.out) hb);replace HO_504000:=am (Kd.R_below (rup HO_504000.out) hb);replace HO514:=am (Kd.R_below (rup HO514.out) hb);have HO519:=am (Kd.R_lower (Kd.R_new' ho0 (Kd.R_lt (rup HO_15.out))) (below_size bl));replace HO_15:=am (Kd.R_elder' (rup HO_15.out) (Kd.R_base ho0) hb);replace BK483:=am (blk_below (bup BK483.out) hb);replace BK503:=am (blk_below (bup BK503.out) hb);replace HB:=am (below_step bl hb);(try clear hb);(try clear ho0);obtain⟨Ao79,co79,eo79⟩:=Kd.R_slice HO519.out;subst eo79)|((with_reducible refine gate_callee (f:=13) rfl ?_);refine goesL_ (some 77) rfl rfl Try.func13 (by kernel_rfl) rfl #[.slice Ao50 t504.length co50,.slice Ao79 t517.length co79] rfl tl ?_;(with_reducible refine(laws_eqHoleS.calls kj28 _ _ t504 _ _ t517 true _ ?side1 ?side2 ?side3 ?side4 A59.out).mono ?_);(case side1=>repeat(first|exact(Kd.R_reads' HO_15.out).2.2|(with_reducible refine Kd.C_alloc ?_ _)|(with_reducible refine Kd.C_drewN ?_ _)|(with_reducible refine Kd.C_drew ?_)));(case side2=>exact(Kd.R_reads' HO_15.out).2.1);(case side3=>repeat(first|exact(Kd.R_reads' HO519.out).2.2|(with_reducible refine Kd.C_alloc ?_ _)|(with_reducible refine Kd.C_drewN ?_ _)|(with_reducible refine Kd.C_drew ?_)));(case side4=>exact(Kd.R_reads' HO519.out).2.1);rintro e w80 ⟨rfl,hb⟩;refine⟨_,rfl,?_⟩;replace HO_15:=am (Kd.R_below (rup HO_15.out) hb);replace HO_16:=am (Kd.R_below (rup HO_16.out) hb);replace HO_504000:=am (Kd.R_below (rup HO_504000.out) hb);replace HO514:=am (Kd.R_below (rup HO514.out) hb);replace HO519:=am (Kd.R_below (rup HO519.out) hb);replace BK483:=am (blk_below (bup BK483.out) hb);replace BK503:=am (blk_below (bup BK503.out) hb);replace HB:=am (below_step bl hb);(try clear hb))|((with_reducible refine gate_callee (f:=10) rfl ?_);refine goesL_ (some 81) rfl rfl Try.func10 (by kernel_rfl) rfl #[.slice A2 l2.length c2] rfl tl ?_;(with_reducible refine(laws_toNoteS.calls kj28 _ _ l2 t521 _ ?side1 ?side2 A61.out).mono ?_);(case side1=>exact cup (Kd.C_below HR2.out HB.out));(case side2=>exact HC2.out);rintro e w81 ⟨v522,rfl,ho0,hb⟩;refine⟨_,rfl,?_⟩;replace HO_15:=am (Kd.R_below (rup HO_15.out) hb);replace HO_504000:=am (Kd.R_below (rup HO_504000.out) hb);replace HO514:=am (Kd.R_below (rup HO514.out) hb);replace HO519:=am (Kd.R_below (rup HO519.out) hb);have HO523:=am (Kd.R_lower (Kd.R_new' ho0 (Kd.R_lt (rup HO_16.out))) (below_size bl));replace HO_16:=am (Kd.R_elder' (rup HO_16.out) (Kd.R_base ho0) hb);replace BK483:=am (blk_below (bup BK483.out) hb);replace BK503:=am (blk_below (bup BK503.out) hb);replace HB:=am (below_step bl hb);(try clear hb);(try clear ho0);obtain⟨Ao82,co82,eo82⟩:=Kd.R_slice HO523.out;subst eo82)|((with_reducible refine gate_callee (f:=14) rfl ?_);refine goesL_ (some 82) rfl rfl Try.func14 (by kernel_rfl) rfl #[.slice Ao51 t507.length co51,.slice Ao82 t521.length co82] rfl tl ?_;(with_reducible refine(laws_eqNoteS.calls kj28 _ _ t507 _ _ t521 false _ ?side1 ?side2 ?side3 ?side4 A62.out).mono ?_);(case side1=>repeat(first|exact(Kd.R_reads' HO_16.out).2.2|(with_reducible refine Kd.C_alloc ?_ _)|(with_reducible refine Kd.C_drewN ?_ _)|(with_reducible refine Kd.C_drew ?_)));(case side2=>exact(Kd.R_reads' HO_16.out).2.1);(case side3=>repeat(first|exact(Kd.R_reads' HO523.out).2.2|(with_reducible refine Kd.C_alloc ?_ _)|(with_reducible refine Kd.C_drewN ?_ _)|(with_reducible refine Kd.C_drew ?_)));(case side4=>exact(Kd.R_reads' HO523.out).2.1);rintro e w83 ⟨rfl,hb⟩;refine⟨_,rfl,?_⟩;replace HO_15:=am (Kd.R_below (rup HO_15.out) hb);replace HO_16:=am (Kd.R_below (rup HO_16.out) hb);replace HO_504000:=am (Kd.R_below (rup HO_504000.out) hb);replace HO514:=am (Kd.R_below (rup HO514.out) hb);replace HO519:=am (Kd.R_below (rup HO519.out) hb);replace HO523:=am (Kd.R_below (rup HO523.out) hb);replace BK483:=am (blk_below (bup BK483.out) hb);replace BK503:=am (blk_below (bup BK503.out) hb);replace HB:=am (below_step bl hb);(try clear hb)))
          go_ret
          exact⟨fin1,bl⟩
        ·replace c60:=Bool.eq_false_iff.mpr c60
         subst c60
         replace H:=(if_neg Bool.false_ne_true).symm.trans H
         obtain rfl:=Option.some.inj H
         try go_wp2
         replace HO_15:=am (Kd.R_drew HO_15.out)
         replace HO_16:=am (Kd.R_drew HO_16.out)
         replace HO_504000:=am (Kd.R_drew HO_504000.out)
         replace BK483:=am (bD_ BK483.out)
         replace BK503:=am (bD_ BK503.out)
         replace HB:=am (below_drew1 HB.out)
         refine start_ (n:=5) (S:=fun w'=>w'.cell? ⟨gb503,0,none⟩=some (.slice Ao44 t499.length co44)∧w'.cell? ⟨gb503,1,none⟩=some (.int .i64 t502)∧w'.cell? ⟨gb483,0,none⟩=some (.slice A0_0 l0_0.length c0_0)∧w'.cell? ⟨gb483,1,none⟩=some (.int .i64 a0_1)) (ds:=[]) (fl 0 5) (by kernel_rfl) rfl rfl ⟨(blk_cell BK503.out 0).trans rfl,(blk_cell BK503.out 1).trans rfl,(blk_cell BK483.out 0).trans rfl,(blk_cell BK483.out 1).trans rfl⟩ (fun hHeld=>?_)
         generalize wc.drew=w84 at HO_15 HO_16 HO_504000 BK483 BK503 HB hHeld ⊢
         refine take_ (i:=0) (N:=some 69) (v:=?_) (a':=?_) (fl 1 5) rfl rfl (by kernel_rfl) (fun _ _ _ h=>h) (Or.inl ⟨by rfl,?_⟩) hHeld ?_ ?_
         rotate_left
         ·rintro w' ⟨s0,s1,s2,s3⟩
          go_simp
          with_reducible rfl
         rotate_left
         ·simp only[Act.put,List.setIfInBounds_toArray,List.set_cons_zero,List.set_cons_succ,i64_w,i32_w]
          rfl
         refine take_ (i:=1) (N:=some 70) (v:=?_) (a':=?_) (fl 2 5) rfl rfl (by kernel_rfl) (fun _ _ _ h=>h) (Or.inl ⟨by rfl,?_⟩) hHeld ?_ ?_
         rotate_left
         ·rintro w' ⟨s0,s1,s2,s3⟩
          go_simp
          with_reducible rfl
         rotate_left
         ·simp only[Act.put,List.setIfInBounds_toArray,List.set_cons_zero,List.set_cons_succ,i64_w,i32_w]
          rfl
         refine one_ (i:=2) (N:=some 71) (fl 3 5) rfl rfl (by kernel_rfl) (by decide) (fun K hK=>?_)
         refine goes_ Try.func8 (by kernel_rfl) rfl #[.agg #[.slice A0_0 l0_0.length c0_0,.int .i64 a0_1]] (by rfl) rfl rfl tl ?_
         with_reducible refine(laws_toInstrument.calls kj28 _ _ l0_0 a0_1 t512 t515 _ ?side1 ?side2 A55.out).mono ?_
         (case side1=>exact cup (Kd.C_below HR0_0.out HB.out))
         (case side2=>exact HC0_0.out)
         rintro e w85 ⟨v513,rfl,ho0,hb⟩
         refine⟨_,rfl,?_⟩
         replace HO_15:=am (Kd.R_below (rup HO_15.out) hb)
         replace HO_16:=am (Kd.R_below (rup HO_16.out) hb)
         have HO514:=am (Kd.R_lower (Kd.R_new' ho0 (Kd.R_lt (rup HO_504000.out))) (below_size bl))
         replace HO_504000:=am (Kd.R_elder' (rup HO_504000.out) (Kd.R_base ho0) hb)
         replace BK483:=am (blk_below (bup BK483.out) hb)
         replace BK503:=am (blk_below (bup BK503.out) hb)
         replace HB:=am (below_step bl hb)
         (try clear hb)
         (try clear ho0)
         obtain⟨Ao86,co86,eo86⟩:=Kd.R_slice HO514.out
         (first|subst eo86|(injection eo86 with f1_ f2_ f3_;have f4_:=f1_.symm;have f5_:=f3_.symm;clear f1_ f2_ f3_;subst f4_;subst f5_))
         refine hK.out _ _ ⟨(blk_cell BK503.out 0).trans rfl,(blk_cell BK503.out 1).trans rfl,(blk_cell BK483.out 0).trans rfl,(blk_cell BK483.out 1).trans rfl⟩ (fun hHeld=>?_)
         clear hK K
         refine norm_ (a':=?_) ?_ ?_
         rotate_left
         ·show Act.put _ (some 71) _=_
          simp only[Act.put,List.setIfInBounds_toArray,List.set_cons_zero,List.set_cons_succ,i64_w,i32_w]
          rfl
         refine one_ (i:=3) (N:=some 72) (fl 4 5) rfl rfl (by kernel_rfl) (by decide) (fun K hK=>?_)
         refine goes_ Try.func12 (by kernel_rfl) rfl #[.agg #[.slice Ao44 t499.length co44,.int .i64 t502],.agg #[.slice Ao86 t512.length co86,.int .i64 t515]] (by rfl) rfl rfl tl ?_
         with_reducible refine(laws_eqInstrument.calls kj28 _ _ t499 t502 _ _ t512 t515 true _ ?side1 ?side2 ?side3 ?side4 A56.out).mono ?_
         (case side1=>repeat(first|exact(Kd.R_reads' HO_504000.out).2.2|(with_reducible refine Kd.C_alloc ?_ _)|(with_reducible refine Kd.C_drewN ?_ _)|(with_reducible refine Kd.C_drew ?_)))
         (case side2=>exact(Kd.R_reads' HO_504000.out).2.1)
         (case side3=>repeat(first|exact(Kd.R_reads' HO514.out).2.2|(with_reducible refine Kd.C_alloc ?_ _)|(with_reducible refine Kd.C_drewN ?_ _)|(with_reducible refine Kd.C_drew ?_)))
         (case side4=>exact(Kd.R_reads' HO514.out).2.1)
         rintro e w87 ⟨rfl,hb⟩
         refine⟨_,rfl,?_⟩
         replace HO_15:=am (Kd.R_below (rup HO_15.out) hb)
         replace HO_16:=am (Kd.R_below (rup HO_16.out) hb)
         replace HO_504000:=am (Kd.R_below (rup HO_504000.out) hb)
         replace HO514:=am (Kd.R_below (rup HO514.out) hb)
         replace BK483:=am (blk_below (bup BK483.out) hb)
         replace BK503:=am (blk_below (bup BK503.out) hb)
         replace HB:=am (below_step bl hb)
         (try clear hb)
         refine hK.out _ _ ⟨(blk_cell BK503.out 0).trans rfl,(blk_cell BK503.out 1).trans rfl,(blk_cell BK483.out 0).trans rfl,(blk_cell BK483.out 1).trans rfl⟩ (fun hHeld=>?_)
         clear hK K
         refine norm_ (a':=?_) ?_ ?_
         rotate_left
         ·show Act.put _ (some 72) _=_
          simp only[Act.put,List.setIfInBounds_toArray,List.set_cons_zero,List.set_cons_succ,i64_w,i32_w]
          rfl
         refine pure_ (i:=4) (N:=some 73) (v:=?_) (a':=?_) (fl 5 5) rfl rfl (by kernel_rfl) (fun _ _ _ h=>h) (Or.inl ⟨by rfl,?_⟩) ?_ ?_
         rotate_left
         ·intro w'
          go_simp
          with_reducible rfl
         rotate_left
         ·simp only[Act.put,List.setIfInBounds_toArray,List.set_cons_zero,List.set_cons_succ,i64_w,i32_w]
          rfl
         refine done_ (by kernel_rfl) ?_
         try go_wp2_with (first|((with_reducible refine gate_callee (f:=9) rfl ?_);refine goesL_ (some 76) rfl rfl Try.func9 (by kernel_rfl) rfl #[.slice A1 l1.length c1] rfl tl ?_;(with_reducible refine(laws_toHoleS.calls kj28 _ _ l1 t517 _ ?side1 ?side2 A58.out).mono ?_);(case side1=>exact cup (Kd.C_below HR1.out HB.out));(case side2=>exact HC1.out);rintro e w88 ⟨v518,rfl,ho0,hb⟩;refine⟨_,rfl,?_⟩;replace HO_16:=am (Kd.R_below (rup HO_16.out) hb);replace HO_504000:=am (Kd.R_below (rup HO_504000.out) hb);replace HO514:=am (Kd.R_below (rup HO514.out) hb);have HO519:=am (Kd.R_lower (Kd.R_new' ho0 (Kd.R_lt (rup HO_15.out))) (below_size bl));replace HO_15:=am (Kd.R_elder' (rup HO_15.out) (Kd.R_base ho0) hb);replace BK483:=am (blk_below (bup BK483.out) hb);replace BK503:=am (blk_below (bup BK503.out) hb);replace HB:=am (below_step bl hb);(try clear hb);(try clear ho0);obtain⟨Ao89,co89,eo89⟩:=Kd.R_slice HO519.out;subst eo89)|((with_reducible refine gate_callee (f:=13) rfl ?_);refine goesL_ (some 77) rfl rfl Try.func13 (by kernel_rfl) rfl #[.slice Ao50 t504.length co50,.slice Ao89 t517.length co89] rfl tl ?_;(with_reducible refine(laws_eqHoleS.calls kj28 _ _ t504 _ _ t517 false _ ?side1 ?side2 ?side3 ?side4 A59.out).mono ?_);(case side1=>repeat(first|exact(Kd.R_reads' HO_15.out).2.2|(with_reducible refine Kd.C_alloc ?_ _)|(with_reducible refine Kd.C_drewN ?_ _)|(with_reducible refine Kd.C_drew ?_)));(case side2=>exact(Kd.R_reads' HO_15.out).2.1);(case side3=>repeat(first|exact(Kd.R_reads' HO519.out).2.2|(with_reducible refine Kd.C_alloc ?_ _)|(with_reducible refine Kd.C_drewN ?_ _)|(with_reducible refine Kd.C_drew ?_)));(case side4=>exact(Kd.R_reads' HO519.out).2.1);rintro e w90 ⟨rfl,hb⟩;refine⟨_,rfl,?_⟩;replace HO_15:=am (Kd.R_below (rup HO_15.out) hb);replace HO_16:=am (Kd.R_below (rup HO_16.out) hb);replace HO_504000:=am (Kd.R_below (rup HO_504000.out) hb);replace HO514:=am (Kd.R_below (rup HO514.out) hb);replace HO519:=am (Kd.R_below (rup HO519.out) hb);replace BK483:=am (blk_below (bup BK483.out) hb);replace BK503:=am (blk_below (bup BK503.out) hb);replace HB:=am (below_step bl hb);(try clear hb)))
         go_ret
         exact⟨fin1,bl⟩
       ·replace c57:=Bool.eq_false_iff.mpr c57
        subst c57
        replace H:=(if_neg Bool.false_ne_true).symm.trans H
        obtain rfl:=Option.some.inj H
        try go_wp2
        replace HO_15:=am (Kd.R_drew HO_15.out)
        replace HO_16:=am (Kd.R_drew HO_16.out)
        replace HO_504000:=am (Kd.R_drew HO_504000.out)
        replace BK483:=am (bD_ BK483.out)
        replace BK503:=am (bD_ BK503.out)
        replace HB:=am (below_drew1 HB.out)
        refine start_ (n:=5) (S:=fun w'=>w'.cell? ⟨gb503,0,none⟩=some (.slice Ao44 t499.length co44)∧w'.cell? ⟨gb503,1,none⟩=some (.int .i64 t502)∧w'.cell? ⟨gb483,0,none⟩=some (.slice A0_0 l0_0.length c0_0)∧w'.cell? ⟨gb483,1,none⟩=some (.int .i64 a0_1)) (ds:=[]) (fl 0 5) (by kernel_rfl) rfl rfl ⟨(blk_cell BK503.out 0).trans rfl,(blk_cell BK503.out 1).trans rfl,(blk_cell BK483.out 0).trans rfl,(blk_cell BK483.out 1).trans rfl⟩ (fun hHeld=>?_)
        generalize wc.drew=w91 at HO_15 HO_16 HO_504000 BK483 BK503 HB hHeld ⊢
        refine take_ (i:=0) (N:=some 69) (v:=?_) (a':=?_) (fl 1 5) rfl rfl (by kernel_rfl) (fun _ _ _ h=>h) (Or.inl ⟨by rfl,?_⟩) hHeld ?_ ?_
        rotate_left
        ·rintro w' ⟨s0,s1,s2,s3⟩
         go_simp
         with_reducible rfl
        rotate_left
        ·simp only[Act.put,List.setIfInBounds_toArray,List.set_cons_zero,List.set_cons_succ,i64_w,i32_w]
         rfl
        refine take_ (i:=1) (N:=some 70) (v:=?_) (a':=?_) (fl 2 5) rfl rfl (by kernel_rfl) (fun _ _ _ h=>h) (Or.inl ⟨by rfl,?_⟩) hHeld ?_ ?_
        rotate_left
        ·rintro w' ⟨s0,s1,s2,s3⟩
         go_simp
         with_reducible rfl
        rotate_left
        ·simp only[Act.put,List.setIfInBounds_toArray,List.set_cons_zero,List.set_cons_succ,i64_w,i32_w]
         rfl
        refine one_ (i:=2) (N:=some 71) (fl 3 5) rfl rfl (by kernel_rfl) (by decide) (fun K hK=>?_)
        refine goes_ Try.func8 (by kernel_rfl) rfl #[.agg #[.slice A0_0 l0_0.length c0_0,.int .i64 a0_1]] (by rfl) rfl rfl tl ?_
        with_reducible refine(laws_toInstrument.calls kj28 _ _ l0_0 a0_1 t512 t515 _ ?side1 ?side2 A55.out).mono ?_
        (case side1=>exact cup (Kd.C_below HR0_0.out HB.out))
        (case side2=>exact HC0_0.out)
        rintro e w92 ⟨v513,rfl,ho0,hb⟩
        refine⟨_,rfl,?_⟩
        replace HO_15:=am (Kd.R_below (rup HO_15.out) hb)
        replace HO_16:=am (Kd.R_below (rup HO_16.out) hb)
        have HO514:=am (Kd.R_lower (Kd.R_new' ho0 (Kd.R_lt (rup HO_504000.out))) (below_size bl))
        replace HO_504000:=am (Kd.R_elder' (rup HO_504000.out) (Kd.R_base ho0) hb)
        replace BK483:=am (blk_below (bup BK483.out) hb)
        replace BK503:=am (blk_below (bup BK503.out) hb)
        replace HB:=am (below_step bl hb)
        (try clear hb)
        (try clear ho0)
        obtain⟨Ao93,co93,eo93⟩:=Kd.R_slice HO514.out
        (first|subst eo93|(injection eo93 with f1_ f2_ f3_;have f4_:=f1_.symm;have f5_:=f3_.symm;clear f1_ f2_ f3_;subst f4_;subst f5_))
        refine hK.out _ _ ⟨(blk_cell BK503.out 0).trans rfl,(blk_cell BK503.out 1).trans rfl,(blk_cell BK483.out 0).trans rfl,(blk_cell BK483.out 1).trans rfl⟩ (fun hHeld=>?_)
        clear hK K
        refine norm_ (a':=?_) ?_ ?_
        rotate_left
        ·show Act.put _ (some 71) _=_
         simp only[Act.put,List.setIfInBounds_toArray,List.set_cons_zero,List.set_cons_succ,i64_w,i32_w]
         rfl
        refine one_ (i:=3) (N:=some 72) (fl 4 5) rfl rfl (by kernel_rfl) (by decide) (fun K hK=>?_)
        refine goes_ Try.func12 (by kernel_rfl) rfl #[.agg #[.slice Ao44 t499.length co44,.int .i64 t502],.agg #[.slice Ao93 t512.length co93,.int .i64 t515]] (by rfl) rfl rfl tl ?_
        with_reducible refine(laws_eqInstrument.calls kj28 _ _ t499 t502 _ _ t512 t515 false _ ?side1 ?side2 ?side3 ?side4 A56.out).mono ?_
        (case side1=>repeat(first|exact(Kd.R_reads' HO_504000.out).2.2|(with_reducible refine Kd.C_alloc ?_ _)|(with_reducible refine Kd.C_drewN ?_ _)|(with_reducible refine Kd.C_drew ?_)))
        (case side2=>exact(Kd.R_reads' HO_504000.out).2.1)
        (case side3=>repeat(first|exact(Kd.R_reads' HO514.out).2.2|(with_reducible refine Kd.C_alloc ?_ _)|(with_reducible refine Kd.C_drewN ?_ _)|(with_reducible refine Kd.C_drew ?_)))
        (case side4=>exact(Kd.R_reads' HO514.out).2.1)
        rintro e w94 ⟨rfl,hb⟩
        refine⟨_,rfl,?_⟩
        replace HO_15:=am (Kd.R_below (rup HO_15.out) hb)
        replace HO_16:=am (Kd.R_below (rup HO_16.out) hb)
        replace HO_504000:=am (Kd.R_below (rup HO_504000.out) hb)
        replace HO514:=am (Kd.R_below (rup HO514.out) hb)
        replace BK483:=am (blk_below (bup BK483.out) hb)
        replace BK503:=am (blk_below (bup BK503.out) hb)
        replace HB:=am (below_step bl hb)
        (try clear hb)
        refine hK.out _ _ ⟨(blk_cell BK503.out 0).trans rfl,(blk_cell BK503.out 1).trans rfl,(blk_cell BK483.out 0).trans rfl,(blk_cell BK483.out 1).trans rfl⟩ (fun hHeld=>?_)
        clear hK K
        refine norm_ (a':=?_) ?_ ?_
        rotate_left
        ·show Act.put _ (some 72) _=_
         simp only[Act.put,List.setIfInBounds_toArray,List.set_cons_zero,List.set_cons_succ,i64_w,i32_w]
         rfl
        refine pure_ (i:=4) (N:=some 73) (v:=?_) (a':=?_) (fl 5 5) rfl rfl (by kernel_rfl) (fun _ _ _ h=>h) (Or.inl ⟨by rfl,?_⟩) ?_ ?_
        rotate_left
        ·intro w'
         go_simp
         with_reducible rfl
        rotate_left
        ·simp only[Act.put,List.setIfInBounds_toArray,List.set_cons_zero,List.set_cons_succ,i64_w,i32_w]
         rfl
        refine done_ (by kernel_rfl) ?_
        try go_wp2
        go_ret
        exact⟨fin1,bl⟩

end Go.Proofs.Ythmpginbaafbhaa.PFnExactRepairToPlay
