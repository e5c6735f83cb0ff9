/- The walks of functions that FnExactPlaysAsPromised reaches: what they return is what the plain functions of the same names say. Made by a program of this session after the kit's print. No conditions beyond the arguments' being read. -/
import Derived.Test.YtjniaiobnbdhhabSPlaysAsPromised0
import Derived.Test.YtjniaiobnbdhhabSPlaysAsPromised1
import Derived.Test.YtjniaiobnbdhhabSPlaysAsPromised6
import Derived.Test.YtjniaiobnbdhhabSPlaysAsPromised7
import Derived.Test.YtjniaiobnbdhhabSPlaysAsPromised12
import Derived.Test.YtjniaiobnbdhhabSPlaysAsPromised13
namespace Go.Proofs.Ytjniaiobnbdhhab.PFnExactPlaysAsPromised
open Go.RowKit Go.Proofs.YtjniaiobnbdhhabW.PrintWords Go.Proofs.YtjniaiobnbdhhabW.PrintLast Go.Proofs.YtjniaiobnbdhhabW.PrintMore
attribute [local go_sem] max2_int min2_int max_two min_two max_three min_three max_four min_four   -- for this text's walks alone
set_option linter.unusedVariables false
set_option linter.unusedSimpArgs false

/-! ### laws_FnExactPlaysAsPromised: function 5 -/
def laws_FnExactPlaysAsPromised.j0:Nat→List (S101)→List (S82)→List (S95)→List (S80)→Bool→List Int→Int→List Int→Int→Option (Bool)
 | 0,_,_,_,_,_,_,_,_,_=>none
 | k+1,x1,x2,x15,x16,x70,x357000,x357001,x381000,x381001=>if x70=true then(some false) else((laws_toInstrument.f k x357000 x357001).bind fun bt392=>((laws_eqInstrument.f k x381000 x381001 bt392.1 bt392.2).bind fun t396=>(if t396=true then((laws_toNoteS.f k x1).bind fun t397=>((laws_eqNoteS.f k x15 t397).bind fun t400=>(if t400=true then((laws_toHoleS.f k x2).bind fun t401=>((laws_eqHoleS.f k x16 t401).bind fun t404=>(if t404=true then(some true) else(some false)))) else(some false)))) else(some false))))
def laws_FnExactPlaysAsPromised.f (k:Nat) (l0_0:List Int) (a0_1:Int) (l1:List (S101)) (l2:List (S82)) (a3_0:Int) (a3_1:Int) (a3_2:Int) (a4:Int):Option (Bool):=(laws_szInstrument.f l0_0 a0_1 1048576).bind fun t358=>(if t358<0 then(some true) else((laws_szNoteS.f l1 t358).bind fun t359=>(if t359<0 then(some true) else((laws_szHoleS.f l2 t359).bind fun t360=>(if t360<0 then(some true) else((laws_toInstrument.f k l0_0 a0_1).bind fun bt361=>((laws_toNoteS.f k l1).bind fun t365=>((laws_toHoleS.f k l2).bind fun t368=>((laws_toAction.f a3_0 a3_1 a3_2).bind fun bt371=>((spec_PlaysAsPromised.f k bt361.1 bt361.2 t365 t368 bt371.1 bt371.2.1 bt371.2.2 a4).bind fun bt374=>((laws_toInstrument.f k l0_0 a0_1).bind fun bt376=>((laws_toNoteS.f k l1).bind fun t381=>((laws_toHoleS.f k l2).bind fun t384=>((laws_toAction.f a3_0 a3_1 a3_2).bind fun bt387=>((impl_PlaysAsPromised.f k bt376.1 bt376.2 t381 t384 bt387.1 bt387.2.1 bt387.2.2 a4).bind fun bt390=>(if(bt390.1 != bt374.1)=true then(laws_FnExactPlaysAsPromised.j0 k l1 l2 t381 t384 true l0_0 a0_1 bt376.1 bt376.2) else(laws_FnExactPlaysAsPromised.j0 k l1 l2 t381 t384 (bt390.2 != bt374.2) l0_0 a0_1 bt376.1 bt376.2)))))))))))))))))
def laws_FnExactPlaysAsPromised.T11:Bool×List (List Nat×List Nat):=(true,[([],[]),([0],[0]),([],[]),([2,1],[2]),([],[]),([4,3],[4]),([],[]),([6,5],[6]),([],[]),([1,3,5,7,8,7],[1,3,5,7,8]),([9],[9]),([10],[10]),([10],[10]),([11,9,0,1,2,3,4,5,6,7,8,9,10,11],[11]),([12,13,0,1,2,3,4,5,6,7,8,9,10,11,12,13],[12])])
def laws_FnExactPlaysAsPromised.B11:List Nat:=[0,1,0,7,0,31,0,127,0,511,1023,2047,2047,4095,16383]
theorem laws_FnExactPlaysAsPromised.tab11:rtab .any (opsOf Try.f5 11)=laws_FnExactPlaysAsPromised.T11:=by kernel_rfl
theorem laws_FnExactPlaysAsPromised.bits11:waitsOk laws_FnExactPlaysAsPromised.T11.2 laws_FnExactPlaysAsPromised.B11=true:=by kernel_rfl
def laws_FnExactPlaysAsPromised.T15:Bool×List (List Nat×List Nat):=(true,[([],[]),([],[]),([],[]),([],[]),([3],[3]),([],[]),([0,1,2,4,5,4],[0,1,2,4,5]),([6],[6]),([7],[7]),([7],[7]),([8,6,0,1,2,3,4,5,6,7,8],[8]),([9,10,0,1,2,3,4,5,6,7,8,9,10],[9])])
def laws_FnExactPlaysAsPromised.B15:List Nat:=[0,0,0,0,8,0,63,127,255,255,511,2047]
theorem laws_FnExactPlaysAsPromised.tab15:rtab .any (opsOf Try.f5 15)=laws_FnExactPlaysAsPromised.T15:=by kernel_rfl
theorem laws_FnExactPlaysAsPromised.bits15:waitsOk laws_FnExactPlaysAsPromised.T15.2 laws_FnExactPlaysAsPromised.B15=true:=by kernel_rfl
set_option maxHeartbeats 8000000 in
set_option maxRecDepth 100000 in
theorem laws_FnExactPlaysAsPromised.calls (k:Nat) (A0_0:Option Addr) (c0_0:Nat) (l0_0:List Int) (a0_1:Int) (A1:Option Addr) (c1:Nat) (l1:List (S101)) (A2:Option Addr) (c2:Nat) (l2:List (S82)) (a3_0:Int) (a3_1:Int) (a3_2:Int) (a4:Int) (r:Bool) (w:World) (hr0_0:Kd.C (Kd.int .i64) w A0_0 l0_0.length l0_0) (hc0_0:l0_0.length≤c0_0) (hr1:Kd.C k101 w A1 l1.length l1) (hc1:l1.length≤c1) (hr2:Kd.C k82 w A2 l2.length l2) (hc2:l2.length≤c2) (h:laws_FnExactPlaysAsPromised.f k l0_0 a0_1 l1 l2 a3_0 a3_1 a3_2 a4=some r) (hrt:Aside0 (r=true)) :
  Calls Try.prog 5 #[.agg #[.slice A0_0 l0_0.length c0_0,.int .i64 a0_1],.slice A1 l1.length c1,.slice A2 l2.length c2,.agg #[.int .i64 a3_0,.int .i64 a3_1,.int .i64 a3_2],.int .i64 a4] w fun e w'=>e = .returned (.bool r)∧Below w.heap.size w w':=by
 have hu36:=Try.underlying36
 have hu39:=Try.underlying39
 have hu44:=Try.underlying44
 have HR0_0:=am hr0_0
 have HC0_0:=am hc0_0
 clear hr0_0 hc0_0
 have HR1:=am hr1
 have HC1:=am hc1
 clear hr1 hc1
 have HR2:=am hr2
 have HC2:=am hc2
 clear hr2 hc2
 have HB:=am (Below.refl w.heap.size w)
 have H:((laws_szInstrument.f l0_0 a0_1 1048576).bind fun t358=>(if t358<0 then(some true) else((laws_szNoteS.f l1 t358).bind fun t359=>(if t359<0 then(some true) else((laws_szHoleS.f l2 t359).bind fun t360=>(if t360<0 then(some true) else((laws_toInstrument.f k l0_0 a0_1).bind fun bt361=>((laws_toNoteS.f k l1).bind fun t365=>((laws_toHoleS.f k l2).bind fun t368=>((laws_toAction.f a3_0 a3_1 a3_2).bind fun bt371=>((spec_PlaysAsPromised.f k bt361.1 bt361.2 t365 t368 bt371.1 bt371.2.1 bt371.2.2 a4).bind fun bt374=>((laws_toInstrument.f k l0_0 a0_1).bind fun bt376=>((laws_toNoteS.f k l1).bind fun t381=>((laws_toHoleS.f k l2).bind fun t384=>((laws_toAction.f a3_0 a3_1 a3_2).bind fun bt387=>((impl_PlaysAsPromised.f k bt376.1 bt376.2 t381 t384 bt387.1 bt387.2.1 bt387.2.2 a4).bind fun bt390=>(if(bt390.1 != bt374.1)=true then(laws_FnExactPlaysAsPromised.j0 k l1 l2 t381 t384 true l0_0 a0_1 bt376.1 bt376.2) else(laws_FnExactPlaysAsPromised.j0 k l1 l2 t381 t384 (bt390.2 != bt374.2) l0_0 a0_1 bt376.1 bt376.2))))))))))))))))))=some r:=h
 clear h
 replace H:=Option.bind_eq_some_iff.mp H
 obtain⟨t358,A60,H⟩:=H
 replace H:(if t358<0 then(some true) else((laws_szNoteS.f l1 t358).bind fun t359=>(if t359<0 then(some true) else((laws_szHoleS.f l2 t359).bind fun t360=>(if t360<0 then(some true) else((laws_toInstrument.f k l0_0 a0_1).bind fun bt361=>((laws_toNoteS.f k l1).bind fun t365=>((laws_toHoleS.f k l2).bind fun t368=>((laws_toAction.f a3_0 a3_1 a3_2).bind fun bt371=>((spec_PlaysAsPromised.f k bt361.1 bt361.2 t365 t368 bt371.1 bt371.2.1 bt371.2.2 a4).bind fun bt374=>((laws_toInstrument.f k l0_0 a0_1).bind fun bt376=>((laws_toNoteS.f k l1).bind fun t381=>((laws_toHoleS.f k l2).bind fun t384=>((laws_toAction.f a3_0 a3_1 a3_2).bind fun bt387=>((impl_PlaysAsPromised.f k bt376.1 bt376.2 t381 t384 bt387.1 bt387.2.1 bt387.2.2 a4).bind fun bt390=>(if(bt390.1 != bt374.1)=true then(laws_FnExactPlaysAsPromised.j0 k l1 l2 t381 t384 true l0_0 a0_1 bt376.1 bt376.2) else(laws_FnExactPlaysAsPromised.j0 k l1 l2 t381 t384 (bt390.2 != bt374.2) l0_0 a0_1 bt376.1 bt376.2)))))))))))))))))=some r:=H
 have A6:=am A60
 clear A60
 by_cases c7:t358<0
 ·rw[if_pos c7] at H
  have c7b0:decide (t358<0)=true:=decide_eq_true c7
  clear c7
  obtain rfl:=Option.some.inj H
  go_enter Try.func5,Try.ntmps5
  go_wp2_with (first|((with_reducible refine gate_dst (N:=5) rfl ?_);refine box_event ?hg (N:=5) ?hd (cs := #[.slice A0_0 l0_0.length c0_0,.int .i64 a0_1]) (t:=36) ?hr ?_;(case hd=>rfl);(case hg=>rfl);(case hr=>first|(go_simp;done)|(go_simp;rfl));intro gb356 hg w8 hbox hb;have n0_:=am (below_step bl hb);have n1_:=am (hbox);have n2_:=am ((by rw[hg];exact(below_size bl):w.heap.size≤gb356));have n3_:=am ((by rw[hg];exact(below_size bl):w.heap.size≤gb356));clear HB;have HB:=n0_;have BK356:=n1_;have GW356:=n2_;have GE356:=n3_;clear n0_ n1_ n2_ n3_ hb hbox hg)|((with_reducible refine gate_dst (N:=8) rfl ?_);refine box_event ?hg (N:=8) ?hd (cs := #[.int .i64 a3_0,.int .i64 a3_1,.int .i64 a3_2]) (t:=39) ?hr ?_;(case hd=>rfl);(case hg=>rfl);(case hr=>first|(go_simp;done)|(go_simp;rfl));intro gb357 hg w9 hbox hb;have n0_:=am (blk_below (g:=gb356) (o := .cells #[.slice A0_0 l0_0.length c0_0,.int .i64 a0_1] 36 (0,0)) (bup BK356.out) hb);have n1_:=am (below_step bl hb);have n2_:=am (hbox);have n3_:=am ((by rw[hg];exact(below_size bl):w.heap.size≤gb357));have n4_:=am ((by rw[hg];exact(below_size bl):w.heap.size≤gb357));have n5_:=am ((by rw[hg];exact Nat.ne_of_lt (blk_lt (g:=gb356) (o := .cells #[.slice A0_0 l0_0.length c0_0,.int .i64 a0_1] 36 (0,0)) (bup BK356.out)):gb356≠gb357));have n6_:=am ((by rw[hg];exact Nat.ne_of_gt (blk_lt (g:=gb356) (o := .cells #[.slice A0_0 l0_0.length c0_0,.int .i64 a0_1] 36 (0,0)) (bup BK356.out)):gb357≠gb356));clear BK356 HB;have BK356:=n0_;have HB:=n1_;have BK357:=n2_;have GW357:=n3_;have GE357:=n4_;have NB356_357:=n5_;have NB357_356:=n6_;clear n0_ n1_ n2_ n3_ n4_ n5_ n6_ hb hbox hg;have hnb10:=NB356_357.out;have hnc10:=NB357_356.out;have hcz11_0:w9.cell? ⟨gb356,0,none⟩=some (.slice A0_0 l0_0.length c0_0):=(blk_cell BK356.out 0).trans rfl;have hcz11_1:w9.cell? ⟨gb356,1,none⟩=some (.int .i64 a0_1):=(blk_cell BK356.out 1).trans rfl;have hfz11_0:=blk_frozen BK356.out 0;have hfz11_1:=blk_frozen BK356.out 1)|((with_reducible refine gate_callee (f:=22) rfl ?_);refine goesL_ (some 21) rfl rfl Try.func22 (by kernel_rfl) rfl #[.agg #[.slice A0_0 l0_0.length c0_0,.int .i64 a0_1],.int .i64 1048576] rfl (by(try simp only[List.map_toArray,List.map_cons,List.map_nil]);first|done|rfl|(simp only[List.length_drop,List.length_take];rfl)) ?_;(with_reducible refine(laws_szInstrument.calls _ _ l0_0 a0_1 1048576 t358 _ ?side1 ?side2 A6.out).mono ?_);(case side1=>repeat(first|exact(Kd.C_below HR0_0.out HB.out)|(with_reducible refine Kd.C_alloc ?_ _)|(with_reducible refine Kd.C_drewN ?_ _)|(with_reducible refine Kd.C_drew ?_)));(case side2=>exact HC0_0.out);rintro e w12 ⟨rfl,hb⟩;refine⟨_,rfl,?_⟩;have n0_:=am (blk_below (g:=gb356) (o := .cells #[.slice A0_0 l0_0.length c0_0,.int .i64 a0_1] 36 (0,0)) (bup BK356.out) hb);have n1_:=am (blk_below (g:=gb357) (o := .cells #[.int .i64 a3_0,.int .i64 a3_1,.int .i64 a3_2] 39 (0,0)) (bup BK357.out) hb);have n2_:=am (below_step bl hb);clear BK356 BK357 HB;have BK356:=n0_;have BK357:=n1_;have HB:=n2_;clear n0_ n1_ n2_;(try clear hb);(try clear hb2);(try clear hk);(try clear hi)))
  go_ret
  exact⟨fin1,bl⟩
 ·rw[if_neg c7] at H
  have c7b0:decide (t358<0)=false:=decide_eq_false c7
  clear c7
  replace H:=Option.bind_eq_some_iff.mp H
  obtain⟨t359,A130,H⟩:=H
  replace H:(if t359<0 then(some true) else((laws_szHoleS.f l2 t359).bind fun t360=>(if t360<0 then(some true) else((laws_toInstrument.f k l0_0 a0_1).bind fun bt361=>((laws_toNoteS.f k l1).bind fun t365=>((laws_toHoleS.f k l2).bind fun t368=>((laws_toAction.f a3_0 a3_1 a3_2).bind fun bt371=>((spec_PlaysAsPromised.f k bt361.1 bt361.2 t365 t368 bt371.1 bt371.2.1 bt371.2.2 a4).bind fun bt374=>((laws_toInstrument.f k l0_0 a0_1).bind fun bt376=>((laws_toNoteS.f k l1).bind fun t381=>((laws_toHoleS.f k l2).bind fun t384=>((laws_toAction.f a3_0 a3_1 a3_2).bind fun bt387=>((impl_PlaysAsPromised.f k bt376.1 bt376.2 t381 t384 bt387.1 bt387.2.1 bt387.2.2 a4).bind fun bt390=>(if(bt390.1 != bt374.1)=true then(laws_FnExactPlaysAsPromised.j0 k l1 l2 t381 t384 true l0_0 a0_1 bt376.1 bt376.2) else(laws_FnExactPlaysAsPromised.j0 k l1 l2 t381 t384 (bt390.2 != bt374.2) l0_0 a0_1 bt376.1 bt376.2)))))))))))))))=some r:=H
  have A13:=am A130
  clear A130
  by_cases c14:t359<0
  ·rw[if_pos c14] at H
   have c14b0:decide (t359<0)=true:=decide_eq_true c14
   clear c14
   obtain rfl:=Option.some.inj H
   go_enter Try.func5,Try.ntmps5
   go_wp2_with (first|((with_reducible refine gate_dst (N:=5) rfl ?_);refine box_event ?hg (N:=5) ?hd (cs := #[.slice A0_0 l0_0.length c0_0,.int .i64 a0_1]) (t:=36) ?hr ?_;(case hd=>rfl);(case hg=>rfl);(case hr=>first|(go_simp;done)|(go_simp;rfl));intro gb356 hg w15 hbox hb;have n0_:=am (below_step bl hb);have n1_:=am (hbox);have n2_:=am ((by rw[hg];exact(below_size bl):w.heap.size≤gb356));have n3_:=am ((by rw[hg];exact(below_size bl):w.heap.size≤gb356));clear HB;have HB:=n0_;have BK356:=n1_;have GW356:=n2_;have GE356:=n3_;clear n0_ n1_ n2_ n3_ hb hbox hg)|((with_reducible refine gate_dst (N:=8) rfl ?_);refine box_event ?hg (N:=8) ?hd (cs := #[.int .i64 a3_0,.int .i64 a3_1,.int .i64 a3_2]) (t:=39) ?hr ?_;(case hd=>rfl);(case hg=>rfl);(case hr=>first|(go_simp;done)|(go_simp;rfl));intro gb357 hg w16 hbox hb;have n0_:=am (blk_below (g:=gb356) (o := .cells #[.slice A0_0 l0_0.length c0_0,.int .i64 a0_1] 36 (0,0)) (bup BK356.out) hb);have n1_:=am (below_step bl hb);have n2_:=am (hbox);have n3_:=am ((by rw[hg];exact(below_size bl):w.heap.size≤gb357));have n4_:=am ((by rw[hg];exact(below_size bl):w.heap.size≤gb357));have n5_:=am ((by rw[hg];exact Nat.ne_of_lt (blk_lt (g:=gb356) (o := .cells #[.slice A0_0 l0_0.length c0_0,.int .i64 a0_1] 36 (0,0)) (bup BK356.out)):gb356≠gb357));have n6_:=am ((by rw[hg];exact Nat.ne_of_gt (blk_lt (g:=gb356) (o := .cells #[.slice A0_0 l0_0.length c0_0,.int .i64 a0_1] 36 (0,0)) (bup BK356.out)):gb357≠gb356));clear BK356 HB;have BK356:=n0_;have HB:=n1_;have BK357:=n2_;have GW357:=n3_;have GE357:=n4_;have NB356_357:=n5_;have NB357_356:=n6_;clear n0_ n1_ n2_ n3_ n4_ n5_ n6_ hb hbox hg;have hnb17:=NB356_357.out;have hnc17:=NB357_356.out;have hcz18_0:w16.cell? ⟨gb356,0,none⟩=some (.slice A0_0 l0_0.length c0_0):=(blk_cell BK356.out 0).trans rfl;have hcz18_1:w16.cell? ⟨gb356,1,none⟩=some (.int .i64 a0_1):=(blk_cell BK356.out 1).trans rfl;have hfz18_0:=blk_frozen BK356.out 0;have hfz18_1:=blk_frozen BK356.out 1)|((with_reducible refine gate_callee (f:=22) rfl ?_);refine goesL_ (some 21) rfl rfl Try.func22 (by kernel_rfl) rfl #[.agg #[.slice A0_0 l0_0.length c0_0,.int .i64 a0_1],.int .i64 1048576] rfl (by(try simp only[List.map_toArray,List.map_cons,List.map_nil]);first|done|rfl|(simp only[List.length_drop,List.length_take];rfl)) ?_;(with_reducible refine(laws_szInstrument.calls _ _ l0_0 a0_1 1048576 t358 _ ?side1 ?side2 A6.out).mono ?_);(case side1=>repeat(first|exact(Kd.C_below HR0_0.out HB.out)|(with_reducible refine Kd.C_alloc ?_ _)|(with_reducible refine Kd.C_drewN ?_ _)|(with_reducible refine Kd.C_drew ?_)));(case side2=>exact HC0_0.out);rintro e w19 ⟨rfl,hb⟩;refine⟨_,rfl,?_⟩;have n0_:=am (blk_below (g:=gb356) (o := .cells #[.slice A0_0 l0_0.length c0_0,.int .i64 a0_1] 36 (0,0)) (bup BK356.out) hb);have n1_:=am (blk_below (g:=gb357) (o := .cells #[.int .i64 a3_0,.int .i64 a3_1,.int .i64 a3_2] 39 (0,0)) (bup BK357.out) hb);have n2_:=am (below_step bl hb);clear BK356 BK357 HB;have BK356:=n0_;have BK357:=n1_;have HB:=n2_;clear n0_ n1_ n2_;(try clear hb);(try clear hb2);(try clear hk);(try clear hi))|((with_reducible refine gate_callee (f:=23) rfl ?_);refine goesL_ (some 26) rfl rfl Try.func23 (by kernel_rfl) rfl #[.slice A1 l1.length c1,.int .i64 t358] rfl (by(try simp only[List.map_toArray,List.map_cons,List.map_nil]);first|done|rfl|(simp only[List.length_drop,List.length_take];rfl)) ?_;(with_reducible refine(laws_szNoteS.calls _ _ l1 t358 t359 _ ?side1 ?side2 A13.out).mono ?_);(case side1=>repeat(first|exact(Kd.C_below HR1.out HB.out)|(with_reducible refine Kd.C_alloc ?_ _)|(with_reducible refine Kd.C_drewN ?_ _)|(with_reducible refine Kd.C_drew ?_)));(case side2=>exact HC1.out);rintro e w' ⟨rfl,⟨nd,rfl⟩⟩;refine⟨_,rfl,?_⟩))
   go_ret
   exact⟨fin1,bl⟩
  ·rw[if_neg c14] at H
   have c14b0:decide (t359<0)=false:=decide_eq_false c14
   clear c14
   replace H:=Option.bind_eq_some_iff.mp H
   obtain⟨t360,A200,H⟩:=H
   replace H:(if t360<0 then(some true) else((laws_toInstrument.f k l0_0 a0_1).bind fun bt361=>((laws_toNoteS.f k l1).bind fun t365=>((laws_toHoleS.f k l2).bind fun t368=>((laws_toAction.f a3_0 a3_1 a3_2).bind fun bt371=>((spec_PlaysAsPromised.f k bt361.1 bt361.2 t365 t368 bt371.1 bt371.2.1 bt371.2.2 a4).bind fun bt374=>((laws_toInstrument.f k l0_0 a0_1).bind fun bt376=>((laws_toNoteS.f k l1).bind fun t381=>((laws_toHoleS.f k l2).bind fun t384=>((laws_toAction.f a3_0 a3_1 a3_2).bind fun bt387=>((impl_PlaysAsPromised.f k bt376.1 bt376.2 t381 t384 bt387.1 bt387.2.1 bt387.2.2 a4).bind fun bt390=>(if(bt390.1 != bt374.1)=true then(laws_FnExactPlaysAsPromised.j0 k l1 l2 t381 t384 true l0_0 a0_1 bt376.1 bt376.2) else(laws_FnExactPlaysAsPromised.j0 k l1 l2 t381 t384 (bt390.2 != bt374.2) l0_0 a0_1 bt376.1 bt376.2)))))))))))))=some r:=H
   have A20:=am A200
   clear A200
   by_cases c21:t360<0
   ·rw[if_pos c21] at H
    have c21b0:decide (t360<0)=true:=decide_eq_true c21
    clear c21
    obtain rfl:=Option.some.inj H
    go_enter Try.func5,Try.ntmps5
    go_wp2_with (first|((with_reducible refine gate_dst (N:=5) rfl ?_);refine box_event ?hg (N:=5) ?hd (cs := #[.slice A0_0 l0_0.length c0_0,.int .i64 a0_1]) (t:=36) ?hr ?_;(case hd=>rfl);(case hg=>rfl);(case hr=>first|(go_simp;done)|(go_simp;rfl));intro gb356 hg w22 hbox hb;have n0_:=am (below_step bl hb);have n1_:=am (hbox);have n2_:=am ((by rw[hg];exact(below_size bl):w.heap.size≤gb356));have n3_:=am ((by rw[hg];exact(below_size bl):w.heap.size≤gb356));clear HB;have HB:=n0_;have BK356:=n1_;have GW356:=n2_;have GE356:=n3_;clear n0_ n1_ n2_ n3_ hb hbox hg)|((with_reducible refine gate_dst (N:=8) rfl ?_);refine box_event ?hg (N:=8) ?hd (cs := #[.int .i64 a3_0,.int .i64 a3_1,.int .i64 a3_2]) (t:=39) ?hr ?_;(case hd=>rfl);(case hg=>rfl);(case hr=>first|(go_simp;done)|(go_simp;rfl));intro gb357 hg w23 hbox hb;have n0_:=am (blk_below (g:=gb356) (o := .cells #[.slice A0_0 l0_0.length c0_0,.int .i64 a0_1] 36 (0,0)) (bup BK356.out) hb);have n1_:=am (below_step bl hb);have n2_:=am (hbox);have n3_:=am ((by rw[hg];exact(below_size bl):w.heap.size≤gb357));have n4_:=am ((by rw[hg];exact(below_size bl):w.heap.size≤gb357));have n5_:=am ((by rw[hg];exact Nat.ne_of_lt (blk_lt (g:=gb356) (o := .cells #[.slice A0_0 l0_0.length c0_0,.int .i64 a0_1] 36 (0,0)) (bup BK356.out)):gb356≠gb357));have n6_:=am ((by rw[hg];exact Nat.ne_of_gt (blk_lt (g:=gb356) (o := .cells #[.slice A0_0 l0_0.length c0_0,.int .i64 a0_1] 36 (0,0)) (bup BK356.out)):gb357≠gb356));clear BK356 HB;have BK356:=n0_;have HB:=n1_;have BK357:=n2_;have GW357:=n3_;have GE357:=n4_;have NB356_357:=n5_;have NB357_356:=n6_;clear n0_ n1_ n2_ n3_ n4_ n5_ n6_ hb hbox hg;have hnb24:=NB356_357.out;have hnc24:=NB357_356.out;have hcz25_0:w23.cell? ⟨gb356,0,none⟩=some (.slice A0_0 l0_0.length c0_0):=(blk_cell BK356.out 0).trans rfl;have hcz25_1:w23.cell? ⟨gb356,1,none⟩=some (.int .i64 a0_1):=(blk_cell BK356.out 1).trans rfl;have hfz25_0:=blk_frozen BK356.out 0;have hfz25_1:=blk_frozen BK356.out 1)|((with_reducible refine gate_callee (f:=22) rfl ?_);refine goesL_ (some 21) rfl rfl Try.func22 (by kernel_rfl) rfl #[.agg #[.slice A0_0 l0_0.length c0_0,.int .i64 a0_1],.int .i64 1048576] rfl (by(try simp only[List.map_toArray,List.map_cons,List.map_nil]);first|done|rfl|(simp only[List.length_drop,List.length_take];rfl)) ?_;(with_reducible refine(laws_szInstrument.calls _ _ l0_0 a0_1 1048576 t358 _ ?side1 ?side2 A6.out).mono ?_);(case side1=>repeat(first|exact(Kd.C_below HR0_0.out HB.out)|(with_reducible refine Kd.C_alloc ?_ _)|(with_reducible refine Kd.C_drewN ?_ _)|(with_reducible refine Kd.C_drew ?_)));(case side2=>exact HC0_0.out);rintro e w26 ⟨rfl,hb⟩;refine⟨_,rfl,?_⟩;have n0_:=am (blk_below (g:=gb356) (o := .cells #[.slice A0_0 l0_0.length c0_0,.int .i64 a0_1] 36 (0,0)) (bup BK356.out) hb);have n1_:=am (blk_below (g:=gb357) (o := .cells #[.int .i64 a3_0,.int .i64 a3_1,.int .i64 a3_2] 39 (0,0)) (bup BK357.out) hb);have n2_:=am (below_step bl hb);clear BK356 BK357 HB;have BK356:=n0_;have BK357:=n1_;have HB:=n2_;clear n0_ n1_ n2_;(try clear hb);(try clear hb2);(try clear hk);(try clear hi))|((with_reducible refine gate_callee (f:=23) rfl ?_);refine goesL_ (some 26) rfl rfl Try.func23 (by kernel_rfl) rfl #[.slice A1 l1.length c1,.int .i64 t358] rfl (by(try simp only[List.map_toArray,List.map_cons,List.map_nil]);first|done|rfl|(simp only[List.length_drop,List.length_take];rfl)) ?_;(with_reducible refine(laws_szNoteS.calls _ _ l1 t358 t359 _ ?side1 ?side2 A13.out).mono ?_);(case side1=>repeat(first|exact(Kd.C_below HR1.out HB.out)|(with_reducible refine Kd.C_alloc ?_ _)|(with_reducible refine Kd.C_drewN ?_ _)|(with_reducible refine Kd.C_drew ?_)));(case side2=>exact HC1.out);rintro e w' ⟨rfl,⟨nd,rfl⟩⟩;refine⟨_,rfl,?_⟩)|((with_reducible refine gate_callee (f:=11) rfl ?_);refine goesL_ (some 31) rfl rfl Try.func11 (by kernel_rfl) rfl #[.slice A2 l2.length c2,.int .i64 t359] rfl (by(try simp only[List.map_toArray,List.map_cons,List.map_nil]);first|done|rfl|(simp only[List.length_drop,List.length_take];rfl)) ?_;(with_reducible refine(laws_szHoleS.calls _ _ l2 t359 t360 _ ?side1 ?side2 A20.out).mono ?_);(case side1=>repeat(first|exact(Kd.C_below HR2.out bl)|(with_reducible refine Kd.C_alloc ?_ _)|(with_reducible refine Kd.C_drewN ?_ _)|(with_reducible refine Kd.C_drew ?_)));(case side2=>exact HC2.out);rintro e w' ⟨rfl,⟨nd,rfl⟩⟩;refine⟨_,rfl,?_⟩))
    go_ret
    exact⟨fin1,bl⟩
   ·rw[if_neg c21] at H
    have c21b0:decide (t360<0)=false:=decide_eq_false c21
    clear c21
    replace H:=Option.bind_eq_some_iff.mp H
    obtain⟨⟨t361,t364⟩,A270,H⟩:=H
    replace H:((laws_toNoteS.f k l1).bind fun t365=>((laws_toHoleS.f k l2).bind fun t368=>((laws_toAction.f a3_0 a3_1 a3_2).bind fun bt371=>((spec_PlaysAsPromised.f k t361 t364 t365 t368 bt371.1 bt371.2.1 bt371.2.2 a4).bind fun bt374=>((laws_toInstrument.f k l0_0 a0_1).bind fun bt376=>((laws_toNoteS.f k l1).bind fun t381=>((laws_toHoleS.f k l2).bind fun t384=>((laws_toAction.f a3_0 a3_1 a3_2).bind fun bt387=>((impl_PlaysAsPromised.f k bt376.1 bt376.2 t381 t384 bt387.1 bt387.2.1 bt387.2.2 a4).bind fun bt390=>(if(bt390.1 != bt374.1)=true then(laws_FnExactPlaysAsPromised.j0 k l1 l2 t381 t384 true l0_0 a0_1 bt376.1 bt376.2) else(laws_FnExactPlaysAsPromised.j0 k l1 l2 t381 t384 (bt390.2 != bt374.2) l0_0 a0_1 bt376.1 bt376.2)))))))))))=some r:=H
    have A27:=am A270
    clear A270
    replace H:=Option.bind_eq_some_iff.mp H
    obtain⟨t365,A280,H⟩:=H
    replace H:((laws_toHoleS.f k l2).bind fun t368=>((laws_toAction.f a3_0 a3_1 a3_2).bind fun bt371=>((spec_PlaysAsPromised.f k t361 t364 t365 t368 bt371.1 bt371.2.1 bt371.2.2 a4).bind fun bt374=>((laws_toInstrument.f k l0_0 a0_1).bind fun bt376=>((laws_toNoteS.f k l1).bind fun t381=>((laws_toHoleS.f k l2).bind fun t384=>((laws_toAction.f a3_0 a3_1 a3_2).bind fun bt387=>((impl_PlaysAsPromised.f k bt376.1 bt376.2 t381 t384 bt387.1 bt387.2.1 bt387.2.2 a4).bind fun bt390=>(if(bt390.1 != bt374.1)=true then(laws_FnExactPlaysAsPromised.j0 k l1 l2 t381 t384 true l0_0 a0_1 bt376.1 bt376.2) else(laws_FnExactPlaysAsPromised.j0 k l1 l2 t381 t384 (bt390.2 != bt374.2) l0_0 a0_1 bt376.1 bt376.2))))))))))=some r:=H
    have A28:=am A280
    clear A280
    replace H:=Option.bind_eq_some_iff.mp H
    obtain⟨t368,A290,H⟩:=H
    replace H:((laws_toAction.f a3_0 a3_1 a3_2).bind fun bt371=>((spec_PlaysAsPromised.f k t361 t364 t365 t368 bt371.1 bt371.2.1 bt371.2.2 a4).bind fun bt374=>((laws_toInstrument.f k l0_0 a0_1).bind fun bt376=>((laws_toNoteS.f k l1).bind fun t381=>((laws_toHoleS.f k l2).bind fun t384=>((laws_toAction.f a3_0 a3_1 a3_2).bind fun bt387=>((impl_PlaysAsPromised.f k bt376.1 bt376.2 t381 t384 bt387.1 bt387.2.1 bt387.2.2 a4).bind fun bt390=>(if(bt390.1 != bt374.1)=true then(laws_FnExactPlaysAsPromised.j0 k l1 l2 t381 t384 true l0_0 a0_1 bt376.1 bt376.2) else(laws_FnExactPlaysAsPromised.j0 k l1 l2 t381 t384 (bt390.2 != bt374.2) l0_0 a0_1 bt376.1 bt376.2)))))))))=some r:=H
    have A29:=am A290
    clear A290
    replace H:=Option.bind_eq_some_iff.mp H
    obtain⟨⟨t371,t372,t373⟩,A300,H⟩:=H
    replace H:((spec_PlaysAsPromised.f k t361 t364 t365 t368 t371 t372 t373 a4).bind fun bt374=>((laws_toInstrument.f k l0_0 a0_1).bind fun bt376=>((laws_toNoteS.f k l1).bind fun t381=>((laws_toHoleS.f k l2).bind fun t384=>((laws_toAction.f a3_0 a3_1 a3_2).bind fun bt387=>((impl_PlaysAsPromised.f k bt376.1 bt376.2 t381 t384 bt387.1 bt387.2.1 bt387.2.2 a4).bind fun bt390=>(if(bt390.1 != bt374.1)=true then(laws_FnExactPlaysAsPromised.j0 k l1 l2 t381 t384 true l0_0 a0_1 bt376.1 bt376.2) else(laws_FnExactPlaysAsPromised.j0 k l1 l2 t381 t384 (bt390.2 != bt374.2) l0_0 a0_1 bt376.1 bt376.2))))))))=some r:=H
    have A30:=am A300
    clear A300
    replace H:=Option.bind_eq_some_iff.mp H
    obtain⟨⟨t374,t375⟩,A310,H⟩:=H
    replace H:((laws_toInstrument.f k l0_0 a0_1).bind fun bt376=>((laws_toNoteS.f k l1).bind fun t381=>((laws_toHoleS.f k l2).bind fun t384=>((laws_toAction.f a3_0 a3_1 a3_2).bind fun bt387=>((impl_PlaysAsPromised.f k bt376.1 bt376.2 t381 t384 bt387.1 bt387.2.1 bt387.2.2 a4).bind fun bt390=>(if(bt390.1 != t374)=true then(laws_FnExactPlaysAsPromised.j0 k l1 l2 t381 t384 true l0_0 a0_1 bt376.1 bt376.2) else(laws_FnExactPlaysAsPromised.j0 k l1 l2 t381 t384 (bt390.2 != t375) l0_0 a0_1 bt376.1 bt376.2)))))))=some r:=H
    have A31:=am A310
    clear A310
    replace H:=Option.bind_eq_some_iff.mp H
    obtain⟨⟨t376,t379⟩,A320,H⟩:=H
    replace H:((laws_toNoteS.f k l1).bind fun t381=>((laws_toHoleS.f k l2).bind fun t384=>((laws_toAction.f a3_0 a3_1 a3_2).bind fun bt387=>((impl_PlaysAsPromised.f k t376 t379 t381 t384 bt387.1 bt387.2.1 bt387.2.2 a4).bind fun bt390=>(if(bt390.1 != t374)=true then(laws_FnExactPlaysAsPromised.j0 k l1 l2 t381 t384 true l0_0 a0_1 t376 t379) else(laws_FnExactPlaysAsPromised.j0 k l1 l2 t381 t384 (bt390.2 != t375) l0_0 a0_1 t376 t379))))))=some r:=H
    have A32:=am A320
    clear A320
    replace H:=Option.bind_eq_some_iff.mp H
    obtain⟨t381,A330,H⟩:=H
    replace H:((laws_toHoleS.f k l2).bind fun t384=>((laws_toAction.f a3_0 a3_1 a3_2).bind fun bt387=>((impl_PlaysAsPromised.f k t376 t379 t381 t384 bt387.1 bt387.2.1 bt387.2.2 a4).bind fun bt390=>(if(bt390.1 != t374)=true then(laws_FnExactPlaysAsPromised.j0 k l1 l2 t381 t384 true l0_0 a0_1 t376 t379) else(laws_FnExactPlaysAsPromised.j0 k l1 l2 t381 t384 (bt390.2 != t375) l0_0 a0_1 t376 t379)))))=some r:=H
    have A33:=am A330
    clear A330
    replace H:=Option.bind_eq_some_iff.mp H
    obtain⟨t384,A340,H⟩:=H
    replace H:((laws_toAction.f a3_0 a3_1 a3_2).bind fun bt387=>((impl_PlaysAsPromised.f k t376 t379 t381 t384 bt387.1 bt387.2.1 bt387.2.2 a4).bind fun bt390=>(if(bt390.1 != t374)=true then(laws_FnExactPlaysAsPromised.j0 k l1 l2 t381 t384 true l0_0 a0_1 t376 t379) else(laws_FnExactPlaysAsPromised.j0 k l1 l2 t381 t384 (bt390.2 != t375) l0_0 a0_1 t376 t379))))=some r:=H
    have A34:=am A340
    clear A340
    replace H:=Option.bind_eq_some_iff.mp H
    obtain⟨⟨t387,t388,t389⟩,A350,H⟩:=H
    replace H:((impl_PlaysAsPromised.f k t376 t379 t381 t384 t387 t388 t389 a4).bind fun bt390=>(if(bt390.1 != t374)=true then(laws_FnExactPlaysAsPromised.j0 k l1 l2 t381 t384 true l0_0 a0_1 t376 t379) else(laws_FnExactPlaysAsPromised.j0 k l1 l2 t381 t384 (bt390.2 != t375) l0_0 a0_1 t376 t379)))=some r:=H
    have A35:=am A350
    clear A350
    replace H:=Option.bind_eq_some_iff.mp H
    obtain⟨⟨t390,t391⟩,A360,H⟩:=H
    replace H:(if(t390 != t374)=true then(laws_FnExactPlaysAsPromised.j0 k l1 l2 t381 t384 true l0_0 a0_1 t376 t379) else(laws_FnExactPlaysAsPromised.j0 k l1 l2 t381 t384 (t391 != t375) l0_0 a0_1 t376 t379))=some r:=H
    have A36:=am A360
    clear A360
    have HC37:=am H
    clear H
    go_enter Try.func5,Try.ntmps5
    try go_wp2_with (first|((with_reducible refine gate_dst (N:=5) rfl ?_);refine box_event ?hg (N:=5) ?hd (cs := #[.slice A0_0 l0_0.length c0_0,.int .i64 a0_1]) (t:=36) ?hr ?_;(case hd=>rfl);(case hg=>rfl);(case hr=>first|(go_simp;done)|(go_simp;rfl));intro gb356 hg w38 hbox hb;have n0_:=am (below_step bl hb);have n1_:=am (hbox);have n2_:=am ((by rw[hg];exact(below_size bl):w.heap.size≤gb356));have n3_:=am ((by rw[hg];exact(below_size bl):w.heap.size≤gb356));clear HB;have HB:=n0_;have BK356:=n1_;have GW356:=n2_;have GE356:=n3_;clear n0_ n1_ n2_ n3_ hb hbox hg)|((with_reducible refine gate_dst (N:=8) rfl ?_);refine box_event ?hg (N:=8) ?hd (cs := #[.int .i64 a3_0,.int .i64 a3_1,.int .i64 a3_2]) (t:=39) ?hr ?_;(case hd=>rfl);(case hg=>rfl);(case hr=>first|(go_simp;done)|(go_simp;rfl));intro gb357 hg w39 hbox hb;have n0_:=am (blk_below (g:=gb356) (o := .cells #[.slice A0_0 l0_0.length c0_0,.int .i64 a0_1] 36 (0,0)) (bup BK356.out) hb);have n1_:=am (below_step bl hb);have n2_:=am (hbox);have n3_:=am ((by rw[hg];exact(below_size bl):w.heap.size≤gb357));have n4_:=am ((by rw[hg];exact(below_size bl):w.heap.size≤gb357));have n5_:=am ((by rw[hg];exact Nat.ne_of_lt (blk_lt (g:=gb356) (o := .cells #[.slice A0_0 l0_0.length c0_0,.int .i64 a0_1] 36 (0,0)) (bup BK356.out)):gb356≠gb357));have n6_:=am ((by rw[hg];exact Nat.ne_of_gt (blk_lt (g:=gb356) (o := .cells #[.slice A0_0 l0_0.length c0_0,.int .i64 a0_1] 36 (0,0)) (bup BK356.out)):gb357≠gb356));clear BK356 HB;have BK356:=n0_;have HB:=n1_;have BK357:=n2_;have GW357:=n3_;have GE357:=n4_;have NB356_357:=n5_;have NB357_356:=n6_;clear n0_ n1_ n2_ n3_ n4_ n5_ n6_ hb hbox hg;have hnb40:=NB356_357.out;have hnc40:=NB357_356.out;have hcz41_0:w39.cell? ⟨gb356,0,none⟩=some (.slice A0_0 l0_0.length c0_0):=(blk_cell BK356.out 0).trans rfl;have hcz41_1:w39.cell? ⟨gb356,1,none⟩=some (.int .i64 a0_1):=(blk_cell BK356.out 1).trans rfl;have hfz41_0:=blk_frozen BK356.out 0;have hfz41_1:=blk_frozen BK356.out 1)|((with_reducible refine gate_callee (f:=22) rfl ?_);refine goesL_ (some 21) rfl rfl Try.func22 (by kernel_rfl) rfl #[.agg #[.slice A0_0 l0_0.length c0_0,.int .i64 a0_1],.int .i64 1048576] rfl (by(try simp only[List.map_toArray,List.map_cons,List.map_nil]);first|done|rfl|(simp only[List.length_drop,List.length_take];rfl)) ?_;(with_reducible refine(laws_szInstrument.calls _ _ l0_0 a0_1 1048576 t358 _ ?side1 ?side2 A6.out).mono ?_);(case side1=>repeat(first|exact(Kd.C_below HR0_0.out HB.out)|(with_reducible refine Kd.C_alloc ?_ _)|(with_reducible refine Kd.C_drewN ?_ _)|(with_reducible refine Kd.C_drew ?_)));(case side2=>exact HC0_0.out);rintro e w42 ⟨rfl,hb⟩;refine⟨_,rfl,?_⟩;have n0_:=am (blk_below (g:=gb356) (o := .cells #[.slice A0_0 l0_0.length c0_0,.int .i64 a0_1] 36 (0,0)) (bup BK356.out) hb);have n1_:=am (blk_below (g:=gb357) (o := .cells #[.int .i64 a3_0,.int .i64 a3_1,.int .i64 a3_2] 39 (0,0)) (bup BK357.out) hb);have n2_:=am (below_step bl hb);clear BK356 BK357 HB;have BK356:=n0_;have BK357:=n1_;have HB:=n2_;clear n0_ n1_ n2_;(try clear hb);(try clear hb2);(try clear hk);(try clear hi))|((with_reducible refine gate_callee (f:=23) rfl ?_);refine goesL_ (some 26) rfl rfl Try.func23 (by kernel_rfl) rfl #[.slice A1 l1.length c1,.int .i64 t358] rfl (by(try simp only[List.map_toArray,List.map_cons,List.map_nil]);first|done|rfl|(simp only[List.length_drop,List.length_take];rfl)) ?_;(with_reducible refine(laws_szNoteS.calls _ _ l1 t358 t359 _ ?side1 ?side2 A13.out).mono ?_);(case side1=>repeat(first|exact(Kd.C_below HR1.out HB.out)|(with_reducible refine Kd.C_alloc ?_ _)|(with_reducible refine Kd.C_drewN ?_ _)|(with_reducible refine Kd.C_drew ?_)));(case side2=>exact HC1.out);rintro e w' ⟨rfl,⟨nd,rfl⟩⟩;refine⟨_,rfl,?_⟩;(try(rw[drewN_self w42];generalize hq_:World.drewN w42 _=w42;have n0_:Aside0 (w42.heap[gb356]?=some (.cells #[.slice A0_0 l0_0.length c0_0,.int .i64 a0_1] 36 (0,0))):=⟨by rw[← hq_];exact(bup BK356.out)⟩;have n1_:Aside0 (w42.heap[gb357]?=some (.cells #[.int .i64 a3_0,.int .i64 a3_1,.int .i64 a3_2] 39 (0,0))):=⟨by rw[← hq_];exact(bup BK357.out)⟩;have n2_:Aside0 (Below w.heap.size w w42):=⟨by rw[← hq_];exact bl⟩;clear BK356 BK357 HB hq_;have BK356:=n0_;have BK357:=n1_;have HB:=n2_;clear n0_ n1_ n2_)))|((with_reducible refine gate_callee (f:=11) rfl ?_);refine goesL_ (some 31) rfl rfl Try.func11 (by kernel_rfl) rfl #[.slice A2 l2.length c2,.int .i64 t359] rfl (by(try simp only[List.map_toArray,List.map_cons,List.map_nil]);first|done|rfl|(simp only[List.length_drop,List.length_take];rfl)) ?_;(with_reducible refine(laws_szHoleS.calls _ _ l2 t359 t360 _ ?side1 ?side2 A20.out).mono ?_);(case side1=>repeat(first|exact(Kd.C_below HR2.out HB.out)|(with_reducible refine Kd.C_alloc ?_ _)|(with_reducible refine Kd.C_drewN ?_ _)|(with_reducible refine Kd.C_drew ?_)));(case side2=>exact HC2.out);rintro e w' ⟨rfl,⟨nd,rfl⟩⟩;refine⟨_,rfl,?_⟩;(try(rw[drewN_self w42];generalize hq_:World.drewN w42 _=w42;have n0_:Aside0 (w42.heap[gb356]?=some (.cells #[.slice A0_0 l0_0.length c0_0,.int .i64 a0_1] 36 (0,0))):=⟨by rw[← hq_];exact(bup BK356.out)⟩;have n1_:Aside0 (w42.heap[gb357]?=some (.cells #[.int .i64 a3_0,.int .i64 a3_1,.int .i64 a3_2] 39 (0,0))):=⟨by rw[← hq_];exact(bup BK357.out)⟩;have n2_:Aside0 (Below w.heap.size w w42):=⟨by rw[← hq_];exact bl⟩;clear BK356 BK357 HB hq_;have BK356:=n0_;have BK357:=n1_;have HB:=n2_;clear n0_ n1_ n2_))))
    have n0_:=am (bD_ BK356.out)
    have n1_:=am (bD_ BK357.out)
    have n2_:=am (below_drew1 HB.out)
    clear BK356
    clear BK357
    clear HB
    have BK356:=n0_
    have BK357:=n1_
    have HB:=n2_
    clear n0_ n1_ n2_
    refine start_ (n:=15) (S:=fun w'=>w'.cell? ⟨gb356,0,none⟩=some (.slice A0_0 l0_0.length c0_0)∧w'.cell? ⟨gb356,1,none⟩=some (.int .i64 a0_1)∧w'.cell? ⟨gb357,0,none⟩=some (.int .i64 a3_0)∧w'.cell? ⟨gb357,1,none⟩=some (.int .i64 a3_1)∧w'.cell? ⟨gb357,2,none⟩=some (.int .i64 a3_2)) (ds:=[]) #[false,false,false,false,false,false,false,false,false,false,false,false,false,false,false] (by kernel_rfl) rfl rfl ⟨(blk_cell BK356.out 0).trans rfl,(blk_cell BK356.out 1).trans rfl,(blk_cell BK357.out 0).trans rfl,(blk_cell BK357.out 1).trans rfl,(blk_cell BK357.out 2).trans rfl⟩ (fun hHeld=>?_);refine with_tabW laws_FnExactPlaysAsPromised.tab11 laws_FnExactPlaysAsPromised.bits11 (fun HT_ HW_=>?_)
    generalize w42.drew=w43 at BK356 BK357 HB hHeld ⊢
    refine pure_ (i:=2) (N:=some 37) (v:=?_) (a':=?_) #[false,false,true,false,false,false,false,false,false,false,false,false,false,false,false] rfl rfl (any_of HT_.out (by kernel_rfl)) (fun _ _ _ h=>h) (Or.inl ⟨by rfl,?_⟩) ?_ ?_
    rotate_left
    ·intro w'
     go_simp
     with_reducible rfl
    rotate_left
    ·simp only[Act.put,List.setIfInBounds_toArray,List.set_cons_zero,List.set_cons_succ,i64_w,i32_w]
     rfl
    refine pure_ (i:=4) (N:=some 39) (v:=?_) (a':=?_) #[false,false,true,false,true,false,false,false,false,false,false,false,false,false,false] rfl rfl (any_of HT_.out (by kernel_rfl)) (fun _ _ _ h=>h) (Or.inl ⟨by rfl,?_⟩) ?_ ?_
    rotate_left
    ·intro w'
     go_simp
     with_reducible rfl
    rotate_left
    ·simp only[Act.put,List.setIfInBounds_toArray,List.set_cons_zero,List.set_cons_succ,i64_w,i32_w]
     rfl
    refine pure_ (i:=8) (N:=some 43) (v:=?_) (a':=?_) #[false,false,true,false,true,false,false,false,true,false,false,false,false,false,false] rfl rfl (any_of HT_.out (by kernel_rfl)) (fun _ _ _ h=>h) (Or.inl ⟨by rfl,?_⟩) ?_ ?_
    rotate_left
    ·intro w'
     go_simp
     with_reducible rfl
    rotate_left
    ·simp only[Act.put,List.setIfInBounds_toArray,List.set_cons_zero,List.set_cons_succ,i64_w,i32_w]
     rfl
    refine take_ (i:=0) (N:=some 35) (v:=?_) (a':=?_) #[true,false,true,false,true,false,false,false,true,false,false,false,false,false,false] rfl rfl (take_ofW HT_.out HW_.out (by kernel_rfl)) (fun _ _ _ h=>h) (Or.inl ⟨by rfl,?_⟩) hHeld ?_ ?_
    rotate_left
    ·rintro w' ⟨s0,s1,s2,s3,s4⟩
     go_simp
     with_reducible rfl
    rotate_left
    ·simp only[Act.put,List.setIfInBounds_toArray,List.set_cons_zero,List.set_cons_succ,i64_w,i32_w]
     rfl
    refine take_ (i:=6) (N:=some 41) (v:=?_) (a':=?_) #[true,false,true,false,true,false,true,false,true,false,false,false,false,false,false] rfl rfl (take_ofW HT_.out HW_.out (by kernel_rfl)) (fun _ _ _ h=>h) (Or.inl ⟨by rfl,?_⟩) hHeld ?_ ?_
    rotate_left
    ·rintro w' ⟨s0,s1,s2,s3,s4⟩
     go_simp
     with_reducible rfl
    rotate_left
    ·simp only[Act.put,List.setIfInBounds_toArray,List.set_cons_zero,List.set_cons_succ,i64_w,i32_w]
     rfl
    refine one_ (i:=1) (N:=some 36) #[true,true,true,false,true,false,true,false,true,false,false,false,false,false,false] rfl rfl (one_of HT_.out (by kernel_rfl)) (by decide) (fun K hK=>?_)
    refine goes_ Try.func25 (by kernel_rfl) rfl #[.agg #[.slice A0_0 l0_0.length c0_0,.int .i64 a0_1]] (by rfl) rfl rfl (by(try simp only[List.map_toArray,List.map_cons,List.map_nil]);first|done|rfl|(simp only[List.length_drop,List.length_take];rfl)) ?_
    with_reducible refine(laws_toInstrument.calls k _ _ l0_0 a0_1 t361 t364 _ ?side1 ?side2 A27.out).mono ?_
    (case side1=>repeat(first|exact(Kd.C_below HR0_0.out HB.out)|(with_reducible refine Kd.C_alloc ?_ _)|(with_reducible refine Kd.C_drewN ?_ _)|(with_reducible refine Kd.C_drew ?_)))
    (case side2=>exact HC0_0.out)
    rintro e w44 ⟨v362,rfl,ho0,hb⟩
    refine⟨_,rfl,?_⟩
    have n0_:=am (Kd.R_lower ho0 (below_size bl))
    have n1_:=am (blk_below (g:=gb356) (o := .cells #[.slice A0_0 l0_0.length c0_0,.int .i64 a0_1] 36 (0,0)) (bup BK356.out) hb)
    have n2_:=am (blk_below (g:=gb357) (o := .cells #[.int .i64 a3_0,.int .i64 a3_1,.int .i64 a3_2] 39 (0,0)) (bup BK357.out) hb)
    have n3_:=am (below_step bl hb)
    clear BK356
    clear BK357
    clear HB
    have HO363:=n0_
    have BK356:=n1_
    have BK357:=n2_
    have HB:=n3_
    clear n0_ n1_ n2_ n3_
    (try clear hb)
    (try clear hb2)
    (try clear hk)
    (try clear hi)
    (try clear ho0)
    refine hK.out _ _ ⟨(blk_cell BK356.out 0).trans rfl,(blk_cell BK356.out 1).trans rfl,(blk_cell BK357.out 0).trans rfl,(blk_cell BK357.out 1).trans rfl,(blk_cell BK357.out 2).trans rfl⟩ (fun hHeld=>?_)
    clear hK K
    refine norm_ (a':=?_) ?_ ?_
    rotate_left
    ·show Act.put _ (some 36) _=_
     simp only[Act.put,List.setIfInBounds_toArray,List.set_cons_zero,List.set_cons_succ,i64_w,i32_w]
     rfl
    refine one_ (i:=3) (N:=some 38) #[true,true,true,true,true,false,true,false,true,false,false,false,false,false,false] rfl rfl (one_of HT_.out (by kernel_rfl)) (by decide) (fun K hK=>?_)
    refine goes_ Try.func26 (by kernel_rfl) rfl #[.slice A1 l1.length c1] (by rfl) rfl rfl (by(try simp only[List.map_toArray,List.map_cons,List.map_nil]);first|done|rfl|(simp only[List.length_drop,List.length_take];rfl)) ?_
    with_reducible refine(laws_toNoteS.calls k _ _ l1 t365 _ ?side1 ?side2 A28.out).mono ?_
    (case side1=>repeat(first|exact(Kd.C_below HR1.out HB.out)|(with_reducible refine Kd.C_alloc ?_ _)|(with_reducible refine Kd.C_drewN ?_ _)|(with_reducible refine Kd.C_drew ?_)))
    (case side2=>exact HC1.out)
    rintro e w45 ⟨v366,rfl,ho0,hb⟩
    refine⟨_,rfl,?_⟩
    have n0_:=am (Kd.R_below (rup HO363.out) hb)
    have n1_:=am (Kd.R_lower ho0 (below_size bl))
    have n2_:=am (blk_below (g:=gb356) (o := .cells #[.slice A0_0 l0_0.length c0_0,.int .i64 a0_1] 36 (0,0)) (bup BK356.out) hb)
    have n3_:=am (blk_below (g:=gb357) (o := .cells #[.int .i64 a3_0,.int .i64 a3_1,.int .i64 a3_2] 39 (0,0)) (bup BK357.out) hb)
    have n4_:=am (below_step bl hb)
    clear HO363
    clear BK356
    clear BK357
    clear HB
    have HO363:=n0_
    have HO367:=n1_
    have BK356:=n2_
    have BK357:=n3_
    have HB:=n4_
    clear n0_ n1_ n2_ n3_ n4_
    (try clear hb)
    (try clear hb2)
    (try clear hk)
    (try clear hi)
    (try clear ho0)
    refine hK.out _ _ ⟨(blk_cell BK356.out 0).trans rfl,(blk_cell BK356.out 1).trans rfl,(blk_cell BK357.out 0).trans rfl,(blk_cell BK357.out 1).trans rfl,(blk_cell BK357.out 2).trans rfl⟩ (fun hHeld=>?_)
    clear hK K
    refine norm_ (a':=?_) ?_ ?_
    rotate_left
    ·show Act.put _ (some 38) _=_
     simp only[Act.put,List.setIfInBounds_toArray,List.set_cons_zero,List.set_cons_succ,i64_w,i32_w]
     rfl
    refine one_ (i:=5) (N:=some 40) #[true,true,true,true,true,true,true,false,true,false,false,false,false,false,false] rfl rfl (one_of HT_.out (by kernel_rfl)) (by decide) (fun K hK=>?_)
    refine goes_ Try.func13 (by kernel_rfl) rfl #[.slice A2 l2.length c2] (by rfl) rfl rfl (by(try simp only[List.map_toArray,List.map_cons,List.map_nil]);first|done|rfl|(simp only[List.length_drop,List.length_take];rfl)) ?_
    with_reducible refine(laws_toHoleS.calls k _ _ l2 t368 _ ?side1 ?side2 A29.out).mono ?_
    (case side1=>repeat(first|exact(Kd.C_below HR2.out HB.out)|(with_reducible refine Kd.C_alloc ?_ _)|(with_reducible refine Kd.C_drewN ?_ _)|(with_reducible refine Kd.C_drew ?_)))
    (case side2=>exact HC2.out)
    rintro e w46 ⟨v369,rfl,ho0,hb⟩
    refine⟨_,rfl,?_⟩
    have n0_:=am (Kd.R_below (rup HO363.out) hb)
    have n1_:=am (Kd.R_below (rup HO367.out) hb)
    have n2_:=am (Kd.R_lower ho0 (below_size bl))
    have n3_:=am (blk_below (g:=gb356) (o := .cells #[.slice A0_0 l0_0.length c0_0,.int .i64 a0_1] 36 (0,0)) (bup BK356.out) hb)
    have n4_:=am (blk_below (g:=gb357) (o := .cells #[.int .i64 a3_0,.int .i64 a3_1,.int .i64 a3_2] 39 (0,0)) (bup BK357.out) hb)
    have n5_:=am (below_step bl hb)
    clear HO363
    clear HO367
    clear BK356
    clear BK357
    clear HB
    have HO363:=n0_
    have HO367:=n1_
    have HO370:=n2_
    have BK356:=n3_
    have BK357:=n4_
    have HB:=n5_
    clear n0_ n1_ n2_ n3_ n4_ n5_
    (try clear hb)
    (try clear hb2)
    (try clear hk)
    (try clear hi)
    (try clear ho0)
    refine hK.out _ _ ⟨(blk_cell BK356.out 0).trans rfl,(blk_cell BK356.out 1).trans rfl,(blk_cell BK357.out 0).trans rfl,(blk_cell BK357.out 1).trans rfl,(blk_cell BK357.out 2).trans rfl⟩ (fun hHeld=>?_)
    clear hK K
    refine norm_ (a':=?_) ?_ ?_
    rotate_left
    ·show Act.put _ (some 40) _=_
     simp only[Act.put,List.setIfInBounds_toArray,List.set_cons_zero,List.set_cons_succ,i64_w,i32_w]
     rfl
    refine one_ (i:=7) (N:=some 42) #[true,true,true,true,true,true,true,true,true,false,false,false,false,false,false] rfl rfl (one_of HT_.out (by kernel_rfl)) (by decide) (fun K hK=>?_)
    refine goes_ Try.func27 (by kernel_rfl) rfl #[.agg #[.int .i64 a3_0,.int .i64 a3_1,.int .i64 a3_2]] (by rfl) rfl rfl (by(try simp only[List.map_toArray,List.map_cons,List.map_nil]);first|done|rfl|(simp only[List.length_drop,List.length_take];rfl)) ?_
    with_reducible refine(laws_toAction.calls a3_0 a3_1 a3_2 t371 t372 t373 _ A30.out).mono ?_
    rintro e w47 ⟨rfl,hb⟩
    refine⟨_,rfl,?_⟩
    have n0_:=am (Kd.R_below (rup HO363.out) hb)
    have n1_:=am (Kd.R_below (rup HO367.out) hb)
    have n2_:=am (Kd.R_below (rup HO370.out) hb)
    have n3_:=am (blk_below (g:=gb356) (o := .cells #[.slice A0_0 l0_0.length c0_0,.int .i64 a0_1] 36 (0,0)) (bup BK356.out) hb)
    have n4_:=am (blk_below (g:=gb357) (o := .cells #[.int .i64 a3_0,.int .i64 a3_1,.int .i64 a3_2] 39 (0,0)) (bup BK357.out) hb)
    have n5_:=am (below_step bl hb)
    clear HO363
    clear HO367
    clear HO370
    clear BK356
    clear BK357
    clear HB
    have HO363:=n0_
    have HO367:=n1_
    have HO370:=n2_
    have BK356:=n3_
    have BK357:=n4_
    have HB:=n5_
    clear n0_ n1_ n2_ n3_ n4_ n5_
    (try clear hb)
    (try clear hb2)
    (try clear hk)
    (try clear hi)
    obtain⟨Ao48,co48,eo48⟩:=Kd.R_slice HO363.out
    (first|subst eo48|(injection eo48 with f1_ f2_ f3_;have f4_:=f1_.symm;have f5_:=f3_.symm;clear f1_ f2_ f3_;subst f4_;subst f5_))
    obtain⟨Ao49,co49,eo49⟩:=Kd.R_slice HO367.out
    (first|subst eo49|(injection eo49 with f1_ f2_ f3_;have f4_:=f1_.symm;have f5_:=f3_.symm;clear f1_ f2_ f3_;subst f4_;subst f5_))
    obtain⟨Ao50,co50,eo50⟩:=Kd.R_slice HO370.out
    (first|subst eo50|(injection eo50 with f1_ f2_ f3_;have f4_:=f1_.symm;have f5_:=f3_.symm;clear f1_ f2_ f3_;subst f4_;subst f5_))
    refine hK.out _ _ ⟨(blk_cell BK356.out 0).trans rfl,(blk_cell BK356.out 1).trans rfl,(blk_cell BK357.out 0).trans rfl,(blk_cell BK357.out 1).trans rfl,(blk_cell BK357.out 2).trans rfl⟩ (fun hHeld=>?_)
    clear hK K
    refine norm_ (a':=?_) ?_ ?_
    rotate_left
    ·show Act.put _ (some 42) _=_
     simp only[Act.put,List.setIfInBounds_toArray,List.set_cons_zero,List.set_cons_succ,i64_w,i32_w]
     rfl
    refine one_ (i:=9) (N:=some 44) #[true,true,true,true,true,true,true,true,true,true,false,false,false,false,false] rfl rfl (one_of HT_.out (by kernel_rfl)) (by decide) (fun K hK=>?_)
    refine goes_ Try.func24 (by kernel_rfl) rfl #[.agg #[.slice Ao48 t361.length co48,.int .i64 t364],.slice Ao49 t365.length co49,.slice Ao50 t368.length co50,.agg #[.int .i64 t371,.int .i64 t372,.int .i64 t373],.int .i64 a4] (by rfl) rfl rfl (by(try simp only[List.map_toArray,List.map_cons,List.map_nil]);first|done|rfl|(simp only[List.length_drop,List.length_take];rfl)) ?_
    with_reducible refine(spec_PlaysAsPromised.calls k _ _ t361 t364 _ _ t365 _ _ t368 t371 t372 t373 a4 t374 t375 _ ?side1 ?side2 ?side3 ?side4 ?side5 ?side6 A31.out).mono ?_
    (case side1=>repeat(first|exact(Kd.R_reads' HO363.out).2.2|(with_reducible refine Kd.C_alloc ?_ _)|(with_reducible refine Kd.C_drewN ?_ _)|(with_reducible refine Kd.C_drew ?_)))
    (case side2=>exact(Kd.R_reads' HO363.out).2.1)
    (case side3=>repeat(first|exact(Kd.R_reads' HO367.out).2.2|(with_reducible refine Kd.C_alloc ?_ _)|(with_reducible refine Kd.C_drewN ?_ _)|(with_reducible refine Kd.C_drew ?_)))
    (case side4=>exact(Kd.R_reads' HO367.out).2.1)
    (case side5=>repeat(first|exact(Kd.R_reads' HO370.out).2.2|(with_reducible refine Kd.C_alloc ?_ _)|(with_reducible refine Kd.C_drewN ?_ _)|(with_reducible refine Kd.C_drew ?_)))
    (case side6=>exact(Kd.R_reads' HO370.out).2.1)
    rintro e w51 ⟨rfl,hb⟩
    refine⟨_,rfl,?_⟩
    have n0_:=am (Kd.R_below (rup HO363.out) hb)
    have n1_:=am (Kd.R_below (rup HO367.out) hb)
    have n2_:=am (Kd.R_below (rup HO370.out) hb)
    have n3_:=am (blk_below (g:=gb356) (o := .cells #[.slice A0_0 l0_0.length c0_0,.int .i64 a0_1] 36 (0,0)) (bup BK356.out) hb)
    have n4_:=am (blk_below (g:=gb357) (o := .cells #[.int .i64 a3_0,.int .i64 a3_1,.int .i64 a3_2] 39 (0,0)) (bup BK357.out) hb)
    have n5_:=am (below_step bl hb)
    clear HO363
    clear HO367
    clear HO370
    clear BK356
    clear BK357
    clear HB
    have HO363:=n0_
    have HO367:=n1_
    have HO370:=n2_
    have BK356:=n3_
    have BK357:=n4_
    have HB:=n5_
    clear n0_ n1_ n2_ n3_ n4_ n5_
    (try clear hb)
    (try clear hb2)
    (try clear hk)
    (try clear hi)
    refine hK.out _ _ ⟨(blk_cell BK356.out 0).trans rfl,(blk_cell BK356.out 1).trans rfl,(blk_cell BK357.out 0).trans rfl,(blk_cell BK357.out 1).trans rfl,(blk_cell BK357.out 2).trans rfl⟩ (fun hHeld=>?_)
    clear hK K
    refine norm_ (a':=?_) ?_ ?_
    rotate_left
    ·show Act.put _ (some 44) _=_
     simp only[Act.put,List.setIfInBounds_toArray,List.set_cons_zero,List.set_cons_succ,i64_w,i32_w]
     rfl
    refine pure_ (i:=10) (N:=some 34) (v:=?_) (a':=?_) #[true,true,true,true,true,true,true,true,true,true,true,false,false,false,false] rfl rfl (any_of HT_.out (by kernel_rfl)) (fun _ _ _ h=>h) (Or.inl ⟨by rfl,?_⟩) ?_ ?_
    rotate_left
    ·intro w'
     go_simp
     with_reducible rfl
    rotate_left
    ·simp only[Act.put,List.setIfInBounds_toArray,List.set_cons_zero,List.set_cons_succ,i64_w,i32_w]
     rfl
    refine pure_ (i:=11) (N:=some 45) (v:=?_) (a':=?_) #[true,true,true,true,true,true,true,true,true,true,true,true,false,false,false] rfl rfl (any_of HT_.out (by kernel_rfl)) (fun _ _ _ h=>h) (Or.inl ⟨by rfl,?_⟩) ?_ ?_
    rotate_left
    ·intro w'
     go_simp
     with_reducible rfl
    rotate_left
    ·simp only[Act.put,List.setIfInBounds_toArray,List.set_cons_zero,List.set_cons_succ,i64_w,i32_w]
     rfl
    refine pure_ (i:=12) (N:=some 46) (v:=?_) (a':=?_) #[true,true,true,true,true,true,true,true,true,true,true,true,true,false,false] rfl rfl (any_of HT_.out (by kernel_rfl)) (fun _ _ _ h=>h) (Or.inl ⟨by rfl,?_⟩) ?_ ?_
    rotate_left
    ·intro w'
     go_simp
     with_reducible rfl
    rotate_left
    ·simp only[Act.put,List.setIfInBounds_toArray,List.set_cons_zero,List.set_cons_succ,i64_w,i32_w]
     rfl
    refine pure_ (i:=13) (N:=some 12) (v:=?_) (a':=?_) #[true,true,true,true,true,true,true,true,true,true,true,true,true,true,false] rfl rfl (any_of HT_.out (by kernel_rfl)) (fun _ _ _ h=>h) (Or.inl ⟨by rfl,?_⟩) ?_ ?_
    rotate_left
    ·intro w'
     go_simp
     with_reducible rfl
    rotate_left
    ·simp only[Act.put,List.setIfInBounds_toArray,List.set_cons_zero,List.set_cons_succ,i64_w,i32_w]
     rfl
    refine pure_ (i:=14) (N:=some 13) (v:=?_) (a':=?_) #[true,true,true,true,true,true,true,true,true,true,true,true,true,true,true] rfl rfl (any_of HT_.out (by kernel_rfl)) (fun _ _ _ h=>h) (Or.inl ⟨by rfl,?_⟩) ?_ ?_
    rotate_left
    ·intro w'
     go_simp
     with_reducible rfl
    rotate_left
    ·simp only[Act.put,List.setIfInBounds_toArray,List.set_cons_zero,List.set_cons_succ,i64_w,i32_w]
     rfl
    refine done_ (done_of HT_.out (by kernel_rfl)) ?_
    have hcz52_0:w51.cell? ⟨gb356,0,none⟩=some (.slice A0_0 l0_0.length c0_0):=(blk_cell BK356.out 0).trans rfl
    have hcz52_1:w51.cell? ⟨gb356,1,none⟩=some (.int .i64 a0_1):=(blk_cell BK356.out 1).trans rfl
    have hfz52_0:=blk_frozen BK356.out 0
    have hfz52_1:=blk_frozen BK356.out 1
    try go_wp2_with (first|((with_reducible refine gate_callee (f:=25) rfl ?_);refine goesL_ (some 48) rfl rfl Try.func25 (by kernel_rfl) rfl #[.agg #[.slice A0_0 l0_0.length c0_0,.int .i64 a0_1]] rfl (by(try simp only[List.map_toArray,List.map_cons,List.map_nil]);first|done|rfl|(simp only[List.length_drop,List.length_take];rfl)) ?_;(with_reducible refine(laws_toInstrument.calls k _ _ l0_0 a0_1 t376 t379 _ ?side1 ?side2 A32.out).mono ?_);(case side1=>repeat(first|exact(Kd.C_below HR0_0.out HB.out)|(with_reducible refine Kd.C_alloc ?_ _)|(with_reducible refine Kd.C_drewN ?_ _)|(with_reducible refine Kd.C_drew ?_)));(case side2=>exact HC0_0.out);rintro e w53 ⟨v377,rfl,ho0,hb⟩;refine⟨_,rfl,?_⟩;have n0_:=am (Kd.R_elder' (rup HO363.out) (Kd.R_base ho0) hb);have n1_:=am (Kd.R_below (rup HO367.out) hb);have n2_:=am (Kd.R_below (rup HO370.out) hb);have n3_:=am (Kd.R_lower (Kd.R_new' ho0 (Kd.R_lt (rup HO363.out))) (below_size bl));have n4_:=am (blk_below (g:=gb356) (o := .cells #[.slice A0_0 l0_0.length c0_0,.int .i64 a0_1] 36 (0,0)) (bup BK356.out) hb);have n5_:=am (blk_below (g:=gb357) (o := .cells #[.int .i64 a3_0,.int .i64 a3_1,.int .i64 a3_2] 39 (0,0)) (bup BK357.out) hb);have n6_:=am (below_step bl hb);clear HO363 HO367 HO370 BK356 BK357 HB;have HO363:=n0_;have HO367:=n1_;have HO370:=n2_;have HO378:=n3_;have BK356:=n4_;have BK357:=n5_;have HB:=n6_;clear n0_ n1_ n2_ n3_ n4_ n5_ n6_;(try clear hb);(try clear hb2);(try clear hk);(try clear hi);(try clear ho0))|((with_reducible refine gate_dst (N:=14) rfl ?_);refine box_event ?hg (N:=14) ?hd (cs := #[.slice none 0 0,.int .i64 0]) (t:=44) ?hr ?_;(case hd=>rfl);(case hg=>rfl);(case hr=>first|(go_simp;done)|(go_simp;rfl));intro gb380 hg w54 hbox hb;have n0_:=am (Kd.R_below (rup HO363.out) hb);have n1_:=am (Kd.R_below (rup HO367.out) hb);have n2_:=am (Kd.R_below (rup HO370.out) hb);have n3_:=am (Kd.R_below (rup HO378.out) hb);have n4_:=am (blk_below (g:=gb356) (o := .cells #[.slice A0_0 l0_0.length c0_0,.int .i64 a0_1] 36 (0,0)) (bup BK356.out) hb);have n5_:=am (blk_below (g:=gb357) (o := .cells #[.int .i64 a3_0,.int .i64 a3_1,.int .i64 a3_2] 39 (0,0)) (bup BK357.out) hb);have n6_:=am (below_step bl hb);have n7_:=am (hbox);have n8_:=am ((by rw[hg];exact(below_size bl):w.heap.size≤gb380));have n9_:=am ((by rw[hg];exact(below_size bl):w.heap.size≤gb380));have n10_:=am ((by rw[hg];exact Nat.ne_of_lt (blk_lt (g:=gb356) (o := .cells #[.slice A0_0 l0_0.length c0_0,.int .i64 a0_1] 36 (0,0)) (bup BK356.out)):gb356≠gb380));have n11_:=am ((by rw[hg];exact Nat.ne_of_gt (blk_lt (g:=gb356) (o := .cells #[.slice A0_0 l0_0.length c0_0,.int .i64 a0_1] 36 (0,0)) (bup BK356.out)):gb380≠gb356));have n12_:=am ((by rw[hg];exact Nat.ne_of_lt (blk_lt (g:=gb357) (o := .cells #[.int .i64 a3_0,.int .i64 a3_1,.int .i64 a3_2] 39 (0,0)) (bup BK357.out)):gb357≠gb380));have n13_:=am ((by rw[hg];exact Nat.ne_of_gt (blk_lt (g:=gb357) (o := .cells #[.int .i64 a3_0,.int .i64 a3_1,.int .i64 a3_2] 39 (0,0)) (bup BK357.out)):gb380≠gb357));clear HO363 HO367 HO370 HO378 BK356 BK357 HB;have HO363:=n0_;have HO367:=n1_;have HO370:=n2_;have HO378:=n3_;have BK356:=n4_;have BK357:=n5_;have HB:=n6_;have BK380:=n7_;have GW380:=n8_;have GE380:=n9_;have NB356_380:=n10_;have NB380_356:=n11_;have NB357_380:=n12_;have NB380_357:=n13_;clear n0_ n1_ n2_ n3_ n4_ n5_ n6_ n7_ n8_ n9_ n10_ n11_ n12_ n13_ hb hbox hg;obtain⟨Ao55,co55,eo55⟩:=Kd.R_slice HO378.out;subst eo55;have hnb56:=NB380_356.out;have hnc56:=NB356_380.out;have hnb57:=NB380_357.out;have hnc57:=NB357_380.out;have hcz58_0:w54.cell? ⟨gb380,0,none⟩=some (.slice none 0 0):=(blk_cell BK380.out 0).trans rfl;have hcz58_1:w54.cell? ⟨gb380,1,none⟩=some (.int .i64 0):=(blk_cell BK380.out 1).trans rfl;have hfz58_0:=blk_frozen BK380.out 0;have hfz58_1:=blk_frozen BK380.out 1)|((with_reducible refine gate_callee (f:=26) rfl ?_);refine goesL_ (some 50) rfl rfl Try.func26 (by kernel_rfl) rfl #[.slice A1 l1.length c1] rfl (by(try simp only[List.map_toArray,List.map_cons,List.map_nil]);first|done|rfl|(simp only[List.length_drop,List.length_take];rfl)) ?_;(with_reducible refine(laws_toNoteS.calls k _ _ l1 t381 _ ?side1 ?side2 A33.out).mono ?_);(case side1=>exact Kd.C_below HR1.out bl);(case side2=>exact HC1.out);rintro e w59 ⟨v382,rfl,ho0,hb⟩;refine⟨_,rfl,?_⟩;have n0_:=am (Kd.R_below (by(with_reducible repeat(first|apply Kd.R_alloc|apply Kd.R_drewN|apply Kd.R_drew));exact(Kd.R_mono (Kd.R_far (p:=⟨gb380,1,none⟩) (Kd.R_far (p:=⟨gb380,0,none⟩) (Kd.R_types HO363.out BK380.out (by decide)) (fun _ hk=>hk.2) (.slice Ao55 t376.length co55)) (fun _ hk=>hk.2) (.int .i64 t379)) (fun _ h_=>h_.1))) hb);have n1_:=am (Kd.R_elder' (by(with_reducible repeat(first|apply Kd.R_alloc|apply Kd.R_drewN|apply Kd.R_drew));exact(Kd.R_mono (Kd.R_far (p:=⟨gb380,1,none⟩) (Kd.R_far (p:=⟨gb380,0,none⟩) (Kd.R_types HO367.out BK380.out (by decide)) (fun _ hk=>hk.2) (.slice Ao55 t376.length co55)) (fun _ hk=>hk.2) (.int .i64 t379)) (fun _ h_=>h_.1))) (Kd.R_base ho0) hb);have n2_:=am (Kd.R_below (by(with_reducible repeat(first|apply Kd.R_alloc|apply Kd.R_drewN|apply Kd.R_drew));exact(Kd.R_mono (Kd.R_far (p:=⟨gb380,1,none⟩) (Kd.R_far (p:=⟨gb380,0,none⟩) (Kd.R_types HO370.out BK380.out (by decide)) (fun _ hk=>hk.2) (.slice Ao55 t376.length co55)) (fun _ hk=>hk.2) (.int .i64 t379)) (fun _ h_=>h_.1))) hb);have n3_:=am (Kd.R_below (by(with_reducible repeat(first|apply Kd.R_alloc|apply Kd.R_drewN|apply Kd.R_drew));exact(Kd.R_mono (Kd.R_far (p:=⟨gb380,1,none⟩) (Kd.R_far (p:=⟨gb380,0,none⟩) (Kd.R_types HO378.out BK380.out (by decide)) (fun _ hk=>hk.2) (.slice Ao55 t376.length co55)) (fun _ hk=>hk.2) (.int .i64 t379)) (fun _ h_=>h_.1))) hb);have n4_:=am (Kd.R_lower (Kd.R_new' ho0 (Kd.R_lt (by(with_reducible repeat(first|apply Kd.R_alloc|apply Kd.R_drewN|apply Kd.R_drew));exact(Kd.R_mono (Kd.R_far (p:=⟨gb380,1,none⟩) (Kd.R_far (p:=⟨gb380,0,none⟩) (Kd.R_types HO367.out BK380.out (by decide)) (fun _ hk=>hk.2) (.slice Ao55 t376.length co55)) (fun _ hk=>hk.2) (.int .i64 t379)) (fun _ h_=>h_.1))))) (below_size bl));have n5_:=am (blk_below (g:=gb356) (o := .cells #[.slice A0_0 l0_0.length c0_0,.int .i64 a0_1] 36 (0,0)) (by(with_reducible repeat(first|refine bN_ ?_ _|refine bD_ ?_|refine bA_ ?_ _));refine blk_far ?_ NB356_380.out _;(with_reducible repeat(first|refine bN_ ?_ _|refine bD_ ?_|refine bA_ ?_ _));refine blk_far ?_ NB356_380.out _;exact bup BK356.out) hb);have n6_:=am (blk_below (g:=gb357) (o := .cells #[.int .i64 a3_0,.int .i64 a3_1,.int .i64 a3_2] 39 (0,0)) (by(with_reducible repeat(first|refine bN_ ?_ _|refine bD_ ?_|refine bA_ ?_ _));refine blk_far ?_ NB357_380.out _;(with_reducible repeat(first|refine bN_ ?_ _|refine bD_ ?_|refine bA_ ?_ _));refine blk_far ?_ NB357_380.out _;exact bup BK357.out) hb);have n7_:=am (blk_below (g:=gb380) (o := .cells #[.slice Ao55 t376.length co55,.int .i64 t379] 44 (0,0)) (by(with_reducible repeat(first|refine bN_ ?_ _|refine bD_ ?_|refine bA_ ?_ _));refine blk_put (cs := #[.slice Ao55 t376.length co55,.int .i64 0]) ?_ 1 _ rfl;(with_reducible repeat(first|refine bN_ ?_ _|refine bD_ ?_|refine bA_ ?_ _));refine blk_put (cs := #[.slice none 0 0,.int .i64 0]) ?_ 0 _ rfl;exact bup BK380.out) hb);have n8_:=am (below_step bl hb);clear HO363 HO367 HO370 HO378 BK356 BK357 BK380 HB;have HO363:=n0_;have HO367:=n1_;have HO370:=n2_;have HO378:=n3_;have HO383:=n4_;have BK356:=n5_;have BK357:=n6_;have BK380:=n7_;have HB:=n8_;clear n0_ n1_ n2_ n3_ n4_ n5_ n6_ n7_ n8_;(try clear hb);(try clear hb2);(try clear hk);(try clear hi);(try clear ho0))|((with_reducible refine gate_callee (f:=13) rfl ?_);refine goesL_ (some 52) rfl rfl Try.func13 (by kernel_rfl) rfl #[.slice A2 l2.length c2] rfl (by(try simp only[List.map_toArray,List.map_cons,List.map_nil]);first|done|rfl|(simp only[List.length_drop,List.length_take];rfl)) ?_;(with_reducible refine(laws_toHoleS.calls k _ _ l2 t384 _ ?side1 ?side2 A34.out).mono ?_);(case side1=>repeat(first|exact(Kd.C_below HR2.out HB.out)|(with_reducible refine Kd.C_alloc ?_ _)|(with_reducible refine Kd.C_drewN ?_ _)|(with_reducible refine Kd.C_drew ?_)));(case side2=>exact HC2.out);rintro e w60 ⟨v385,rfl,ho0,hb⟩;refine⟨_,rfl,?_⟩;have n0_:=am (Kd.R_below (rup HO363.out) hb);have n1_:=am (Kd.R_below (rup HO367.out) hb);have n2_:=am (Kd.R_elder' (rup HO370.out) (Kd.R_base ho0) hb);have n3_:=am (Kd.R_below (rup HO378.out) hb);have n4_:=am (Kd.R_below (rup HO383.out) hb);have n5_:=am (Kd.R_lower (Kd.R_new' ho0 (Kd.R_lt (rup HO370.out))) (below_size bl));have n6_:=am (blk_below (g:=gb356) (o := .cells #[.slice A0_0 l0_0.length c0_0,.int .i64 a0_1] 36 (0,0)) (bup BK356.out) hb);have n7_:=am (blk_below (g:=gb357) (o := .cells #[.int .i64 a3_0,.int .i64 a3_1,.int .i64 a3_2] 39 (0,0)) (bup BK357.out) hb);have n8_:=am (blk_below (g:=gb380) (o := .cells #[.slice Ao55 t376.length co55,.int .i64 t379] 44 (0,0)) (bup BK380.out) hb);have n9_:=am (below_step bl hb);clear HO363 HO367 HO370 HO378 HO383 BK356 BK357 BK380 HB;have HO363:=n0_;have HO367:=n1_;have HO370:=n2_;have HO378:=n3_;have HO383:=n4_;have HO386:=n5_;have BK356:=n6_;have BK357:=n7_;have BK380:=n8_;have HB:=n9_;clear n0_ n1_ n2_ n3_ n4_ n5_ n6_ n7_ n8_ n9_;(try clear hb);(try clear hb2);(try clear hk);(try clear hi);(try clear ho0)))
    have n0_:=am (Kd.R_drew HO363.out)
    have n1_:=am (Kd.R_drew HO367.out)
    have n2_:=am (Kd.R_drew HO370.out)
    have n3_:=am (Kd.R_drew HO378.out)
    have n4_:=am (Kd.R_drew HO383.out)
    have n5_:=am (Kd.R_drew HO386.out)
    have n6_:=am (bD_ BK356.out)
    have n7_:=am (bD_ BK357.out)
    have n8_:=am (bD_ BK380.out)
    have n9_:=am (below_drew1 HB.out)
    clear HO363
    clear HO367
    clear HO370
    clear HO378
    clear HO383
    clear HO386
    clear BK356
    clear BK357
    clear BK380
    clear HB
    have HO363:=n0_
    have HO367:=n1_
    have HO370:=n2_
    have HO378:=n3_
    have HO383:=n4_
    have HO386:=n5_
    have BK356:=n6_
    have BK357:=n7_
    have BK380:=n8_
    have HB:=n9_
    clear n0_ n1_ n2_ n3_ n4_ n5_ n6_ n7_ n8_ n9_
    refine start_ (n:=12) (S:=fun w'=>w'.cell? ⟨gb380,0,none⟩=some (.slice Ao55 t376.length co55)∧w'.cell? ⟨gb380,1,none⟩=some (.int .i64 t379)∧w'.cell? ⟨gb357,0,none⟩=some (.int .i64 a3_0)∧w'.cell? ⟨gb357,1,none⟩=some (.int .i64 a3_1)∧w'.cell? ⟨gb357,2,none⟩=some (.int .i64 a3_2)) (ds:=[]) #[false,false,false,false,false,false,false,false,false,false,false,false] (by kernel_rfl) rfl rfl ⟨(blk_cell BK380.out 0).trans rfl,(blk_cell BK380.out 1).trans rfl,(blk_cell BK357.out 0).trans rfl,(blk_cell BK357.out 1).trans rfl,(blk_cell BK357.out 2).trans rfl⟩ (fun hHeld=>?_);refine with_tabW laws_FnExactPlaysAsPromised.tab15 laws_FnExactPlaysAsPromised.bits15 (fun HT_ HW_=>?_)
    generalize w60.drew=w61 at HO363 HO367 HO370 HO378 HO383 HO386 BK356 BK357 BK380 HB hHeld ⊢
    refine pure_ (i:=1) (N:=some 55) (v:=?_) (a':=?_) #[false,true,false,false,false,false,false,false,false,false,false,false] rfl rfl (any_of HT_.out (by kernel_rfl)) (fun _ _ _ h=>h) (Or.inl ⟨by rfl,?_⟩) ?_ ?_
    rotate_left
    ·intro w'
     go_simp
     with_reducible rfl
    rotate_left
    ·simp only[Act.put,List.setIfInBounds_toArray,List.set_cons_zero,List.set_cons_succ,i64_w,i32_w]
     rfl
    refine pure_ (i:=2) (N:=some 56) (v:=?_) (a':=?_) #[false,true,true,false,false,false,false,false,false,false,false,false] rfl rfl (any_of HT_.out (by kernel_rfl)) (fun _ _ _ h=>h) (Or.inl ⟨by rfl,?_⟩) ?_ ?_
    rotate_left
    ·intro w'
     go_simp
     with_reducible rfl
    rotate_left
    ·simp only[Act.put,List.setIfInBounds_toArray,List.set_cons_zero,List.set_cons_succ,i64_w,i32_w]
     rfl
    refine pure_ (i:=5) (N:=some 59) (v:=?_) (a':=?_) #[false,true,true,false,false,true,false,false,false,false,false,false] rfl rfl (any_of HT_.out (by kernel_rfl)) (fun _ _ _ h=>h) (Or.inl ⟨by rfl,?_⟩) ?_ ?_
    rotate_left
    ·intro w'
     go_simp
     with_reducible rfl
    rotate_left
    ·simp only[Act.put,List.setIfInBounds_toArray,List.set_cons_zero,List.set_cons_succ,i64_w,i32_w]
     rfl
    refine take_ (i:=0) (N:=some 54) (v:=?_) (a':=?_) #[true,true,true,false,false,true,false,false,false,false,false,false] rfl rfl (take_ofW HT_.out HW_.out (by kernel_rfl)) (fun _ _ _ h=>h) (Or.inl ⟨by rfl,?_⟩) hHeld ?_ ?_
    rotate_left
    ·rintro w' ⟨s0,s1,s2,s3,s4⟩
     go_simp
     with_reducible rfl
    rotate_left
    ·simp only[Act.put,List.setIfInBounds_toArray,List.set_cons_zero,List.set_cons_succ,i64_w,i32_w]
     rfl
    refine take_ (i:=3) (N:=some 57) (v:=?_) (a':=?_) #[true,true,true,true,false,true,false,false,false,false,false,false] rfl rfl (take_ofW HT_.out HW_.out (by kernel_rfl)) (fun _ _ _ h=>h) (Or.inl ⟨by rfl,?_⟩) hHeld ?_ ?_
    rotate_left
    ·rintro w' ⟨s0,s1,s2,s3,s4⟩
     go_simp
     with_reducible rfl
    rotate_left
    ·simp only[Act.put,List.setIfInBounds_toArray,List.set_cons_zero,List.set_cons_succ,i64_w,i32_w]
     rfl
    refine one_ (i:=4) (N:=some 58) #[true,true,true,true,true,true,false,false,false,false,false,false] rfl rfl (one_of HT_.out (by kernel_rfl)) (by decide) (fun K hK=>?_)
    refine goes_ Try.func27 (by kernel_rfl) rfl #[.agg #[.int .i64 a3_0,.int .i64 a3_1,.int .i64 a3_2]] (by rfl) rfl rfl (by(try simp only[List.map_toArray,List.map_cons,List.map_nil]);first|done|rfl|(simp only[List.length_drop,List.length_take];rfl)) ?_
    with_reducible refine(laws_toAction.calls a3_0 a3_1 a3_2 t387 t388 t389 _ A35.out).mono ?_
    rintro e w62 ⟨rfl,hb⟩
    refine⟨_,rfl,?_⟩
    have n0_:=am (Kd.R_below (rup HO363.out) hb)
    have n1_:=am (Kd.R_below (rup HO367.out) hb)
    have n2_:=am (Kd.R_below (rup HO370.out) hb)
    have n3_:=am (Kd.R_below (rup HO378.out) hb)
    have n4_:=am (Kd.R_below (rup HO383.out) hb)
    have n5_:=am (Kd.R_below (rup HO386.out) hb)
    have n6_:=am (blk_below (g:=gb356) (o := .cells #[.slice A0_0 l0_0.length c0_0,.int .i64 a0_1] 36 (0,0)) (bup BK356.out) hb)
    have n7_:=am (blk_below (g:=gb357) (o := .cells #[.int .i64 a3_0,.int .i64 a3_1,.int .i64 a3_2] 39 (0,0)) (bup BK357.out) hb)
    have n8_:=am (blk_below (g:=gb380) (o := .cells #[.slice Ao55 t376.length co55,.int .i64 t379] 44 (0,0)) (bup BK380.out) hb)
    have n9_:=am (below_step bl hb)
    clear HO363
    clear HO367
    clear HO370
    clear HO378
    clear HO383
    clear HO386
    clear BK356
    clear BK357
    clear BK380
    clear HB
    have HO363:=n0_
    have HO367:=n1_
    have HO370:=n2_
    have HO378:=n3_
    have HO383:=n4_
    have HO386:=n5_
    have BK356:=n6_
    have BK357:=n7_
    have BK380:=n8_
    have HB:=n9_
    clear n0_ n1_ n2_ n3_ n4_ n5_ n6_ n7_ n8_ n9_
    (try clear hb)
    (try clear hb2)
    (try clear hk)
    (try clear hi)
    obtain⟨Ao63,co63,eo63⟩:=Kd.R_slice HO383.out
    (first|subst eo63|(injection eo63 with f1_ f2_ f3_;have f4_:=f1_.symm;have f5_:=f3_.symm;clear f1_ f2_ f3_;subst f4_;subst f5_))
    obtain⟨Ao64,co64,eo64⟩:=Kd.R_slice HO386.out
    (first|subst eo64|(injection eo64 with f1_ f2_ f3_;have f4_:=f1_.symm;have f5_:=f3_.symm;clear f1_ f2_ f3_;subst f4_;subst f5_))
    refine hK.out _ _ ⟨(blk_cell BK380.out 0).trans rfl,(blk_cell BK380.out 1).trans rfl,(blk_cell BK357.out 0).trans rfl,(blk_cell BK357.out 1).trans rfl,(blk_cell BK357.out 2).trans rfl⟩ (fun hHeld=>?_)
    clear hK K
    refine norm_ (a':=?_) ?_ ?_
    rotate_left
    ·show Act.put _ (some 58) _=_
     simp only[Act.put,List.setIfInBounds_toArray,List.set_cons_zero,List.set_cons_succ,i64_w,i32_w]
     rfl
    refine one_ (i:=6) (N:=some 60) #[true,true,true,true,true,true,true,false,false,false,false,false] rfl rfl (one_of HT_.out (by kernel_rfl)) (by decide) (fun K hK=>?_)
    refine goes_ Try.func28 (by kernel_rfl) rfl #[.agg #[.slice Ao55 t376.length co55,.int .i64 t379],.slice Ao63 t381.length co63,.slice Ao64 t384.length co64,.agg #[.int .i64 t387,.int .i64 t388,.int .i64 t389],.int .i64 a4] (by rfl) rfl rfl (by(try simp only[List.map_toArray,List.map_cons,List.map_nil]);first|done|rfl|(simp only[List.length_drop,List.length_take];rfl)) ?_
    with_reducible refine(impl_PlaysAsPromised.calls k _ _ t376 t379 _ _ t381 _ _ t384 t387 t388 t389 a4 t390 t391 _ ?side1 ?side2 ?side3 ?side4 ?side5 ?side6 A36.out).mono ?_
    (case side1=>repeat(first|exact(Kd.R_reads' HO378.out).2.2|(with_reducible refine Kd.C_alloc ?_ _)|(with_reducible refine Kd.C_drewN ?_ _)|(with_reducible refine Kd.C_drew ?_)))
    (case side2=>exact(Kd.R_reads' HO378.out).2.1)
    (case side3=>repeat(first|exact(Kd.R_reads' HO383.out).2.2|(with_reducible refine Kd.C_alloc ?_ _)|(with_reducible refine Kd.C_drewN ?_ _)|(with_reducible refine Kd.C_drew ?_)))
    (case side4=>exact(Kd.R_reads' HO383.out).2.1)
    (case side5=>repeat(first|exact(Kd.R_reads' HO386.out).2.2|(with_reducible refine Kd.C_alloc ?_ _)|(with_reducible refine Kd.C_drewN ?_ _)|(with_reducible refine Kd.C_drew ?_)))
    (case side6=>exact(Kd.R_reads' HO386.out).2.1)
    rintro e w65 ⟨rfl,hb⟩
    refine⟨_,rfl,?_⟩
    have n0_:=am (Kd.R_below (rup HO363.out) hb)
    have n1_:=am (Kd.R_below (rup HO367.out) hb)
    have n2_:=am (Kd.R_below (rup HO370.out) hb)
    have n3_:=am (Kd.R_below (rup HO378.out) hb)
    have n4_:=am (Kd.R_below (rup HO383.out) hb)
    have n5_:=am (Kd.R_below (rup HO386.out) hb)
    have n6_:=am (blk_below (g:=gb356) (o := .cells #[.slice A0_0 l0_0.length c0_0,.int .i64 a0_1] 36 (0,0)) (bup BK356.out) hb)
    have n7_:=am (blk_below (g:=gb357) (o := .cells #[.int .i64 a3_0,.int .i64 a3_1,.int .i64 a3_2] 39 (0,0)) (bup BK357.out) hb)
    have n8_:=am (blk_below (g:=gb380) (o := .cells #[.slice Ao55 t376.length co55,.int .i64 t379] 44 (0,0)) (bup BK380.out) hb)
    have n9_:=am (below_step bl hb)
    clear HO363
    clear HO367
    clear HO370
    clear HO378
    clear HO383
    clear HO386
    clear BK356
    clear BK357
    clear BK380
    clear HB
    have HO363:=n0_
    have HO367:=n1_
    have HO370:=n2_
    have HO378:=n3_
    have HO383:=n4_
    have HO386:=n5_
    have BK356:=n6_
    have BK357:=n7_
    have BK380:=n8_
    have HB:=n9_
    clear n0_ n1_ n2_ n3_ n4_ n5_ n6_ n7_ n8_ n9_
    (try clear hb)
    (try clear hb2)
    (try clear hk)
    (try clear hi)
    refine hK.out _ _ ⟨(blk_cell BK380.out 0).trans rfl,(blk_cell BK380.out 1).trans rfl,(blk_cell BK357.out 0).trans rfl,(blk_cell BK357.out 1).trans rfl,(blk_cell BK357.out 2).trans rfl⟩ (fun hHeld=>?_)
    clear hK K
    refine norm_ (a':=?_) ?_ ?_
    rotate_left
    ·show Act.put _ (some 60) _=_
     simp only[Act.put,List.setIfInBounds_toArray,List.set_cons_zero,List.set_cons_succ,i64_w,i32_w]
     rfl
    refine pure_ (i:=7) (N:=some 53) (v:=?_) (a':=?_) #[true,true,true,true,true,true,true,true,false,false,false,false] rfl rfl (any_of HT_.out (by kernel_rfl)) (fun _ _ _ h=>h) (Or.inl ⟨by rfl,?_⟩) ?_ ?_
    rotate_left
    ·intro w'
     go_simp
     with_reducible rfl
    rotate_left
    ·simp only[Act.put,List.setIfInBounds_toArray,List.set_cons_zero,List.set_cons_succ,i64_w,i32_w]
     rfl
    refine pure_ (i:=8) (N:=some 61) (v:=?_) (a':=?_) #[true,true,true,true,true,true,true,true,true,false,false,false] rfl rfl (any_of HT_.out (by kernel_rfl)) (fun _ _ _ h=>h) (Or.inl ⟨by rfl,?_⟩) ?_ ?_
    rotate_left
    ·intro w'
     go_simp
     with_reducible rfl
    rotate_left
    ·simp only[Act.put,List.setIfInBounds_toArray,List.set_cons_zero,List.set_cons_succ,i64_w,i32_w]
     rfl
    refine pure_ (i:=9) (N:=some 62) (v:=?_) (a':=?_) #[true,true,true,true,true,true,true,true,true,true,false,false] rfl rfl (any_of HT_.out (by kernel_rfl)) (fun _ _ _ h=>h) (Or.inl ⟨by rfl,?_⟩) ?_ ?_
    rotate_left
    ·intro w'
     go_simp
     with_reducible rfl
    rotate_left
    ·simp only[Act.put,List.setIfInBounds_toArray,List.set_cons_zero,List.set_cons_succ,i64_w,i32_w]
     rfl
    refine pure_ (i:=10) (N:=some 17) (v:=?_) (a':=?_) #[true,true,true,true,true,true,true,true,true,true,true,false] rfl rfl (any_of HT_.out (by kernel_rfl)) (fun _ _ _ h=>h) (Or.inl ⟨by rfl,?_⟩) ?_ ?_
    rotate_left
    ·intro w'
     go_simp
     with_reducible rfl
    rotate_left
    ·simp only[Act.put,List.setIfInBounds_toArray,List.set_cons_zero,List.set_cons_succ,i64_w,i32_w]
     rfl
    refine pure_ (i:=11) (N:=some 18) (v:=?_) (a':=?_) #[true,true,true,true,true,true,true,true,true,true,true,true] rfl rfl (any_of HT_.out (by kernel_rfl)) (fun _ _ _ h=>h) (Or.inl ⟨by rfl,?_⟩) ?_ ?_
    rotate_left
    ·intro w'
     go_simp
     with_reducible rfl
    rotate_left
    ·simp only[Act.put,List.setIfInBounds_toArray,List.set_cons_zero,List.set_cons_succ,i64_w,i32_w]
     rfl
    refine done_ (done_of HT_.out (by kernel_rfl)) ?_
    go_upto_region 16 with(fail)
    go_cut [70] (fun v70 wc=>∃(kq:Nat) (x70_36:Bool),v70 = .bool x70_36∧Aside0 (laws_FnExactPlaysAsPromised.j0 kq l1 l2 t381 t384 x70_36 l0_0 a0_1 t376 t379=some r)∧Aside0 (kq≤k)∧Aside0 (Kd.R k95 95 wc w.heap.size (fun _=>True) (.slice Ao63 t381.length co63) t381)∧Aside0 (Kd.R k80 80 wc w.heap.size (fun _=>True) (.slice Ao64 t384.length co64) t384)∧Aside0 (Kd.R (Kd.int .i64) 3 wc w.heap.size (fun _=>True) (.slice Ao55 t376.length co55) t376)∧Aside0 (wc.heap[gb356]?=some (.cells #[(.slice A0_0 l0_0.length c0_0),.int .i64 a0_1] 36 (0,0)))∧Aside0 (wc.heap[gb357]?=some (.cells #[.int .i64 a3_0,.int .i64 a3_1,.int .i64 a3_2] 39 (0,0)))∧Aside0 (wc.heap[gb380]?=some (.cells #[(.slice Ao55 t376.length co55),.int .i64 t379] 44 (0,0)))∧Aside0 (Below w.heap.size w wc))
    case first =>
     have H:=HC37.out
     clear HC37
     by_cases c66:(t390 != t374)=true
     ·rw[if_pos c66] at H
      have c66b0:(t390 != t374)=true:=c66
      (try(have c66b1:decide (t390=t374)=false:=by simpa using c66))
      (try(have c66b2:(t390 == t374)=false:=by simpa using c66))
      (try(have c66b3:¬ (t390=t374):=by simpa using c66))
      clear c66
      (first|rw[c66b0]|(simp only[i64_w,i32_w];rw[c66b0])|skip)
      have H':=am H
      clear H
      go_wp2
      go_meet
      case rel=>exact⟨_,(true),fin2,H',⟨by first|omega|exact Nat.le_refl _⟩,⟨by(with_reducible repeat(first|apply Kd.R_alloc|apply Kd.R_drewN|apply Kd.R_drew));exact Kd.R_mono HO383.out (fun _ hk=>trivial)⟩,⟨by(with_reducible repeat(first|apply Kd.R_alloc|apply Kd.R_drewN|apply Kd.R_drew));exact Kd.R_mono HO386.out (fun _ hk=>trivial)⟩,⟨by(with_reducible repeat(first|apply Kd.R_alloc|apply Kd.R_drewN|apply Kd.R_drew));exact Kd.R_mono HO378.out (fun _ hk=>trivial)⟩,⟨bup BK356.out⟩,⟨bup BK357.out⟩,⟨bup BK380.out⟩,⟨bl⟩⟩
     ·rw[if_neg c66] at H
      have c66b0:(t390 != t374)=false:=by simpa using c66
      (try(have c66b1:decide (t390=t374)=true:=by simpa using c66))
      (try(have c66b2:(t390 == t374)=true:=by simpa using c66))
      clear c66
      (first|rw[c66b0]|(simp only[i64_w,i32_w];rw[c66b0])|skip)
      have H':=am H
      clear H
      go_wp2
      go_meet
      case rel=>exact⟨_,((t391 != t375)),fin2,H',⟨by first|omega|exact Nat.le_refl _⟩,⟨by(with_reducible repeat(first|apply Kd.R_alloc|apply Kd.R_drewN|apply Kd.R_drew));exact Kd.R_mono HO383.out (fun _ hk=>trivial)⟩,⟨by(with_reducible repeat(first|apply Kd.R_alloc|apply Kd.R_drewN|apply Kd.R_drew));exact Kd.R_mono HO386.out (fun _ hk=>trivial)⟩,⟨by(with_reducible repeat(first|apply Kd.R_alloc|apply Kd.R_drewN|apply Kd.R_drew));exact Kd.R_mono HO378.out (fun _ hk=>trivial)⟩,⟨bup BK356.out⟩,⟨bup BK357.out⟩,⟨bup BK380.out⟩,⟨bl⟩⟩
    case rest =>
     clear HC37
     try clear c1
     try clear c2
     try clear p2
     try clear c4
     try clear c5
     try clear c6
     try clear c11
     try clear c13
     try clear c21
     try clear c21b0
     try clear c22
     try clear c23
     try clear c24
     try clear c25
     try clear c26
     try clear c27
     try clear c28
     try clear c40
     try clear c56
     try clear c57
     try clear c66
     try clear c66b0
     try clear c66b1
     try clear c66b2
     try clear hcz25_0
     try clear hcz25_1
     try clear hcz41_0
     try clear hcz41_1
     try clear hcz52_0
     try clear hcz52_1
     try clear hcz58_0
     try clear hcz58_1
     try clear hfz25_0
     try clear hfz25_1
     try clear hfz41_0
     try clear hfz41_1
     try clear hfz52_0
     try clear hfz52_1
     try clear hfz58_0
     try clear hfz58_1
     obtain⟨kq,x70_36,rfl,HA,HJ36,HO_15,HO_16,HO_381000,BK356,BK357,BK380,HB⟩:=hcut
     cases kq with
     | zero=>exact absurd HA.out (by simp [laws_FnExactPlaysAsPromised.j0])
     | succ kj36 =>
      have H:=HA.out
      clear HA
      simp only[laws_FnExactPlaysAsPromised.j0] at H
      by_cases c67:x70_36=true
      ·subst c67
       have H1:(some false)=some r:=by rw[if_pos rfl] at H;exact H
       clear H
       have H:=H1
       clear H1
       obtain rfl:=Option.some.inj H
       exact absurd hrt.out (by simp)
      ·replace c67:=Bool.eq_false_iff.mpr c67
       subst c67
       have H1:((laws_toInstrument.f kj36 l0_0 a0_1).bind fun bt392=>((laws_eqInstrument.f kj36 t376 t379 bt392.1 bt392.2).bind fun t396=>(if t396=true then((laws_toNoteS.f kj36 l1).bind fun t397=>((laws_eqNoteS.f kj36 t381 t397).bind fun t400=>(if t400=true then((laws_toHoleS.f kj36 l2).bind fun t401=>((laws_eqHoleS.f kj36 t384 t401).bind fun t404=>(if t404=true then(some true) else(some false)))) else(some false)))) else(some false))))=some r:=by rw[if_neg (show ¬ (false=true) by decide)] at H;exact H
       clear H
       have H:=H1
       clear H1
       replace H:=Option.bind_eq_some_iff.mp H
       obtain⟨⟨t392,t395⟩,A680,H⟩:=H
       replace H:((laws_eqInstrument.f kj36 t376 t379 t392 t395).bind fun t396=>(if t396=true then((laws_toNoteS.f kj36 l1).bind fun t397=>((laws_eqNoteS.f kj36 t381 t397).bind fun t400=>(if t400=true then((laws_toHoleS.f kj36 l2).bind fun t401=>((laws_eqHoleS.f kj36 t384 t401).bind fun t404=>(if t404=true then(some true) else(some false)))) else(some false)))) else(some false)))=some r:=H
       have A68:=am A680
       clear A680
       replace H:=Option.bind_eq_some_iff.mp H
       obtain⟨t396,A690,H⟩:=H
       replace H:(if t396=true then((laws_toNoteS.f kj36 l1).bind fun t397=>((laws_eqNoteS.f kj36 t381 t397).bind fun t400=>(if t400=true then((laws_toHoleS.f kj36 l2).bind fun t401=>((laws_eqHoleS.f kj36 t384 t401).bind fun t404=>(if t404=true then(some true) else(some false)))) else(some false)))) else(some false))=some r:=H
       have A69:=am A690
       clear A690
       by_cases c70:t396=true
       ·subst c70
        have H1:((laws_toNoteS.f kj36 l1).bind fun t397=>((laws_eqNoteS.f kj36 t381 t397).bind fun t400=>(if t400=true then((laws_toHoleS.f kj36 l2).bind fun t401=>((laws_eqHoleS.f kj36 t384 t401).bind fun t404=>(if t404=true then(some true) else(some false)))) else(some false))))=some r:=by rw[if_pos rfl] at H;exact H
        clear H
        have H:=H1
        clear H1
        replace H:=Option.bind_eq_some_iff.mp H
        obtain⟨t397,A710,H⟩:=H
        replace H:((laws_eqNoteS.f kj36 t381 t397).bind fun t400=>(if t400=true then((laws_toHoleS.f kj36 l2).bind fun t401=>((laws_eqHoleS.f kj36 t384 t401).bind fun t404=>(if t404=true then(some true) else(some false)))) else(some false)))=some r:=H
        have A71:=am A710
        clear A710
        replace H:=Option.bind_eq_some_iff.mp H
        obtain⟨t400,A720,H⟩:=H
        replace H:(if t400=true then((laws_toHoleS.f kj36 l2).bind fun t401=>((laws_eqHoleS.f kj36 t384 t401).bind fun t404=>(if t404=true then(some true) else(some false)))) else(some false))=some r:=H
        have A72:=am A720
        clear A720
        by_cases c73:t400=true
        ·subst c73
         have H1:((laws_toHoleS.f kj36 l2).bind fun t401=>((laws_eqHoleS.f kj36 t384 t401).bind fun t404=>(if t404=true then(some true) else(some false))))=some r:=by rw[if_pos rfl] at H;exact H
         clear H
         have H:=H1
         clear H1
         replace H:=Option.bind_eq_some_iff.mp H
         obtain⟨t401,A740,H⟩:=H
         replace H:((laws_eqHoleS.f kj36 t384 t401).bind fun t404=>(if t404=true then(some true) else(some false)))=some r:=H
         have A74:=am A740
         clear A740
         replace H:=Option.bind_eq_some_iff.mp H
         obtain⟨t404,A750,H⟩:=H
         replace H:(if t404=true then(some true) else(some false))=some r:=H
         have A75:=am A750
         clear A750
         by_cases c76:t404=true
         ·subst c76
          have H1:(some true)=some r:=by rw[if_pos rfl] at H;exact H
          clear H
          have H:=H1
          clear H1
          obtain rfl:=Option.some.inj H
          try go_wp2
          have n0_:=am (Kd.R_drew HO_15.out)
          have n1_:=am (Kd.R_drew HO_16.out)
          have n2_:=am (Kd.R_drew HO_381000.out)
          have n3_:=am (bD_ BK356.out)
          have n4_:=am (bD_ BK357.out)
          have n5_:=am (bD_ BK380.out)
          have n6_:=am (below_drew1 HB.out)
          clear HO_15
          clear HO_16
          clear HO_381000
          clear BK356
          clear BK357
          clear BK380
          clear HB
          have HO_15:=n0_
          have HO_16:=n1_
          have HO_381000:=n2_
          have BK356:=n3_
          have BK357:=n4_
          have BK380:=n5_
          have HB:=n6_
          clear n0_ n1_ n2_ n3_ n4_ n5_ n6_
          refine start_ (n:=5) (S:=fun w'=>w'.cell? ⟨gb380,0,none⟩=some (.slice Ao55 t376.length co55)∧w'.cell? ⟨gb380,1,none⟩=some (.int .i64 t379)∧w'.cell? ⟨gb356,0,none⟩=some (.slice A0_0 l0_0.length c0_0)∧w'.cell? ⟨gb356,1,none⟩=some (.int .i64 a0_1)) (ds:=[]) #[false,false,false,false,false] (by kernel_rfl) rfl rfl ⟨(blk_cell BK380.out 0).trans rfl,(blk_cell BK380.out 1).trans rfl,(blk_cell BK356.out 0).trans rfl,(blk_cell BK356.out 1).trans rfl⟩ (fun hHeld=>?_)
          generalize wc.drew=w77 at HO_15 HO_16 HO_381000 BK356 BK357 BK380 HB hHeld ⊢
          refine take_ (i:=0) (N:=some 71) (v:=?_) (a':=?_) #[true,false,false,false,false] rfl rfl (by kernel_rfl) (fun _ _ _ h=>h) (Or.inl ⟨by rfl,?_⟩) hHeld ?_ ?_
          rotate_left
          ·rintro w' ⟨s0,s1,s2,s3⟩
           go_simp
           with_reducible rfl
          rotate_left
          ·simp only[Act.put,List.setIfInBounds_toArray,List.set_cons_zero,List.set_cons_succ,i64_w,i32_w]
           rfl
          refine take_ (i:=1) (N:=some 72) (v:=?_) (a':=?_) #[true,true,false,false,false] rfl rfl (by kernel_rfl) (fun _ _ _ h=>h) (Or.inl ⟨by rfl,?_⟩) hHeld ?_ ?_
          rotate_left
          ·rintro w' ⟨s0,s1,s2,s3⟩
           go_simp
           with_reducible rfl
          rotate_left
          ·simp only[Act.put,List.setIfInBounds_toArray,List.set_cons_zero,List.set_cons_succ,i64_w,i32_w]
           rfl
          refine one_ (i:=2) (N:=some 73) #[true,true,true,false,false] rfl rfl (by kernel_rfl) (by decide) (fun K hK=>?_)
          refine goes_ Try.func25 (by kernel_rfl) rfl #[.agg #[.slice A0_0 l0_0.length c0_0,.int .i64 a0_1]] (by rfl) rfl rfl (by(try simp only[List.map_toArray,List.map_cons,List.map_nil]);first|done|rfl|(simp only[List.length_drop,List.length_take];rfl)) ?_
          with_reducible refine(laws_toInstrument.calls kj36 _ _ l0_0 a0_1 t392 t395 _ ?side1 ?side2 A68.out).mono ?_
          (case side1=>repeat(first|exact(Kd.C_below HR0_0.out HB.out)|(with_reducible refine Kd.C_alloc ?_ _)|(with_reducible refine Kd.C_drewN ?_ _)|(with_reducible refine Kd.C_drew ?_)))
          (case side2=>exact HC0_0.out)
          rintro e w78 ⟨v393,rfl,ho0,hb⟩
          refine⟨_,rfl,?_⟩
          have n0_:=am (Kd.R_below (rup HO_15.out) hb)
          have n1_:=am (Kd.R_below (rup HO_16.out) hb)
          have n2_:=am (Kd.R_elder' (rup HO_381000.out) (Kd.R_base ho0) hb)
          have n3_:=am (Kd.R_lower (Kd.R_new' ho0 (Kd.R_lt (rup HO_381000.out))) (below_size bl))
          have n4_:=am (blk_below (g:=gb356) (o := .cells #[.slice A0_0 l0_0.length c0_0,.int .i64 a0_1] 36 (0,0)) (bup BK356.out) hb)
          have n5_:=am (blk_below (g:=gb357) (o := .cells #[.int .i64 a3_0,.int .i64 a3_1,.int .i64 a3_2] 39 (0,0)) (bup BK357.out) hb)
          have n6_:=am (blk_below (g:=gb380) (o := .cells #[.slice Ao55 t376.length co55,.int .i64 t379] 44 (0,0)) (bup BK380.out) hb)
          have n7_:=am (below_step bl hb)
          clear HO_15
          clear HO_16
          clear HO_381000
          clear BK356
          clear BK357
          clear BK380
          clear HB
          have HO_15:=n0_
          have HO_16:=n1_
          have HO_381000:=n2_
          have HO394:=n3_
          have BK356:=n4_
          have BK357:=n5_
          have BK380:=n6_
          have HB:=n7_
          clear n0_ n1_ n2_ n3_ n4_ n5_ n6_ n7_
          (try clear hb)
          (try clear hb2)
          (try clear hk)
          (try clear hi)
          (try clear ho0)
          obtain⟨Ao79,co79,eo79⟩:=Kd.R_slice HO394.out
          (first|subst eo79|(injection eo79 with f1_ f2_ f3_;have f4_:=f1_.symm;have f5_:=f3_.symm;clear f1_ f2_ f3_;subst f4_;subst f5_))
          refine hK.out _ _ ⟨(blk_cell BK380.out 0).trans rfl,(blk_cell BK380.out 1).trans rfl,(blk_cell BK356.out 0).trans rfl,(blk_cell BK356.out 1).trans rfl⟩ (fun hHeld=>?_)
          clear hK K
          refine norm_ (a':=?_) ?_ ?_
          rotate_left
          ·show Act.put _ (some 73) _=_
           simp only[Act.put,List.setIfInBounds_toArray,List.set_cons_zero,List.set_cons_succ,i64_w,i32_w]
           rfl
          refine one_ (i:=3) (N:=some 74) #[true,true,true,true,false] rfl rfl (by kernel_rfl) (by decide) (fun K hK=>?_)
          refine goes_ Try.func29 (by kernel_rfl) rfl #[.agg #[.slice Ao55 t376.length co55,.int .i64 t379],.agg #[.slice Ao79 t392.length co79,.int .i64 t395]] (by rfl) rfl rfl (by(try simp only[List.map_toArray,List.map_cons,List.map_nil]);first|done|rfl|(simp only[List.length_drop,List.length_take];rfl)) ?_
          with_reducible refine(laws_eqInstrument.calls kj36 _ _ t376 t379 _ _ t392 t395 true _ ?side1 ?side2 ?side3 ?side4 A69.out).mono ?_
          (case side1=>repeat(first|exact(Kd.R_reads' HO_381000.out).2.2|(with_reducible refine Kd.C_alloc ?_ _)|(with_reducible refine Kd.C_drewN ?_ _)|(with_reducible refine Kd.C_drew ?_)))
          (case side2=>exact(Kd.R_reads' HO_381000.out).2.1)
          (case side3=>repeat(first|exact(Kd.R_reads' HO394.out).2.2|(with_reducible refine Kd.C_alloc ?_ _)|(with_reducible refine Kd.C_drewN ?_ _)|(with_reducible refine Kd.C_drew ?_)))
          (case side4=>exact(Kd.R_reads' HO394.out).2.1)
          rintro e w80 ⟨rfl,hb⟩
          refine⟨_,rfl,?_⟩
          have n0_:=am (Kd.R_below (rup HO_15.out) hb)
          have n1_:=am (Kd.R_below (rup HO_16.out) hb)
          have n2_:=am (Kd.R_below (rup HO_381000.out) hb)
          have n3_:=am (Kd.R_below (rup HO394.out) hb)
          have n4_:=am (blk_below (g:=gb356) (o := .cells #[.slice A0_0 l0_0.length c0_0,.int .i64 a0_1] 36 (0,0)) (bup BK356.out) hb)
          have n5_:=am (blk_below (g:=gb357) (o := .cells #[.int .i64 a3_0,.int .i64 a3_1,.int .i64 a3_2] 39 (0,0)) (bup BK357.out) hb)
          have n6_:=am (blk_below (g:=gb380) (o := .cells #[.slice Ao55 t376.length co55,.int .i64 t379] 44 (0,0)) (bup BK380.out) hb)
          have n7_:=am (below_step bl hb)
          clear HO_15
          clear HO_16
          clear HO_381000
          clear HO394
          clear BK356
          clear BK357
          clear BK380
          clear HB
          have HO_15:=n0_
          have HO_16:=n1_
          have HO_381000:=n2_
          have HO394:=n3_
          have BK356:=n4_
          have BK357:=n5_
          have BK380:=n6_
          have HB:=n7_
          clear n0_ n1_ n2_ n3_ n4_ n5_ n6_ n7_
          (try clear hb)
          (try clear hb2)
          (try clear hk)
          (try clear hi)
          refine hK.out _ _ ⟨(blk_cell BK380.out 0).trans rfl,(blk_cell BK380.out 1).trans rfl,(blk_cell BK356.out 0).trans rfl,(blk_cell BK356.out 1).trans rfl⟩ (fun hHeld=>?_)
          clear hK K
          refine norm_ (a':=?_) ?_ ?_
          rotate_left
          ·show Act.put _ (some 74) _=_
           simp only[Act.put,List.setIfInBounds_toArray,List.set_cons_zero,List.set_cons_succ,i64_w,i32_w]
           rfl
          refine pure_ (i:=4) (N:=some 75) (v:=?_) (a':=?_) #[true,true,true,true,true] rfl rfl (by kernel_rfl) (fun _ _ _ h=>h) (Or.inl ⟨by rfl,?_⟩) ?_ ?_
          rotate_left
          ·intro w'
           go_simp
           with_reducible rfl
          rotate_left
          ·simp only[Act.put,List.setIfInBounds_toArray,List.set_cons_zero,List.set_cons_succ,i64_w,i32_w]
           rfl
          refine done_ (by kernel_rfl) ?_
          try go_wp2_with (first|((with_reducible refine gate_callee (f:=26) rfl ?_);refine goesL_ (some 78) rfl rfl Try.func26 (by kernel_rfl) rfl #[.slice A1 l1.length c1] rfl (by(try simp only[List.map_toArray,List.map_cons,List.map_nil]);first|done|rfl|(simp only[List.length_drop,List.length_take];rfl)) ?_;(with_reducible refine(laws_toNoteS.calls kj36 _ _ l1 t397 _ ?side1 ?side2 A71.out).mono ?_);(case side1=>repeat(first|exact(Kd.C_below HR1.out HB.out)|(with_reducible refine Kd.C_alloc ?_ _)|(with_reducible refine Kd.C_drewN ?_ _)|(with_reducible refine Kd.C_drew ?_)));(case side2=>exact HC1.out);rintro e w81 ⟨v398,rfl,ho0,hb⟩;refine⟨_,rfl,?_⟩;have n0_:=am (Kd.R_elder' (rup HO_15.out) (Kd.R_base ho0) hb);have n1_:=am (Kd.R_below (rup HO_16.out) hb);have n2_:=am (Kd.R_below (rup HO_381000.out) hb);have n3_:=am (Kd.R_below (rup HO394.out) hb);have n4_:=am (Kd.R_lower (Kd.R_new' ho0 (Kd.R_lt (rup HO_15.out))) (below_size bl));have n5_:=am (blk_below (g:=gb356) (o := .cells #[.slice A0_0 l0_0.length c0_0,.int .i64 a0_1] 36 (0,0)) (bup BK356.out) hb);have n6_:=am (blk_below (g:=gb357) (o := .cells #[.int .i64 a3_0,.int .i64 a3_1,.int .i64 a3_2] 39 (0,0)) (bup BK357.out) hb);have n7_:=am (blk_below (g:=gb380) (o := .cells #[.slice Ao55 t376.length co55,.int .i64 t379] 44 (0,0)) (bup BK380.out) hb);have n8_:=am (below_step bl hb);clear HO_15 HO_16 HO_381000 HO394 BK356 BK357 BK380 HB;have HO_15:=n0_;have HO_16:=n1_;have HO_381000:=n2_;have HO394:=n3_;have HO399:=n4_;have BK356:=n5_;have BK357:=n6_;have BK380:=n7_;have HB:=n8_;clear n0_ n1_ n2_ n3_ n4_ n5_ n6_ n7_ n8_;(try clear hb);(try clear hb2);(try clear hk);(try clear hi);(try clear ho0);obtain⟨Ao82,co82,eo82⟩:=Kd.R_slice HO399.out;subst eo82)|((with_reducible refine gate_callee (f:=30) rfl ?_);refine goesL_ (some 79) rfl rfl Try.func30 (by kernel_rfl) rfl #[.slice Ao63 t381.length co63,.slice Ao82 t397.length co82] rfl (by(try simp only[List.map_toArray,List.map_cons,List.map_nil]);first|done|rfl|(simp only[List.length_drop,List.length_take];rfl)) ?_;(with_reducible refine(laws_eqNoteS.calls kj36 _ _ t381 _ _ t397 true _ ?side1 ?side2 ?side3 ?side4 A72.out).mono ?_);(case side1=>repeat(first|exact(Kd.R_reads' HO_15.out).2.2|(with_reducible refine Kd.C_alloc ?_ _)|(with_reducible refine Kd.C_drewN ?_ _)|(with_reducible refine Kd.C_drew ?_)));(case side2=>exact(Kd.R_reads' HO_15.out).2.1);(case side3=>repeat(first|exact(Kd.R_reads' HO399.out).2.2|(with_reducible refine Kd.C_alloc ?_ _)|(with_reducible refine Kd.C_drewN ?_ _)|(with_reducible refine Kd.C_drew ?_)));(case side4=>exact(Kd.R_reads' HO399.out).2.1);rintro e w83 ⟨rfl,hb⟩;refine⟨_,rfl,?_⟩;have n0_:=am (Kd.R_below (rup HO_15.out) hb);have n1_:=am (Kd.R_below (rup HO_16.out) hb);have n2_:=am (Kd.R_below (rup HO_381000.out) hb);have n3_:=am (Kd.R_below (rup HO394.out) hb);have n4_:=am (Kd.R_below (rup HO399.out) hb);have n5_:=am (blk_below (g:=gb356) (o := .cells #[.slice A0_0 l0_0.length c0_0,.int .i64 a0_1] 36 (0,0)) (bup BK356.out) hb);have n6_:=am (blk_below (g:=gb357) (o := .cells #[.int .i64 a3_0,.int .i64 a3_1,.int .i64 a3_2] 39 (0,0)) (bup BK357.out) hb);have n7_:=am (blk_below (g:=gb380) (o := .cells #[.slice Ao55 t376.length co55,.int .i64 t379] 44 (0,0)) (bup BK380.out) hb);have n8_:=am (below_step bl hb);clear HO_15 HO_16 HO_381000 HO394 HO399 BK356 BK357 BK380 HB;have HO_15:=n0_;have HO_16:=n1_;have HO_381000:=n2_;have HO394:=n3_;have HO399:=n4_;have BK356:=n5_;have BK357:=n6_;have BK380:=n7_;have HB:=n8_;clear n0_ n1_ n2_ n3_ n4_ n5_ n6_ n7_ n8_;(try clear hb);(try clear hb2);(try clear hk);(try clear hi))|((with_reducible refine gate_callee (f:=13) rfl ?_);refine goesL_ (some 83) rfl rfl Try.func13 (by kernel_rfl) rfl #[.slice A2 l2.length c2] rfl (by(try simp only[List.map_toArray,List.map_cons,List.map_nil]);first|done|rfl|(simp only[List.length_drop,List.length_take];rfl)) ?_;(with_reducible refine(laws_toHoleS.calls kj36 _ _ l2 t401 _ ?side1 ?side2 A74.out).mono ?_);(case side1=>repeat(first|exact(Kd.C_below HR2.out HB.out)|(with_reducible refine Kd.C_alloc ?_ _)|(with_reducible refine Kd.C_drewN ?_ _)|(with_reducible refine Kd.C_drew ?_)));(case side2=>exact HC2.out);rintro e w84 ⟨v402,rfl,ho0,hb⟩;refine⟨_,rfl,?_⟩;have n0_:=am (Kd.R_below (rup HO_15.out) hb);have n1_:=am (Kd.R_elder' (rup HO_16.out) (Kd.R_base ho0) hb);have n2_:=am (Kd.R_below (rup HO_381000.out) hb);have n3_:=am (Kd.R_below (rup HO394.out) hb);have n4_:=am (Kd.R_below (rup HO399.out) hb);have n5_:=am (Kd.R_lower (Kd.R_new' ho0 (Kd.R_lt (rup HO_16.out))) (below_size bl));have n6_:=am (blk_below (g:=gb356) (o := .cells #[.slice A0_0 l0_0.length c0_0,.int .i64 a0_1] 36 (0,0)) (bup BK356.out) hb);have n7_:=am (blk_below (g:=gb357) (o := .cells #[.int .i64 a3_0,.int .i64 a3_1,.int .i64 a3_2] 39 (0,0)) (bup BK357.out) hb);have n8_:=am (blk_below (g:=gb380) (o := .cells #[.slice Ao55 t376.length co55,.int .i64 t379] 44 (0,0)) (bup BK380.out) hb);have n9_:=am (below_step bl hb);clear HO_15 HO_16 HO_381000 HO394 HO399 BK356 BK357 BK380 HB;have HO_15:=n0_;have HO_16:=n1_;have HO_381000:=n2_;have HO394:=n3_;have HO399:=n4_;have HO403:=n5_;have BK356:=n6_;have BK357:=n7_;have BK380:=n8_;have HB:=n9_;clear n0_ n1_ n2_ n3_ n4_ n5_ n6_ n7_ n8_ n9_;(try clear hb);(try clear hb2);(try clear hk);(try clear hi);(try clear ho0);obtain⟨Ao85,co85,eo85⟩:=Kd.R_slice HO403.out;subst eo85)|((with_reducible refine gate_callee (f:=16) rfl ?_);refine goesL_ (some 84) rfl rfl Try.func16 (by kernel_rfl) rfl #[.slice Ao64 t384.length co64,.slice Ao85 t401.length co85] rfl (by(try simp only[List.map_toArray,List.map_cons,List.map_nil]);first|done|rfl|(simp only[List.length_drop,List.length_take];rfl)) ?_;(with_reducible refine(laws_eqHoleS.calls kj36 _ _ t384 _ _ t401 true _ ?side1 ?side2 ?side3 ?side4 A75.out).mono ?_);(case side1=>repeat(first|exact(Kd.R_reads' HO_16.out).2.2|(with_reducible refine Kd.C_alloc ?_ _)|(with_reducible refine Kd.C_drewN ?_ _)|(with_reducible refine Kd.C_drew ?_)));(case side2=>exact(Kd.R_reads' HO_16.out).2.1);(case side3=>repeat(first|exact(Kd.R_reads' HO403.out).2.2|(with_reducible refine Kd.C_alloc ?_ _)|(with_reducible refine Kd.C_drewN ?_ _)|(with_reducible refine Kd.C_drew ?_)));(case side4=>exact(Kd.R_reads' HO403.out).2.1);rintro e w86 ⟨rfl,hb⟩;refine⟨_,rfl,?_⟩;have n0_:=am (Kd.R_below (rup HO_15.out) hb);have n1_:=am (Kd.R_below (rup HO_16.out) hb);have n2_:=am (Kd.R_below (rup HO_381000.out) hb);have n3_:=am (Kd.R_below (rup HO394.out) hb);have n4_:=am (Kd.R_below (rup HO399.out) hb);have n5_:=am (Kd.R_below (rup HO403.out) hb);have n6_:=am (blk_below (g:=gb356) (o := .cells #[.slice A0_0 l0_0.length c0_0,.int .i64 a0_1] 36 (0,0)) (bup BK356.out) hb);have n7_:=am (blk_below (g:=gb357) (o := .cells #[.int .i64 a3_0,.int .i64 a3_1,.int .i64 a3_2] 39 (0,0)) (bup BK357.out) hb);have n8_:=am (blk_below (g:=gb380) (o := .cells #[.slice Ao55 t376.length co55,.int .i64 t379] 44 (0,0)) (bup BK380.out) hb);have n9_:=am (below_step bl hb);clear HO_15 HO_16 HO_381000 HO394 HO399 HO403 BK356 BK357 BK380 HB;have HO_15:=n0_;have HO_16:=n1_;have HO_381000:=n2_;have HO394:=n3_;have HO399:=n4_;have HO403:=n5_;have BK356:=n6_;have BK357:=n7_;have BK380:=n8_;have HB:=n9_;clear n0_ n1_ n2_ n3_ n4_ n5_ n6_ n7_ n8_ n9_;(try clear hb);(try clear hb2);(try clear hk);(try clear hi)))
          go_ret
          exact⟨fin1,bl⟩
         ·replace c76:=Bool.eq_false_iff.mpr c76
          subst c76
          have H1:(some false)=some r:=by rw[if_neg (show ¬ (false=true) by decide)] at H;exact H
          clear H
          have H:=H1
          clear H1
          obtain rfl:=Option.some.inj H
          exact absurd hrt.out (by simp)
        ·replace c73:=Bool.eq_false_iff.mpr c73
         subst c73
         have H1:(some false)=some r:=by rw[if_neg (show ¬ (false=true) by decide)] at H;exact H
         clear H
         have H:=H1
         clear H1
         obtain rfl:=Option.some.inj H
         exact absurd hrt.out (by simp)
       ·replace c70:=Bool.eq_false_iff.mpr c70
        subst c70
        have H1:(some false)=some r:=by rw[if_neg (show ¬ (false=true) by decide)] at H;exact H
        clear H
        have H:=H1
        clear H1
        obtain rfl:=Option.some.inj H
        exact absurd hrt.out (by simp)
end Go.Proofs.Ytjniaiobnbdhhab.PFnExactPlaysAsPromised
