/- The walks of functions that FnExactPlaysAsPromised reaches: what they return is what the plain functions of the same names say. Made by a program of this session after the kit's print. No conditions beyond the arguments' being read. -/
import Derived.Test.YtjniaiobnbdhhabSPlaysAsPromised0
import Derived.Test.YtjniaiobnbdhhabSPlaysAsPromised11
namespace Go.Proofs.Ytjniaiobnbdhhab.PFnExactPlaysAsPromised
open Go.RowKit Go.Proofs.YtjniaiobnbdhhabW.PrintWords Go.Proofs.YtjniaiobnbdhhabW.PrintLast Go.Proofs.YtjniaiobnbdhhabW.PrintMore
attribute [local go_sem] max2_int min2_int max_two min_two max_three min_three max_four min_four   -- for this text's walks alone
set_option linter.unusedVariables false
set_option linter.unusedSimpArgs false

/-! ### impl_PlaysAsPromised: function 28 -/
mutual
def impl_PlaysAsPromised.j0:Nat→List (S95)→List (S80)→Int→Bool→List Int→Int→Int→Int→Int→Option (Bool×Bool)
 | 0,_,_,_,_,_,_,_,_,_=>none
 | k+1,x1,x2,x4,x35,x320000,x320001,x321000,x321001,x321002=>if x35=true then(some (false,false)) else((impl_spoken.f k x320000 x320001 x2 x321000 x321001 x321002).bind fun bt324=>(if(bt324.1.length:Int)=(x1.length:Int) then((impl_promisedTimes.f k x1 x321000 x321001 x321002 x4).bind fun t330=>(if 0≤(x1.length:Int) then(if((x1.length:Int):Int).toNat≤281474976710656 then(impl_PlaysAsPromised.l0 k x1 t330 (List.replicate ((x1.length:Int):Int).toNat false) bt324.1 (bt324.1.length:Int) 0) else(none)) else(none))) else(some (false,true))))
def impl_PlaysAsPromised.l0:Nat→List (S95)→List (List Int)→List Bool→List (S97)→Int→Int→Option (Bool×Bool)
 | 0,_,_,_,_,_,_=>none
 | k+1,x1,x14,x15,x55,x56,x57=>if x57<x56 then(if 0≤x57 then(if x57<(x55.length:Int) then(impl_PlaysAsPromised.l1 k x1 x14 x15 (-1) x55 x56 x57 x1 (x1.length:Int) 0 ((rd_T97 x55 x57).f0) ((rd_T97 x55 x57).f1) ((rd_T97 x55 x57).f2)) else(none)) else(none)) else(some (true,true))
def impl_PlaysAsPromised.l1:Nat→List (S95)→List (List Int)→List Bool→Int→List (S97)→Int→Int→List (S95)→Int→Int→Int→Int→Int→Option (Bool×Bool)
 | 0,_,_,_,_,_,_,_,_,_,_,_,_,_=>none
 | k+1,x1,x14,x15,x18,x55,x56,x57,x61,x62,x63,x338000,x338001,x338002=>if x63<x62 then(if 0≤x63 then(if x63<(x61.length:Int) then(if x18<0 then(if((rd_T95 x61 x63).f0)=x338000 then(if x63<(x15.length:Int) then(if rdOf false x15 x63=true then(impl_PlaysAsPromised.l1 k x1 x14 x15 x18 x55 x56 x57 x61 x62 (wrap64 (x63+1)) x338000 x338001 x338002) else(impl_PlaysAsPromised.l1 k x1 x14 x15 x63 x55 x56 x57 x61 x62 (wrap64 (x63+1)) x338000 x338001 x338002)) else(none)) else(impl_PlaysAsPromised.l1 k x1 x14 x15 x18 x55 x56 x57 x61 x62 (wrap64 (x63+1)) x338000 x338001 x338002)) else(impl_PlaysAsPromised.l1 k x1 x14 x15 x18 x55 x56 x57 x61 x62 (wrap64 (x63+1)) x338000 x338001 x338002)) else(none)) else(none)) else(if x18<0 then(some (false,true)) else(if 0≤x18 then(if x18<(x14.length:Int) then(if 0<((rd_L6 x14 x18).length:Int) then(if x338001<(rd (rd_L6 x14 x18) 0) then(some (false,true)) else(if 1<((rd_L6 x14 x18).length:Int) then(if x338001>(rd (rd_L6 x14 x18) 1) then(some (false,true)) else(if x18<(x15.length:Int) then(impl_PlaysAsPromised.l0 k x1 x14 (x15.set (x18:Int).toNat true) x55 x56 (wrap64 (x57+1))) else(none))) else(none))) else(none)) else(none)) else(none)))
end
def impl_PlaysAsPromised.f (k:Nat) (l0_0:List Int) (a0_1:Int) (l1:List (S95)) (l2:List (S80)) (a3_0:Int) (a3_1:Int) (a3_2:Int) (a4:Int):Option (Bool×Bool):=(impl_canMatch.f k l0_0 a0_1 l1 l2).bind fun t321=>(if t321=true then((impl_IsAction.f a3_0 a3_1 a3_2).bind fun t322=>(if t322=true then((impl_isTolerance.f a4).bind fun t323=>(impl_PlaysAsPromised.j0 k l1 l2 a4 (!t323) l0_0 a0_1 a3_0 a3_1 a3_2)) else(impl_PlaysAsPromised.j0 k l1 l2 a4 true l0_0 a0_1 a3_0 a3_1 a3_2))) else(impl_PlaysAsPromised.j0 k l1 l2 a4 true l0_0 a0_1 a3_0 a3_1 a3_2))
set_option maxHeartbeats 8000000 in
set_option maxRecDepth 100000 in
theorem impl_PlaysAsPromised.calls (k:Nat) (A0_0:Option Addr) (c0_0:Nat) (l0_0:List Int) (a0_1:Int) (A1:Option Addr) (c1:Nat) (l1:List (S95)) (A2:Option Addr) (c2:Nat) (l2:List (S80)) (a3_0:Int) (a3_1:Int) (a3_2:Int) (a4:Int) (r1:Bool) (r2:Bool) (w:World) (hr0_0:Kd.C (Kd.int .i64) w A0_0 l0_0.length l0_0) (hc0_0:l0_0.length≤c0_0) (hr1:Kd.C k95 w A1 l1.length l1) (hc1:l1.length≤c1) (hr2:Kd.C k80 w A2 l2.length l2) (hc2:l2.length≤c2) (h:impl_PlaysAsPromised.f k l0_0 a0_1 l1 l2 a3_0 a3_1 a3_2 a4=some (r1,r2)) :
  Calls Try.prog 28 #[.agg #[.slice A0_0 l0_0.length c0_0,.int .i64 a0_1],.slice A1 l1.length c1,.slice A2 l2.length c2,.agg #[.int .i64 a3_0,.int .i64 a3_1,.int .i64 a3_2],.int .i64 a4] w fun e w'=>e = .returned (.tuple #[.bool r1,.bool r2])∧Below w.heap.size w w':=by
 have hu44:=Try.underlying44
 have hu48:=Try.underlying48
 have hu97:=Try.underlying97
 have hu95:=Try.underlying95
 have HR0_0:=am hr0_0
 have HC0_0:=am hc0_0
 clear hr0_0 hc0_0
 have HR1:=am hr1
 have HC1:=am hc1
 clear hr1 hc1
 have HR2:=am hr2
 have HC2:=am hc2
 clear hr2 hc2
 have HB:=am (Below.refl w.heap.size w)
 have H:((impl_canMatch.f k l0_0 a0_1 l1 l2).bind fun t321=>(if t321=true then((impl_IsAction.f a3_0 a3_1 a3_2).bind fun t322=>(if t322=true then((impl_isTolerance.f a4).bind fun t323=>(impl_PlaysAsPromised.j0 k l1 l2 a4 (!t323) l0_0 a0_1 a3_0 a3_1 a3_2)) else(impl_PlaysAsPromised.j0 k l1 l2 a4 true l0_0 a0_1 a3_0 a3_1 a3_2))) else(impl_PlaysAsPromised.j0 k l1 l2 a4 true l0_0 a0_1 a3_0 a3_1 a3_2)))=some (r1,r2):=h
 clear h
 have HC6:=am H
 clear H
 go_enter Try.func28,Try.ntmps28
 go_upto_region 1 with(first|((with_reducible refine gate_dst (N:=5) rfl ?_);refine box_event ?hg (N:=5) ?hd (cs := #[.slice A0_0 l0_0.length c0_0,.int .i64 a0_1]) (t:=44) ?hr ?_;(case hd=>rfl);(case hg=>rfl);(case hr=>first|(go_simp;done)|(go_simp;rfl));intro gb319 hg w7 hbox hb;have n0_:=am (below_step bl hb);have n1_:=am (hbox);have n2_:=am ((by rw[hg];exact(below_size bl):w.heap.size≤gb319));have n3_:=am ((by rw[hg];exact(below_size bl):w.heap.size≤gb319));clear HB;have HB:=n0_;have BK319:=n1_;have GW319:=n2_;have GE319:=n3_;clear n0_ n1_ n2_ n3_ hb hbox hg)|((with_reducible refine gate_dst (N:=8) rfl ?_);refine box_event ?hg (N:=8) ?hd (cs := #[.int .i64 a3_0,.int .i64 a3_1,.int .i64 a3_2]) (t:=48) ?hr ?_;(case hd=>rfl);(case hg=>rfl);(case hr=>first|(go_simp;done)|(go_simp;rfl));intro gb320 hg w8 hbox hb;have n0_:=am (blk_below (g:=gb319) (o := .cells #[.slice A0_0 l0_0.length c0_0,.int .i64 a0_1] 44 (0,0)) (bup BK319.out) hb);have n1_:=am (below_step bl hb);have n2_:=am (hbox);have n3_:=am ((by rw[hg];exact(below_size bl):w.heap.size≤gb320));have n4_:=am ((by rw[hg];exact(below_size bl):w.heap.size≤gb320));have n5_:=am ((by rw[hg];exact Nat.ne_of_lt (blk_lt (g:=gb319) (o := .cells #[.slice A0_0 l0_0.length c0_0,.int .i64 a0_1] 44 (0,0)) (bup BK319.out)):gb319≠gb320));have n6_:=am ((by rw[hg];exact Nat.ne_of_gt (blk_lt (g:=gb319) (o := .cells #[.slice A0_0 l0_0.length c0_0,.int .i64 a0_1] 44 (0,0)) (bup BK319.out)):gb320≠gb319));clear BK319 HB;have BK319:=n0_;have HB:=n1_;have BK320:=n2_;have GW320:=n3_;have GE320:=n4_;have NB319_320:=n5_;have NB320_319:=n6_;clear n0_ n1_ n2_ n3_ n4_ n5_ n6_ hb hbox hg))
 repeat(go_quiet (first|((with_reducible refine gate_dst (N:=5) rfl ?_);refine box_event ?hg (N:=5) ?hd (cs := #[.slice A0_0 l0_0.length c0_0,.int .i64 a0_1]) (t:=44) ?hr ?_;(case hd=>rfl);(case hg=>rfl);(case hr=>first|(go_simp;done)|(go_simp;rfl));intro gb319 hg w7 hbox hb;have n0_:=am (below_step bl hb);have n1_:=am (hbox);have n2_:=am ((by rw[hg];exact(below_size bl):w.heap.size≤gb319));have n3_:=am ((by rw[hg];exact(below_size bl):w.heap.size≤gb319));clear HB;have HB:=n0_;have BK319:=n1_;have GW319:=n2_;have GE319:=n3_;clear n0_ n1_ n2_ n3_ hb hbox hg)|((with_reducible refine gate_dst (N:=8) rfl ?_);refine box_event ?hg (N:=8) ?hd (cs := #[.int .i64 a3_0,.int .i64 a3_1,.int .i64 a3_2]) (t:=48) ?hr ?_;(case hd=>rfl);(case hg=>rfl);(case hr=>first|(go_simp;done)|(go_simp;rfl));intro gb320 hg w8 hbox hb;have n0_:=am (blk_below (g:=gb319) (o := .cells #[.slice A0_0 l0_0.length c0_0,.int .i64 a0_1] 44 (0,0)) (bup BK319.out) hb);have n1_:=am (below_step bl hb);have n2_:=am (hbox);have n3_:=am ((by rw[hg];exact(below_size bl):w.heap.size≤gb320));have n4_:=am ((by rw[hg];exact(below_size bl):w.heap.size≤gb320));have n5_:=am ((by rw[hg];exact Nat.ne_of_lt (blk_lt (g:=gb319) (o := .cells #[.slice A0_0 l0_0.length c0_0,.int .i64 a0_1] 44 (0,0)) (bup BK319.out)):gb319≠gb320));have n6_:=am ((by rw[hg];exact Nat.ne_of_gt (blk_lt (g:=gb319) (o := .cells #[.slice A0_0 l0_0.length c0_0,.int .i64 a0_1] 44 (0,0)) (bup BK319.out)):gb320≠gb319));clear BK319 HB;have BK319:=n0_;have HB:=n1_;have BK320:=n2_;have GW320:=n3_;have GE320:=n4_;have NB319_320:=n5_;have NB320_319:=n6_;clear n0_ n1_ n2_ n3_ n4_ n5_ n6_ hb hbox hg));go_upto_region 1 with(first|((with_reducible refine gate_dst (N:=5) rfl ?_);refine box_event ?hg (N:=5) ?hd (cs := #[.slice A0_0 l0_0.length c0_0,.int .i64 a0_1]) (t:=44) ?hr ?_;(case hd=>rfl);(case hg=>rfl);(case hr=>first|(go_simp;done)|(go_simp;rfl));intro gb319 hg w7 hbox hb;have n0_:=am (below_step bl hb);have n1_:=am (hbox);have n2_:=am ((by rw[hg];exact(below_size bl):w.heap.size≤gb319));have n3_:=am ((by rw[hg];exact(below_size bl):w.heap.size≤gb319));clear HB;have HB:=n0_;have BK319:=n1_;have GW319:=n2_;have GE319:=n3_;clear n0_ n1_ n2_ n3_ hb hbox hg)|((with_reducible refine gate_dst (N:=8) rfl ?_);refine box_event ?hg (N:=8) ?hd (cs := #[.int .i64 a3_0,.int .i64 a3_1,.int .i64 a3_2]) (t:=48) ?hr ?_;(case hd=>rfl);(case hg=>rfl);(case hr=>first|(go_simp;done)|(go_simp;rfl));intro gb320 hg w8 hbox hb;have n0_:=am (blk_below (g:=gb319) (o := .cells #[.slice A0_0 l0_0.length c0_0,.int .i64 a0_1] 44 (0,0)) (bup BK319.out) hb);have n1_:=am (below_step bl hb);have n2_:=am (hbox);have n3_:=am ((by rw[hg];exact(below_size bl):w.heap.size≤gb320));have n4_:=am ((by rw[hg];exact(below_size bl):w.heap.size≤gb320));have n5_:=am ((by rw[hg];exact Nat.ne_of_lt (blk_lt (g:=gb319) (o := .cells #[.slice A0_0 l0_0.length c0_0,.int .i64 a0_1] 44 (0,0)) (bup BK319.out)):gb319≠gb320));have n6_:=am ((by rw[hg];exact Nat.ne_of_gt (blk_lt (g:=gb319) (o := .cells #[.slice A0_0 l0_0.length c0_0,.int .i64 a0_1] 44 (0,0)) (bup BK319.out)):gb320≠gb319));clear BK319 HB;have BK319:=n0_;have HB:=n1_;have BK320:=n2_;have GW320:=n3_;have GE320:=n4_;have NB319_320:=n5_;have NB320_319:=n6_;clear n0_ n1_ n2_ n3_ n4_ n5_ n6_ hb hbox hg)))
 (try simp only[Act.put,List.setIfInBounds_toArray,List.set_cons_zero,List.set_cons_succ])
 go_cut [35] (fun v35 wc=>∃(kq:Nat) (x35_5:Bool),v35 = .bool x35_5∧Aside0 (impl_PlaysAsPromised.j0 kq l1 l2 a4 x35_5 l0_0 a0_1 a3_0 a3_1 a3_2=some (r1,r2))∧Aside0 (kq≤k)∧Aside0 (wc.heap[gb319]?=some (.cells #[(.slice A0_0 l0_0.length c0_0),.int .i64 a0_1] 44 (0,0)))∧Aside0 (wc.heap[gb320]?=some (.cells #[.int .i64 a3_0,.int .i64 a3_1,.int .i64 a3_2] 48 (0,0)))∧Aside0 (Below w.heap.size w wc))
 case first =>
  have H:=HC6.out
  clear HC6
  replace H:=Option.bind_eq_some_iff.mp H
  obtain⟨t321,A90,H⟩:=H
  replace H:(if t321=true then((impl_IsAction.f a3_0 a3_1 a3_2).bind fun t322=>(if t322=true then((impl_isTolerance.f a4).bind fun t323=>(impl_PlaysAsPromised.j0 k l1 l2 a4 (!t323) l0_0 a0_1 a3_0 a3_1 a3_2)) else(impl_PlaysAsPromised.j0 k l1 l2 a4 true l0_0 a0_1 a3_0 a3_1 a3_2))) else(impl_PlaysAsPromised.j0 k l1 l2 a4 true l0_0 a0_1 a3_0 a3_1 a3_2))=some (r1,r2):=H
  have A9:=am A90
  clear A90
  by_cases c10:t321=true
  ·subst c10
   have H1:((impl_IsAction.f a3_0 a3_1 a3_2).bind fun t322=>(if t322=true then((impl_isTolerance.f a4).bind fun t323=>(impl_PlaysAsPromised.j0 k l1 l2 a4 (!t323) l0_0 a0_1 a3_0 a3_1 a3_2)) else(impl_PlaysAsPromised.j0 k l1 l2 a4 true l0_0 a0_1 a3_0 a3_1 a3_2)))=some (r1,r2):=by rw[if_pos rfl] at H;exact H
   clear H
   have H:=H1
   clear H1
   replace H:=Option.bind_eq_some_iff.mp H
   obtain⟨t322,A110,H⟩:=H
   replace H:(if t322=true then((impl_isTolerance.f a4).bind fun t323=>(impl_PlaysAsPromised.j0 k l1 l2 a4 (!t323) l0_0 a0_1 a3_0 a3_1 a3_2)) else(impl_PlaysAsPromised.j0 k l1 l2 a4 true l0_0 a0_1 a3_0 a3_1 a3_2))=some (r1,r2):=H
   have A11:=am A110
   clear A110
   by_cases c12:t322=true
   ·subst c12
    have H1:((impl_isTolerance.f a4).bind fun t323=>(impl_PlaysAsPromised.j0 k l1 l2 a4 (!t323) l0_0 a0_1 a3_0 a3_1 a3_2))=some (r1,r2):=by rw[if_pos rfl] at H;exact H
    clear H
    have H:=H1
    clear H1
    replace H:=Option.bind_eq_some_iff.mp H
    obtain⟨t323,A130,H⟩:=H
    replace H:(impl_PlaysAsPromised.j0 k l1 l2 a4 (!t323) l0_0 a0_1 a3_0 a3_1 a3_2)=some (r1,r2):=H
    have A13:=am A130
    clear A130
    have H':=am H
    clear H
    have hnb14:=NB319_320.out
    have hnc14:=NB320_319.out
    have hcz15_0:w8.cell? ⟨gb319,0,none⟩=some (.slice A0_0 l0_0.length c0_0):=(blk_cell BK319.out 0).trans rfl
    have hcz15_1:w8.cell? ⟨gb319,1,none⟩=some (.int .i64 a0_1):=(blk_cell BK319.out 1).trans rfl
    have hfz15_0:=blk_frozen BK319.out 0
    have hfz15_1:=blk_frozen BK319.out 1
    iterate 3 ((try go_quiet (fail));(try go_wp2_with (first|(go_at_call 68;(with_reducible refine(impl_canMatch.calls k _ _ l0_0 a0_1 _ _ l1 _ _ l2 true _ ?side1 ?side2 ?side3 ?side4 ?side5 ?side6 A9.out).mono ?_);(case side1=>repeat(first|exact(Kd.C_below HR0_0.out HB.out)|(with_reducible refine Kd.C_alloc ?_ _)|(with_reducible refine Kd.C_drewN ?_ _)|(with_reducible refine Kd.C_drew ?_)));(case side2=>exact HC0_0.out);(case side3=>repeat(first|exact(Kd.C_below HR1.out HB.out)|(with_reducible refine Kd.C_alloc ?_ _)|(with_reducible refine Kd.C_drewN ?_ _)|(with_reducible refine Kd.C_drew ?_)));(case side4=>exact HC1.out);(case side5=>repeat(first|exact(Kd.C_below HR2.out HB.out)|(with_reducible refine Kd.C_alloc ?_ _)|(with_reducible refine Kd.C_drewN ?_ _)|(with_reducible refine Kd.C_drew ?_)));(case side6=>exact HC2.out);rintro e w16 ⟨rfl,hb⟩;have n0_:=am (blk_below (g:=gb319) (o := .cells #[.slice A0_0 l0_0.length c0_0,.int .i64 a0_1] 44 (0,0)) (bup BK319.out) hb);have n1_:=am (blk_below (g:=gb320) (o := .cells #[.int .i64 a3_0,.int .i64 a3_1,.int .i64 a3_2] 48 (0,0)) (bup BK320.out) hb);have n2_:=am (below_step bl hb);clear BK319 BK320 HB;have BK319:=n0_;have BK320:=n1_;have HB:=n2_;clear n0_ n1_ n2_;(try clear hb);(try clear hb2);(try clear hk);(try clear hi);have hcz17_0:w16.cell? ⟨gb320,0,none⟩=some (.int .i64 a3_0):=(blk_cell BK320.out 0).trans rfl;have hcz17_1:w16.cell? ⟨gb320,1,none⟩=some (.int .i64 a3_1):=(blk_cell BK320.out 1).trans rfl;have hcz17_2:w16.cell? ⟨gb320,2,none⟩=some (.int .i64 a3_2):=(blk_cell BK320.out 2).trans rfl;have hfz17_0:=blk_frozen BK320.out 0;have hfz17_1:=blk_frozen BK320.out 1;have hfz17_2:=blk_frozen BK320.out 2)|(go_at_call 69;(with_reducible refine(impl_IsAction.calls a3_0 a3_1 a3_2 true _ A11.out).mono ?_);rintro e w18 ⟨rfl,hb⟩;have n0_:=am (blk_below (g:=gb319) (o := .cells #[.slice A0_0 l0_0.length c0_0,.int .i64 a0_1] 44 (0,0)) (bup BK319.out) hb);have n1_:=am (blk_below (g:=gb320) (o := .cells #[.int .i64 a3_0,.int .i64 a3_1,.int .i64 a3_2] 48 (0,0)) (bup BK320.out) hb);have n2_:=am (below_step bl hb);clear BK319 BK320 HB;have BK319:=n0_;have BK320:=n1_;have HB:=n2_;clear n0_ n1_ n2_;(try clear hb);(try clear hb2);(try clear hk);(try clear hi))|(go_at_call 70;(with_reducible refine(impl_isTolerance.calls a4 t323 _ A13.out).mono ?_);rintro e w' ⟨rfl,⟨nd,rfl⟩⟩;(try first|exact⟨rfl,_,World.drewN_drewN _ _ _⟩|exact⟨rfl,_,Eq.trans (World.drewN_drewN _ _ _) (congrArg (World.drewN _) (Nat.add_assoc _ _ _))⟩)))))
    go_meet
    case rel=>exact⟨_,(!t323),fin2,H',⟨by first|omega|exact Nat.le_refl _⟩,⟨bup BK319.out⟩,⟨bup BK320.out⟩,⟨bl⟩⟩
   ·replace c12:=Bool.eq_false_iff.mpr c12
    subst c12
    have H1:(impl_PlaysAsPromised.j0 k l1 l2 a4 true l0_0 a0_1 a3_0 a3_1 a3_2)=some (r1,r2):=by rw[if_neg (show ¬ (false=true) by decide)] at H;exact H
    clear H
    have H:=H1
    clear H1
    have H':=am H
    clear H
    have hnb19:=NB319_320.out
    have hnc19:=NB320_319.out
    have hcz20_0:w8.cell? ⟨gb319,0,none⟩=some (.slice A0_0 l0_0.length c0_0):=(blk_cell BK319.out 0).trans rfl
    have hcz20_1:w8.cell? ⟨gb319,1,none⟩=some (.int .i64 a0_1):=(blk_cell BK319.out 1).trans rfl
    have hfz20_0:=blk_frozen BK319.out 0
    have hfz20_1:=blk_frozen BK319.out 1
    iterate 3 ((try go_quiet (fail));(try go_wp2_with (first|(go_at_call 68;(with_reducible refine(impl_canMatch.calls k _ _ l0_0 a0_1 _ _ l1 _ _ l2 true _ ?side1 ?side2 ?side3 ?side4 ?side5 ?side6 A9.out).mono ?_);(case side1=>repeat(first|exact(Kd.C_below HR0_0.out HB.out)|(with_reducible refine Kd.C_alloc ?_ _)|(with_reducible refine Kd.C_drewN ?_ _)|(with_reducible refine Kd.C_drew ?_)));(case side2=>exact HC0_0.out);(case side3=>repeat(first|exact(Kd.C_below HR1.out HB.out)|(with_reducible refine Kd.C_alloc ?_ _)|(with_reducible refine Kd.C_drewN ?_ _)|(with_reducible refine Kd.C_drew ?_)));(case side4=>exact HC1.out);(case side5=>repeat(first|exact(Kd.C_below HR2.out HB.out)|(with_reducible refine Kd.C_alloc ?_ _)|(with_reducible refine Kd.C_drewN ?_ _)|(with_reducible refine Kd.C_drew ?_)));(case side6=>exact HC2.out);rintro e w21 ⟨rfl,hb⟩;have n0_:=am (blk_below (g:=gb319) (o := .cells #[.slice A0_0 l0_0.length c0_0,.int .i64 a0_1] 44 (0,0)) (bup BK319.out) hb);have n1_:=am (blk_below (g:=gb320) (o := .cells #[.int .i64 a3_0,.int .i64 a3_1,.int .i64 a3_2] 48 (0,0)) (bup BK320.out) hb);have n2_:=am (below_step bl hb);clear BK319 BK320 HB;have BK319:=n0_;have BK320:=n1_;have HB:=n2_;clear n0_ n1_ n2_;(try clear hb);(try clear hb2);(try clear hk);(try clear hi);have hcz22_0:w21.cell? ⟨gb320,0,none⟩=some (.int .i64 a3_0):=(blk_cell BK320.out 0).trans rfl;have hcz22_1:w21.cell? ⟨gb320,1,none⟩=some (.int .i64 a3_1):=(blk_cell BK320.out 1).trans rfl;have hcz22_2:w21.cell? ⟨gb320,2,none⟩=some (.int .i64 a3_2):=(blk_cell BK320.out 2).trans rfl;have hfz22_0:=blk_frozen BK320.out 0;have hfz22_1:=blk_frozen BK320.out 1;have hfz22_2:=blk_frozen BK320.out 2)|(go_at_call 69;(with_reducible refine(impl_IsAction.calls a3_0 a3_1 a3_2 false _ A11.out).mono ?_);rintro e w23 ⟨rfl,hb⟩;have n0_:=am (blk_below (g:=gb319) (o := .cells #[.slice A0_0 l0_0.length c0_0,.int .i64 a0_1] 44 (0,0)) (bup BK319.out) hb);have n1_:=am (blk_below (g:=gb320) (o := .cells #[.int .i64 a3_0,.int .i64 a3_1,.int .i64 a3_2] 48 (0,0)) (bup BK320.out) hb);have n2_:=am (below_step bl hb);clear BK319 BK320 HB;have BK319:=n0_;have BK320:=n1_;have HB:=n2_;clear n0_ n1_ n2_;(try clear hb);(try clear hb2);(try clear hk);(try clear hi)))))
    go_meet
    case rel=>exact⟨_,(true),fin2,H',⟨by first|omega|exact Nat.le_refl _⟩,⟨bup BK319.out⟩,⟨bup BK320.out⟩,⟨bl⟩⟩
  ·replace c10:=Bool.eq_false_iff.mpr c10
   subst c10
   have H1:(impl_PlaysAsPromised.j0 k l1 l2 a4 true l0_0 a0_1 a3_0 a3_1 a3_2)=some (r1,r2):=by rw[if_neg (show ¬ (false=true) by decide)] at H;exact H
   clear H
   have H:=H1
   clear H1
   have H':=am H
   clear H
   have hnb24:=NB319_320.out
   have hnc24:=NB320_319.out
   have hcz25_0:w8.cell? ⟨gb319,0,none⟩=some (.slice A0_0 l0_0.length c0_0):=(blk_cell BK319.out 0).trans rfl
   have hcz25_1:w8.cell? ⟨gb319,1,none⟩=some (.int .i64 a0_1):=(blk_cell BK319.out 1).trans rfl
   have hfz25_0:=blk_frozen BK319.out 0
   have hfz25_1:=blk_frozen BK319.out 1
   iterate 3 ((try go_quiet (fail));(try go_wp2_with (first|(go_at_call 68;(with_reducible refine(impl_canMatch.calls k _ _ l0_0 a0_1 _ _ l1 _ _ l2 false _ ?side1 ?side2 ?side3 ?side4 ?side5 ?side6 A9.out).mono ?_);(case side1=>repeat(first|exact(Kd.C_below HR0_0.out HB.out)|(with_reducible refine Kd.C_alloc ?_ _)|(with_reducible refine Kd.C_drewN ?_ _)|(with_reducible refine Kd.C_drew ?_)));(case side2=>exact HC0_0.out);(case side3=>repeat(first|exact(Kd.C_below HR1.out HB.out)|(with_reducible refine Kd.C_alloc ?_ _)|(with_reducible refine Kd.C_drewN ?_ _)|(with_reducible refine Kd.C_drew ?_)));(case side4=>exact HC1.out);(case side5=>repeat(first|exact(Kd.C_below HR2.out HB.out)|(with_reducible refine Kd.C_alloc ?_ _)|(with_reducible refine Kd.C_drewN ?_ _)|(with_reducible refine Kd.C_drew ?_)));(case side6=>exact HC2.out);rintro e w26 ⟨rfl,hb⟩;have n0_:=am (blk_below (g:=gb319) (o := .cells #[.slice A0_0 l0_0.length c0_0,.int .i64 a0_1] 44 (0,0)) (bup BK319.out) hb);have n1_:=am (blk_below (g:=gb320) (o := .cells #[.int .i64 a3_0,.int .i64 a3_1,.int .i64 a3_2] 48 (0,0)) (bup BK320.out) hb);have n2_:=am (below_step bl hb);clear BK319 BK320 HB;have BK319:=n0_;have BK320:=n1_;have HB:=n2_;clear n0_ n1_ n2_;(try clear hb);(try clear hb2);(try clear hk);(try clear hi)))))
   go_meet
   case rel=>exact⟨_,(true),fin2,H',⟨by first|omega|exact Nat.le_refl _⟩,⟨bup BK319.out⟩,⟨bup BK320.out⟩,⟨bl⟩⟩
 case rest =>
  clear HC6
  try clear c1
  try clear c2
  try clear p2
  try clear c10
  try clear c12
  try clear c14
  try clear c19
  try clear c24
  try clear hcz15_0
  try clear hcz15_1
  try clear hcz17_0
  try clear hcz17_1
  try clear hcz17_2
  try clear hcz20_0
  try clear hcz20_1
  try clear hcz22_0
  try clear hcz22_1
  try clear hcz22_2
  try clear hcz25_0
  try clear hcz25_1
  try clear hfz15_0
  try clear hfz15_1
  try clear hfz17_0
  try clear hfz17_1
  try clear hfz17_2
  try clear hfz20_0
  try clear hfz20_1
  try clear hfz22_0
  try clear hfz22_1
  try clear hfz22_2
  try clear hfz25_0
  try clear hfz25_1
  obtain⟨kq,x35_5,rfl,HA,HJ5,BK319,BK320,HB⟩:=hcut
  cases kq with
  | zero=>exact absurd HA.out (by simp [impl_PlaysAsPromised.j0])
  | succ kj5 =>
   have H:=HA.out
   clear HA
   simp only[impl_PlaysAsPromised.j0] at H
   by_cases c27:x35_5=true
   ·subst c27
    have H1:(some (false,false))=some (r1,r2):=by rw[if_pos rfl] at H;exact H
    clear H
    have H:=H1
    clear H1
    simp only[Option.some.injEq,Prod.mk.injEq] at H
    obtain⟨rfl,rfl⟩:=H
    go_wp2
    repeat(go_quiet (fail);try go_wp2)
    go_ret2
    exact⟨fin1,bl⟩
   ·replace c27:=Bool.eq_false_iff.mpr c27
    subst c27
    have H1:((impl_spoken.f kj5 l0_0 a0_1 l2 a3_0 a3_1 a3_2).bind fun bt324=>(if(bt324.1.length:Int)=(l1.length:Int) then((impl_promisedTimes.f kj5 l1 a3_0 a3_1 a3_2 a4).bind fun t330=>(if 0≤(l1.length:Int) then(if((l1.length:Int):Int).toNat≤281474976710656 then(impl_PlaysAsPromised.l0 kj5 l1 t330 (List.replicate ((l1.length:Int):Int).toNat false) bt324.1 (bt324.1.length:Int) 0) else(none)) else(none))) else(some (false,true))))=some (r1,r2):=by rw[if_neg (show ¬ (false=true) by decide)] at H;exact H
    clear H
    have H:=H1
    clear H1
    replace H:=Option.bind_eq_some_iff.mp H
    obtain⟨⟨t324,t327⟩,A280,H⟩:=H
    replace H:(if(t324.length:Int)=(l1.length:Int) then((impl_promisedTimes.f kj5 l1 a3_0 a3_1 a3_2 a4).bind fun t330=>(if 0≤(l1.length:Int) then(if((l1.length:Int):Int).toNat≤281474976710656 then(impl_PlaysAsPromised.l0 kj5 l1 t330 (List.replicate ((l1.length:Int):Int).toNat false) t324 (t324.length:Int) 0) else(none)) else(none))) else(some (false,true)))=some (r1,r2):=H
    have A28:=am A280
    clear A280
    by_cases c29:(t324.length:Int)=(l1.length:Int)
    ·rw[if_pos c29] at H
     have c29b0:((t324.length:Int) == (l1.length:Int))=true:=beq_iff_eq.mpr c29
     have c29b1:((t324.length:Int) != (l1.length:Int))=false:=bne_eq_false_iff_eq.mpr c29
     have c29b2:(t324.length == l1.length)=true:=by first|simpa using c29|(simp at c29 ⊢;omega)
     clear c29
     replace H:=Option.bind_eq_some_iff.mp H
     obtain⟨t330,A300,H⟩:=H
     replace H:(if 0≤(l1.length:Int) then(if((l1.length:Int):Int).toNat≤281474976710656 then(impl_PlaysAsPromised.l0 kj5 l1 t330 (List.replicate ((l1.length:Int):Int).toNat false) t324 (t324.length:Int) 0) else(none)) else(none))=some (r1,r2):=H
     have A30:=am A300
     clear A300
     by_cases c31:0≤(l1.length:Int)
     ·rw[if_pos c31] at H
      have c31b0:=eq_true c31
      have c31b1:decide (0≤(l1.length:Int))=true:=decide_eq_true c31
      clear c31
      by_cases c32:((l1.length:Int):Int).toNat≤281474976710656
      ·rw[if_pos c32] at H
       have c32b0:=eq_true c32
       have c32b1:decide (((l1.length:Int):Int).toNat≤281474976710656)=true:=decide_eq_true c32
       clear c32
       obtain⟨y333,hy333⟩:∃ y_:List Bool,y_=(List.replicate ((l1.length:Int):Int).toNat false):=⟨_,rfl⟩
       replace H:(impl_PlaysAsPromised.l0 kj5 l1 t330 y333 t324 (t324.length:Int) 0)=some (r1,r2):=by first|(rw[hy333];with_reducible exact H)|(have H2_:=(Option.bind_some _ _).symm.trans H;rw[hy333];with_reducible exact H2_)|(have H2_:=(Option.bind_some _ _).symm.trans H;with_reducible exact H2_)|with_reducible exact H|(rw[hy333];exact H)|exact H
       have Ny333:=am hy333
       clear hy333
       have H':=am H
       clear H
       have hnb33:=NB319_320.out
       have hnc33:=NB320_319.out
       have hcz34_0:wc.cell? ⟨gb319,0,none⟩=some (.slice A0_0 l0_0.length c0_0):=(blk_cell BK319.out 0).trans rfl
       have hcz34_1:wc.cell? ⟨gb319,1,none⟩=some (.int .i64 a0_1):=(blk_cell BK319.out 1).trans rfl
       have hfz34_0:=blk_frozen BK319.out 0
       have hfz34_1:=blk_frozen BK319.out 1
       have hcz35_0:wc.cell? ⟨gb320,0,none⟩=some (.int .i64 a3_0):=(blk_cell BK320.out 0).trans rfl
       have hcz35_1:wc.cell? ⟨gb320,1,none⟩=some (.int .i64 a3_1):=(blk_cell BK320.out 1).trans rfl
       have hcz35_2:wc.cell? ⟨gb320,2,none⟩=some (.int .i64 a3_2):=(blk_cell BK320.out 2).trans rfl
       have hfz35_0:=blk_frozen BK320.out 0
       have hfz35_1:=blk_frozen BK320.out 1
       have hfz35_2:=blk_frozen BK320.out 2
       iterate 3 ((try go_quiet (fail));(try go_wp2_with (first|(go_at_call 71;(with_reducible refine(impl_spoken.calls kj5 _ _ l0_0 a0_1 _ _ l2 a3_0 a3_1 a3_2 t324 t327 _ ?side1 ?side2 ?side3 ?side4 A28.out).mono ?_);(case side1=>repeat(first|exact(Kd.C_below HR0_0.out HB.out)|(with_reducible refine Kd.C_alloc ?_ _)|(with_reducible refine Kd.C_drewN ?_ _)|(with_reducible refine Kd.C_drew ?_)));(case side2=>exact HC0_0.out);(case side3=>repeat(first|exact(Kd.C_below HR2.out HB.out)|(with_reducible refine Kd.C_alloc ?_ _)|(with_reducible refine Kd.C_drewN ?_ _)|(with_reducible refine Kd.C_drew ?_)));(case side4=>exact HC2.out);rintro e w36 ⟨v325,v328,rfl,ho0,ho1,hb⟩;have n0_:=am (Kd.R_lower ho0 (below_size bl));have n1_:=am (Kd.R_lower ho1 (below_size bl));have n2_:=am (blk_below (g:=gb319) (o := .cells #[.slice A0_0 l0_0.length c0_0,.int .i64 a0_1] 44 (0,0)) (bup BK319.out) hb);have n3_:=am (blk_below (g:=gb320) (o := .cells #[.int .i64 a3_0,.int .i64 a3_1,.int .i64 a3_2] 48 (0,0)) (bup BK320.out) hb);have n4_:=am (below_step bl hb);clear BK319 BK320 HB;have HO326:=n0_;have HO329:=n1_;have BK319:=n2_;have BK320:=n3_;have HB:=n4_;clear n0_ n1_ n2_ n3_ n4_;(try clear hb);(try clear hb2);(try clear hk);(try clear hi);(try clear ho0);(try clear ho1);obtain⟨Ao37,co37,eo37⟩:=Kd.R_slice HO326.out;subst eo37;have hcz38_0:w36.cell? ⟨gb320,0,none⟩=some (.int .i64 a3_0):=(blk_cell BK320.out 0).trans rfl;have hcz38_1:w36.cell? ⟨gb320,1,none⟩=some (.int .i64 a3_1):=(blk_cell BK320.out 1).trans rfl;have hcz38_2:w36.cell? ⟨gb320,2,none⟩=some (.int .i64 a3_2):=(blk_cell BK320.out 2).trans rfl;have hfz38_0:=blk_frozen BK320.out 0;have hfz38_1:=blk_frozen BK320.out 1;have hfz38_2:=blk_frozen BK320.out 2)|(go_at_call 72;(with_reducible refine(impl_promisedTimes.calls kj5 _ _ l1 a3_0 a3_1 a3_2 a4 t330 _ ?side1 ?side2 A30.out).mono ?_);(case side1=>repeat(first|exact(Kd.C_below HR1.out HB.out)|(with_reducible refine Kd.C_alloc ?_ _)|(with_reducible refine Kd.C_drewN ?_ _)|(with_reducible refine Kd.C_drew ?_)));(case side2=>exact HC1.out);rintro e w39 ⟨v331,rfl,ho0,hb⟩;have n0_:=am (Kd.R_below (rup HO326.out) hb);have n1_:=am (Kd.R_below (rup HO329.out) hb);have n2_:=am (Kd.S_lower (Kd.S_new' ho0 (Kd.R_lt (rup HO329.out))) (below_size bl));have n3_:=am (blk_below (g:=gb319) (o := .cells #[.slice A0_0 l0_0.length c0_0,.int .i64 a0_1] 44 (0,0)) (bup BK319.out) hb);have n4_:=am (blk_below (g:=gb320) (o := .cells #[.int .i64 a3_0,.int .i64 a3_1,.int .i64 a3_2] 48 (0,0)) (bup BK320.out) hb);have n5_:=am (below_step bl hb);clear HO326 HO329 BK319 BK320 HB;have HO326:=n0_;have HO329:=n1_;have HO332:=n2_;have BK319:=n3_;have BK320:=n4_;have HB:=n5_;clear n0_ n1_ n2_ n3_ n4_ n5_;(try clear hb);(try clear hb2);(try clear hk);(try clear hi);(try clear ho0))|((with_reducible refine gate_dst (N:=54) rfl ?_);refine Kd.R_make Kd.bool _ 4 rfl (N:=54) rfl 93 _ _ rfl (l1.length:Int) rfl rfl Try.underlying93 (.bool false) 1 info4 rfl (by decide) (by omega) false (ok:=fun _=>True) (okp:=fun _=>True) rfl (fun _ hk=>hk) trivial (od) (Nat.le_trans (Nat.mul_le_mul_right _ (od:(l1.length:Int).toNat≤281474976710656)) (by omega)) (Below.refl _ _) (Nat.le_refl _) ?_;intro v334 w40 ho41 hb hg_ hnew_;clear hg_ hnew_;(first|rw[← Ny333.out] at ho41|(simp only[Int.reduceToNat] at ho41;rw[← Ny333.out] at ho41));have n0_:=am (Kd.R_below (rup HO326.out) hb);have n1_:=am (Kd.R_below (rup HO329.out) hb);have n2_:=am (Kd.S_below (by(with_reducible repeat(first|apply Kd.S_alloc|apply Kd.S_drewN|apply Kd.S_drew));exact HO332.out) hb);have n3_:=am (Kd.R_lower ho41 (below_size bl));have n4_:=am (blk_below (g:=gb319) (o := .cells #[.slice A0_0 l0_0.length c0_0,.int .i64 a0_1] 44 (0,0)) (bup BK319.out) hb);have n5_:=am (blk_below (g:=gb320) (o := .cells #[.int .i64 a3_0,.int .i64 a3_1,.int .i64 a3_2] 48 (0,0)) (bup BK320.out) hb);have n6_:=am (below_step bl hb);clear HO326 HO329 HO332 BK319 BK320 HB;have HO326:=n0_;have HO329:=n1_;have HO332:=n2_;have HO335:=n3_;have BK319:=n4_;have BK320:=n5_;have HB:=n6_;clear n0_ n1_ n2_ n3_ n4_ n5_ n6_ hb ho41))))
       go_loopg [57] kj5 (fun kq v57 w'=>∃(x15_2:List Bool) (x57_2:Int),v57 = .int .i64 x57_2∧Aside0 (impl_PlaysAsPromised.l0 kq l1 t330 x15_2 t324 (t324.length:Int) x57_2=some (r1,r2))∧Aside0 (kq≤kj5)∧Aside0 (Kd.S (Kd.slice 3 (Kd.int .i64)) 34 w' w.heap.size (fun _=>True) v331 t330)∧Aside0 (Kd.R Kd.bool 4 w' w.heap.size (fun _=>True) v334 x15_2)∧Aside0 (Kd.R k97 97 w' w.heap.size (fun _=>True) (.slice Ao37 t324.length co37) t324)∧Aside0 (w'.heap[gb319]?=some (.cells #[(.slice A0_0 l0_0.length c0_0),.int .i64 a0_1] 44 (0,0)))∧Aside0 (w'.heap[gb320]?=some (.cells #[.int .i64 a3_0,.int .i64 a3_1,.int .i64 a3_2] 48 (0,0)))∧Aside0 (Below w.heap.size w w'))
       case atStart=>exact⟨(y333),(0),fin2,H',⟨Nat.le_refl _⟩,⟨by(with_reducible repeat(first|apply Kd.S_alloc|apply Kd.S_drewN|apply Kd.S_drew));exact Kd.S_mono HO332.out (fun _ hk=>trivial)⟩,⟨rup HO335.out⟩,⟨rup HO326.out⟩,⟨bup BK319.out⟩,⟨bup BK320.out⟩,⟨bl⟩⟩
       case round =>
        clear H'
        try clear c1
        try clear c2
        try clear p2
        try clear c3
        try clear c10
        try clear c12
        try clear c14
        try clear c19
        try clear c24
        try clear c27
        try clear c28
        try clear c29
        try clear c29b0
        try clear c29b1
        try clear c29b2
        try clear c31
        try clear c31b0
        try clear c31b1
        try clear c32
        try clear c32b0
        try clear c32b1
        try clear c33
        try clear hcz15_0
        try clear hcz15_1
        try clear hcz17_0
        try clear hcz17_1
        try clear hcz17_2
        try clear hcz20_0
        try clear hcz20_1
        try clear hcz22_0
        try clear hcz22_1
        try clear hcz22_2
        try clear hcz25_0
        try clear hcz25_1
        try clear hcz34_0
        try clear hcz34_1
        try clear hcz35_0
        try clear hcz35_1
        try clear hcz35_2
        try clear hcz38_0
        try clear hcz38_1
        try clear hcz38_2
        try clear hfz15_0
        try clear hfz15_1
        try clear hfz17_0
        try clear hfz17_1
        try clear hfz17_2
        try clear hfz20_0
        try clear hfz20_1
        try clear hfz22_0
        try clear hfz22_1
        try clear hfz22_2
        try clear hfz25_0
        try clear hfz25_1
        try clear hfz34_0
        try clear hfz34_1
        try clear hfz35_0
        try clear hfz35_1
        try clear hfz35_2
        try clear hfz38_0
        try clear hfz38_1
        try clear hfz38_2
        try clear p2
        obtain⟨x15_2,x57_2,rfl,HA,HK2,HO_14,HO_15,HO_55,BK319,BK320,HB⟩:=hrel
        cases gk with
        | zero=>exact absurd HA.out (by simp [impl_PlaysAsPromised.l0])
        | succ k2 =>
         have H:=HA.out
         clear HA
         simp only[impl_PlaysAsPromised.l0] at H
         by_cases c42:x57_2<(t324.length:Int)
         ·rw[if_pos c42] at H
          have c42b0:decide (x57_2<(t324.length:Int))=true:=decide_eq_true c42
          clear c42
          by_cases c43:0≤x57_2
          ·rw[if_pos c43] at H
           have c43b0:decide (0≤x57_2)=true:=decide_eq_true c43
           clear c43
           by_cases c44:x57_2<(t324.length:Int)
           ·rw[if_pos c44] at H
            have c44b0:decide (x57_2<(t324.length:Int))=true:=decide_eq_true c44
            clear c44
            have H':=am H
            clear H
            have p336:0≤(x57_2:Int):=od
            have q336:x57_2<(t324.length:Int):=od
            obtain⟨ad336,e336,hx336_0,hx336_1,hx336_2⟩:=at_T97 (Kd.R_reads' HO_55.out).2.2 x57_2 p336 q336
            cases e336
            replace p336:=eq_true p336
            replace q336:=eq_true q336
            iterate 3 ((try go_quiet (fail));(try go_wp2_with (first|((with_reducible refine gate_dst (N:=17) rfl ?_);refine box_event ?hg (N:=17) ?hd (cs := #[.int .i64 0,.int .i64 0,.int .i64 0]) (t:=97) ?hr ?_;(case hd=>rfl);(case hg=>rfl);(case hr=>first|(go_simp;done)|(go_simp;rfl));intro gb337 hg w45 hbox hb;have n0_:=am (Kd.S_below (by(with_reducible repeat(first|apply Kd.S_alloc|apply Kd.S_drewN|apply Kd.S_drew));exact HO_14.out) hb);have n1_:=am (Kd.R_below (rup HO_15.out) hb);have n2_:=am (Kd.R_below (Kd.R_elderB (rup HO_55.out) gb337 (Nat.le_of_eq hg.symm)) hb);have n3_:=am (blk_below (g:=gb319) (o := .cells #[.slice A0_0 l0_0.length c0_0,.int .i64 a0_1] 44 (0,0)) (bup BK319.out) hb);have n4_:=am (blk_below (g:=gb320) (o := .cells #[.int .i64 a3_0,.int .i64 a3_1,.int .i64 a3_2] 48 (0,0)) (bup BK320.out) hb);have n5_:=am (below_step bl hb);have n6_:=am (hbox);have n7_:=am ((by rw[hg];exact(below_size bl):w.heap.size≤gb337));have n8_:=am ((by rw[hg];exact(below_size bl):w.heap.size≤gb337));have n9_:=am ((by rw[hg];exact Nat.ne_of_lt (blk_lt (g:=gb319) (o := .cells #[.slice A0_0 l0_0.length c0_0,.int .i64 a0_1] 44 (0,0)) (bup BK319.out)):gb319≠gb337));have n10_:=am ((by rw[hg];exact Nat.ne_of_gt (blk_lt (g:=gb319) (o := .cells #[.slice A0_0 l0_0.length c0_0,.int .i64 a0_1] 44 (0,0)) (bup BK319.out)):gb337≠gb319));have n11_:=am ((by rw[hg];exact Nat.ne_of_lt (blk_lt (g:=gb320) (o := .cells #[.int .i64 a3_0,.int .i64 a3_1,.int .i64 a3_2] 48 (0,0)) (bup BK320.out)):gb320≠gb337));have n12_:=am ((by rw[hg];exact Nat.ne_of_gt (blk_lt (g:=gb320) (o := .cells #[.int .i64 a3_0,.int .i64 a3_1,.int .i64 a3_2] 48 (0,0)) (bup BK320.out)):gb337≠gb320));clear HO_14 HO_15 HO_55 BK319 BK320 HB;have HO_14:=n0_;have HO_15:=n1_;have HO_55:=n2_;have BK319:=n3_;have BK320:=n4_;have HB:=n5_;have BK337:=n6_;have GW337:=n7_;have GE337:=n8_;have NB319_337:=n9_;have NB337_319:=n10_;have NB320_337:=n11_;have NB337_320:=n12_;clear n0_ n1_ n2_ n3_ n4_ n5_ n6_ n7_ n8_ n9_ n10_ n11_ n12_ hb hbox hg;have hnb46:=NB337_319.out;have hnc46:=NB319_337.out;have hnb47:=NB337_320.out;have hnc47:=NB320_337.out;have hcz48_0:w45.cell? ⟨gb337,0,none⟩=some (.int .i64 0):=(blk_cell BK337.out 0).trans rfl;have hcz48_1:w45.cell? ⟨gb337,1,none⟩=some (.int .i64 0):=(blk_cell BK337.out 1).trans rfl;have hcz48_2:w45.cell? ⟨gb337,2,none⟩=some (.int .i64 0):=(blk_cell BK337.out 2).trans rfl;have hfz48_0:=blk_frozen BK337.out 0;have hfz48_1:=blk_frozen BK337.out 1;have hfz48_2:=blk_frozen BK337.out 2))))
            go_loopg [18,63] k2 (fun kq v18 v63 w'=>∃(x18_3:Int) (x63_3:Int),v18 = .int .i64 x18_3∧v63 = .int .i64 x63_3∧Aside0 (impl_PlaysAsPromised.l1 kq l1 t330 x15_2 x18_3 t324 (t324.length:Int) x57_2 l1 (l1.length:Int) x63_3 ((rd_T97 t324 x57_2).f0) ((rd_T97 t324 x57_2).f1) ((rd_T97 t324 x57_2).f2)=some (r1,r2))∧Aside0 (kq≤k2)∧Aside0 (Kd.S (Kd.slice 3 (Kd.int .i64)) 34 w' w.heap.size (fun _=>True) v331 t330)∧Aside0 (Kd.R Kd.bool 4 w' w.heap.size (fun _=>True) v334 x15_2)∧Aside0 (Kd.R k97 97 w' w.heap.size (fun k_=>k_≠gb337) (.slice (some ad336) t324.length co37) t324)∧Aside0 (w'.heap[gb319]?=some (.cells #[(.slice A0_0 l0_0.length c0_0),.int .i64 a0_1] 44 (0,0)))∧Aside0 (w'.heap[gb320]?=some (.cells #[.int .i64 a3_0,.int .i64 a3_1,.int .i64 a3_2] 48 (0,0)))∧Aside0 (w'.heap[gb337]?=some (.cells #[.int .i64 ((rd_T97 t324 x57_2).f0),.int .i64 ((rd_T97 t324 x57_2).f1),.int .i64 ((rd_T97 t324 x57_2).f2)] 97 (0,0)))∧Aside0 (Below w.heap.size w w'))
            case atStart=>exact⟨((-1)),(0),fin2,fin2,H',⟨Nat.le_refl _⟩,⟨by(with_reducible repeat(first|apply Kd.S_alloc|apply Kd.S_drewN|apply Kd.S_drew));exact Kd.S_mono (Kd.S_far (p:=⟨gb337,2,none⟩) (Kd.S_far (p:=⟨gb337,1,none⟩) (Kd.S_far (p:=⟨gb337,0,none⟩) (Kd.S_types HO_14.out BK337.out (by decide)) (fun _ hk=>hk.2) (.int .i64 ((rd_T97 t324 x57_2).f0))) (fun _ hk=>hk.2) (.int .i64 ((rd_T97 t324 x57_2).f1))) (fun _ hk=>hk.2) (.int .i64 ((rd_T97 t324 x57_2).f2))) (fun _ hk=>trivial)⟩,⟨by(with_reducible repeat(first|apply Kd.R_alloc|apply Kd.R_drewN|apply Kd.R_drew));exact Kd.R_mono (Kd.R_far (p:=⟨gb337,2,none⟩) (Kd.R_far (p:=⟨gb337,1,none⟩) (Kd.R_far (p:=⟨gb337,0,none⟩) (Kd.R_types HO_15.out BK337.out (by decide)) (fun _ hk=>hk.2) (.int .i64 ((rd_T97 t324 x57_2).f0))) (fun _ hk=>hk.2) (.int .i64 ((rd_T97 t324 x57_2).f1))) (fun _ hk=>hk.2) (.int .i64 ((rd_T97 t324 x57_2).f2))) (fun _ hk=>trivial)⟩,⟨by(with_reducible repeat(first|apply Kd.R_alloc|apply Kd.R_drewN|apply Kd.R_drew));exact Kd.R_mono (Kd.R_far (p:=⟨gb337,2,none⟩) (Kd.R_far (p:=⟨gb337,1,none⟩) (Kd.R_far (p:=⟨gb337,0,none⟩) (Kd.R_mono HO_55.out (fun k_ hk=>(⟨hk,hk.2⟩:_∧k_≠gb337))) (fun _ hk=>hk.2) (.int .i64 ((rd_T97 t324 x57_2).f0))) (fun _ hk=>hk.2) (.int .i64 ((rd_T97 t324 x57_2).f1))) (fun _ hk=>hk.2) (.int .i64 ((rd_T97 t324 x57_2).f2))) (fun _ hk=>hk.1.2)⟩,⟨by(with_reducible repeat(first|refine bN_ ?_ _|refine bD_ ?_|refine bA_ ?_ _));refine blk_far ?_ NB319_337.out _;(with_reducible repeat(first|refine bN_ ?_ _|refine bD_ ?_|refine bA_ ?_ _));refine blk_far ?_ NB319_337.out _;(with_reducible repeat(first|refine bN_ ?_ _|refine bD_ ?_|refine bA_ ?_ _));refine blk_far ?_ NB319_337.out _;exact bup BK319.out⟩,⟨by(with_reducible repeat(first|refine bN_ ?_ _|refine bD_ ?_|refine bA_ ?_ _));refine blk_far ?_ NB320_337.out _;(with_reducible repeat(first|refine bN_ ?_ _|refine bD_ ?_|refine bA_ ?_ _));refine blk_far ?_ NB320_337.out _;(with_reducible repeat(first|refine bN_ ?_ _|refine bD_ ?_|refine bA_ ?_ _));refine blk_far ?_ NB320_337.out _;exact bup BK320.out⟩,⟨by(with_reducible repeat(first|refine bN_ ?_ _|refine bD_ ?_|refine bA_ ?_ _));refine blk_put (cs := #[.int .i64 ((rd_T97 t324 x57_2).f0),.int .i64 ((rd_T97 t324 x57_2).f1),.int .i64 0]) ?_ 2 _ rfl;(with_reducible repeat(first|refine bN_ ?_ _|refine bD_ ?_|refine bA_ ?_ _));refine blk_put (cs := #[.int .i64 ((rd_T97 t324 x57_2).f0),.int .i64 0,.int .i64 0]) ?_ 1 _ rfl;(with_reducible repeat(first|refine bN_ ?_ _|refine bD_ ?_|refine bA_ ?_ _));refine blk_put (cs := #[.int .i64 0,.int .i64 0,.int .i64 0]) ?_ 0 _ rfl;exact bup BK337.out⟩,⟨bl⟩⟩
            case round =>
             clear H'
             try clear c1
             try clear c2
             try clear p2
             try clear c3
             try clear p3
             try clear q3
             try clear hx3
             try clear c4
             try clear c10
             try clear c12
             try clear c14
             try clear c19
             try clear c24
             try clear c27
             try clear c28
             try clear c29
             try clear c29b0
             try clear c29b1
             try clear c29b2
             try clear c31
             try clear c31b0
             try clear c31b1
             try clear c32
             try clear c32b0
             try clear c32b1
             try clear c33
             try clear p33
             try clear q33
             try clear hx33
             try clear c42
             try clear c42b0
             try clear c43
             try clear c43b0
             try clear c44
             try clear c44b0
             try clear c46
             try clear c47
             try clear hcz15_0
             try clear hcz15_1
             try clear hcz17_0
             try clear hcz17_1
             try clear hcz17_2
             try clear hcz20_0
             try clear hcz20_1
             try clear hcz22_0
             try clear hcz22_1
             try clear hcz22_2
             try clear hcz25_0
             try clear hcz25_1
             try clear hcz34_0
             try clear hcz34_1
             try clear hcz35_0
             try clear hcz35_1
             try clear hcz35_2
             try clear hcz38_0
             try clear hcz38_1
             try clear hcz38_2
             try clear hcz48_0
             try clear hcz48_1
             try clear hcz48_2
             try clear hfz15_0
             try clear hfz15_1
             try clear hfz17_0
             try clear hfz17_1
             try clear hfz17_2
             try clear hfz20_0
             try clear hfz20_1
             try clear hfz22_0
             try clear hfz22_1
             try clear hfz22_2
             try clear hfz25_0
             try clear hfz25_1
             try clear hfz34_0
             try clear hfz34_1
             try clear hfz35_0
             try clear hfz35_1
             try clear hfz35_2
             try clear hfz38_0
             try clear hfz38_1
             try clear hfz38_2
             try clear hfz48_0
             try clear hfz48_1
             try clear hfz48_2
             try clear hx336_0
             try clear hx336_1
             try clear hx336_2
             try clear p2
             try clear p336
             try clear q336
             obtain⟨x18_3,x63_3,rfl,rfl,HA,HK3,HO_14,HO_15,HO_55,BK319,BK320,BK337,HB⟩:=hrel
             cases gk with
             | zero=>exact absurd HA.out (by simp [impl_PlaysAsPromised.l1])
             | succ k3 =>
              have H:=HA.out
              clear HA
              simp only[impl_PlaysAsPromised.l1] at H
              by_cases c49:x63_3<(l1.length:Int)
              ·rw[if_pos c49] at H
               have c49b0:decide (x63_3<(l1.length:Int))=true:=decide_eq_true c49
               clear c49
               by_cases c50:0≤x63_3
               ·rw[if_pos c50] at H
                have c50b0:decide (0≤x63_3)=true:=decide_eq_true c50
                clear c50
                by_cases c51:x63_3<(l1.length:Int)
                ·rw[if_pos c51] at H
                 have c51b0:decide (x63_3<(l1.length:Int))=true:=decide_eq_true c51
                 clear c51
                 by_cases c52:x18_3<0
                 ·rw[if_pos c52] at H
                  have c52b0:decide (x18_3<0)=true:=decide_eq_true c52
                  clear c52
                  by_cases c53:((rd_T95 l1 x63_3).f0)=((rd_T97 t324 x57_2).f0)
                  ·rw[if_pos c53] at H
                   have c53b0:(((rd_T95 l1 x63_3).f0) == ((rd_T97 t324 x57_2).f0))=true:=beq_iff_eq.mpr c53
                   have c53b1:(((rd_T95 l1 x63_3).f0) != ((rd_T97 t324 x57_2).f0))=false:=bne_eq_false_iff_eq.mpr c53
                   clear c53
                   by_cases c54:x63_3<(x15_2.length:Int)
                   ·rw[if_pos c54] at H
                    have c54b0:decide (x63_3<(x15_2.length:Int))=true:=decide_eq_true c54
                    clear c54
                    obtain⟨bq55,hbq55⟩:∃ b_:Bool,b_=(rdOf false x15_2 x63_3):=⟨_,rfl⟩
                    replace H:(if bq55=true then(impl_PlaysAsPromised.l1 k3 l1 t330 x15_2 x18_3 t324 (t324.length:Int) x57_2 l1 (l1.length:Int) (wrap64 (x63_3+1)) ((rd_T97 t324 x57_2).f0) ((rd_T97 t324 x57_2).f1) ((rd_T97 t324 x57_2).f2)) else(impl_PlaysAsPromised.l1 k3 l1 t330 x15_2 x63_3 t324 (t324.length:Int) x57_2 l1 (l1.length:Int) (wrap64 (x63_3+1)) ((rd_T97 t324 x57_2).f0) ((rd_T97 t324 x57_2).f1) ((rd_T97 t324 x57_2).f2)))=some (r1,r2):=by rw[← hbq55] at H;exact H
                    have Nbq55:=am hbq55
                    clear hbq55
                    by_cases c56:bq55=true
                    ·subst c56
                     have H1:(impl_PlaysAsPromised.l1 k3 l1 t330 x15_2 x18_3 t324 (t324.length:Int) x57_2 l1 (l1.length:Int) (wrap64 (x63_3+1)) ((rd_T97 t324 x57_2).f0) ((rd_T97 t324 x57_2).f1) ((rd_T97 t324 x57_2).f2))=some (r1,r2):=by rw[if_pos rfl] at H;exact H
                     clear H
                     have H:=H1
                     clear H1
                     have H':=am H
                     clear H
                     have p338:0≤(x63_3:Int):=od
                     have q338:x63_3<(l1.length:Int):=od
                     obtain⟨ad338,e338,hx338_0,hx338_1,hx338_2⟩:=at_T95 HR1.out x63_3 p338 q338
                     cases e338
                     replace hx338_0:=(HB.out.cell (World.block_lt_of_cell? w _ hx338_0)).trans hx338_0
                     replace hx338_1:=(HB.out.cell (World.block_lt_of_cell? w _ hx338_1)).trans hx338_1
                     replace hx338_2:=(HB.out.cell (World.block_lt_of_cell? w _ hx338_2)).trans hx338_2
                     replace p338:=eq_true p338
                     replace q338:=eq_true q338
                     iterate 3 ((try go_quiet (fail));(try go_wp2_with (first|((with_reducible refine gate_dst (N:=20) rfl ?_);refine box_event ?hg (N:=20) ?hd (cs := #[.int .i64 0,.int .i64 0,.int .i64 0]) (t:=95) ?hr ?_;(case hd=>rfl);(case hg=>rfl);(case hr=>first|(go_simp;done)|(go_simp;rfl));intro gb339 hg w57 hbox hb;have n0_:=am (Kd.S_below (by(with_reducible repeat(first|apply Kd.S_alloc|apply Kd.S_drewN|apply Kd.S_drew));exact HO_14.out) hb);have n1_:=am (Kd.R_below (rup HO_15.out) hb);have n2_:=am (Kd.R_below (rup HO_55.out) hb);have n3_:=am (blk_below (g:=gb319) (o := .cells #[.slice A0_0 l0_0.length c0_0,.int .i64 a0_1] 44 (0,0)) (bup BK319.out) hb);have n4_:=am (blk_below (g:=gb320) (o := .cells #[.int .i64 a3_0,.int .i64 a3_1,.int .i64 a3_2] 48 (0,0)) (bup BK320.out) hb);have n5_:=am (blk_below (g:=gb337) (o := .cells #[.int .i64 ((rd_T97 t324 x57_2).f0),.int .i64 ((rd_T97 t324 x57_2).f1),.int .i64 ((rd_T97 t324 x57_2).f2)] 97 (0,0)) (bup BK337.out) hb);have n6_:=am (below_step bl hb);have n7_:=am (hbox);have n8_:=am ((by rw[hg];exact(below_size bl):w.heap.size≤gb339));have n9_:=am ((by rw[hg];exact(below_size bl):w.heap.size≤gb339));have n10_:=am ((by rw[hg];exact Nat.ne_of_lt (blk_lt (g:=gb319) (o := .cells #[.slice A0_0 l0_0.length c0_0,.int .i64 a0_1] 44 (0,0)) (bup BK319.out)):gb319≠gb339));have n11_:=am ((by rw[hg];exact Nat.ne_of_gt (blk_lt (g:=gb319) (o := .cells #[.slice A0_0 l0_0.length c0_0,.int .i64 a0_1] 44 (0,0)) (bup BK319.out)):gb339≠gb319));have n12_:=am ((by rw[hg];exact Nat.ne_of_lt (blk_lt (g:=gb320) (o := .cells #[.int .i64 a3_0,.int .i64 a3_1,.int .i64 a3_2] 48 (0,0)) (bup BK320.out)):gb320≠gb339));have n13_:=am ((by rw[hg];exact Nat.ne_of_gt (blk_lt (g:=gb320) (o := .cells #[.int .i64 a3_0,.int .i64 a3_1,.int .i64 a3_2] 48 (0,0)) (bup BK320.out)):gb339≠gb320));have n14_:=am ((by rw[hg];exact Nat.ne_of_lt (blk_lt (g:=gb337) (o := .cells #[.int .i64 ((rd_T97 t324 x57_2).f0),.int .i64 ((rd_T97 t324 x57_2).f1),.int .i64 ((rd_T97 t324 x57_2).f2)] 97 (0,0)) (bup BK337.out)):gb337≠gb339));have n15_:=am ((by rw[hg];exact Nat.ne_of_gt (blk_lt (g:=gb337) (o := .cells #[.int .i64 ((rd_T97 t324 x57_2).f0),.int .i64 ((rd_T97 t324 x57_2).f1),.int .i64 ((rd_T97 t324 x57_2).f2)] 97 (0,0)) (bup BK337.out)):gb339≠gb337));clear HO_14 HO_15 HO_55 BK319 BK320 BK337 HB;have HO_14:=n0_;have HO_15:=n1_;have HO_55:=n2_;have BK319:=n3_;have BK320:=n4_;have BK337:=n5_;have HB:=n6_;have BK339:=n7_;have GW339:=n8_;have GE339:=n9_;have NB319_339:=n10_;have NB339_319:=n11_;have NB320_339:=n12_;have NB339_320:=n13_;have NB337_339:=n14_;have NB339_337:=n15_;clear n0_ n1_ n2_ n3_ n4_ n5_ n6_ n7_ n8_ n9_ n10_ n11_ n12_ n13_ n14_ n15_ hb hbox hg;have hnb58:=NB339_319.out;have hnc58:=NB319_339.out;have hnb59:=NB339_320.out;have hnc59:=NB320_339.out;have hnb60:=NB339_337.out;have hnc60:=NB337_339.out;have hcz61_0:w57.cell? ⟨gb339,0,none⟩=some (.int .i64 0):=(blk_cell BK339.out 0).trans rfl;have hcz61_1:w57.cell? ⟨gb339,1,none⟩=some (.int .i64 0):=(blk_cell BK339.out 1).trans rfl;have hcz61_2:w57.cell? ⟨gb339,2,none⟩=some (.int .i64 0):=(blk_cell BK339.out 2).trans rfl;have hfz61_0:=blk_frozen BK339.out 0;have hfz61_1:=blk_frozen BK339.out 1;have hfz61_2:=blk_frozen BK339.out 2;have hnb62:=NB337_319.out;have hnc62:=NB319_337.out;have hnb63:=NB337_320.out;have hnc63:=NB320_337.out;have hcz64_0:w57.cell? ⟨gb337,0,none⟩=some (.int .i64 ((rd_T97 t324 x57_2).f0)):=(blk_cell BK337.out 0).trans rfl;have hcz64_1:w57.cell? ⟨gb337,1,none⟩=some (.int .i64 ((rd_T97 t324 x57_2).f1)):=(blk_cell BK337.out 1).trans rfl;have hcz64_2:w57.cell? ⟨gb337,2,none⟩=some (.int .i64 ((rd_T97 t324 x57_2).f2)):=(blk_cell BK337.out 2).trans rfl;have hfz64_0:=blk_frozen BK337.out 0;have hfz64_1:=blk_frozen BK337.out 1;have hfz64_2:=blk_frozen BK337.out 2;obtain⟨Ao65,co65,eo65⟩:=Kd.R_slice HO_15.out;subst eo65;have p340:0≤(x63_3:Int):=od;have q340:x63_3<(x15_2.length:Int):=od;obtain⟨ad340,e340,hx340_0⟩:=Kd.at_bool (Kd.R_reads' HO_15.out).2.2 x63_3 p340 q340;(try rw[← Nbq55.out] at hx340_0);cases e340;have hn340_0:ad340.block≠gb339:=Kd.own_blk (Kd.R_ne HO_15.out BK339.out (by decide));have hn340_1:ad340.block≠gb339:=Kd.own_blk (Kd.R_ne HO_15.out BK339.out (by decide));have hn340_2:ad340.block≠gb339:=Kd.own_blk (Kd.R_ne HO_15.out BK339.out (by decide));replace hx340_0:=(cell_far (p:=⟨gb339,0,none⟩) (by first|(rw[add_block];exact hn340_0)|(show(Addr.add _ _).block≠_;rw[add_block];exact hn340_0)|exact hn340_0) (.int .i64 ((rd_T95 l1 x63_3).f0))).trans hx340_0;replace hx340_0:=(cell_far (p:=⟨gb339,1,none⟩) (by first|(rw[add_block];exact hn340_1)|(show(Addr.add _ _).block≠_;rw[add_block];exact hn340_1)|exact hn340_1) (.int .i64 ((rd_T95 l1 x63_3).f1))).trans hx340_0;replace hx340_0:=(cell_far (p:=⟨gb339,2,none⟩) (by first|(rw[add_block];exact hn340_2)|(show(Addr.add _ _).block≠_;rw[add_block];exact hn340_2)|exact hn340_2) (.int .i64 ((rd_T95 l1 x63_3).f2))).trans hx340_0;(try have hy340_0:=fun(n_:Nat)=>(show(((((w57.drewN n_).setCell ⟨gb339,0,none⟩ (.int .i64 ((rd_T95 l1 x63_3).f0))).setCell ⟨gb339,1,none⟩ (.int .i64 ((rd_T95 l1 x63_3).f1))).setCell ⟨gb339,2,none⟩ (.int .i64 ((rd_T95 l1 x63_3).f2)))).cell? _=some _ from hx340_0));clear hn340_0 hn340_1 hn340_2;replace p340:=eq_true p340;replace q340:=eq_true q340))))
                     go_roundg k3
                     case measure=>have:=HJ5.out;have:=HK2.out;have:=HK3.out;omega
                     case rel=>exact⟨(x18_3),(wrap64 (x63_3+1)),fin2,fin2,H',⟨by have:=HJ5.out;have:=HK2.out;have:=HK3.out;omega⟩,⟨by(with_reducible repeat(first|apply Kd.S_alloc|apply Kd.S_drewN|apply Kd.S_drew));exact Kd.S_mono (Kd.S_far (p:=⟨gb339,2,none⟩) (Kd.S_far (p:=⟨gb339,1,none⟩) (Kd.S_far (p:=⟨gb339,0,none⟩) (Kd.S_types HO_14.out BK339.out (by decide)) (fun _ hk=>hk.2) (.int .i64 ((rd_T95 l1 x63_3).f0))) (fun _ hk=>hk.2) (.int .i64 ((rd_T95 l1 x63_3).f1))) (fun _ hk=>hk.2) (.int .i64 ((rd_T95 l1 x63_3).f2))) (fun _ hk=>trivial)⟩,⟨by(with_reducible repeat(first|apply Kd.R_alloc|apply Kd.R_drewN|apply Kd.R_drew));exact Kd.R_mono (Kd.R_far (p:=⟨gb339,2,none⟩) (Kd.R_far (p:=⟨gb339,1,none⟩) (Kd.R_far (p:=⟨gb339,0,none⟩) (Kd.R_types HO_15.out BK339.out (by decide)) (fun _ hk=>hk.2) (.int .i64 ((rd_T95 l1 x63_3).f0))) (fun _ hk=>hk.2) (.int .i64 ((rd_T95 l1 x63_3).f1))) (fun _ hk=>hk.2) (.int .i64 ((rd_T95 l1 x63_3).f2))) (fun _ hk=>trivial)⟩,⟨by(with_reducible repeat(first|apply Kd.R_alloc|apply Kd.R_drewN|apply Kd.R_drew));exact Kd.R_mono (Kd.R_far (p:=⟨gb339,2,none⟩) (Kd.R_far (p:=⟨gb339,1,none⟩) (Kd.R_far (p:=⟨gb339,0,none⟩) (Kd.R_types HO_55.out BK339.out (by decide)) (fun _ hk=>hk.2) (.int .i64 ((rd_T95 l1 x63_3).f0))) (fun _ hk=>hk.2) (.int .i64 ((rd_T95 l1 x63_3).f1))) (fun _ hk=>hk.2) (.int .i64 ((rd_T95 l1 x63_3).f2))) (fun _ hk=>hk.1)⟩,⟨by(with_reducible repeat(first|refine bN_ ?_ _|refine bD_ ?_|refine bA_ ?_ _));refine blk_far ?_ NB319_339.out _;(with_reducible repeat(first|refine bN_ ?_ _|refine bD_ ?_|refine bA_ ?_ _));refine blk_far ?_ NB319_339.out _;(with_reducible repeat(first|refine bN_ ?_ _|refine bD_ ?_|refine bA_ ?_ _));refine blk_far ?_ NB319_339.out _;exact bup BK319.out⟩,⟨by(with_reducible repeat(first|refine bN_ ?_ _|refine bD_ ?_|refine bA_ ?_ _));refine blk_far ?_ NB320_339.out _;(with_reducible repeat(first|refine bN_ ?_ _|refine bD_ ?_|refine bA_ ?_ _));refine blk_far ?_ NB320_339.out _;(with_reducible repeat(first|refine bN_ ?_ _|refine bD_ ?_|refine bA_ ?_ _));refine blk_far ?_ NB320_339.out _;exact bup BK320.out⟩,⟨by(with_reducible repeat(first|refine bN_ ?_ _|refine bD_ ?_|refine bA_ ?_ _));refine blk_far ?_ NB337_339.out _;(with_reducible repeat(first|refine bN_ ?_ _|refine bD_ ?_|refine bA_ ?_ _));refine blk_far ?_ NB337_339.out _;(with_reducible repeat(first|refine bN_ ?_ _|refine bD_ ?_|refine bA_ ?_ _));refine blk_far ?_ NB337_339.out _;exact bup BK337.out⟩,⟨bl⟩⟩
                    ·replace c56:=Bool.eq_false_iff.mpr c56
                     subst c56
                     have H1:(impl_PlaysAsPromised.l1 k3 l1 t330 x15_2 x63_3 t324 (t324.length:Int) x57_2 l1 (l1.length:Int) (wrap64 (x63_3+1)) ((rd_T97 t324 x57_2).f0) ((rd_T97 t324 x57_2).f1) ((rd_T97 t324 x57_2).f2))=some (r1,r2):=by rw[if_neg (show ¬ (false=true) by decide)] at H;exact H
                     clear H
                     have H:=H1
                     clear H1
                     have H':=am H
                     clear H
                     have p338:0≤(x63_3:Int):=od
                     have q338:x63_3<(l1.length:Int):=od
                     obtain⟨ad338,e338,hx338_0,hx338_1,hx338_2⟩:=at_T95 HR1.out x63_3 p338 q338
                     cases e338
                     replace hx338_0:=(HB.out.cell (World.block_lt_of_cell? w _ hx338_0)).trans hx338_0
                     replace hx338_1:=(HB.out.cell (World.block_lt_of_cell? w _ hx338_1)).trans hx338_1
                     replace hx338_2:=(HB.out.cell (World.block_lt_of_cell? w _ hx338_2)).trans hx338_2
                     replace p338:=eq_true p338
                     replace q338:=eq_true q338
                     iterate 3 ((try go_quiet (fail));(try go_wp2_with (first|((with_reducible refine gate_dst (N:=20) rfl ?_);refine box_event ?hg (N:=20) ?hd (cs := #[.int .i64 0,.int .i64 0,.int .i64 0]) (t:=95) ?hr ?_;(case hd=>rfl);(case hg=>rfl);(case hr=>first|(go_simp;done)|(go_simp;rfl));intro gb339 hg w66 hbox hb;have n0_:=am (Kd.S_below (by(with_reducible repeat(first|apply Kd.S_alloc|apply Kd.S_drewN|apply Kd.S_drew));exact HO_14.out) hb);have n1_:=am (Kd.R_below (rup HO_15.out) hb);have n2_:=am (Kd.R_below (rup HO_55.out) hb);have n3_:=am (blk_below (g:=gb319) (o := .cells #[.slice A0_0 l0_0.length c0_0,.int .i64 a0_1] 44 (0,0)) (bup BK319.out) hb);have n4_:=am (blk_below (g:=gb320) (o := .cells #[.int .i64 a3_0,.int .i64 a3_1,.int .i64 a3_2] 48 (0,0)) (bup BK320.out) hb);have n5_:=am (blk_below (g:=gb337) (o := .cells #[.int .i64 ((rd_T97 t324 x57_2).f0),.int .i64 ((rd_T97 t324 x57_2).f1),.int .i64 ((rd_T97 t324 x57_2).f2)] 97 (0,0)) (bup BK337.out) hb);have n6_:=am (below_step bl hb);have n7_:=am (hbox);have n8_:=am ((by rw[hg];exact(below_size bl):w.heap.size≤gb339));have n9_:=am ((by rw[hg];exact(below_size bl):w.heap.size≤gb339));have n10_:=am ((by rw[hg];exact Nat.ne_of_lt (blk_lt (g:=gb319) (o := .cells #[.slice A0_0 l0_0.length c0_0,.int .i64 a0_1] 44 (0,0)) (bup BK319.out)):gb319≠gb339));have n11_:=am ((by rw[hg];exact Nat.ne_of_gt (blk_lt (g:=gb319) (o := .cells #[.slice A0_0 l0_0.length c0_0,.int .i64 a0_1] 44 (0,0)) (bup BK319.out)):gb339≠gb319));have n12_:=am ((by rw[hg];exact Nat.ne_of_lt (blk_lt (g:=gb320) (o := .cells #[.int .i64 a3_0,.int .i64 a3_1,.int .i64 a3_2] 48 (0,0)) (bup BK320.out)):gb320≠gb339));have n13_:=am ((by rw[hg];exact Nat.ne_of_gt (blk_lt (g:=gb320) (o := .cells #[.int .i64 a3_0,.int .i64 a3_1,.int .i64 a3_2] 48 (0,0)) (bup BK320.out)):gb339≠gb320));have n14_:=am ((by rw[hg];exact Nat.ne_of_lt (blk_lt (g:=gb337) (o := .cells #[.int .i64 ((rd_T97 t324 x57_2).f0),.int .i64 ((rd_T97 t324 x57_2).f1),.int .i64 ((rd_T97 t324 x57_2).f2)] 97 (0,0)) (bup BK337.out)):gb337≠gb339));have n15_:=am ((by rw[hg];exact Nat.ne_of_gt (blk_lt (g:=gb337) (o := .cells #[.int .i64 ((rd_T97 t324 x57_2).f0),.int .i64 ((rd_T97 t324 x57_2).f1),.int .i64 ((rd_T97 t324 x57_2).f2)] 97 (0,0)) (bup BK337.out)):gb339≠gb337));clear HO_14 HO_15 HO_55 BK319 BK320 BK337 HB;have HO_14:=n0_;have HO_15:=n1_;have HO_55:=n2_;have BK319:=n3_;have BK320:=n4_;have BK337:=n5_;have HB:=n6_;have BK339:=n7_;have GW339:=n8_;have GE339:=n9_;have NB319_339:=n10_;have NB339_319:=n11_;have NB320_339:=n12_;have NB339_320:=n13_;have NB337_339:=n14_;have NB339_337:=n15_;clear n0_ n1_ n2_ n3_ n4_ n5_ n6_ n7_ n8_ n9_ n10_ n11_ n12_ n13_ n14_ n15_ hb hbox hg;have hnb67:=NB339_319.out;have hnc67:=NB319_339.out;have hnb68:=NB339_320.out;have hnc68:=NB320_339.out;have hnb69:=NB339_337.out;have hnc69:=NB337_339.out;have hcz70_0:w66.cell? ⟨gb339,0,none⟩=some (.int .i64 0):=(blk_cell BK339.out 0).trans rfl;have hcz70_1:w66.cell? ⟨gb339,1,none⟩=some (.int .i64 0):=(blk_cell BK339.out 1).trans rfl;have hcz70_2:w66.cell? ⟨gb339,2,none⟩=some (.int .i64 0):=(blk_cell BK339.out 2).trans rfl;have hfz70_0:=blk_frozen BK339.out 0;have hfz70_1:=blk_frozen BK339.out 1;have hfz70_2:=blk_frozen BK339.out 2;have hnb71:=NB337_319.out;have hnc71:=NB319_337.out;have hnb72:=NB337_320.out;have hnc72:=NB320_337.out;have hcz73_0:w66.cell? ⟨gb337,0,none⟩=some (.int .i64 ((rd_T97 t324 x57_2).f0)):=(blk_cell BK337.out 0).trans rfl;have hcz73_1:w66.cell? ⟨gb337,1,none⟩=some (.int .i64 ((rd_T97 t324 x57_2).f1)):=(blk_cell BK337.out 1).trans rfl;have hcz73_2:w66.cell? ⟨gb337,2,none⟩=some (.int .i64 ((rd_T97 t324 x57_2).f2)):=(blk_cell BK337.out 2).trans rfl;have hfz73_0:=blk_frozen BK337.out 0;have hfz73_1:=blk_frozen BK337.out 1;have hfz73_2:=blk_frozen BK337.out 2;obtain⟨Ao74,co74,eo74⟩:=Kd.R_slice HO_15.out;subst eo74;have p340:0≤(x63_3:Int):=od;have q340:x63_3<(x15_2.length:Int):=od;obtain⟨ad340,e340,hx340_0⟩:=Kd.at_bool (Kd.R_reads' HO_15.out).2.2 x63_3 p340 q340;(try rw[← Nbq55.out] at hx340_0);cases e340;have hn340_0:ad340.block≠gb339:=Kd.own_blk (Kd.R_ne HO_15.out BK339.out (by decide));have hn340_1:ad340.block≠gb339:=Kd.own_blk (Kd.R_ne HO_15.out BK339.out (by decide));have hn340_2:ad340.block≠gb339:=Kd.own_blk (Kd.R_ne HO_15.out BK339.out (by decide));replace hx340_0:=(cell_far (p:=⟨gb339,0,none⟩) (by first|(rw[add_block];exact hn340_0)|(show(Addr.add _ _).block≠_;rw[add_block];exact hn340_0)|exact hn340_0) (.int .i64 ((rd_T95 l1 x63_3).f0))).trans hx340_0;replace hx340_0:=(cell_far (p:=⟨gb339,1,none⟩) (by first|(rw[add_block];exact hn340_1)|(show(Addr.add _ _).block≠_;rw[add_block];exact hn340_1)|exact hn340_1) (.int .i64 ((rd_T95 l1 x63_3).f1))).trans hx340_0;replace hx340_0:=(cell_far (p:=⟨gb339,2,none⟩) (by first|(rw[add_block];exact hn340_2)|(show(Addr.add _ _).block≠_;rw[add_block];exact hn340_2)|exact hn340_2) (.int .i64 ((rd_T95 l1 x63_3).f2))).trans hx340_0;(try have hy340_0:=fun(n_:Nat)=>(show(((((w66.drewN n_).setCell ⟨gb339,0,none⟩ (.int .i64 ((rd_T95 l1 x63_3).f0))).setCell ⟨gb339,1,none⟩ (.int .i64 ((rd_T95 l1 x63_3).f1))).setCell ⟨gb339,2,none⟩ (.int .i64 ((rd_T95 l1 x63_3).f2)))).cell? _=some _ from hx340_0));clear hn340_0 hn340_1 hn340_2;replace p340:=eq_true p340;replace q340:=eq_true q340))))
                     go_roundg k3
                     case measure=>have:=HJ5.out;have:=HK2.out;have:=HK3.out;omega
                     case rel=>exact⟨(x63_3),(wrap64 (x63_3+1)),fin2,fin2,H',⟨by have:=HJ5.out;have:=HK2.out;have:=HK3.out;omega⟩,⟨by(with_reducible repeat(first|apply Kd.S_alloc|apply Kd.S_drewN|apply Kd.S_drew));exact Kd.S_mono (Kd.S_far (p:=⟨gb339,2,none⟩) (Kd.S_far (p:=⟨gb339,1,none⟩) (Kd.S_far (p:=⟨gb339,0,none⟩) (Kd.S_types HO_14.out BK339.out (by decide)) (fun _ hk=>hk.2) (.int .i64 ((rd_T95 l1 x63_3).f0))) (fun _ hk=>hk.2) (.int .i64 ((rd_T95 l1 x63_3).f1))) (fun _ hk=>hk.2) (.int .i64 ((rd_T95 l1 x63_3).f2))) (fun _ hk=>trivial)⟩,⟨by(with_reducible repeat(first|apply Kd.R_alloc|apply Kd.R_drewN|apply Kd.R_drew));exact Kd.R_mono (Kd.R_far (p:=⟨gb339,2,none⟩) (Kd.R_far (p:=⟨gb339,1,none⟩) (Kd.R_far (p:=⟨gb339,0,none⟩) (Kd.R_types HO_15.out BK339.out (by decide)) (fun _ hk=>hk.2) (.int .i64 ((rd_T95 l1 x63_3).f0))) (fun _ hk=>hk.2) (.int .i64 ((rd_T95 l1 x63_3).f1))) (fun _ hk=>hk.2) (.int .i64 ((rd_T95 l1 x63_3).f2))) (fun _ hk=>trivial)⟩,⟨by(with_reducible repeat(first|apply Kd.R_alloc|apply Kd.R_drewN|apply Kd.R_drew));exact Kd.R_mono (Kd.R_far (p:=⟨gb339,2,none⟩) (Kd.R_far (p:=⟨gb339,1,none⟩) (Kd.R_far (p:=⟨gb339,0,none⟩) (Kd.R_types HO_55.out BK339.out (by decide)) (fun _ hk=>hk.2) (.int .i64 ((rd_T95 l1 x63_3).f0))) (fun _ hk=>hk.2) (.int .i64 ((rd_T95 l1 x63_3).f1))) (fun _ hk=>hk.2) (.int .i64 ((rd_T95 l1 x63_3).f2))) (fun _ hk=>hk.1)⟩,⟨by(with_reducible repeat(first|refine bN_ ?_ _|refine bD_ ?_|refine bA_ ?_ _));refine blk_far ?_ NB319_339.out _;(with_reducible repeat(first|refine bN_ ?_ _|refine bD_ ?_|refine bA_ ?_ _));refine blk_far ?_ NB319_339.out _;(with_reducible repeat(first|refine bN_ ?_ _|refine bD_ ?_|refine bA_ ?_ _));refine blk_far ?_ NB319_339.out _;exact bup BK319.out⟩,⟨by(with_reducible repeat(first|refine bN_ ?_ _|refine bD_ ?_|refine bA_ ?_ _));refine blk_far ?_ NB320_339.out _;(with_reducible repeat(first|refine bN_ ?_ _|refine bD_ ?_|refine bA_ ?_ _));refine blk_far ?_ NB320_339.out _;(with_reducible repeat(first|refine bN_ ?_ _|refine bD_ ?_|refine bA_ ?_ _));refine blk_far ?_ NB320_339.out _;exact bup BK320.out⟩,⟨by(with_reducible repeat(first|refine bN_ ?_ _|refine bD_ ?_|refine bA_ ?_ _));refine blk_far ?_ NB337_339.out _;(with_reducible repeat(first|refine bN_ ?_ _|refine bD_ ?_|refine bA_ ?_ _));refine blk_far ?_ NB337_339.out _;(with_reducible repeat(first|refine bN_ ?_ _|refine bD_ ?_|refine bA_ ?_ _));refine blk_far ?_ NB337_339.out _;exact bup BK337.out⟩,⟨bl⟩⟩
                   ·rw[if_neg c54] at H
                    exact absurd H (by simp)
                  ·rw[if_neg c53] at H
                   have c53b0:(((rd_T95 l1 x63_3).f0) == ((rd_T97 t324 x57_2).f0))=false:=beq_eq_false_iff_ne.mpr c53
                   have c53b1:(((rd_T95 l1 x63_3).f0) != ((rd_T97 t324 x57_2).f0))=true:=bne_iff_ne.mpr c53
                   have H':=am H
                   clear H
                   have p338:0≤(x63_3:Int):=od
                   have q338:x63_3<(l1.length:Int):=od
                   obtain⟨ad338,e338,hx338_0,hx338_1,hx338_2⟩:=at_T95 HR1.out x63_3 p338 q338
                   cases e338
                   replace hx338_0:=(HB.out.cell (World.block_lt_of_cell? w _ hx338_0)).trans hx338_0
                   replace hx338_1:=(HB.out.cell (World.block_lt_of_cell? w _ hx338_1)).trans hx338_1
                   replace hx338_2:=(HB.out.cell (World.block_lt_of_cell? w _ hx338_2)).trans hx338_2
                   replace p338:=eq_true p338
                   replace q338:=eq_true q338
                   iterate 3 ((try go_quiet (fail));(try go_wp2_with (first|((with_reducible refine gate_dst (N:=20) rfl ?_);refine box_event ?hg (N:=20) ?hd (cs := #[.int .i64 0,.int .i64 0,.int .i64 0]) (t:=95) ?hr ?_;(case hd=>rfl);(case hg=>rfl);(case hr=>first|(go_simp;done)|(go_simp;rfl));intro gb339 hg w75 hbox hb;have n0_:=am (Kd.S_below (by(with_reducible repeat(first|apply Kd.S_alloc|apply Kd.S_drewN|apply Kd.S_drew));exact HO_14.out) hb);have n1_:=am (Kd.R_below (rup HO_15.out) hb);have n2_:=am (Kd.R_below (rup HO_55.out) hb);have n3_:=am (blk_below (g:=gb319) (o := .cells #[.slice A0_0 l0_0.length c0_0,.int .i64 a0_1] 44 (0,0)) (bup BK319.out) hb);have n4_:=am (blk_below (g:=gb320) (o := .cells #[.int .i64 a3_0,.int .i64 a3_1,.int .i64 a3_2] 48 (0,0)) (bup BK320.out) hb);have n5_:=am (blk_below (g:=gb337) (o := .cells #[.int .i64 ((rd_T97 t324 x57_2).f0),.int .i64 ((rd_T97 t324 x57_2).f1),.int .i64 ((rd_T97 t324 x57_2).f2)] 97 (0,0)) (bup BK337.out) hb);have n6_:=am (below_step bl hb);have n7_:=am (hbox);have n8_:=am ((by rw[hg];exact(below_size bl):w.heap.size≤gb339));have n9_:=am ((by rw[hg];exact(below_size bl):w.heap.size≤gb339));have n10_:=am ((by rw[hg];exact Nat.ne_of_lt (blk_lt (g:=gb319) (o := .cells #[.slice A0_0 l0_0.length c0_0,.int .i64 a0_1] 44 (0,0)) (bup BK319.out)):gb319≠gb339));have n11_:=am ((by rw[hg];exact Nat.ne_of_gt (blk_lt (g:=gb319) (o := .cells #[.slice A0_0 l0_0.length c0_0,.int .i64 a0_1] 44 (0,0)) (bup BK319.out)):gb339≠gb319));have n12_:=am ((by rw[hg];exact Nat.ne_of_lt (blk_lt (g:=gb320) (o := .cells #[.int .i64 a3_0,.int .i64 a3_1,.int .i64 a3_2] 48 (0,0)) (bup BK320.out)):gb320≠gb339));have n13_:=am ((by rw[hg];exact Nat.ne_of_gt (blk_lt (g:=gb320) (o := .cells #[.int .i64 a3_0,.int .i64 a3_1,.int .i64 a3_2] 48 (0,0)) (bup BK320.out)):gb339≠gb320));have n14_:=am ((by rw[hg];exact Nat.ne_of_lt (blk_lt (g:=gb337) (o := .cells #[.int .i64 ((rd_T97 t324 x57_2).f0),.int .i64 ((rd_T97 t324 x57_2).f1),.int .i64 ((rd_T97 t324 x57_2).f2)] 97 (0,0)) (bup BK337.out)):gb337≠gb339));have n15_:=am ((by rw[hg];exact Nat.ne_of_gt (blk_lt (g:=gb337) (o := .cells #[.int .i64 ((rd_T97 t324 x57_2).f0),.int .i64 ((rd_T97 t324 x57_2).f1),.int .i64 ((rd_T97 t324 x57_2).f2)] 97 (0,0)) (bup BK337.out)):gb339≠gb337));clear HO_14 HO_15 HO_55 BK319 BK320 BK337 HB;have HO_14:=n0_;have HO_15:=n1_;have HO_55:=n2_;have BK319:=n3_;have BK320:=n4_;have BK337:=n5_;have HB:=n6_;have BK339:=n7_;have GW339:=n8_;have GE339:=n9_;have NB319_339:=n10_;have NB339_319:=n11_;have NB320_339:=n12_;have NB339_320:=n13_;have NB337_339:=n14_;have NB339_337:=n15_;clear n0_ n1_ n2_ n3_ n4_ n5_ n6_ n7_ n8_ n9_ n10_ n11_ n12_ n13_ n14_ n15_ hb hbox hg;have hnb76:=NB339_319.out;have hnc76:=NB319_339.out;have hnb77:=NB339_320.out;have hnc77:=NB320_339.out;have hnb78:=NB339_337.out;have hnc78:=NB337_339.out;have hcz79_0:w75.cell? ⟨gb339,0,none⟩=some (.int .i64 0):=(blk_cell BK339.out 0).trans rfl;have hcz79_1:w75.cell? ⟨gb339,1,none⟩=some (.int .i64 0):=(blk_cell BK339.out 1).trans rfl;have hcz79_2:w75.cell? ⟨gb339,2,none⟩=some (.int .i64 0):=(blk_cell BK339.out 2).trans rfl;have hfz79_0:=blk_frozen BK339.out 0;have hfz79_1:=blk_frozen BK339.out 1;have hfz79_2:=blk_frozen BK339.out 2;have hnb80:=NB337_319.out;have hnc80:=NB319_337.out;have hnb81:=NB337_320.out;have hnc81:=NB320_337.out;have hcz82_0:w75.cell? ⟨gb337,0,none⟩=some (.int .i64 ((rd_T97 t324 x57_2).f0)):=(blk_cell BK337.out 0).trans rfl;have hcz82_1:w75.cell? ⟨gb337,1,none⟩=some (.int .i64 ((rd_T97 t324 x57_2).f1)):=(blk_cell BK337.out 1).trans rfl;have hcz82_2:w75.cell? ⟨gb337,2,none⟩=some (.int .i64 ((rd_T97 t324 x57_2).f2)):=(blk_cell BK337.out 2).trans rfl;have hfz82_0:=blk_frozen BK337.out 0;have hfz82_1:=blk_frozen BK337.out 1;have hfz82_2:=blk_frozen BK337.out 2))))
                   go_roundg k3
                   case measure=>have:=HJ5.out;have:=HK2.out;have:=HK3.out;omega
                   case rel=>exact⟨(x18_3),(wrap64 (x63_3+1)),fin2,fin2,H',⟨by have:=HJ5.out;have:=HK2.out;have:=HK3.out;omega⟩,⟨by(with_reducible repeat(first|apply Kd.S_alloc|apply Kd.S_drewN|apply Kd.S_drew));exact Kd.S_mono (Kd.S_far (p:=⟨gb339,2,none⟩) (Kd.S_far (p:=⟨gb339,1,none⟩) (Kd.S_far (p:=⟨gb339,0,none⟩) (Kd.S_types HO_14.out BK339.out (by decide)) (fun _ hk=>hk.2) (.int .i64 ((rd_T95 l1 x63_3).f0))) (fun _ hk=>hk.2) (.int .i64 ((rd_T95 l1 x63_3).f1))) (fun _ hk=>hk.2) (.int .i64 ((rd_T95 l1 x63_3).f2))) (fun _ hk=>trivial)⟩,⟨by(with_reducible repeat(first|apply Kd.R_alloc|apply Kd.R_drewN|apply Kd.R_drew));exact Kd.R_mono (Kd.R_far (p:=⟨gb339,2,none⟩) (Kd.R_far (p:=⟨gb339,1,none⟩) (Kd.R_far (p:=⟨gb339,0,none⟩) (Kd.R_types HO_15.out BK339.out (by decide)) (fun _ hk=>hk.2) (.int .i64 ((rd_T95 l1 x63_3).f0))) (fun _ hk=>hk.2) (.int .i64 ((rd_T95 l1 x63_3).f1))) (fun _ hk=>hk.2) (.int .i64 ((rd_T95 l1 x63_3).f2))) (fun _ hk=>trivial)⟩,⟨by(with_reducible repeat(first|apply Kd.R_alloc|apply Kd.R_drewN|apply Kd.R_drew));exact Kd.R_mono (Kd.R_far (p:=⟨gb339,2,none⟩) (Kd.R_far (p:=⟨gb339,1,none⟩) (Kd.R_far (p:=⟨gb339,0,none⟩) (Kd.R_types HO_55.out BK339.out (by decide)) (fun _ hk=>hk.2) (.int .i64 ((rd_T95 l1 x63_3).f0))) (fun _ hk=>hk.2) (.int .i64 ((rd_T95 l1 x63_3).f1))) (fun _ hk=>hk.2) (.int .i64 ((rd_T95 l1 x63_3).f2))) (fun _ hk=>hk.1)⟩,⟨by(with_reducible repeat(first|refine bN_ ?_ _|refine bD_ ?_|refine bA_ ?_ _));refine blk_far ?_ NB319_339.out _;(with_reducible repeat(first|refine bN_ ?_ _|refine bD_ ?_|refine bA_ ?_ _));refine blk_far ?_ NB319_339.out _;(with_reducible repeat(first|refine bN_ ?_ _|refine bD_ ?_|refine bA_ ?_ _));refine blk_far ?_ NB319_339.out _;exact bup BK319.out⟩,⟨by(with_reducible repeat(first|refine bN_ ?_ _|refine bD_ ?_|refine bA_ ?_ _));refine blk_far ?_ NB320_339.out _;(with_reducible repeat(first|refine bN_ ?_ _|refine bD_ ?_|refine bA_ ?_ _));refine blk_far ?_ NB320_339.out _;(with_reducible repeat(first|refine bN_ ?_ _|refine bD_ ?_|refine bA_ ?_ _));refine blk_far ?_ NB320_339.out _;exact bup BK320.out⟩,⟨by(with_reducible repeat(first|refine bN_ ?_ _|refine bD_ ?_|refine bA_ ?_ _));refine blk_far ?_ NB337_339.out _;(with_reducible repeat(first|refine bN_ ?_ _|refine bD_ ?_|refine bA_ ?_ _));refine blk_far ?_ NB337_339.out _;(with_reducible repeat(first|refine bN_ ?_ _|refine bD_ ?_|refine bA_ ?_ _));refine blk_far ?_ NB337_339.out _;exact bup BK337.out⟩,⟨bl⟩⟩
                 ·rw[if_neg c52] at H
                  have c52b0:decide (x18_3<0)=false:=decide_eq_false c52
                  clear c52
                  have H':=am H
                  clear H
                  have p338:0≤(x63_3:Int):=od
                  have q338:x63_3<(l1.length:Int):=od
                  obtain⟨ad338,e338,hx338_0,hx338_1,hx338_2⟩:=at_T95 HR1.out x63_3 p338 q338
                  cases e338
                  replace hx338_0:=(HB.out.cell (World.block_lt_of_cell? w _ hx338_0)).trans hx338_0
                  replace hx338_1:=(HB.out.cell (World.block_lt_of_cell? w _ hx338_1)).trans hx338_1
                  replace hx338_2:=(HB.out.cell (World.block_lt_of_cell? w _ hx338_2)).trans hx338_2
                  replace p338:=eq_true p338
                  replace q338:=eq_true q338
                  iterate 3 ((try go_quiet (fail));(try go_wp2_with (first|((with_reducible refine gate_dst (N:=20) rfl ?_);refine box_event ?hg (N:=20) ?hd (cs := #[.int .i64 0,.int .i64 0,.int .i64 0]) (t:=95) ?hr ?_;(case hd=>rfl);(case hg=>rfl);(case hr=>first|(go_simp;done)|(go_simp;rfl));intro gb339 hg w83 hbox hb;have n0_:=am (Kd.S_below (by(with_reducible repeat(first|apply Kd.S_alloc|apply Kd.S_drewN|apply Kd.S_drew));exact HO_14.out) hb);have n1_:=am (Kd.R_below (rup HO_15.out) hb);have n2_:=am (Kd.R_below (rup HO_55.out) hb);have n3_:=am (blk_below (g:=gb319) (o := .cells #[.slice A0_0 l0_0.length c0_0,.int .i64 a0_1] 44 (0,0)) (bup BK319.out) hb);have n4_:=am (blk_below (g:=gb320) (o := .cells #[.int .i64 a3_0,.int .i64 a3_1,.int .i64 a3_2] 48 (0,0)) (bup BK320.out) hb);have n5_:=am (blk_below (g:=gb337) (o := .cells #[.int .i64 ((rd_T97 t324 x57_2).f0),.int .i64 ((rd_T97 t324 x57_2).f1),.int .i64 ((rd_T97 t324 x57_2).f2)] 97 (0,0)) (bup BK337.out) hb);have n6_:=am (below_step bl hb);have n7_:=am (hbox);have n8_:=am ((by rw[hg];exact(below_size bl):w.heap.size≤gb339));have n9_:=am ((by rw[hg];exact(below_size bl):w.heap.size≤gb339));have n10_:=am ((by rw[hg];exact Nat.ne_of_lt (blk_lt (g:=gb319) (o := .cells #[.slice A0_0 l0_0.length c0_0,.int .i64 a0_1] 44 (0,0)) (bup BK319.out)):gb319≠gb339));have n11_:=am ((by rw[hg];exact Nat.ne_of_gt (blk_lt (g:=gb319) (o := .cells #[.slice A0_0 l0_0.length c0_0,.int .i64 a0_1] 44 (0,0)) (bup BK319.out)):gb339≠gb319));have n12_:=am ((by rw[hg];exact Nat.ne_of_lt (blk_lt (g:=gb320) (o := .cells #[.int .i64 a3_0,.int .i64 a3_1,.int .i64 a3_2] 48 (0,0)) (bup BK320.out)):gb320≠gb339));have n13_:=am ((by rw[hg];exact Nat.ne_of_gt (blk_lt (g:=gb320) (o := .cells #[.int .i64 a3_0,.int .i64 a3_1,.int .i64 a3_2] 48 (0,0)) (bup BK320.out)):gb339≠gb320));have n14_:=am ((by rw[hg];exact Nat.ne_of_lt (blk_lt (g:=gb337) (o := .cells #[.int .i64 ((rd_T97 t324 x57_2).f0),.int .i64 ((rd_T97 t324 x57_2).f1),.int .i64 ((rd_T97 t324 x57_2).f2)] 97 (0,0)) (bup BK337.out)):gb337≠gb339));have n15_:=am ((by rw[hg];exact Nat.ne_of_gt (blk_lt (g:=gb337) (o := .cells #[.int .i64 ((rd_T97 t324 x57_2).f0),.int .i64 ((rd_T97 t324 x57_2).f1),.int .i64 ((rd_T97 t324 x57_2).f2)] 97 (0,0)) (bup BK337.out)):gb339≠gb337));clear HO_14 HO_15 HO_55 BK319 BK320 BK337 HB;have HO_14:=n0_;have HO_15:=n1_;have HO_55:=n2_;have BK319:=n3_;have BK320:=n4_;have BK337:=n5_;have HB:=n6_;have BK339:=n7_;have GW339:=n8_;have GE339:=n9_;have NB319_339:=n10_;have NB339_319:=n11_;have NB320_339:=n12_;have NB339_320:=n13_;have NB337_339:=n14_;have NB339_337:=n15_;clear n0_ n1_ n2_ n3_ n4_ n5_ n6_ n7_ n8_ n9_ n10_ n11_ n12_ n13_ n14_ n15_ hb hbox hg;have hnb84:=NB339_319.out;have hnc84:=NB319_339.out;have hnb85:=NB339_320.out;have hnc85:=NB320_339.out;have hnb86:=NB339_337.out;have hnc86:=NB337_339.out;have hcz87_0:w83.cell? ⟨gb339,0,none⟩=some (.int .i64 0):=(blk_cell BK339.out 0).trans rfl;have hcz87_1:w83.cell? ⟨gb339,1,none⟩=some (.int .i64 0):=(blk_cell BK339.out 1).trans rfl;have hcz87_2:w83.cell? ⟨gb339,2,none⟩=some (.int .i64 0):=(blk_cell BK339.out 2).trans rfl;have hfz87_0:=blk_frozen BK339.out 0;have hfz87_1:=blk_frozen BK339.out 1;have hfz87_2:=blk_frozen BK339.out 2))))
                  go_roundg k3
                  case measure=>have:=HJ5.out;have:=HK2.out;have:=HK3.out;omega
                  case rel=>exact⟨(x18_3),(wrap64 (x63_3+1)),fin2,fin2,H',⟨by have:=HJ5.out;have:=HK2.out;have:=HK3.out;omega⟩,⟨by(with_reducible repeat(first|apply Kd.S_alloc|apply Kd.S_drewN|apply Kd.S_drew));exact Kd.S_mono (Kd.S_far (p:=⟨gb339,2,none⟩) (Kd.S_far (p:=⟨gb339,1,none⟩) (Kd.S_far (p:=⟨gb339,0,none⟩) (Kd.S_types HO_14.out BK339.out (by decide)) (fun _ hk=>hk.2) (.int .i64 ((rd_T95 l1 x63_3).f0))) (fun _ hk=>hk.2) (.int .i64 ((rd_T95 l1 x63_3).f1))) (fun _ hk=>hk.2) (.int .i64 ((rd_T95 l1 x63_3).f2))) (fun _ hk=>trivial)⟩,⟨by(with_reducible repeat(first|apply Kd.R_alloc|apply Kd.R_drewN|apply Kd.R_drew));exact Kd.R_mono (Kd.R_far (p:=⟨gb339,2,none⟩) (Kd.R_far (p:=⟨gb339,1,none⟩) (Kd.R_far (p:=⟨gb339,0,none⟩) (Kd.R_types HO_15.out BK339.out (by decide)) (fun _ hk=>hk.2) (.int .i64 ((rd_T95 l1 x63_3).f0))) (fun _ hk=>hk.2) (.int .i64 ((rd_T95 l1 x63_3).f1))) (fun _ hk=>hk.2) (.int .i64 ((rd_T95 l1 x63_3).f2))) (fun _ hk=>trivial)⟩,⟨by(with_reducible repeat(first|apply Kd.R_alloc|apply Kd.R_drewN|apply Kd.R_drew));exact Kd.R_mono (Kd.R_far (p:=⟨gb339,2,none⟩) (Kd.R_far (p:=⟨gb339,1,none⟩) (Kd.R_far (p:=⟨gb339,0,none⟩) (Kd.R_types HO_55.out BK339.out (by decide)) (fun _ hk=>hk.2) (.int .i64 ((rd_T95 l1 x63_3).f0))) (fun _ hk=>hk.2) (.int .i64 ((rd_T95 l1 x63_3).f1))) (fun _ hk=>hk.2) (.int .i64 ((rd_T95 l1 x63_3).f2))) (fun _ hk=>hk.1)⟩,⟨by(with_reducible repeat(first|refine bN_ ?_ _|refine bD_ ?_|refine bA_ ?_ _));refine blk_far ?_ NB319_339.out _;(with_reducible repeat(first|refine bN_ ?_ _|refine bD_ ?_|refine bA_ ?_ _));refine blk_far ?_ NB319_339.out _;(with_reducible repeat(first|refine bN_ ?_ _|refine bD_ ?_|refine bA_ ?_ _));refine blk_far ?_ NB319_339.out _;exact bup BK319.out⟩,⟨by(with_reducible repeat(first|refine bN_ ?_ _|refine bD_ ?_|refine bA_ ?_ _));refine blk_far ?_ NB320_339.out _;(with_reducible repeat(first|refine bN_ ?_ _|refine bD_ ?_|refine bA_ ?_ _));refine blk_far ?_ NB320_339.out _;(with_reducible repeat(first|refine bN_ ?_ _|refine bD_ ?_|refine bA_ ?_ _));refine blk_far ?_ NB320_339.out _;exact bup BK320.out⟩,⟨by(with_reducible repeat(first|refine bN_ ?_ _|refine bD_ ?_|refine bA_ ?_ _));refine blk_far ?_ NB337_339.out _;(with_reducible repeat(first|refine bN_ ?_ _|refine bD_ ?_|refine bA_ ?_ _));refine blk_far ?_ NB337_339.out _;(with_reducible repeat(first|refine bN_ ?_ _|refine bD_ ?_|refine bA_ ?_ _));refine blk_far ?_ NB337_339.out _;exact bup BK337.out⟩,⟨bl⟩⟩
                ·rw[if_neg c51] at H
                 exact absurd H (by simp)
               ·rw[if_neg c50] at H
                exact absurd H (by simp)
              ·rw[if_neg c49] at H
               have c49b0:decide (x63_3<(l1.length:Int))=false:=decide_eq_false c49
               clear c49
               by_cases c88:x18_3<0
               ·rw[if_pos c88] at H
                have c88b0:decide (x18_3<0)=true:=decide_eq_true c88
                clear c88
                simp only[Option.some.injEq,Prod.mk.injEq] at H
                obtain⟨rfl,rfl⟩:=H
                go_wp2
                repeat(go_quiet (fail);try go_wp2)
                go_ret2
                exact⟨fin1,bl⟩
               ·rw[if_neg c88] at H
                have c88b0:decide (x18_3<0)=false:=decide_eq_false c88
                clear c88
                by_cases c89:0≤x18_3
                ·rw[if_pos c89] at H
                 have c89b0:decide (0≤x18_3)=true:=decide_eq_true c89
                 clear c89
                 by_cases c90:x18_3<(t330.length:Int)
                 ·rw[if_pos c90] at H
                  have c90b0:decide (x18_3<(t330.length:Int))=true:=decide_eq_true c90
                  clear c90
                  by_cases c91:0<((rd_L6 t330 x18_3).length:Int)
                  ·rw[if_pos c91] at H
                   have c91b0:decide (0<((rd_L6 t330 x18_3).length:Int))=true:=decide_eq_true c91
                   have c91b1:decide (0<(rd_L6 t330 x18_3).length)=true:=decide_eq_true (by omega)
                   clear c91
                   by_cases c92:((rd_T97 t324 x57_2).f1)<(rd (rd_L6 t330 x18_3) 0)
                   ·rw[if_pos c92] at H
                    have c92b0:decide (((rd_T97 t324 x57_2).f1)<(rd (rd_L6 t330 x18_3) 0))=true:=decide_eq_true c92
                    clear c92
                    simp only[Option.some.injEq,Prod.mk.injEq] at H
                    obtain⟨rfl,rfl⟩:=H
                    have hnb93:=NB337_319.out
                    have hnc93:=NB319_337.out
                    have hnb94:=NB337_320.out
                    have hnc94:=NB320_337.out
                    have hcz95_0:wr.cell? ⟨gb337,0,none⟩=some (.int .i64 ((rd_T97 t324 x57_2).f0)):=(blk_cell BK337.out 0).trans rfl
                    have hcz95_1:wr.cell? ⟨gb337,1,none⟩=some (.int .i64 ((rd_T97 t324 x57_2).f1)):=(blk_cell BK337.out 1).trans rfl
                    have hcz95_2:wr.cell? ⟨gb337,2,none⟩=some (.int .i64 ((rd_T97 t324 x57_2).f2)):=(blk_cell BK337.out 2).trans rfl
                    have hfz95_0:=blk_frozen BK337.out 0
                    have hfz95_1:=blk_frozen BK337.out 1
                    have hfz95_2:=blk_frozen BK337.out 2
                    obtain⟨Ao96,co96,eo96⟩:=Kd.S_slice HO_14.out
                    subst eo96
                    have p341:0≤(x18_3:Int):=od
                    have q341:x18_3<(t330.length:Int):=od
                    obtain⟨ad341,A341_0,c341_0,e341,hx341_0,hl341_0,hi341_0⟩:=at_L6 (Kd.S_reads' HO_14.out).2.2 x18_3 p341 q341
                    cases e341
                    obtain⟨ce341,hce341,hMe341,hcc341⟩:=Kd.S_get HO_14.out [] x18_3 p341 (by first|exact q341|exact od|(have e_:=(Kd.S_reads' HO_14.out).1;omega))
                    obtain⟨ve341_0,rfl,ge341_0⟩:=hMe341
                    have hv341_0:=hcc341 0 _ rfl
                    rw[Nat.add_zero,show((Kd.slice 3 (Kd.int .i64))).sz=1 from rfl,Nat.mul_one] at hv341_0
                    replace hv341_0:=Option.some.inj (hv341_0.symm.trans hx341_0)
                    rw[hv341_0] at ge341_0
                    have HL341_0:=am (show Kd.R (Kd.int .i64) 3 _ _ _ _ (rd_L6 t330 x18_3) from ge341_0)
                    clear hv341_0 ge341_0
                    clear hcc341 hce341
                    have HR341_0:=am hi341_0
                    have HC341_0:=am hl341_0
                    clear hi341_0 hl341_0
                    replace p341:=eq_true p341
                    replace q341:=eq_true q341
                    have p342:0≤(0:Int):=(by omega)
                    have q342:0<((rd_L6 t330 x18_3).length:Int):=od
                    obtain⟨ad342,e342,hx342_0⟩:=Kd.at_int (by repeat(first|(with_reducible exact HR341_0.out)|(with_reducible refine Kd.C_alloc ?_ _)|(with_reducible refine Kd.C_drewN ?_ _)|(with_reducible refine Kd.C_drew ?_)|exact HR341_0.out)) 0 p342 q342
                    cases e342
                    have qi342:(0<(rd_L6 t330 x18_3).length)=True:=eq_true (by omega)
                    (try rw[show((0:Int)).toNat=0 from rfl] at hx342_0)
                    (try rw[Addr.add_zero'] at hx342_0)
                    replace p342:=eq_true p342
                    replace q342:=eq_true q342
                    go_wp2
                    repeat(go_quiet (fail);try go_wp2)
                    go_ret2
                    exact⟨fin1,bl⟩
                   ·rw[if_neg c92] at H
                    have c92b0:decide (((rd_T97 t324 x57_2).f1)<(rd (rd_L6 t330 x18_3) 0))=false:=decide_eq_false c92
                    clear c92
                    by_cases c97:1<((rd_L6 t330 x18_3).length:Int)
                    ·rw[if_pos c97] at H
                     have c97b0:decide (1<((rd_L6 t330 x18_3).length:Int))=true:=decide_eq_true c97
                     have c97b1:decide (1<(rd_L6 t330 x18_3).length)=true:=decide_eq_true (by omega)
                     clear c97
                     by_cases c98:((rd_T97 t324 x57_2).f1)>(rd (rd_L6 t330 x18_3) 1)
                     ·rw[if_pos c98] at H
                      have c98b0:decide ((rd (rd_L6 t330 x18_3) 1)<((rd_T97 t324 x57_2).f1))=true:=decide_eq_true c98
                      clear c98
                      simp only[Option.some.injEq,Prod.mk.injEq] at H
                      obtain⟨rfl,rfl⟩:=H
                      have hnb99:=NB337_319.out
                      have hnc99:=NB319_337.out
                      have hnb100:=NB337_320.out
                      have hnc100:=NB320_337.out
                      have hcz101_0:wr.cell? ⟨gb337,0,none⟩=some (.int .i64 ((rd_T97 t324 x57_2).f0)):=(blk_cell BK337.out 0).trans rfl
                      have hcz101_1:wr.cell? ⟨gb337,1,none⟩=some (.int .i64 ((rd_T97 t324 x57_2).f1)):=(blk_cell BK337.out 1).trans rfl
                      have hcz101_2:wr.cell? ⟨gb337,2,none⟩=some (.int .i64 ((rd_T97 t324 x57_2).f2)):=(blk_cell BK337.out 2).trans rfl
                      have hfz101_0:=blk_frozen BK337.out 0
                      have hfz101_1:=blk_frozen BK337.out 1
                      have hfz101_2:=blk_frozen BK337.out 2
                      obtain⟨Ao102,co102,eo102⟩:=Kd.S_slice HO_14.out
                      subst eo102
                      have p341:0≤(x18_3:Int):=od
                      have q341:x18_3<(t330.length:Int):=od
                      obtain⟨ad341,A341_0,c341_0,e341,hx341_0,hl341_0,hi341_0⟩:=at_L6 (Kd.S_reads' HO_14.out).2.2 x18_3 p341 q341
                      cases e341
                      obtain⟨ce341,hce341,hMe341,hcc341⟩:=Kd.S_get HO_14.out [] x18_3 p341 (by first|exact q341|exact od|(have e_:=(Kd.S_reads' HO_14.out).1;omega))
                      obtain⟨ve341_0,rfl,ge341_0⟩:=hMe341
                      have hv341_0:=hcc341 0 _ rfl
                      rw[Nat.add_zero,show((Kd.slice 3 (Kd.int .i64))).sz=1 from rfl,Nat.mul_one] at hv341_0
                      replace hv341_0:=Option.some.inj (hv341_0.symm.trans hx341_0)
                      rw[hv341_0] at ge341_0
                      have HL341_0:=am (show Kd.R (Kd.int .i64) 3 _ _ _ _ (rd_L6 t330 x18_3) from ge341_0)
                      clear hv341_0 ge341_0
                      clear hcc341 hce341
                      have HR341_0:=am hi341_0
                      have HC341_0:=am hl341_0
                      clear hi341_0 hl341_0
                      replace p341:=eq_true p341
                      replace q341:=eq_true q341
                      have p342:0≤(0:Int):=(by omega)
                      have q342:0<((rd_L6 t330 x18_3).length:Int):=od
                      obtain⟨ad342,e342,hx342_0⟩:=Kd.at_int (by repeat(first|(with_reducible exact HR341_0.out)|(with_reducible refine Kd.C_alloc ?_ _)|(with_reducible refine Kd.C_drewN ?_ _)|(with_reducible refine Kd.C_drew ?_)|exact HR341_0.out)) 0 p342 q342
                      cases e342
                      have qi342:(0<(rd_L6 t330 x18_3).length)=True:=eq_true (by omega)
                      (try rw[show((0:Int)).toNat=0 from rfl] at hx342_0)
                      (try rw[Addr.add_zero'] at hx342_0)
                      replace p342:=eq_true p342
                      replace q342:=eq_true q342
                      have p343:0≤(x18_3:Int):=od
                      have q343:x18_3<(t330.length:Int):=od
                      obtain⟨ad343,A343_0,c343_0,e343,hx343_0,hl343_0,hi343_0⟩:=at_L6 (Kd.S_reads' HO_14.out).2.2 x18_3 p343 q343
                      obtain rfl:ad341=ad343:=(by injection e343)
                      obtain⟨ce343,hce343,hMe343,hcc343⟩:=Kd.S_get HO_14.out [] x18_3 p343 (by first|exact q343|exact od|(have e_:=(Kd.S_reads' HO_14.out).1;omega))
                      obtain⟨ve343_0,rfl,ge343_0⟩:=hMe343
                      have hv343_0:=hcc343 0 _ rfl
                      rw[Nat.add_zero,show((Kd.slice 3 (Kd.int .i64))).sz=1 from rfl,Nat.mul_one] at hv343_0
                      replace hv343_0:=Option.some.inj (hv343_0.symm.trans hx343_0)
                      rw[hv343_0] at ge343_0
                      have HL343_0:=am (show Kd.R (Kd.int .i64) 3 _ _ _ _ (rd_L6 t330 x18_3) from ge343_0)
                      clear hv343_0 ge343_0
                      clear hcc343 hce343
                      have HR343_0:=am hi343_0
                      have HC343_0:=am hl343_0
                      clear hi343_0 hl343_0
                      replace p343:=eq_true p343
                      replace q343:=eq_true q343
                      have ea_:=Option.some.inj (hx341_0.symm.trans hx343_0)
                      injection ea_ with ea_ en_ ec_
                      subst ea_
                      subst ec_
                      clear en_
                      have p344:0≤(1:Int):=(by omega)
                      have q344:1<((rd_L6 t330 x18_3).length:Int):=od
                      obtain⟨ad344,e344,hx344_0⟩:=Kd.at_int (by repeat(first|(with_reducible exact HR343_0.out)|(with_reducible refine Kd.C_alloc ?_ _)|(with_reducible refine Kd.C_drewN ?_ _)|(with_reducible refine Kd.C_drew ?_)|exact HR343_0.out)) 1 p344 q344
                      cases e344
                      (try simp only[show(1:Int).toNat=1 from rfl,Nat.reduceMul,Nat.reduceEqDiff,Go.Addr.add,↓reduceIte] at hx344_0)
                      have qi344:(1<(rd_L6 t330 x18_3).length)=True:=eq_true (by omega)
                      (try rw[show((1:Int)).toNat=1 from rfl] at hx344_0)
                      replace p344:=eq_true p344
                      replace q344:=eq_true q344
                      go_wp2
                      repeat(go_quiet (fail);try go_wp2)
                      go_ret2
                      exact⟨fin1,bl⟩
                     ·rw[if_neg c98] at H
                      have c98b0:decide ((rd (rd_L6 t330 x18_3) 1)<((rd_T97 t324 x57_2).f1))=false:=decide_eq_false c98
                      clear c98
                      by_cases c103:x18_3<(x15_2.length:Int)
                      ·rw[if_pos c103] at H
                       have c103b0:decide (x18_3<(x15_2.length:Int))=true:=decide_eq_true c103
                       clear c103
                       obtain⟨y345,hy345⟩:∃ y_:List Bool,y_=(x15_2.set (x18_3:Int).toNat true):=⟨_,rfl⟩
                       replace H:(impl_PlaysAsPromised.l0 k3 l1 t330 y345 t324 (t324.length:Int) (wrap64 (x57_2+1)))=some (r1,r2):=by first|(rw[hy345];with_reducible exact H)|(have H2_:=(Option.bind_some _ _).symm.trans H;rw[hy345];with_reducible exact H2_)|(have H2_:=(Option.bind_some _ _).symm.trans H;with_reducible exact H2_)|with_reducible exact H|(rw[hy345];exact H)|exact H
                       have Ny345:=am hy345
                       clear hy345
                       have H':=am H
                       clear H
                       have hnb105:=NB337_319.out
                       have hnc105:=NB319_337.out
                       have hnb106:=NB337_320.out
                       have hnc106:=NB320_337.out
                       have hcz107_0:wr.cell? ⟨gb337,0,none⟩=some (.int .i64 ((rd_T97 t324 x57_2).f0)):=(blk_cell BK337.out 0).trans rfl
                       have hcz107_1:wr.cell? ⟨gb337,1,none⟩=some (.int .i64 ((rd_T97 t324 x57_2).f1)):=(blk_cell BK337.out 1).trans rfl
                       have hcz107_2:wr.cell? ⟨gb337,2,none⟩=some (.int .i64 ((rd_T97 t324 x57_2).f2)):=(blk_cell BK337.out 2).trans rfl
                       have hfz107_0:=blk_frozen BK337.out 0
                       have hfz107_1:=blk_frozen BK337.out 1
                       have hfz107_2:=blk_frozen BK337.out 2
                       obtain⟨Ao108,co108,eo108⟩:=Kd.S_slice HO_14.out
                       subst eo108
                       have p341:0≤(x18_3:Int):=od
                       have q341:x18_3<(t330.length:Int):=od
                       obtain⟨ad341,A341_0,c341_0,e341,hx341_0,hl341_0,hi341_0⟩:=at_L6 (Kd.S_reads' HO_14.out).2.2 x18_3 p341 q341
                       cases e341
                       obtain⟨ce341,hce341,hMe341,hcc341⟩:=Kd.S_get HO_14.out [] x18_3 p341 (by first|exact q341|exact od|(have e_:=(Kd.S_reads' HO_14.out).1;omega))
                       obtain⟨ve341_0,rfl,ge341_0⟩:=hMe341
                       have hv341_0:=hcc341 0 _ rfl
                       rw[Nat.add_zero,show((Kd.slice 3 (Kd.int .i64))).sz=1 from rfl,Nat.mul_one] at hv341_0
                       replace hv341_0:=Option.some.inj (hv341_0.symm.trans hx341_0)
                       rw[hv341_0] at ge341_0
                       have HL341_0:=am (show Kd.R (Kd.int .i64) 3 _ _ _ _ (rd_L6 t330 x18_3) from ge341_0)
                       clear hv341_0 ge341_0
                       clear hcc341 hce341
                       have HR341_0:=am hi341_0
                       have HC341_0:=am hl341_0
                       clear hi341_0 hl341_0
                       replace p341:=eq_true p341
                       replace q341:=eq_true q341
                       have p342:0≤(0:Int):=(by omega)
                       have q342:0<((rd_L6 t330 x18_3).length:Int):=od
                       obtain⟨ad342,e342,hx342_0⟩:=Kd.at_int (by repeat(first|(with_reducible exact HR341_0.out)|(with_reducible refine Kd.C_alloc ?_ _)|(with_reducible refine Kd.C_drewN ?_ _)|(with_reducible refine Kd.C_drew ?_)|exact HR341_0.out)) 0 p342 q342
                       cases e342
                       have qi342:(0<(rd_L6 t330 x18_3).length)=True:=eq_true (by omega)
                       (try rw[show((0:Int)).toNat=0 from rfl] at hx342_0)
                       (try rw[Addr.add_zero'] at hx342_0)
                       replace p342:=eq_true p342
                       replace q342:=eq_true q342
                       have p343:0≤(x18_3:Int):=od
                       have q343:x18_3<(t330.length:Int):=od
                       obtain⟨ad343,A343_0,c343_0,e343,hx343_0,hl343_0,hi343_0⟩:=at_L6 (Kd.S_reads' HO_14.out).2.2 x18_3 p343 q343
                       obtain rfl:ad341=ad343:=(by injection e343)
                       obtain⟨ce343,hce343,hMe343,hcc343⟩:=Kd.S_get HO_14.out [] x18_3 p343 (by first|exact q343|exact od|(have e_:=(Kd.S_reads' HO_14.out).1;omega))
                       obtain⟨ve343_0,rfl,ge343_0⟩:=hMe343
                       have hv343_0:=hcc343 0 _ rfl
                       rw[Nat.add_zero,show((Kd.slice 3 (Kd.int .i64))).sz=1 from rfl,Nat.mul_one] at hv343_0
                       replace hv343_0:=Option.some.inj (hv343_0.symm.trans hx343_0)
                       rw[hv343_0] at ge343_0
                       have HL343_0:=am (show Kd.R (Kd.int .i64) 3 _ _ _ _ (rd_L6 t330 x18_3) from ge343_0)
                       clear hv343_0 ge343_0
                       clear hcc343 hce343
                       have HR343_0:=am hi343_0
                       have HC343_0:=am hl343_0
                       clear hi343_0 hl343_0
                       replace p343:=eq_true p343
                       replace q343:=eq_true q343
                       have ea_:=Option.some.inj (hx341_0.symm.trans hx343_0)
                       injection ea_ with ea_ en_ ec_
                       subst ea_
                       subst ec_
                       clear en_
                       have p344:0≤(1:Int):=(by omega)
                       have q344:1<((rd_L6 t330 x18_3).length:Int):=od
                       obtain⟨ad344,e344,hx344_0⟩:=Kd.at_int (by repeat(first|(with_reducible exact HR343_0.out)|(with_reducible refine Kd.C_alloc ?_ _)|(with_reducible refine Kd.C_drewN ?_ _)|(with_reducible refine Kd.C_drew ?_)|exact HR343_0.out)) 1 p344 q344
                       cases e344
                       (try simp only[show(1:Int).toNat=1 from rfl,Nat.reduceMul,Nat.reduceEqDiff,Go.Addr.add,↓reduceIte] at hx344_0)
                       have qi344:(1<(rd_L6 t330 x18_3).length)=True:=eq_true (by omega)
                       (try rw[show((1:Int)).toNat=1 from rfl] at hx344_0)
                       replace p344:=eq_true p344
                       replace q344:=eq_true q344
                       have p104:0≤(x18_3:Int):=od
                       have q104:(x18_3:Int)<((x15_2.length:Int):Int):=od
                       obtain⟨go104,co104,eo104,gb104,gl104,cl104,HG104⟩:=Kd.R_form HO_15.out (by omega)
                       (first|cases eo104|(injection eo104 with ea_ en_ ec_;(first|subst ea_|(injection ea_ with ea_;subst ea_));subst ec_;clear en_))
                       have GB104:=am gb104
                       have GG104:=am HG104
                       clear gb104 gl104 HG104
                       obtain⟨hx104_0,hf104_0⟩:=Kd.R_celln false HO_15.out (x18_3:Int) p104 q104
                       replace p104:=eq_true p104
                       replace q104:=eq_true q104
                       have HP109:=Kd.R_putg HO_15.out (x18_3:Int) true
                       iterate 3 ((try go_quiet (first|((with_reducible refine gate_store (t:=4) (p:=112) rfl ?_);(try(rw[drewN_self wr];generalize hq_:World.drewN wr _=wr;have n0_:=am (Kd.S_at hq_ HO_14.out);have n1_:=am (Kd.R_at hq_ HO_15.out);have n2_:=am (Kd.R_at hq_ HO_55.out);have n3_:=am (Kd.R_at hq_ HL341_0.out);have n4_:=am (Kd.R_at hq_ HL343_0.out);have n5_:=am (blk_at hq_ BK319.out);have n6_:=am (blk_at hq_ BK320.out);have n7_:=am (blk_at hq_ BK337.out);have n8_:=am (below_at hq_ HB.out);clear hq_ HO_14 HO_15 HO_55 HL341_0 HL343_0 BK319 BK320 BK337 HB;have HO_14:=n0_;have HO_15:=n1_;have HO_55:=n2_;have HL341_0:=n3_;have HL343_0:=n4_;have BK319:=n5_;have BK320:=n6_;have BK337:=n7_;have HB:=n8_;clear n0_ n1_ n2_ n3_ n4_ n5_ n6_ n7_ n8_;(try(have HP109:=Kd.R_putg HO_15.out (x18_3:Int) true));(try(obtain⟨hx104_0,hf104_0⟩:=Kd.R_celln false HO_15.out (x18_3:Int) (of_eq_true p104) (of_eq_true q104)))));refine store_event (t:=4) (p:=112) (v:=?vo_w110) (w1:=(wr.setCell ⟨go104,(x18_3:Int).toNat,none⟩ (.bool true))) ?hg ?ho ?hn ?hr ?_;(case ho=>rfl);(case hg=>rfl);(case hn=>rfl);(case hr=>first|(go_simp;done)|(go_simp;rfl));intro w110 hw;have hg:wr.grownBy w110 (some go104):=(by rw[hw];exact HP109.2);have hp_:Kd.R Kd.bool 4 w110 w.heap.size (fun _=>True) (.slice (some ⟨go104,0,none⟩) x15_2.length co104) y345:=(by rw[hw,Ny345.out];exact HP109.1);clear HP109;have n0_:=am (Kd.S_over' (v:=(.slice (some ⟨go104,0,none⟩) x15_2.length co104)) (by(with_reducible repeat(first|apply Kd.S_alloc|apply Kd.S_drewN|apply Kd.S_drew));exact HO_14.out) (Kd.R_typed HO_15.out) (by decide) hg);have n1_:=am (hp_);have n2_:=am (Kd.R_over' (v:=(.slice (some ⟨go104,0,none⟩) x15_2.length co104)) (rup HO_55.out) (Kd.R_typed HO_15.out) (by decide) hg);have n3_:=am (blk_grown (g:=gb319) (o := .cells #[.slice A0_0 l0_0.length c0_0,.int .i64 a0_1] 44 (0,0)) (bup BK319.out) hg (Kd.R_ne HO_15.out BK319.out (by decide)));have n4_:=am (blk_grown (g:=gb320) (o := .cells #[.int .i64 a3_0,.int .i64 a3_1,.int .i64 a3_2] 48 (0,0)) (bup BK320.out) hg (Kd.R_ne HO_15.out BK320.out (by decide)));have n5_:=am (blk_grown (g:=gb337) (o := .cells #[.int .i64 ((rd_T97 t324 x57_2).f0),.int .i64 ((rd_T97 t324 x57_2).f1),.int .i64 ((rd_T97 t324 x57_2).f2)] 97 (0,0)) (bup BK337.out) hg (Kd.R_ne HO_15.out BK337.out (by decide)));have n6_:=am (Kd.R_over' (v:=(.slice (some ⟨go104,0,none⟩) x15_2.length co104)) (by(with_reducible repeat(first|apply Kd.R_alloc|apply Kd.R_drewN|apply Kd.R_drew));exact HL341_0.out) (Kd.R_typed HO_15.out) (by decide) hg);have n7_:=am (Kd.R_over' (v:=(.slice (some ⟨go104,0,none⟩) x15_2.length co104)) (by(with_reducible repeat(first|apply Kd.R_alloc|apply Kd.R_drewN|apply Kd.R_drew));exact HL343_0.out) (Kd.R_typed HO_15.out) (by decide) hg);have n8_:=am ((by rw[hw];exact below_set (HB.out) GB104.out:Below w.heap.size w w110));clear HO_14 HO_15 HO_55 BK319 BK320 BK337 HL341_0 HL343_0 HB;have HO_14:=n0_;have HO_15:=n1_;have HO_55:=n2_;have BK319:=n3_;have BK320:=n4_;have BK337:=n5_;have HL341_0:=n6_;have HL343_0:=n7_;have HB:=n8_;clear n0_ n1_ n2_ n3_ n4_ n5_ n6_ n7_ n8_ hg hw hp_)));(try go_wp2_with (first|((with_reducible refine gate_store (t:=4) (p:=112) rfl ?_);(try(rw[drewN_self wr];generalize hq_:World.drewN wr _=wr;have n0_:=am (Kd.S_at hq_ HO_14.out);have n1_:=am (Kd.R_at hq_ HO_15.out);have n2_:=am (Kd.R_at hq_ HO_55.out);have n3_:=am (Kd.R_at hq_ HL341_0.out);have n4_:=am (Kd.R_at hq_ HL343_0.out);have n5_:=am (blk_at hq_ BK319.out);have n6_:=am (blk_at hq_ BK320.out);have n7_:=am (blk_at hq_ BK337.out);have n8_:=am (below_at hq_ HB.out);clear hq_ HO_14 HO_15 HO_55 HL341_0 HL343_0 BK319 BK320 BK337 HB;have HO_14:=n0_;have HO_15:=n1_;have HO_55:=n2_;have HL341_0:=n3_;have HL343_0:=n4_;have BK319:=n5_;have BK320:=n6_;have BK337:=n7_;have HB:=n8_;clear n0_ n1_ n2_ n3_ n4_ n5_ n6_ n7_ n8_;(try(have HP109:=Kd.R_putg HO_15.out (x18_3:Int) true));(try(obtain⟨hx104_0,hf104_0⟩:=Kd.R_celln false HO_15.out (x18_3:Int) (of_eq_true p104) (of_eq_true q104)))));refine store_event (t:=4) (p:=112) (v:=?vo_w110) (w1:=(wr.setCell ⟨go104,(x18_3:Int).toNat,none⟩ (.bool true))) ?hg ?ho ?hn ?hr ?_;(case ho=>rfl);(case hg=>rfl);(case hn=>rfl);(case hr=>first|(go_simp;done)|(go_simp;rfl));intro w110 hw;have hg:wr.grownBy w110 (some go104):=(by rw[hw];exact HP109.2);have hp_:Kd.R Kd.bool 4 w110 w.heap.size (fun _=>True) (.slice (some ⟨go104,0,none⟩) x15_2.length co104) y345:=(by rw[hw,Ny345.out];exact HP109.1);clear HP109;have n0_:=am (Kd.S_over' (v:=(.slice (some ⟨go104,0,none⟩) x15_2.length co104)) (by(with_reducible repeat(first|apply Kd.S_alloc|apply Kd.S_drewN|apply Kd.S_drew));exact HO_14.out) (Kd.R_typed HO_15.out) (by decide) hg);have n1_:=am (hp_);have n2_:=am (Kd.R_over' (v:=(.slice (some ⟨go104,0,none⟩) x15_2.length co104)) (rup HO_55.out) (Kd.R_typed HO_15.out) (by decide) hg);have n3_:=am (blk_grown (g:=gb319) (o := .cells #[.slice A0_0 l0_0.length c0_0,.int .i64 a0_1] 44 (0,0)) (bup BK319.out) hg (Kd.R_ne HO_15.out BK319.out (by decide)));have n4_:=am (blk_grown (g:=gb320) (o := .cells #[.int .i64 a3_0,.int .i64 a3_1,.int .i64 a3_2] 48 (0,0)) (bup BK320.out) hg (Kd.R_ne HO_15.out BK320.out (by decide)));have n5_:=am (blk_grown (g:=gb337) (o := .cells #[.int .i64 ((rd_T97 t324 x57_2).f0),.int .i64 ((rd_T97 t324 x57_2).f1),.int .i64 ((rd_T97 t324 x57_2).f2)] 97 (0,0)) (bup BK337.out) hg (Kd.R_ne HO_15.out BK337.out (by decide)));have n6_:=am (Kd.R_over' (v:=(.slice (some ⟨go104,0,none⟩) x15_2.length co104)) (by(with_reducible repeat(first|apply Kd.R_alloc|apply Kd.R_drewN|apply Kd.R_drew));exact HL341_0.out) (Kd.R_typed HO_15.out) (by decide) hg);have n7_:=am (Kd.R_over' (v:=(.slice (some ⟨go104,0,none⟩) x15_2.length co104)) (by(with_reducible repeat(first|apply Kd.R_alloc|apply Kd.R_drewN|apply Kd.R_drew));exact HL343_0.out) (Kd.R_typed HO_15.out) (by decide) hg);have n8_:=am ((by rw[hw];exact below_set (HB.out) GB104.out:Below w.heap.size w w110));clear HO_14 HO_15 HO_55 BK319 BK320 BK337 HL341_0 HL343_0 HB;have HO_14:=n0_;have HO_15:=n1_;have HO_55:=n2_;have BK319:=n3_;have BK320:=n4_;have BK337:=n5_;have HL341_0:=n6_;have HL343_0:=n7_;have HB:=n8_;clear n0_ n1_ n2_ n3_ n4_ n5_ n6_ n7_ n8_ hg hw hp_))))
                       go_roundg k3
                       case measure=>have:=HJ5.out;have:=HK2.out;have:=HK3.out;omega
                       case rel=>exact⟨(y345),(wrap64 (x57_2+1)),fin2,H',⟨by have:=HJ5.out;have:=HK2.out;have:=HK3.out;omega⟩,⟨by(with_reducible repeat(first|apply Kd.S_alloc|apply Kd.S_drewN|apply Kd.S_drew));exact HO_14.out⟩,⟨rup HO_15.out⟩,⟨by(with_reducible repeat(first|apply Kd.R_alloc|apply Kd.R_drewN|apply Kd.R_drew));exact Kd.R_mono HO_55.out (fun _ hk=>trivial)⟩,⟨bup BK319.out⟩,⟨bup BK320.out⟩,⟨bl⟩⟩
                      ·rw[if_neg c103] at H
                       exact absurd H (by simp)
                    ·rw[if_neg c97] at H
                     exact absurd H (by simp)
                  ·rw[if_neg c91] at H
                   exact absurd H (by simp)
                 ·rw[if_neg c90] at H
                  exact absurd H (by simp)
                ·rw[if_neg c89] at H
                 exact absurd H (by simp)
           ·rw[if_neg c44] at H
            exact absurd H (by simp)
          ·rw[if_neg c43] at H
           exact absurd H (by simp)
         ·rw[if_neg c42] at H
          have c42b0:decide (x57_2<(t324.length:Int))=false:=decide_eq_false c42
          clear c42
          simp only[Option.some.injEq,Prod.mk.injEq] at H
          obtain⟨rfl,rfl⟩:=H
          go_wp2
          repeat(go_quiet (fail);try go_wp2)
          go_ret2
          exact⟨fin1,bl⟩
      ·rw[if_neg c32] at H
       exact absurd H (by simp)
     ·rw[if_neg c31] at H
      exact absurd H (by simp)
    ·rw[if_neg c29] at H
     have c29b0:((t324.length:Int) == (l1.length:Int))=false:=beq_eq_false_iff_ne.mpr c29
     have c29b1:((t324.length:Int) != (l1.length:Int))=true:=bne_iff_ne.mpr c29
     have c29b2:(t324.length == l1.length)=false:=by first|simpa using c29|(simp at c29 ⊢;omega)
     simp only[Option.some.injEq,Prod.mk.injEq] at H
     obtain⟨rfl,rfl⟩:=H
     have hnb111:=NB319_320.out
     have hnc111:=NB320_319.out
     have hcz112_0:wc.cell? ⟨gb319,0,none⟩=some (.slice A0_0 l0_0.length c0_0):=(blk_cell BK319.out 0).trans rfl
     have hcz112_1:wc.cell? ⟨gb319,1,none⟩=some (.int .i64 a0_1):=(blk_cell BK319.out 1).trans rfl
     have hfz112_0:=blk_frozen BK319.out 0
     have hfz112_1:=blk_frozen BK319.out 1
     have hcz113_0:wc.cell? ⟨gb320,0,none⟩=some (.int .i64 a3_0):=(blk_cell BK320.out 0).trans rfl
     have hcz113_1:wc.cell? ⟨gb320,1,none⟩=some (.int .i64 a3_1):=(blk_cell BK320.out 1).trans rfl
     have hcz113_2:wc.cell? ⟨gb320,2,none⟩=some (.int .i64 a3_2):=(blk_cell BK320.out 2).trans rfl
     have hfz113_0:=blk_frozen BK320.out 0
     have hfz113_1:=blk_frozen BK320.out 1
     have hfz113_2:=blk_frozen BK320.out 2
     iterate 3 ((try go_quiet (fail));(try go_wp2_with (first|(go_at_call 71;(with_reducible refine(impl_spoken.calls kj5 _ _ l0_0 a0_1 _ _ l2 a3_0 a3_1 a3_2 t324 t327 _ ?side1 ?side2 ?side3 ?side4 A28.out).mono ?_);(case side1=>repeat(first|exact(Kd.C_below HR0_0.out HB.out)|(with_reducible refine Kd.C_alloc ?_ _)|(with_reducible refine Kd.C_drewN ?_ _)|(with_reducible refine Kd.C_drew ?_)));(case side2=>exact HC0_0.out);(case side3=>repeat(first|exact(Kd.C_below HR2.out HB.out)|(with_reducible refine Kd.C_alloc ?_ _)|(with_reducible refine Kd.C_drewN ?_ _)|(with_reducible refine Kd.C_drew ?_)));(case side4=>exact HC2.out);rintro e w114 ⟨v325,v328,rfl,ho0,ho1,hb⟩;have n0_:=am (Kd.R_lower ho0 (below_size bl));have n1_:=am (Kd.R_lower ho1 (below_size bl));have n2_:=am (blk_below (g:=gb319) (o := .cells #[.slice A0_0 l0_0.length c0_0,.int .i64 a0_1] 44 (0,0)) (bup BK319.out) hb);have n3_:=am (blk_below (g:=gb320) (o := .cells #[.int .i64 a3_0,.int .i64 a3_1,.int .i64 a3_2] 48 (0,0)) (bup BK320.out) hb);have n4_:=am (below_step bl hb);clear BK319 BK320 HB;have HO326:=n0_;have HO329:=n1_;have BK319:=n2_;have BK320:=n3_;have HB:=n4_;clear n0_ n1_ n2_ n3_ n4_;(try clear hb);(try clear hb2);(try clear hk);(try clear hi);(try clear ho0);(try clear ho1);obtain⟨Ao115,co115,eo115⟩:=Kd.R_slice HO326.out;subst eo115))))
     go_ret2
     exact⟨fin1,bl⟩

end Go.Proofs.Ytjniaiobnbdhhab.PFnExactPlaysAsPromised
