/- The walks of functions that FnExactPlaysAsPromised reaches: what they return is what the plain functions of the same names say. Made by a program of this session after the kit's print. No conditions beyond the arguments' being read. -/
import Derived.Test.YtjniaiobnbdhhabSPlaysAsPromised0
import Derived.Test.YtjniaiobnbdhhabSPlaysAsPromised1
import Derived.Test.YtjniaiobnbdhhabSPlaysAsPromised5
namespace Go.Proofs.Ytjniaiobnbdhhab.PFnExactPlaysAsPromised
open Go.RowKit Go.Proofs.YtjniaiobnbdhhabW.PrintWords Go.Proofs.YtjniaiobnbdhhabW.PrintLast Go.Proofs.YtjniaiobnbdhhabW.PrintMore
attribute [local go_sem] max2_int min2_int max_two min_two max_three min_three max_four min_four   -- for this text's walks alone
set_option linter.unusedVariables false
set_option linter.unusedSimpArgs false

/-! ### spec_PlaysAsPromised: function 24 -/
mutual
def spec_PlaysAsPromised.l0:Nat→List (S95)→List (S97)→List (List Int)→List Bool→List (S95)→Int→Int→Option (Bool×Bool)
 | 0,_,_,_,_,_,_,_=>none
 | k+1,x1,x12,x14,x15,x42,x43,x44=>if x44<x43 then(if 0≤x44 then(if x44<(x42.length:Int) then(spec_PlaysAsPromised.l1 k x1 x12 x14 x15 x44 (-1) x42 x43 x44 x12 (x12.length:Int) 0 ((rd_T95 x42 x44).f0) ((rd_T95 x42 x44).f1) ((rd_T95 x42 x44).f2)) else(none)) else(none)) else(some (((x12.length:Int) == (x1.length:Int)),true))
def spec_PlaysAsPromised.l1:Nat→List (S95)→List (S97)→List (List Int)→List Bool→Int→Int→List (S95)→Int→Int→List (S97)→Int→Int→Int→Int→Int→Option (Bool×Bool)
 | 0,_,_,_,_,_,_,_,_,_,_,_,_,_,_,_=>none
 | k+1,x1,x12,x14,x15,x16,x18,x42,x43,x44,x49,x50,x51,x232000,x232001,x232002=>if x51<x50 then(if 0≤x51 then(if x51<(x49.length:Int) then(if x18<0 then(if x51<(x15.length:Int) then(if rdOf false x15 x51=true then(spec_PlaysAsPromised.l1 k x1 x12 x14 x15 x16 x18 x42 x43 x44 x49 x50 (wrap64 (x51+1)) x232000 x232001 x232002) else(if((rd_T97 x49 x51).f0)=x232000 then(spec_PlaysAsPromised.l1 k x1 x12 x14 x15 x16 x51 x42 x43 x44 x49 x50 (wrap64 (x51+1)) x232000 x232001 x232002) else(spec_PlaysAsPromised.l1 k x1 x12 x14 x15 x16 x18 x42 x43 x44 x49 x50 (wrap64 (x51+1)) x232000 x232001 x232002))) else(none)) else(spec_PlaysAsPromised.l1 k x1 x12 x14 x15 x16 x18 x42 x43 x44 x49 x50 (wrap64 (x51+1)) x232000 x232001 x232002)) else(none)) else(none)) else(if x18<0 then(some (false,true)) else(if 0≤x18 then(if x18<(x12.length:Int) then(if 0≤x16 then(if x16<(x14.length:Int) then(if 0<((rd_L6 x14 x16).length:Int) then(if 1<((rd_L6 x14 x16).length:Int) then((spec_l1In.f ((rd_T97 x12 x18).f1) (rd (rd_L6 x14 x16) 0) (rd (rd_L6 x14 x16) 1)).bind fun t240=>(if t240=true then(if x18<(x15.length:Int) then(spec_PlaysAsPromised.l0 k x1 x12 x14 (x15.set (x18:Int).toNat true) x42 x43 (wrap64 (x44+1))) else(none)) else(some (false,true)))) else(none)) else(none)) else(none)) else(none)) else(none)) else(none)))
end
def spec_PlaysAsPromised.f (k:Nat) (l0_0:List Int) (a0_1:Int) (l1:List (S95)) (l2:List (S80)) (a3_0:Int) (a3_1:Int) (a3_2:Int) (a4:Int):Option (Bool×Bool):=(spec_vfAll.f k l0_0 a0_1 l1 l2 a3_0 a3_1 a3_2 a4).bind fun t217=>(if t217=true then((spec_pyAll.f k l0_0 a0_1 l2 a3_0 a3_1 a3_2).bind fun bt218=>((spec_vfTimes.f k l1 a3_0 a3_1 a3_2 a4).bind fun t224=>(if 0≤(bt218.1.length:Int) then(if((bt218.1.length:Int):Int).toNat≤281474976710656 then(spec_PlaysAsPromised.l0 k l1 bt218.1 t224 (List.replicate ((bt218.1.length:Int):Int).toNat false) l1 (l1.length:Int) 0) else(none)) else(none)))) else(some (false,false)))
set_option maxHeartbeats 8000000 in
set_option maxRecDepth 100000 in
theorem spec_PlaysAsPromised.calls (k:Nat) (A0_0:Option Addr) (c0_0:Nat) (l0_0:List Int) (a0_1:Int) (A1:Option Addr) (c1:Nat) (l1:List (S95)) (A2:Option Addr) (c2:Nat) (l2:List (S80)) (a3_0:Int) (a3_1:Int) (a3_2:Int) (a4:Int) (r1:Bool) (r2:Bool) (w:World) (hr0_0:Kd.C (Kd.int .i64) w A0_0 l0_0.length l0_0) (hc0_0:l0_0.length≤c0_0) (hr1:Kd.C k95 w A1 l1.length l1) (hc1:l1.length≤c1) (hr2:Kd.C k80 w A2 l2.length l2) (hc2:l2.length≤c2) (h:spec_PlaysAsPromised.f k l0_0 a0_1 l1 l2 a3_0 a3_1 a3_2 a4=some (r1,r2)) :
  Calls Try.prog 24 #[.agg #[.slice A0_0 l0_0.length c0_0,.int .i64 a0_1],.slice A1 l1.length c1,.slice A2 l2.length c2,.agg #[.int .i64 a3_0,.int .i64 a3_1,.int .i64 a3_2],.int .i64 a4] w fun e w'=>e = .returned (.tuple #[.bool r1,.bool r2])∧Below w.heap.size w w':=by
 have hu44:=Try.underlying44
 have hu48:=Try.underlying48
 have hu95:=Try.underlying95
 have hu97:=Try.underlying97
 have HR0_0:=am hr0_0
 have HC0_0:=am hc0_0
 clear hr0_0 hc0_0
 have HR1:=am hr1
 have HC1:=am hc1
 clear hr1 hc1
 have HR2:=am hr2
 have HC2:=am hc2
 clear hr2 hc2
 have HB:=am (Below.refl w.heap.size w)
 have H:((spec_vfAll.f k l0_0 a0_1 l1 l2 a3_0 a3_1 a3_2 a4).bind fun t217=>(if t217=true then((spec_pyAll.f k l0_0 a0_1 l2 a3_0 a3_1 a3_2).bind fun bt218=>((spec_vfTimes.f k l1 a3_0 a3_1 a3_2 a4).bind fun t224=>(if 0≤(bt218.1.length:Int) then(if((bt218.1.length:Int):Int).toNat≤281474976710656 then(spec_PlaysAsPromised.l0 k l1 bt218.1 t224 (List.replicate ((bt218.1.length:Int):Int).toNat false) l1 (l1.length:Int) 0) else(none)) else(none)))) else(some (false,false))))=some (r1,r2):=h
 clear h
 replace H:=Option.bind_eq_some_iff.mp H
 obtain⟨t217,A60,H⟩:=H
 replace H:(if t217=true then((spec_pyAll.f k l0_0 a0_1 l2 a3_0 a3_1 a3_2).bind fun bt218=>((spec_vfTimes.f k l1 a3_0 a3_1 a3_2 a4).bind fun t224=>(if 0≤(bt218.1.length:Int) then(if((bt218.1.length:Int):Int).toNat≤281474976710656 then(spec_PlaysAsPromised.l0 k l1 bt218.1 t224 (List.replicate ((bt218.1.length:Int):Int).toNat false) l1 (l1.length:Int) 0) else(none)) else(none)))) else(some (false,false)))=some (r1,r2):=H
 have A6:=am A60
 clear A60
 by_cases c7:t217=true
 ·subst c7
  have H1:((spec_pyAll.f k l0_0 a0_1 l2 a3_0 a3_1 a3_2).bind fun bt218=>((spec_vfTimes.f k l1 a3_0 a3_1 a3_2 a4).bind fun t224=>(if 0≤(bt218.1.length:Int) then(if((bt218.1.length:Int):Int).toNat≤281474976710656 then(spec_PlaysAsPromised.l0 k l1 bt218.1 t224 (List.replicate ((bt218.1.length:Int):Int).toNat false) l1 (l1.length:Int) 0) else(none)) else(none))))=some (r1,r2):=by rw[if_pos rfl] at H;exact H
  clear H
  have H:=H1
  clear H1
  replace H:=Option.bind_eq_some_iff.mp H
  obtain⟨⟨t218,t221⟩,A80,H⟩:=H
  replace H:((spec_vfTimes.f k l1 a3_0 a3_1 a3_2 a4).bind fun t224=>(if 0≤(t218.length:Int) then(if((t218.length:Int):Int).toNat≤281474976710656 then(spec_PlaysAsPromised.l0 k l1 t218 t224 (List.replicate ((t218.length:Int):Int).toNat false) l1 (l1.length:Int) 0) else(none)) else(none)))=some (r1,r2):=H
  have A8:=am A80
  clear A80
  replace H:=Option.bind_eq_some_iff.mp H
  obtain⟨t224,A90,H⟩:=H
  replace H:(if 0≤(t218.length:Int) then(if((t218.length:Int):Int).toNat≤281474976710656 then(spec_PlaysAsPromised.l0 k l1 t218 t224 (List.replicate ((t218.length:Int):Int).toNat false) l1 (l1.length:Int) 0) else(none)) else(none))=some (r1,r2):=H
  have A9:=am A90
  clear A90
  by_cases c10:0≤(t218.length:Int)
  ·rw[if_pos c10] at H
   have c10b0:=eq_true c10
   have c10b1:decide (0≤(t218.length:Int))=true:=decide_eq_true c10
   clear c10
   by_cases c11:((t218.length:Int):Int).toNat≤281474976710656
   ·rw[if_pos c11] at H
    have c11b0:=eq_true c11
    have c11b1:decide (((t218.length:Int):Int).toNat≤281474976710656)=true:=decide_eq_true c11
    clear c11
    obtain⟨y227,hy227⟩:∃ y_:List Bool,y_=(List.replicate ((t218.length:Int):Int).toNat false):=⟨_,rfl⟩
    replace H:(spec_PlaysAsPromised.l0 k l1 t218 t224 y227 l1 (l1.length:Int) 0)=some (r1,r2):=by first|(rw[hy227];with_reducible exact H)|(have H2_:=(Option.bind_some _ _).symm.trans H;rw[hy227];with_reducible exact H2_)|(have H2_:=(Option.bind_some _ _).symm.trans H;with_reducible exact H2_)|with_reducible exact H|(rw[hy227];exact H)|exact H
    have Ny227:=am hy227
    clear hy227
    have H':=am H
    clear H
    go_enter Try.func24,Try.ntmps24
    iterate 3 ((try go_quiet (fail));(try go_wp2_with (first|((with_reducible refine gate_dst (N:=5) rfl ?_);refine box_event ?hg (N:=5) ?hd (cs := #[.slice A0_0 l0_0.length c0_0,.int .i64 a0_1]) (t:=44) ?hr ?_;(case hd=>rfl);(case hg=>rfl);(case hr=>first|(go_simp;done)|(go_simp;rfl));intro gb215 hg w12 hbox hb;have n0_:=am (below_step bl hb);have n1_:=am (hbox);have n2_:=am ((by rw[hg];exact(below_size bl):w.heap.size≤gb215));have n3_:=am ((by rw[hg];exact(below_size bl):w.heap.size≤gb215));clear HB;have HB:=n0_;have BK215:=n1_;have GW215:=n2_;have GE215:=n3_;clear n0_ n1_ n2_ n3_ hb hbox hg)|((with_reducible refine gate_dst (N:=8) rfl ?_);refine box_event ?hg (N:=8) ?hd (cs := #[.int .i64 a3_0,.int .i64 a3_1,.int .i64 a3_2]) (t:=48) ?hr ?_;(case hd=>rfl);(case hg=>rfl);(case hr=>first|(go_simp;done)|(go_simp;rfl));intro gb216 hg w13 hbox hb;have n0_:=am (blk_below (g:=gb215) (o := .cells #[.slice A0_0 l0_0.length c0_0,.int .i64 a0_1] 44 (0,0)) (bup BK215.out) hb);have n1_:=am (below_step bl hb);have n2_:=am (hbox);have n3_:=am ((by rw[hg];exact(below_size bl):w.heap.size≤gb216));have n4_:=am ((by rw[hg];exact(below_size bl):w.heap.size≤gb216));have n5_:=am ((by rw[hg];exact Nat.ne_of_lt (blk_lt (g:=gb215) (o := .cells #[.slice A0_0 l0_0.length c0_0,.int .i64 a0_1] 44 (0,0)) (bup BK215.out)):gb215≠gb216));have n6_:=am ((by rw[hg];exact Nat.ne_of_gt (blk_lt (g:=gb215) (o := .cells #[.slice A0_0 l0_0.length c0_0,.int .i64 a0_1] 44 (0,0)) (bup BK215.out)):gb216≠gb215));clear BK215 HB;have BK215:=n0_;have HB:=n1_;have BK216:=n2_;have GW216:=n3_;have GE216:=n4_;have NB215_216:=n5_;have NB216_215:=n6_;clear n0_ n1_ n2_ n3_ n4_ n5_ n6_ hb hbox hg;have hnb14:=NB215_216.out;have hnc14:=NB216_215.out;have hcz15_0:w13.cell? ⟨gb215,0,none⟩=some (.slice A0_0 l0_0.length c0_0):=(blk_cell BK215.out 0).trans rfl;have hcz15_1:w13.cell? ⟨gb215,1,none⟩=some (.int .i64 a0_1):=(blk_cell BK215.out 1).trans rfl;have hfz15_0:=blk_frozen BK215.out 0;have hfz15_1:=blk_frozen BK215.out 1;have hcz16_0:w13.cell? ⟨gb216,0,none⟩=some (.int .i64 a3_0):=(blk_cell BK216.out 0).trans rfl;have hcz16_1:w13.cell? ⟨gb216,1,none⟩=some (.int .i64 a3_1):=(blk_cell BK216.out 1).trans rfl;have hcz16_2:w13.cell? ⟨gb216,2,none⟩=some (.int .i64 a3_2):=(blk_cell BK216.out 2).trans rfl;have hfz16_0:=blk_frozen BK216.out 0;have hfz16_1:=blk_frozen BK216.out 1;have hfz16_2:=blk_frozen BK216.out 2)|(go_at_call 62;(with_reducible refine(spec_vfAll.calls k _ _ l0_0 a0_1 _ _ l1 _ _ l2 a3_0 a3_1 a3_2 a4 true _ ?side1 ?side2 ?side3 ?side4 ?side5 ?side6 A6.out).mono ?_);(case side1=>repeat(first|exact(Kd.C_below HR0_0.out HB.out)|(with_reducible refine Kd.C_alloc ?_ _)|(with_reducible refine Kd.C_drewN ?_ _)|(with_reducible refine Kd.C_drew ?_)));(case side2=>exact HC0_0.out);(case side3=>repeat(first|exact(Kd.C_below HR1.out HB.out)|(with_reducible refine Kd.C_alloc ?_ _)|(with_reducible refine Kd.C_drewN ?_ _)|(with_reducible refine Kd.C_drew ?_)));(case side4=>exact HC1.out);(case side5=>repeat(first|exact(Kd.C_below HR2.out HB.out)|(with_reducible refine Kd.C_alloc ?_ _)|(with_reducible refine Kd.C_drewN ?_ _)|(with_reducible refine Kd.C_drew ?_)));(case side6=>exact HC2.out);rintro e w17 ⟨rfl,hb⟩;have n0_:=am (blk_below (g:=gb215) (o := .cells #[.slice A0_0 l0_0.length c0_0,.int .i64 a0_1] 44 (0,0)) (bup BK215.out) hb);have n1_:=am (blk_below (g:=gb216) (o := .cells #[.int .i64 a3_0,.int .i64 a3_1,.int .i64 a3_2] 48 (0,0)) (bup BK216.out) hb);have n2_:=am (below_step bl hb);clear BK215 BK216 HB;have BK215:=n0_;have BK216:=n1_;have HB:=n2_;clear n0_ n1_ n2_;(try clear hb);(try clear hb2);(try clear hk);(try clear hi);have hcz18_0:w17.cell? ⟨gb215,0,none⟩=some (.slice A0_0 l0_0.length c0_0):=(blk_cell BK215.out 0).trans rfl;have hcz18_1:w17.cell? ⟨gb215,1,none⟩=some (.int .i64 a0_1):=(blk_cell BK215.out 1).trans rfl;have hfz18_0:=blk_frozen BK215.out 0;have hfz18_1:=blk_frozen BK215.out 1;have hcz19_0:w17.cell? ⟨gb216,0,none⟩=some (.int .i64 a3_0):=(blk_cell BK216.out 0).trans rfl;have hcz19_1:w17.cell? ⟨gb216,1,none⟩=some (.int .i64 a3_1):=(blk_cell BK216.out 1).trans rfl;have hcz19_2:w17.cell? ⟨gb216,2,none⟩=some (.int .i64 a3_2):=(blk_cell BK216.out 2).trans rfl;have hfz19_0:=blk_frozen BK216.out 0;have hfz19_1:=blk_frozen BK216.out 1;have hfz19_2:=blk_frozen BK216.out 2)|(go_at_call 63;(with_reducible refine(spec_pyAll.calls k _ _ l0_0 a0_1 _ _ l2 a3_0 a3_1 a3_2 t218 t221 _ ?side1 ?side2 ?side3 ?side4 A8.out).mono ?_);(case side1=>repeat(first|exact(Kd.C_below HR0_0.out HB.out)|(with_reducible refine Kd.C_alloc ?_ _)|(with_reducible refine Kd.C_drewN ?_ _)|(with_reducible refine Kd.C_drew ?_)));(case side2=>exact HC0_0.out);(case side3=>repeat(first|exact(Kd.C_below HR2.out HB.out)|(with_reducible refine Kd.C_alloc ?_ _)|(with_reducible refine Kd.C_drewN ?_ _)|(with_reducible refine Kd.C_drew ?_)));(case side4=>exact HC2.out);rintro e w20 ⟨v219,v222,rfl,ho0,ho1,hb⟩;have n0_:=am (Kd.R_lower ho0 (below_size bl));have n1_:=am (Kd.R_lower ho1 (below_size bl));have n2_:=am (blk_below (g:=gb215) (o := .cells #[.slice A0_0 l0_0.length c0_0,.int .i64 a0_1] 44 (0,0)) (bup BK215.out) hb);have n3_:=am (blk_below (g:=gb216) (o := .cells #[.int .i64 a3_0,.int .i64 a3_1,.int .i64 a3_2] 48 (0,0)) (bup BK216.out) hb);have n4_:=am (below_step bl hb);clear BK215 BK216 HB;have HO220:=n0_;have HO223:=n1_;have BK215:=n2_;have BK216:=n3_;have HB:=n4_;clear n0_ n1_ n2_ n3_ n4_;(try clear hb);(try clear hb2);(try clear hk);(try clear hi);(try clear ho0);(try clear ho1);have hcz21_0:w20.cell? ⟨gb216,0,none⟩=some (.int .i64 a3_0):=(blk_cell BK216.out 0).trans rfl;have hcz21_1:w20.cell? ⟨gb216,1,none⟩=some (.int .i64 a3_1):=(blk_cell BK216.out 1).trans rfl;have hcz21_2:w20.cell? ⟨gb216,2,none⟩=some (.int .i64 a3_2):=(blk_cell BK216.out 2).trans rfl;have hfz21_0:=blk_frozen BK216.out 0;have hfz21_1:=blk_frozen BK216.out 1;have hfz21_2:=blk_frozen BK216.out 2)|(go_at_call 64;(with_reducible refine(spec_vfTimes.calls k _ _ l1 a3_0 a3_1 a3_2 a4 t224 _ ?side1 ?side2 A9.out).mono ?_);(case side1=>repeat(first|exact(Kd.C_below HR1.out HB.out)|(with_reducible refine Kd.C_alloc ?_ _)|(with_reducible refine Kd.C_drewN ?_ _)|(with_reducible refine Kd.C_drew ?_)));(case side2=>exact HC1.out);rintro e w22 ⟨v225,rfl,ho0,hb⟩;have n0_:=am (Kd.R_below (rup HO220.out) hb);have n1_:=am (Kd.R_below (rup HO223.out) hb);have n2_:=am (Kd.S_lower (Kd.S_new' ho0 (Kd.R_lt (rup HO223.out))) (below_size bl));have n3_:=am (blk_below (g:=gb215) (o := .cells #[.slice A0_0 l0_0.length c0_0,.int .i64 a0_1] 44 (0,0)) (bup BK215.out) hb);have n4_:=am (blk_below (g:=gb216) (o := .cells #[.int .i64 a3_0,.int .i64 a3_1,.int .i64 a3_2] 48 (0,0)) (bup BK216.out) hb);have n5_:=am (below_step bl hb);clear HO220 HO223 BK215 BK216 HB;have HO220:=n0_;have HO223:=n1_;have HO226:=n2_;have BK215:=n3_;have BK216:=n4_;have HB:=n5_;clear n0_ n1_ n2_ n3_ n4_ n5_;(try clear hb);(try clear hb2);(try clear hk);(try clear hi);(try clear ho0);obtain⟨Ao23,co23,eo23⟩:=Kd.R_slice HO220.out;subst eo23)|((with_reducible refine gate_dst (N:=41) rfl ?_);refine Kd.R_make Kd.bool _ 4 rfl (N:=41) rfl 93 _ _ rfl (t218.length:Int) rfl rfl Try.underlying93 (.bool false) 1 info4 rfl (by decide) (by omega) false (ok:=fun _=>True) (okp:=fun _=>True) rfl (fun _ hk=>hk) trivial (od) (Nat.le_trans (Nat.mul_le_mul_right _ (od:(t218.length:Int).toNat≤281474976710656)) (by omega)) (Below.refl _ _) (Nat.le_refl _) ?_;intro v228 w24 ho25 hb hg_ hnew_;clear hg_ hnew_;(first|rw[← Ny227.out] at ho25|(simp only[Int.reduceToNat] at ho25;rw[← Ny227.out] at ho25));have n0_:=am (Kd.R_below (rup HO220.out) hb);have n1_:=am (Kd.R_below (rup HO223.out) hb);have n2_:=am (Kd.S_below (by(with_reducible repeat(first|apply Kd.S_alloc|apply Kd.S_drewN|apply Kd.S_drew));exact HO226.out) hb);have n3_:=am (Kd.R_lower ho25 (below_size bl));have n4_:=am (blk_below (g:=gb215) (o := .cells #[.slice A0_0 l0_0.length c0_0,.int .i64 a0_1] 44 (0,0)) (bup BK215.out) hb);have n5_:=am (blk_below (g:=gb216) (o := .cells #[.int .i64 a3_0,.int .i64 a3_1,.int .i64 a3_2] 48 (0,0)) (bup BK216.out) hb);have n6_:=am (below_step bl hb);clear HO220 HO223 HO226 BK215 BK216 HB;have HO220:=n0_;have HO223:=n1_;have HO226:=n2_;have HO229:=n3_;have BK215:=n4_;have BK216:=n5_;have HB:=n6_;clear n0_ n1_ n2_ n3_ n4_ n5_ n6_ hb ho25))))
    go_loopg [44] k (fun kq v44 w'=>∃(x15_1:List Bool) (x44_1:Int),v44 = .int .i64 x44_1∧Aside0 (spec_PlaysAsPromised.l0 kq l1 t218 t224 x15_1 l1 (l1.length:Int) x44_1=some (r1,r2))∧Aside0 (kq≤k)∧Aside0 (Kd.R k97 97 w' w.heap.size (fun _=>True) (.slice Ao23 t218.length co23) t218)∧Aside0 (Kd.S (Kd.slice 3 (Kd.int .i64)) 34 w' w.heap.size (fun _=>True) v225 t224)∧Aside0 (Kd.R Kd.bool 4 w' w.heap.size (fun _=>True) v228 x15_1)∧Aside0 (w'.heap[gb215]?=some (.cells #[(.slice A0_0 l0_0.length c0_0),.int .i64 a0_1] 44 (0,0)))∧Aside0 (w'.heap[gb216]?=some (.cells #[.int .i64 a3_0,.int .i64 a3_1,.int .i64 a3_2] 48 (0,0)))∧Aside0 (Below w.heap.size w w'))
    case atStart=>exact⟨(y227),(0),fin2,H',⟨Nat.le_refl _⟩,⟨rup HO220.out⟩,⟨by(with_reducible repeat(first|apply Kd.S_alloc|apply Kd.S_drewN|apply Kd.S_drew));exact Kd.S_mono HO226.out (fun _ hk=>trivial)⟩,⟨rup HO229.out⟩,⟨bup BK215.out⟩,⟨bup BK216.out⟩,⟨bl⟩⟩
    case round =>
     clear H'
     try clear c1
     try clear c2
     try clear p2
     try clear c7
     try clear c10
     try clear c10b0
     try clear c10b1
     try clear c11
     try clear c11b0
     try clear c11b1
     try clear c14
     try clear c24
     try clear hcz15_0
     try clear hcz15_1
     try clear hcz16_0
     try clear hcz16_1
     try clear hcz16_2
     try clear hcz18_0
     try clear hcz18_1
     try clear hcz19_0
     try clear hcz19_1
     try clear hcz19_2
     try clear hcz21_0
     try clear hcz21_1
     try clear hcz21_2
     try clear hfz15_0
     try clear hfz15_1
     try clear hfz16_0
     try clear hfz16_1
     try clear hfz16_2
     try clear hfz18_0
     try clear hfz18_1
     try clear hfz19_0
     try clear hfz19_1
     try clear hfz19_2
     try clear hfz21_0
     try clear hfz21_1
     try clear hfz21_2
     obtain⟨x15_1,x44_1,rfl,HA,HK1,HO_12,HO_14,HO_15,BK215,BK216,HB⟩:=hrel
     cases gk with
     | zero=>exact absurd HA.out (by simp [spec_PlaysAsPromised.l0])
     | succ k1 =>
      have H:=HA.out
      clear HA
      simp only[spec_PlaysAsPromised.l0] at H
      by_cases c26:x44_1<(l1.length:Int)
      ·rw[if_pos c26] at H
       have c26b0:decide (x44_1<(l1.length:Int))=true:=decide_eq_true c26
       clear c26
       by_cases c27:0≤x44_1
       ·rw[if_pos c27] at H
        have c27b0:decide (0≤x44_1)=true:=decide_eq_true c27
        clear c27
        by_cases c28:x44_1<(l1.length:Int)
        ·rw[if_pos c28] at H
         have c28b0:decide (x44_1<(l1.length:Int))=true:=decide_eq_true c28
         clear c28
         have H':=am H
         clear H
         have p230:0≤(x44_1:Int):=od
         have q230:x44_1<(l1.length:Int):=od
         obtain⟨ad230,e230,hx230_0,hx230_1,hx230_2⟩:=at_T95 HR1.out x44_1 p230 q230
         cases e230
         replace hx230_0:=(HB.out.cell (World.block_lt_of_cell? w _ hx230_0)).trans hx230_0
         replace hx230_1:=(HB.out.cell (World.block_lt_of_cell? w _ hx230_1)).trans hx230_1
         replace hx230_2:=(HB.out.cell (World.block_lt_of_cell? w _ hx230_2)).trans hx230_2
         replace p230:=eq_true p230
         replace q230:=eq_true q230
         iterate 3 ((try go_quiet (fail));(try go_wp2_with (first|((with_reducible refine gate_dst (N:=17) rfl ?_);refine box_event ?hg (N:=17) ?hd (cs := #[.int .i64 0,.int .i64 0,.int .i64 0]) (t:=95) ?hr ?_;(case hd=>rfl);(case hg=>rfl);(case hr=>first|(go_simp;done)|(go_simp;rfl));intro gb231 hg w29 hbox hb;have n0_:=am (Kd.R_below (rup HO_12.out) hb);have n1_:=am (Kd.S_below (by(with_reducible repeat(first|apply Kd.S_alloc|apply Kd.S_drewN|apply Kd.S_drew));exact HO_14.out) hb);have n2_:=am (Kd.R_below (rup HO_15.out) hb);have n3_:=am (blk_below (g:=gb215) (o := .cells #[.slice A0_0 l0_0.length c0_0,.int .i64 a0_1] 44 (0,0)) (bup BK215.out) hb);have n4_:=am (blk_below (g:=gb216) (o := .cells #[.int .i64 a3_0,.int .i64 a3_1,.int .i64 a3_2] 48 (0,0)) (bup BK216.out) hb);have n5_:=am (below_step bl hb);have n6_:=am (hbox);have n7_:=am ((by rw[hg];exact(below_size bl):w.heap.size≤gb231));have n8_:=am ((by rw[hg];exact(below_size bl):w.heap.size≤gb231));have n9_:=am ((by rw[hg];exact Nat.ne_of_lt (blk_lt (g:=gb215) (o := .cells #[.slice A0_0 l0_0.length c0_0,.int .i64 a0_1] 44 (0,0)) (bup BK215.out)):gb215≠gb231));have n10_:=am ((by rw[hg];exact Nat.ne_of_gt (blk_lt (g:=gb215) (o := .cells #[.slice A0_0 l0_0.length c0_0,.int .i64 a0_1] 44 (0,0)) (bup BK215.out)):gb231≠gb215));have n11_:=am ((by rw[hg];exact Nat.ne_of_lt (blk_lt (g:=gb216) (o := .cells #[.int .i64 a3_0,.int .i64 a3_1,.int .i64 a3_2] 48 (0,0)) (bup BK216.out)):gb216≠gb231));have n12_:=am ((by rw[hg];exact Nat.ne_of_gt (blk_lt (g:=gb216) (o := .cells #[.int .i64 a3_0,.int .i64 a3_1,.int .i64 a3_2] 48 (0,0)) (bup BK216.out)):gb231≠gb216));clear HO_12 HO_14 HO_15 BK215 BK216 HB;have HO_12:=n0_;have HO_14:=n1_;have HO_15:=n2_;have BK215:=n3_;have BK216:=n4_;have HB:=n5_;have BK231:=n6_;have GW231:=n7_;have GE231:=n8_;have NB215_231:=n9_;have NB231_215:=n10_;have NB216_231:=n11_;have NB231_216:=n12_;clear n0_ n1_ n2_ n3_ n4_ n5_ n6_ n7_ n8_ n9_ n10_ n11_ n12_ hb hbox hg;have hnb30:=NB231_215.out;have hnc30:=NB215_231.out;have hnb31:=NB231_216.out;have hnc31:=NB216_231.out;have hcz32_0:w29.cell? ⟨gb231,0,none⟩=some (.int .i64 0):=(blk_cell BK231.out 0).trans rfl;have hcz32_1:w29.cell? ⟨gb231,1,none⟩=some (.int .i64 0):=(blk_cell BK231.out 1).trans rfl;have hcz32_2:w29.cell? ⟨gb231,2,none⟩=some (.int .i64 0):=(blk_cell BK231.out 2).trans rfl;have hfz32_0:=blk_frozen BK231.out 0;have hfz32_1:=blk_frozen BK231.out 1;have hfz32_2:=blk_frozen BK231.out 2))))
         go_loopg [18,51] k1 (fun kq v18 v51 w'=>∃(x18_2:Int) (x51_2:Int),v18 = .int .i64 x18_2∧v51 = .int .i64 x51_2∧Aside0 (spec_PlaysAsPromised.l1 kq l1 t218 t224 x15_1 x44_1 x18_2 l1 (l1.length:Int) x44_1 t218 (t218.length:Int) x51_2 ((rd_T95 l1 x44_1).f0) ((rd_T95 l1 x44_1).f1) ((rd_T95 l1 x44_1).f2)=some (r1,r2))∧Aside0 (kq≤k1)∧Aside0 (Kd.R k97 97 w' w.heap.size (fun _=>True) (.slice Ao23 t218.length co23) t218)∧Aside0 (Kd.S (Kd.slice 3 (Kd.int .i64)) 34 w' w.heap.size (fun _=>True) v225 t224)∧Aside0 (Kd.R Kd.bool 4 w' w.heap.size (fun _=>True) v228 x15_1)∧Aside0 (Kd.R k97 97 w' w.heap.size (fun _=>True) (.slice Ao23 t218.length co23) t218)∧Aside0 (w'.heap[gb215]?=some (.cells #[(.slice A0_0 l0_0.length c0_0),.int .i64 a0_1] 44 (0,0)))∧Aside0 (w'.heap[gb216]?=some (.cells #[.int .i64 a3_0,.int .i64 a3_1,.int .i64 a3_2] 48 (0,0)))∧Aside0 (w'.heap[gb231]?=some (.cells #[.int .i64 ((rd_T95 l1 x44_1).f0),.int .i64 ((rd_T95 l1 x44_1).f1),.int .i64 ((rd_T95 l1 x44_1).f2)] 95 (0,0)))∧Aside0 (Below w.heap.size w w'))
         case atStart=>exact⟨((-1)),(0),fin2,fin2,H',⟨Nat.le_refl _⟩,⟨by(with_reducible repeat(first|apply Kd.R_alloc|apply Kd.R_drewN|apply Kd.R_drew));exact Kd.R_mono (Kd.R_far (p:=⟨gb231,2,none⟩) (Kd.R_far (p:=⟨gb231,1,none⟩) (Kd.R_far (p:=⟨gb231,0,none⟩) (Kd.R_types HO_12.out BK231.out (by decide)) (fun _ hk=>hk.2) (.int .i64 ((rd_T95 l1 x44_1).f0))) (fun _ hk=>hk.2) (.int .i64 ((rd_T95 l1 x44_1).f1))) (fun _ hk=>hk.2) (.int .i64 ((rd_T95 l1 x44_1).f2))) (fun _ hk=>trivial)⟩,⟨by(with_reducible repeat(first|apply Kd.S_alloc|apply Kd.S_drewN|apply Kd.S_drew));exact Kd.S_mono (Kd.S_far (p:=⟨gb231,2,none⟩) (Kd.S_far (p:=⟨gb231,1,none⟩) (Kd.S_far (p:=⟨gb231,0,none⟩) (Kd.S_types HO_14.out BK231.out (by decide)) (fun _ hk=>hk.2) (.int .i64 ((rd_T95 l1 x44_1).f0))) (fun _ hk=>hk.2) (.int .i64 ((rd_T95 l1 x44_1).f1))) (fun _ hk=>hk.2) (.int .i64 ((rd_T95 l1 x44_1).f2))) (fun _ hk=>trivial)⟩,⟨by(with_reducible repeat(first|apply Kd.R_alloc|apply Kd.R_drewN|apply Kd.R_drew));exact Kd.R_mono (Kd.R_far (p:=⟨gb231,2,none⟩) (Kd.R_far (p:=⟨gb231,1,none⟩) (Kd.R_far (p:=⟨gb231,0,none⟩) (Kd.R_types HO_15.out BK231.out (by decide)) (fun _ hk=>hk.2) (.int .i64 ((rd_T95 l1 x44_1).f0))) (fun _ hk=>hk.2) (.int .i64 ((rd_T95 l1 x44_1).f1))) (fun _ hk=>hk.2) (.int .i64 ((rd_T95 l1 x44_1).f2))) (fun _ hk=>trivial)⟩,⟨by(with_reducible repeat(first|apply Kd.R_alloc|apply Kd.R_drewN|apply Kd.R_drew));exact Kd.R_mono (Kd.R_far (p:=⟨gb231,2,none⟩) (Kd.R_far (p:=⟨gb231,1,none⟩) (Kd.R_far (p:=⟨gb231,0,none⟩) (Kd.R_types HO_12.out BK231.out (by decide)) (fun _ hk=>hk.2) (.int .i64 ((rd_T95 l1 x44_1).f0))) (fun _ hk=>hk.2) (.int .i64 ((rd_T95 l1 x44_1).f1))) (fun _ hk=>hk.2) (.int .i64 ((rd_T95 l1 x44_1).f2))) (fun _ hk=>trivial)⟩,⟨by(with_reducible repeat(first|refine bN_ ?_ _|refine bD_ ?_|refine bA_ ?_ _));refine blk_far ?_ NB215_231.out _;(with_reducible repeat(first|refine bN_ ?_ _|refine bD_ ?_|refine bA_ ?_ _));refine blk_far ?_ NB215_231.out _;(with_reducible repeat(first|refine bN_ ?_ _|refine bD_ ?_|refine bA_ ?_ _));refine blk_far ?_ NB215_231.out _;exact bup BK215.out⟩,⟨by(with_reducible repeat(first|refine bN_ ?_ _|refine bD_ ?_|refine bA_ ?_ _));refine blk_far ?_ NB216_231.out _;(with_reducible repeat(first|refine bN_ ?_ _|refine bD_ ?_|refine bA_ ?_ _));refine blk_far ?_ NB216_231.out _;(with_reducible repeat(first|refine bN_ ?_ _|refine bD_ ?_|refine bA_ ?_ _));refine blk_far ?_ NB216_231.out _;exact bup BK216.out⟩,⟨by(with_reducible repeat(first|refine bN_ ?_ _|refine bD_ ?_|refine bA_ ?_ _));refine blk_put (cs := #[.int .i64 ((rd_T95 l1 x44_1).f0),.int .i64 ((rd_T95 l1 x44_1).f1),.int .i64 0]) ?_ 2 _ rfl;(with_reducible repeat(first|refine bN_ ?_ _|refine bD_ ?_|refine bA_ ?_ _));refine blk_put (cs := #[.int .i64 ((rd_T95 l1 x44_1).f0),.int .i64 0,.int .i64 0]) ?_ 1 _ rfl;(with_reducible repeat(first|refine bN_ ?_ _|refine bD_ ?_|refine bA_ ?_ _));refine blk_put (cs := #[.int .i64 0,.int .i64 0,.int .i64 0]) ?_ 0 _ rfl;exact bup BK231.out⟩,⟨bl⟩⟩
         case round =>
          clear H'
          try clear c1
          try clear c2
          try clear p2
          try clear q2
          try clear hx2
          try clear c3
          try clear c7
          try clear c10
          try clear c10b0
          try clear c10b1
          try clear c11
          try clear c11b0
          try clear c11b1
          try clear c14
          try clear p23
          try clear q23
          try clear hx23
          try clear c24
          try clear c26
          try clear c26b0
          try clear c27
          try clear c27b0
          try clear c28
          try clear c28b0
          try clear c30
          try clear c31
          try clear hcz15_0
          try clear hcz15_1
          try clear hcz16_0
          try clear hcz16_1
          try clear hcz16_2
          try clear hcz18_0
          try clear hcz18_1
          try clear hcz19_0
          try clear hcz19_1
          try clear hcz19_2
          try clear hcz21_0
          try clear hcz21_1
          try clear hcz21_2
          try clear hcz32_0
          try clear hcz32_1
          try clear hcz32_2
          try clear hfz15_0
          try clear hfz15_1
          try clear hfz16_0
          try clear hfz16_1
          try clear hfz16_2
          try clear hfz18_0
          try clear hfz18_1
          try clear hfz19_0
          try clear hfz19_1
          try clear hfz19_2
          try clear hfz21_0
          try clear hfz21_1
          try clear hfz21_2
          try clear hfz32_0
          try clear hfz32_1
          try clear hfz32_2
          try clear hx230_0
          try clear hx230_1
          try clear hx230_2
          try clear p2
          try clear p230
          try clear q230
          obtain⟨x18_2,x51_2,rfl,rfl,HA,HK2,HO_12,HO_14,HO_15,HO_49,BK215,BK216,BK231,HB⟩:=hrel
          cases gk with
          | zero=>exact absurd HA.out (by simp [spec_PlaysAsPromised.l1])
          | succ k2 =>
           have H:=HA.out
           clear HA
           simp only[spec_PlaysAsPromised.l1] at H
           by_cases c33:x51_2<(t218.length:Int)
           ·rw[if_pos c33] at H
            have c33b0:decide (x51_2<(t218.length:Int))=true:=decide_eq_true c33
            clear c33
            by_cases c34:0≤x51_2
            ·rw[if_pos c34] at H
             have c34b0:decide (0≤x51_2)=true:=decide_eq_true c34
             clear c34
             by_cases c35:x51_2<(t218.length:Int)
             ·rw[if_pos c35] at H
              have c35b0:decide (x51_2<(t218.length:Int))=true:=decide_eq_true c35
              clear c35
              by_cases c36:x18_2<0
              ·rw[if_pos c36] at H
               have c36b0:decide (x18_2<0)=true:=decide_eq_true c36
               clear c36
               by_cases c37:x51_2<(x15_1.length:Int)
               ·rw[if_pos c37] at H
                have c37b0:decide (x51_2<(x15_1.length:Int))=true:=decide_eq_true c37
                clear c37
                obtain⟨bq38,hbq38⟩:∃ b_:Bool,b_=(rdOf false x15_1 x51_2):=⟨_,rfl⟩
                replace H:(if bq38=true then(spec_PlaysAsPromised.l1 k2 l1 t218 t224 x15_1 x44_1 x18_2 l1 (l1.length:Int) x44_1 t218 (t218.length:Int) (wrap64 (x51_2+1)) ((rd_T95 l1 x44_1).f0) ((rd_T95 l1 x44_1).f1) ((rd_T95 l1 x44_1).f2)) else(if((rd_T97 t218 x51_2).f0)=((rd_T95 l1 x44_1).f0) then(spec_PlaysAsPromised.l1 k2 l1 t218 t224 x15_1 x44_1 x51_2 l1 (l1.length:Int) x44_1 t218 (t218.length:Int) (wrap64 (x51_2+1)) ((rd_T95 l1 x44_1).f0) ((rd_T95 l1 x44_1).f1) ((rd_T95 l1 x44_1).f2)) else(spec_PlaysAsPromised.l1 k2 l1 t218 t224 x15_1 x44_1 x18_2 l1 (l1.length:Int) x44_1 t218 (t218.length:Int) (wrap64 (x51_2+1)) ((rd_T95 l1 x44_1).f0) ((rd_T95 l1 x44_1).f1) ((rd_T95 l1 x44_1).f2))))=some (r1,r2):=by rw[← hbq38] at H;exact H
                have Nbq38:=am hbq38
                clear hbq38
                by_cases c39:bq38=true
                ·subst c39
                 have H1:(spec_PlaysAsPromised.l1 k2 l1 t218 t224 x15_1 x44_1 x18_2 l1 (l1.length:Int) x44_1 t218 (t218.length:Int) (wrap64 (x51_2+1)) ((rd_T95 l1 x44_1).f0) ((rd_T95 l1 x44_1).f1) ((rd_T95 l1 x44_1).f2))=some (r1,r2):=by rw[if_pos rfl] at H;exact H
                 clear H
                 have H:=H1
                 clear H1
                 have H':=am H
                 clear H
                 have p232:0≤(x51_2:Int):=od
                 have q232:x51_2<(t218.length:Int):=od
                 obtain⟨ad232,e232,hx232_0,hx232_1,hx232_2⟩:=at_T97 (Kd.R_reads' HO_49.out).2.2 x51_2 p232 q232
                 cases e232
                 replace p232:=eq_true p232
                 replace q232:=eq_true q232
                 iterate 3 ((try go_quiet (fail));(try go_wp2_with (first|((with_reducible refine gate_dst (N:=20) rfl ?_);refine box_event ?hg (N:=20) ?hd (cs := #[.int .i64 0,.int .i64 0,.int .i64 0]) (t:=97) ?hr ?_;(case hd=>rfl);(case hg=>rfl);(case hr=>first|(go_simp;done)|(go_simp;rfl));intro gb233 hg w40 hbox hb;have n0_:=am (Kd.R_below (Kd.R_elderB (rup HO_12.out) gb233 (Nat.le_of_eq hg.symm)) hb);have n1_:=am (Kd.S_below (by(with_reducible repeat(first|apply Kd.S_alloc|apply Kd.S_drewN|apply Kd.S_drew));exact HO_14.out) hb);have n2_:=am (Kd.R_below (rup HO_15.out) hb);have n3_:=am (Kd.R_below (Kd.R_elderB (rup HO_49.out) gb233 (Nat.le_of_eq hg.symm)) hb);have n4_:=am (blk_below (g:=gb215) (o := .cells #[.slice A0_0 l0_0.length c0_0,.int .i64 a0_1] 44 (0,0)) (bup BK215.out) hb);have n5_:=am (blk_below (g:=gb216) (o := .cells #[.int .i64 a3_0,.int .i64 a3_1,.int .i64 a3_2] 48 (0,0)) (bup BK216.out) hb);have n6_:=am (blk_below (g:=gb231) (o := .cells #[.int .i64 ((rd_T95 l1 x44_1).f0),.int .i64 ((rd_T95 l1 x44_1).f1),.int .i64 ((rd_T95 l1 x44_1).f2)] 95 (0,0)) (bup BK231.out) hb);have n7_:=am (below_step bl hb);have n8_:=am (hbox);have n9_:=am ((by rw[hg];exact(below_size bl):w.heap.size≤gb233));have n10_:=am ((by rw[hg];exact(below_size bl):w.heap.size≤gb233));have n11_:=am ((by rw[hg];exact Nat.ne_of_lt (blk_lt (g:=gb215) (o := .cells #[.slice A0_0 l0_0.length c0_0,.int .i64 a0_1] 44 (0,0)) (bup BK215.out)):gb215≠gb233));have n12_:=am ((by rw[hg];exact Nat.ne_of_gt (blk_lt (g:=gb215) (o := .cells #[.slice A0_0 l0_0.length c0_0,.int .i64 a0_1] 44 (0,0)) (bup BK215.out)):gb233≠gb215));have n13_:=am ((by rw[hg];exact Nat.ne_of_lt (blk_lt (g:=gb216) (o := .cells #[.int .i64 a3_0,.int .i64 a3_1,.int .i64 a3_2] 48 (0,0)) (bup BK216.out)):gb216≠gb233));have n14_:=am ((by rw[hg];exact Nat.ne_of_gt (blk_lt (g:=gb216) (o := .cells #[.int .i64 a3_0,.int .i64 a3_1,.int .i64 a3_2] 48 (0,0)) (bup BK216.out)):gb233≠gb216));have n15_:=am ((by rw[hg];exact Nat.ne_of_lt (blk_lt (g:=gb231) (o := .cells #[.int .i64 ((rd_T95 l1 x44_1).f0),.int .i64 ((rd_T95 l1 x44_1).f1),.int .i64 ((rd_T95 l1 x44_1).f2)] 95 (0,0)) (bup BK231.out)):gb231≠gb233));have n16_:=am ((by rw[hg];exact Nat.ne_of_gt (blk_lt (g:=gb231) (o := .cells #[.int .i64 ((rd_T95 l1 x44_1).f0),.int .i64 ((rd_T95 l1 x44_1).f1),.int .i64 ((rd_T95 l1 x44_1).f2)] 95 (0,0)) (bup BK231.out)):gb233≠gb231));clear HO_12 HO_14 HO_15 HO_49 BK215 BK216 BK231 HB;have HO_12:=n0_;have HO_14:=n1_;have HO_15:=n2_;have HO_49:=n3_;have BK215:=n4_;have BK216:=n5_;have BK231:=n6_;have HB:=n7_;have BK233:=n8_;have GW233:=n9_;have GE233:=n10_;have NB215_233:=n11_;have NB233_215:=n12_;have NB216_233:=n13_;have NB233_216:=n14_;have NB231_233:=n15_;have NB233_231:=n16_;clear n0_ n1_ n2_ n3_ n4_ n5_ n6_ n7_ n8_ n9_ n10_ n11_ n12_ n13_ n14_ n15_ n16_ hb hbox hg;have hnb41:=NB233_215.out;have hnc41:=NB215_233.out;have hnb42:=NB233_216.out;have hnc42:=NB216_233.out;have hnb43:=NB233_231.out;have hnc43:=NB231_233.out;have hcz44_0:w40.cell? ⟨gb233,0,none⟩=some (.int .i64 0):=(blk_cell BK233.out 0).trans rfl;have hcz44_1:w40.cell? ⟨gb233,1,none⟩=some (.int .i64 0):=(blk_cell BK233.out 1).trans rfl;have hcz44_2:w40.cell? ⟨gb233,2,none⟩=some (.int .i64 0):=(blk_cell BK233.out 2).trans rfl;have hfz44_0:=blk_frozen BK233.out 0;have hfz44_1:=blk_frozen BK233.out 1;have hfz44_2:=blk_frozen BK233.out 2;obtain⟨Ao45,co45,eo45⟩:=Kd.R_slice HO_15.out;subst eo45;have p234:0≤(x51_2:Int):=od;have q234:x51_2<(x15_1.length:Int):=od;obtain⟨ad234,e234,hx234_0⟩:=Kd.at_bool (Kd.R_reads' HO_15.out).2.2 x51_2 p234 q234;(try rw[← Nbq38.out] at hx234_0);cases e234;have hn234_0:ad234.block≠gb233:=Kd.own_blk (Kd.R_ne HO_15.out BK233.out (by decide));have hn234_1:ad234.block≠gb233:=Kd.own_blk (Kd.R_ne HO_15.out BK233.out (by decide));have hn234_2:ad234.block≠gb233:=Kd.own_blk (Kd.R_ne HO_15.out BK233.out (by decide));replace hx234_0:=(cell_far (p:=⟨gb233,0,none⟩) (by first|(rw[add_block];exact hn234_0)|(show(Addr.add _ _).block≠_;rw[add_block];exact hn234_0)|exact hn234_0) (.int .i64 ((rd_T97 t218 x51_2).f0))).trans hx234_0;replace hx234_0:=(cell_far (p:=⟨gb233,1,none⟩) (by first|(rw[add_block];exact hn234_1)|(show(Addr.add _ _).block≠_;rw[add_block];exact hn234_1)|exact hn234_1) (.int .i64 ((rd_T97 t218 x51_2).f1))).trans hx234_0;replace hx234_0:=(cell_far (p:=⟨gb233,2,none⟩) (by first|(rw[add_block];exact hn234_2)|(show(Addr.add _ _).block≠_;rw[add_block];exact hn234_2)|exact hn234_2) (.int .i64 ((rd_T97 t218 x51_2).f2))).trans hx234_0;(try have hy234_0:=fun(n_:Nat)=>(show(((((w40.drewN n_).setCell ⟨gb233,0,none⟩ (.int .i64 ((rd_T97 t218 x51_2).f0))).setCell ⟨gb233,1,none⟩ (.int .i64 ((rd_T97 t218 x51_2).f1))).setCell ⟨gb233,2,none⟩ (.int .i64 ((rd_T97 t218 x51_2).f2)))).cell? _=some _ from hx234_0));clear hn234_0 hn234_1 hn234_2;replace p234:=eq_true p234;replace q234:=eq_true q234))))
                 go_roundg k2
                 case measure=>have:=HK1.out;have:=HK2.out;omega
                 case rel=>exact⟨(x18_2),(wrap64 (x51_2+1)),fin2,fin2,H',⟨by have:=HK1.out;have:=HK2.out;omega⟩,⟨by(with_reducible repeat(first|apply Kd.R_alloc|apply Kd.R_drewN|apply Kd.R_drew));exact Kd.R_mono (Kd.R_far (p:=⟨gb233,2,none⟩) (Kd.R_far (p:=⟨gb233,1,none⟩) (Kd.R_far (p:=⟨gb233,0,none⟩) (Kd.R_mono HO_12.out (fun k_ hk=>(⟨hk,hk.2⟩:_∧k_≠gb233))) (fun _ hk=>hk.2) (.int .i64 ((rd_T97 t218 x51_2).f0))) (fun _ hk=>hk.2) (.int .i64 ((rd_T97 t218 x51_2).f1))) (fun _ hk=>hk.2) (.int .i64 ((rd_T97 t218 x51_2).f2))) (fun _ hk=>trivial)⟩,⟨by(with_reducible repeat(first|apply Kd.S_alloc|apply Kd.S_drewN|apply Kd.S_drew));exact Kd.S_mono (Kd.S_far (p:=⟨gb233,2,none⟩) (Kd.S_far (p:=⟨gb233,1,none⟩) (Kd.S_far (p:=⟨gb233,0,none⟩) (Kd.S_types HO_14.out BK233.out (by decide)) (fun _ hk=>hk.2) (.int .i64 ((rd_T97 t218 x51_2).f0))) (fun _ hk=>hk.2) (.int .i64 ((rd_T97 t218 x51_2).f1))) (fun _ hk=>hk.2) (.int .i64 ((rd_T97 t218 x51_2).f2))) (fun _ hk=>trivial)⟩,⟨by(with_reducible repeat(first|apply Kd.R_alloc|apply Kd.R_drewN|apply Kd.R_drew));exact Kd.R_mono (Kd.R_far (p:=⟨gb233,2,none⟩) (Kd.R_far (p:=⟨gb233,1,none⟩) (Kd.R_far (p:=⟨gb233,0,none⟩) (Kd.R_types HO_15.out BK233.out (by decide)) (fun _ hk=>hk.2) (.int .i64 ((rd_T97 t218 x51_2).f0))) (fun _ hk=>hk.2) (.int .i64 ((rd_T97 t218 x51_2).f1))) (fun _ hk=>hk.2) (.int .i64 ((rd_T97 t218 x51_2).f2))) (fun _ hk=>trivial)⟩,⟨by(with_reducible repeat(first|apply Kd.R_alloc|apply Kd.R_drewN|apply Kd.R_drew));exact Kd.R_mono (Kd.R_far (p:=⟨gb233,2,none⟩) (Kd.R_far (p:=⟨gb233,1,none⟩) (Kd.R_far (p:=⟨gb233,0,none⟩) (Kd.R_mono HO_49.out (fun k_ hk=>(⟨hk,hk.2⟩:_∧k_≠gb233))) (fun _ hk=>hk.2) (.int .i64 ((rd_T97 t218 x51_2).f0))) (fun _ hk=>hk.2) (.int .i64 ((rd_T97 t218 x51_2).f1))) (fun _ hk=>hk.2) (.int .i64 ((rd_T97 t218 x51_2).f2))) (fun _ hk=>trivial)⟩,⟨by(with_reducible repeat(first|refine bN_ ?_ _|refine bD_ ?_|refine bA_ ?_ _));refine blk_far ?_ NB215_233.out _;(with_reducible repeat(first|refine bN_ ?_ _|refine bD_ ?_|refine bA_ ?_ _));refine blk_far ?_ NB215_233.out _;(with_reducible repeat(first|refine bN_ ?_ _|refine bD_ ?_|refine bA_ ?_ _));refine blk_far ?_ NB215_233.out _;exact bup BK215.out⟩,⟨by(with_reducible repeat(first|refine bN_ ?_ _|refine bD_ ?_|refine bA_ ?_ _));refine blk_far ?_ NB216_233.out _;(with_reducible repeat(first|refine bN_ ?_ _|refine bD_ ?_|refine bA_ ?_ _));refine blk_far ?_ NB216_233.out _;(with_reducible repeat(first|refine bN_ ?_ _|refine bD_ ?_|refine bA_ ?_ _));refine blk_far ?_ NB216_233.out _;exact bup BK216.out⟩,⟨by(with_reducible repeat(first|refine bN_ ?_ _|refine bD_ ?_|refine bA_ ?_ _));refine blk_far ?_ NB231_233.out _;(with_reducible repeat(first|refine bN_ ?_ _|refine bD_ ?_|refine bA_ ?_ _));refine blk_far ?_ NB231_233.out _;(with_reducible repeat(first|refine bN_ ?_ _|refine bD_ ?_|refine bA_ ?_ _));refine blk_far ?_ NB231_233.out _;exact bup BK231.out⟩,⟨bl⟩⟩
                ·replace c39:=Bool.eq_false_iff.mpr c39
                 subst c39
                 have H1:(if((rd_T97 t218 x51_2).f0)=((rd_T95 l1 x44_1).f0) then(spec_PlaysAsPromised.l1 k2 l1 t218 t224 x15_1 x44_1 x51_2 l1 (l1.length:Int) x44_1 t218 (t218.length:Int) (wrap64 (x51_2+1)) ((rd_T95 l1 x44_1).f0) ((rd_T95 l1 x44_1).f1) ((rd_T95 l1 x44_1).f2)) else(spec_PlaysAsPromised.l1 k2 l1 t218 t224 x15_1 x44_1 x18_2 l1 (l1.length:Int) x44_1 t218 (t218.length:Int) (wrap64 (x51_2+1)) ((rd_T95 l1 x44_1).f0) ((rd_T95 l1 x44_1).f1) ((rd_T95 l1 x44_1).f2)))=some (r1,r2):=by rw[if_neg (show ¬ (false=true) by decide)] at H;exact H
                 clear H
                 have H:=H1
                 clear H1
                 by_cases c46:((rd_T97 t218 x51_2).f0)=((rd_T95 l1 x44_1).f0)
                 ·rw[if_pos c46] at H
                  have c46b0:(((rd_T97 t218 x51_2).f0) == ((rd_T95 l1 x44_1).f0))=true:=beq_iff_eq.mpr c46
                  have c46b1:(((rd_T97 t218 x51_2).f0) != ((rd_T95 l1 x44_1).f0))=false:=bne_eq_false_iff_eq.mpr c46
                  clear c46
                  have H':=am H
                  clear H
                  have p232:0≤(x51_2:Int):=od
                  have q232:x51_2<(t218.length:Int):=od
                  obtain⟨ad232,e232,hx232_0,hx232_1,hx232_2⟩:=at_T97 (Kd.R_reads' HO_49.out).2.2 x51_2 p232 q232
                  cases e232
                  replace p232:=eq_true p232
                  replace q232:=eq_true q232
                  iterate 3 ((try go_quiet (fail));(try go_wp2_with (first|((with_reducible refine gate_dst (N:=20) rfl ?_);refine box_event ?hg (N:=20) ?hd (cs := #[.int .i64 0,.int .i64 0,.int .i64 0]) (t:=97) ?hr ?_;(case hd=>rfl);(case hg=>rfl);(case hr=>first|(go_simp;done)|(go_simp;rfl));intro gb233 hg w47 hbox hb;have n0_:=am (Kd.R_below (Kd.R_elderB (rup HO_12.out) gb233 (Nat.le_of_eq hg.symm)) hb);have n1_:=am (Kd.S_below (by(with_reducible repeat(first|apply Kd.S_alloc|apply Kd.S_drewN|apply Kd.S_drew));exact HO_14.out) hb);have n2_:=am (Kd.R_below (rup HO_15.out) hb);have n3_:=am (Kd.R_below (Kd.R_elderB (rup HO_49.out) gb233 (Nat.le_of_eq hg.symm)) hb);have n4_:=am (blk_below (g:=gb215) (o := .cells #[.slice A0_0 l0_0.length c0_0,.int .i64 a0_1] 44 (0,0)) (bup BK215.out) hb);have n5_:=am (blk_below (g:=gb216) (o := .cells #[.int .i64 a3_0,.int .i64 a3_1,.int .i64 a3_2] 48 (0,0)) (bup BK216.out) hb);have n6_:=am (blk_below (g:=gb231) (o := .cells #[.int .i64 ((rd_T95 l1 x44_1).f0),.int .i64 ((rd_T95 l1 x44_1).f1),.int .i64 ((rd_T95 l1 x44_1).f2)] 95 (0,0)) (bup BK231.out) hb);have n7_:=am (below_step bl hb);have n8_:=am (hbox);have n9_:=am ((by rw[hg];exact(below_size bl):w.heap.size≤gb233));have n10_:=am ((by rw[hg];exact(below_size bl):w.heap.size≤gb233));have n11_:=am ((by rw[hg];exact Nat.ne_of_lt (blk_lt (g:=gb215) (o := .cells #[.slice A0_0 l0_0.length c0_0,.int .i64 a0_1] 44 (0,0)) (bup BK215.out)):gb215≠gb233));have n12_:=am ((by rw[hg];exact Nat.ne_of_gt (blk_lt (g:=gb215) (o := .cells #[.slice A0_0 l0_0.length c0_0,.int .i64 a0_1] 44 (0,0)) (bup BK215.out)):gb233≠gb215));have n13_:=am ((by rw[hg];exact Nat.ne_of_lt (blk_lt (g:=gb216) (o := .cells #[.int .i64 a3_0,.int .i64 a3_1,.int .i64 a3_2] 48 (0,0)) (bup BK216.out)):gb216≠gb233));have n14_:=am ((by rw[hg];exact Nat.ne_of_gt (blk_lt (g:=gb216) (o := .cells #[.int .i64 a3_0,.int .i64 a3_1,.int .i64 a3_2] 48 (0,0)) (bup BK216.out)):gb233≠gb216));have n15_:=am ((by rw[hg];exact Nat.ne_of_lt (blk_lt (g:=gb231) (o := .cells #[.int .i64 ((rd_T95 l1 x44_1).f0),.int .i64 ((rd_T95 l1 x44_1).f1),.int .i64 ((rd_T95 l1 x44_1).f2)] 95 (0,0)) (bup BK231.out)):gb231≠gb233));have n16_:=am ((by rw[hg];exact Nat.ne_of_gt (blk_lt (g:=gb231) (o := .cells #[.int .i64 ((rd_T95 l1 x44_1).f0),.int .i64 ((rd_T95 l1 x44_1).f1),.int .i64 ((rd_T95 l1 x44_1).f2)] 95 (0,0)) (bup BK231.out)):gb233≠gb231));clear HO_12 HO_14 HO_15 HO_49 BK215 BK216 BK231 HB;have HO_12:=n0_;have HO_14:=n1_;have HO_15:=n2_;have HO_49:=n3_;have BK215:=n4_;have BK216:=n5_;have BK231:=n6_;have HB:=n7_;have BK233:=n8_;have GW233:=n9_;have GE233:=n10_;have NB215_233:=n11_;have NB233_215:=n12_;have NB216_233:=n13_;have NB233_216:=n14_;have NB231_233:=n15_;have NB233_231:=n16_;clear n0_ n1_ n2_ n3_ n4_ n5_ n6_ n7_ n8_ n9_ n10_ n11_ n12_ n13_ n14_ n15_ n16_ hb hbox hg;have hnb48:=NB233_215.out;have hnc48:=NB215_233.out;have hnb49:=NB233_216.out;have hnc49:=NB216_233.out;have hnb50:=NB233_231.out;have hnc50:=NB231_233.out;have hcz51_0:w47.cell? ⟨gb233,0,none⟩=some (.int .i64 0):=(blk_cell BK233.out 0).trans rfl;have hcz51_1:w47.cell? ⟨gb233,1,none⟩=some (.int .i64 0):=(blk_cell BK233.out 1).trans rfl;have hcz51_2:w47.cell? ⟨gb233,2,none⟩=some (.int .i64 0):=(blk_cell BK233.out 2).trans rfl;have hfz51_0:=blk_frozen BK233.out 0;have hfz51_1:=blk_frozen BK233.out 1;have hfz51_2:=blk_frozen BK233.out 2;obtain⟨Ao52,co52,eo52⟩:=Kd.R_slice HO_15.out;subst eo52;have p234:0≤(x51_2:Int):=od;have q234:x51_2<(x15_1.length:Int):=od;obtain⟨ad234,e234,hx234_0⟩:=Kd.at_bool (Kd.R_reads' HO_15.out).2.2 x51_2 p234 q234;(try rw[← Nbq38.out] at hx234_0);cases e234;have hn234_0:ad234.block≠gb233:=Kd.own_blk (Kd.R_ne HO_15.out BK233.out (by decide));have hn234_1:ad234.block≠gb233:=Kd.own_blk (Kd.R_ne HO_15.out BK233.out (by decide));have hn234_2:ad234.block≠gb233:=Kd.own_blk (Kd.R_ne HO_15.out BK233.out (by decide));replace hx234_0:=(cell_far (p:=⟨gb233,0,none⟩) (by first|(rw[add_block];exact hn234_0)|(show(Addr.add _ _).block≠_;rw[add_block];exact hn234_0)|exact hn234_0) (.int .i64 ((rd_T97 t218 x51_2).f0))).trans hx234_0;replace hx234_0:=(cell_far (p:=⟨gb233,1,none⟩) (by first|(rw[add_block];exact hn234_1)|(show(Addr.add _ _).block≠_;rw[add_block];exact hn234_1)|exact hn234_1) (.int .i64 ((rd_T97 t218 x51_2).f1))).trans hx234_0;replace hx234_0:=(cell_far (p:=⟨gb233,2,none⟩) (by first|(rw[add_block];exact hn234_2)|(show(Addr.add _ _).block≠_;rw[add_block];exact hn234_2)|exact hn234_2) (.int .i64 ((rd_T97 t218 x51_2).f2))).trans hx234_0;(try have hy234_0:=fun(n_:Nat)=>(show(((((w47.drewN n_).setCell ⟨gb233,0,none⟩ (.int .i64 ((rd_T97 t218 x51_2).f0))).setCell ⟨gb233,1,none⟩ (.int .i64 ((rd_T97 t218 x51_2).f1))).setCell ⟨gb233,2,none⟩ (.int .i64 ((rd_T97 t218 x51_2).f2)))).cell? _=some _ from hx234_0));clear hn234_0 hn234_1 hn234_2;replace p234:=eq_true p234;replace q234:=eq_true q234;have hnb53:=NB231_215.out;have hnc53:=NB215_231.out;have hnb54:=NB231_216.out;have hnc54:=NB216_231.out;have hcz55_0:w47.cell? ⟨gb231,0,none⟩=some (.int .i64 ((rd_T95 l1 x44_1).f0)):=(blk_cell BK231.out 0).trans rfl;have hcz55_1:w47.cell? ⟨gb231,1,none⟩=some (.int .i64 ((rd_T95 l1 x44_1).f1)):=(blk_cell BK231.out 1).trans rfl;have hcz55_2:w47.cell? ⟨gb231,2,none⟩=some (.int .i64 ((rd_T95 l1 x44_1).f2)):=(blk_cell BK231.out 2).trans rfl;have hfz55_0:=blk_frozen BK231.out 0;have hfz55_1:=blk_frozen BK231.out 1;have hfz55_2:=blk_frozen BK231.out 2))))
                  go_roundg k2
                  case measure=>have:=HK1.out;have:=HK2.out;omega
                  case rel=>exact⟨(x51_2),(wrap64 (x51_2+1)),fin2,fin2,H',⟨by have:=HK1.out;have:=HK2.out;omega⟩,⟨by(with_reducible repeat(first|apply Kd.R_alloc|apply Kd.R_drewN|apply Kd.R_drew));exact Kd.R_mono (Kd.R_far (p:=⟨gb233,2,none⟩) (Kd.R_far (p:=⟨gb233,1,none⟩) (Kd.R_far (p:=⟨gb233,0,none⟩) (Kd.R_mono HO_12.out (fun k_ hk=>(⟨hk,hk.2⟩:_∧k_≠gb233))) (fun _ hk=>hk.2) (.int .i64 ((rd_T97 t218 x51_2).f0))) (fun _ hk=>hk.2) (.int .i64 ((rd_T97 t218 x51_2).f1))) (fun _ hk=>hk.2) (.int .i64 ((rd_T97 t218 x51_2).f2))) (fun _ hk=>trivial)⟩,⟨by(with_reducible repeat(first|apply Kd.S_alloc|apply Kd.S_drewN|apply Kd.S_drew));exact Kd.S_mono (Kd.S_far (p:=⟨gb233,2,none⟩) (Kd.S_far (p:=⟨gb233,1,none⟩) (Kd.S_far (p:=⟨gb233,0,none⟩) (Kd.S_types HO_14.out BK233.out (by decide)) (fun _ hk=>hk.2) (.int .i64 ((rd_T97 t218 x51_2).f0))) (fun _ hk=>hk.2) (.int .i64 ((rd_T97 t218 x51_2).f1))) (fun _ hk=>hk.2) (.int .i64 ((rd_T97 t218 x51_2).f2))) (fun _ hk=>trivial)⟩,⟨by(with_reducible repeat(first|apply Kd.R_alloc|apply Kd.R_drewN|apply Kd.R_drew));exact Kd.R_mono (Kd.R_far (p:=⟨gb233,2,none⟩) (Kd.R_far (p:=⟨gb233,1,none⟩) (Kd.R_far (p:=⟨gb233,0,none⟩) (Kd.R_types HO_15.out BK233.out (by decide)) (fun _ hk=>hk.2) (.int .i64 ((rd_T97 t218 x51_2).f0))) (fun _ hk=>hk.2) (.int .i64 ((rd_T97 t218 x51_2).f1))) (fun _ hk=>hk.2) (.int .i64 ((rd_T97 t218 x51_2).f2))) (fun _ hk=>trivial)⟩,⟨by(with_reducible repeat(first|apply Kd.R_alloc|apply Kd.R_drewN|apply Kd.R_drew));exact Kd.R_mono (Kd.R_far (p:=⟨gb233,2,none⟩) (Kd.R_far (p:=⟨gb233,1,none⟩) (Kd.R_far (p:=⟨gb233,0,none⟩) (Kd.R_mono HO_49.out (fun k_ hk=>(⟨hk,hk.2⟩:_∧k_≠gb233))) (fun _ hk=>hk.2) (.int .i64 ((rd_T97 t218 x51_2).f0))) (fun _ hk=>hk.2) (.int .i64 ((rd_T97 t218 x51_2).f1))) (fun _ hk=>hk.2) (.int .i64 ((rd_T97 t218 x51_2).f2))) (fun _ hk=>trivial)⟩,⟨by(with_reducible repeat(first|refine bN_ ?_ _|refine bD_ ?_|refine bA_ ?_ _));refine blk_far ?_ NB215_233.out _;(with_reducible repeat(first|refine bN_ ?_ _|refine bD_ ?_|refine bA_ ?_ _));refine blk_far ?_ NB215_233.out _;(with_reducible repeat(first|refine bN_ ?_ _|refine bD_ ?_|refine bA_ ?_ _));refine blk_far ?_ NB215_233.out _;exact bup BK215.out⟩,⟨by(with_reducible repeat(first|refine bN_ ?_ _|refine bD_ ?_|refine bA_ ?_ _));refine blk_far ?_ NB216_233.out _;(with_reducible repeat(first|refine bN_ ?_ _|refine bD_ ?_|refine bA_ ?_ _));refine blk_far ?_ NB216_233.out _;(with_reducible repeat(first|refine bN_ ?_ _|refine bD_ ?_|refine bA_ ?_ _));refine blk_far ?_ NB216_233.out _;exact bup BK216.out⟩,⟨by(with_reducible repeat(first|refine bN_ ?_ _|refine bD_ ?_|refine bA_ ?_ _));refine blk_far ?_ NB231_233.out _;(with_reducible repeat(first|refine bN_ ?_ _|refine bD_ ?_|refine bA_ ?_ _));refine blk_far ?_ NB231_233.out _;(with_reducible repeat(first|refine bN_ ?_ _|refine bD_ ?_|refine bA_ ?_ _));refine blk_far ?_ NB231_233.out _;exact bup BK231.out⟩,⟨bl⟩⟩
                 ·rw[if_neg c46] at H
                  have c46b0:(((rd_T97 t218 x51_2).f0) == ((rd_T95 l1 x44_1).f0))=false:=beq_eq_false_iff_ne.mpr c46
                  have c46b1:(((rd_T97 t218 x51_2).f0) != ((rd_T95 l1 x44_1).f0))=true:=bne_iff_ne.mpr c46
                  have H':=am H
                  clear H
                  have p232:0≤(x51_2:Int):=od
                  have q232:x51_2<(t218.length:Int):=od
                  obtain⟨ad232,e232,hx232_0,hx232_1,hx232_2⟩:=at_T97 (Kd.R_reads' HO_49.out).2.2 x51_2 p232 q232
                  cases e232
                  replace p232:=eq_true p232
                  replace q232:=eq_true q232
                  iterate 3 ((try go_quiet (fail));(try go_wp2_with (first|((with_reducible refine gate_dst (N:=20) rfl ?_);refine box_event ?hg (N:=20) ?hd (cs := #[.int .i64 0,.int .i64 0,.int .i64 0]) (t:=97) ?hr ?_;(case hd=>rfl);(case hg=>rfl);(case hr=>first|(go_simp;done)|(go_simp;rfl));intro gb233 hg w56 hbox hb;have n0_:=am (Kd.R_below (Kd.R_elderB (rup HO_12.out) gb233 (Nat.le_of_eq hg.symm)) hb);have n1_:=am (Kd.S_below (by(with_reducible repeat(first|apply Kd.S_alloc|apply Kd.S_drewN|apply Kd.S_drew));exact HO_14.out) hb);have n2_:=am (Kd.R_below (rup HO_15.out) hb);have n3_:=am (Kd.R_below (Kd.R_elderB (rup HO_49.out) gb233 (Nat.le_of_eq hg.symm)) hb);have n4_:=am (blk_below (g:=gb215) (o := .cells #[.slice A0_0 l0_0.length c0_0,.int .i64 a0_1] 44 (0,0)) (bup BK215.out) hb);have n5_:=am (blk_below (g:=gb216) (o := .cells #[.int .i64 a3_0,.int .i64 a3_1,.int .i64 a3_2] 48 (0,0)) (bup BK216.out) hb);have n6_:=am (blk_below (g:=gb231) (o := .cells #[.int .i64 ((rd_T95 l1 x44_1).f0),.int .i64 ((rd_T95 l1 x44_1).f1),.int .i64 ((rd_T95 l1 x44_1).f2)] 95 (0,0)) (bup BK231.out) hb);have n7_:=am (below_step bl hb);have n8_:=am (hbox);have n9_:=am ((by rw[hg];exact(below_size bl):w.heap.size≤gb233));have n10_:=am ((by rw[hg];exact(below_size bl):w.heap.size≤gb233));have n11_:=am ((by rw[hg];exact Nat.ne_of_lt (blk_lt (g:=gb215) (o := .cells #[.slice A0_0 l0_0.length c0_0,.int .i64 a0_1] 44 (0,0)) (bup BK215.out)):gb215≠gb233));have n12_:=am ((by rw[hg];exact Nat.ne_of_gt (blk_lt (g:=gb215) (o := .cells #[.slice A0_0 l0_0.length c0_0,.int .i64 a0_1] 44 (0,0)) (bup BK215.out)):gb233≠gb215));have n13_:=am ((by rw[hg];exact Nat.ne_of_lt (blk_lt (g:=gb216) (o := .cells #[.int .i64 a3_0,.int .i64 a3_1,.int .i64 a3_2] 48 (0,0)) (bup BK216.out)):gb216≠gb233));have n14_:=am ((by rw[hg];exact Nat.ne_of_gt (blk_lt (g:=gb216) (o := .cells #[.int .i64 a3_0,.int .i64 a3_1,.int .i64 a3_2] 48 (0,0)) (bup BK216.out)):gb233≠gb216));have n15_:=am ((by rw[hg];exact Nat.ne_of_lt (blk_lt (g:=gb231) (o := .cells #[.int .i64 ((rd_T95 l1 x44_1).f0),.int .i64 ((rd_T95 l1 x44_1).f1),.int .i64 ((rd_T95 l1 x44_1).f2)] 95 (0,0)) (bup BK231.out)):gb231≠gb233));have n16_:=am ((by rw[hg];exact Nat.ne_of_gt (blk_lt (g:=gb231) (o := .cells #[.int .i64 ((rd_T95 l1 x44_1).f0),.int .i64 ((rd_T95 l1 x44_1).f1),.int .i64 ((rd_T95 l1 x44_1).f2)] 95 (0,0)) (bup BK231.out)):gb233≠gb231));clear HO_12 HO_14 HO_15 HO_49 BK215 BK216 BK231 HB;have HO_12:=n0_;have HO_14:=n1_;have HO_15:=n2_;have HO_49:=n3_;have BK215:=n4_;have BK216:=n5_;have BK231:=n6_;have HB:=n7_;have BK233:=n8_;have GW233:=n9_;have GE233:=n10_;have NB215_233:=n11_;have NB233_215:=n12_;have NB216_233:=n13_;have NB233_216:=n14_;have NB231_233:=n15_;have NB233_231:=n16_;clear n0_ n1_ n2_ n3_ n4_ n5_ n6_ n7_ n8_ n9_ n10_ n11_ n12_ n13_ n14_ n15_ n16_ hb hbox hg;have hnb57:=NB233_215.out;have hnc57:=NB215_233.out;have hnb58:=NB233_216.out;have hnc58:=NB216_233.out;have hnb59:=NB233_231.out;have hnc59:=NB231_233.out;have hcz60_0:w56.cell? ⟨gb233,0,none⟩=some (.int .i64 0):=(blk_cell BK233.out 0).trans rfl;have hcz60_1:w56.cell? ⟨gb233,1,none⟩=some (.int .i64 0):=(blk_cell BK233.out 1).trans rfl;have hcz60_2:w56.cell? ⟨gb233,2,none⟩=some (.int .i64 0):=(blk_cell BK233.out 2).trans rfl;have hfz60_0:=blk_frozen BK233.out 0;have hfz60_1:=blk_frozen BK233.out 1;have hfz60_2:=blk_frozen BK233.out 2;obtain⟨Ao61,co61,eo61⟩:=Kd.R_slice HO_15.out;subst eo61;have p234:0≤(x51_2:Int):=od;have q234:x51_2<(x15_1.length:Int):=od;obtain⟨ad234,e234,hx234_0⟩:=Kd.at_bool (Kd.R_reads' HO_15.out).2.2 x51_2 p234 q234;(try rw[← Nbq38.out] at hx234_0);cases e234;have hn234_0:ad234.block≠gb233:=Kd.own_blk (Kd.R_ne HO_15.out BK233.out (by decide));have hn234_1:ad234.block≠gb233:=Kd.own_blk (Kd.R_ne HO_15.out BK233.out (by decide));have hn234_2:ad234.block≠gb233:=Kd.own_blk (Kd.R_ne HO_15.out BK233.out (by decide));replace hx234_0:=(cell_far (p:=⟨gb233,0,none⟩) (by first|(rw[add_block];exact hn234_0)|(show(Addr.add _ _).block≠_;rw[add_block];exact hn234_0)|exact hn234_0) (.int .i64 ((rd_T97 t218 x51_2).f0))).trans hx234_0;replace hx234_0:=(cell_far (p:=⟨gb233,1,none⟩) (by first|(rw[add_block];exact hn234_1)|(show(Addr.add _ _).block≠_;rw[add_block];exact hn234_1)|exact hn234_1) (.int .i64 ((rd_T97 t218 x51_2).f1))).trans hx234_0;replace hx234_0:=(cell_far (p:=⟨gb233,2,none⟩) (by first|(rw[add_block];exact hn234_2)|(show(Addr.add _ _).block≠_;rw[add_block];exact hn234_2)|exact hn234_2) (.int .i64 ((rd_T97 t218 x51_2).f2))).trans hx234_0;(try have hy234_0:=fun(n_:Nat)=>(show(((((w56.drewN n_).setCell ⟨gb233,0,none⟩ (.int .i64 ((rd_T97 t218 x51_2).f0))).setCell ⟨gb233,1,none⟩ (.int .i64 ((rd_T97 t218 x51_2).f1))).setCell ⟨gb233,2,none⟩ (.int .i64 ((rd_T97 t218 x51_2).f2)))).cell? _=some _ from hx234_0));clear hn234_0 hn234_1 hn234_2;replace p234:=eq_true p234;replace q234:=eq_true q234;have hnb62:=NB231_215.out;have hnc62:=NB215_231.out;have hnb63:=NB231_216.out;have hnc63:=NB216_231.out;have hcz64_0:w56.cell? ⟨gb231,0,none⟩=some (.int .i64 ((rd_T95 l1 x44_1).f0)):=(blk_cell BK231.out 0).trans rfl;have hcz64_1:w56.cell? ⟨gb231,1,none⟩=some (.int .i64 ((rd_T95 l1 x44_1).f1)):=(blk_cell BK231.out 1).trans rfl;have hcz64_2:w56.cell? ⟨gb231,2,none⟩=some (.int .i64 ((rd_T95 l1 x44_1).f2)):=(blk_cell BK231.out 2).trans rfl;have hfz64_0:=blk_frozen BK231.out 0;have hfz64_1:=blk_frozen BK231.out 1;have hfz64_2:=blk_frozen BK231.out 2))))
                  go_roundg k2
                  case measure=>have:=HK1.out;have:=HK2.out;omega
                  case rel=>exact⟨(x18_2),(wrap64 (x51_2+1)),fin2,fin2,H',⟨by have:=HK1.out;have:=HK2.out;omega⟩,⟨by(with_reducible repeat(first|apply Kd.R_alloc|apply Kd.R_drewN|apply Kd.R_drew));exact Kd.R_mono (Kd.R_far (p:=⟨gb233,2,none⟩) (Kd.R_far (p:=⟨gb233,1,none⟩) (Kd.R_far (p:=⟨gb233,0,none⟩) (Kd.R_mono HO_12.out (fun k_ hk=>(⟨hk,hk.2⟩:_∧k_≠gb233))) (fun _ hk=>hk.2) (.int .i64 ((rd_T97 t218 x51_2).f0))) (fun _ hk=>hk.2) (.int .i64 ((rd_T97 t218 x51_2).f1))) (fun _ hk=>hk.2) (.int .i64 ((rd_T97 t218 x51_2).f2))) (fun _ hk=>trivial)⟩,⟨by(with_reducible repeat(first|apply Kd.S_alloc|apply Kd.S_drewN|apply Kd.S_drew));exact Kd.S_mono (Kd.S_far (p:=⟨gb233,2,none⟩) (Kd.S_far (p:=⟨gb233,1,none⟩) (Kd.S_far (p:=⟨gb233,0,none⟩) (Kd.S_types HO_14.out BK233.out (by decide)) (fun _ hk=>hk.2) (.int .i64 ((rd_T97 t218 x51_2).f0))) (fun _ hk=>hk.2) (.int .i64 ((rd_T97 t218 x51_2).f1))) (fun _ hk=>hk.2) (.int .i64 ((rd_T97 t218 x51_2).f2))) (fun _ hk=>trivial)⟩,⟨by(with_reducible repeat(first|apply Kd.R_alloc|apply Kd.R_drewN|apply Kd.R_drew));exact Kd.R_mono (Kd.R_far (p:=⟨gb233,2,none⟩) (Kd.R_far (p:=⟨gb233,1,none⟩) (Kd.R_far (p:=⟨gb233,0,none⟩) (Kd.R_types HO_15.out BK233.out (by decide)) (fun _ hk=>hk.2) (.int .i64 ((rd_T97 t218 x51_2).f0))) (fun _ hk=>hk.2) (.int .i64 ((rd_T97 t218 x51_2).f1))) (fun _ hk=>hk.2) (.int .i64 ((rd_T97 t218 x51_2).f2))) (fun _ hk=>trivial)⟩,⟨by(with_reducible repeat(first|apply Kd.R_alloc|apply Kd.R_drewN|apply Kd.R_drew));exact Kd.R_mono (Kd.R_far (p:=⟨gb233,2,none⟩) (Kd.R_far (p:=⟨gb233,1,none⟩) (Kd.R_far (p:=⟨gb233,0,none⟩) (Kd.R_mono HO_49.out (fun k_ hk=>(⟨hk,hk.2⟩:_∧k_≠gb233))) (fun _ hk=>hk.2) (.int .i64 ((rd_T97 t218 x51_2).f0))) (fun _ hk=>hk.2) (.int .i64 ((rd_T97 t218 x51_2).f1))) (fun _ hk=>hk.2) (.int .i64 ((rd_T97 t218 x51_2).f2))) (fun _ hk=>trivial)⟩,⟨by(with_reducible repeat(first|refine bN_ ?_ _|refine bD_ ?_|refine bA_ ?_ _));refine blk_far ?_ NB215_233.out _;(with_reducible repeat(first|refine bN_ ?_ _|refine bD_ ?_|refine bA_ ?_ _));refine blk_far ?_ NB215_233.out _;(with_reducible repeat(first|refine bN_ ?_ _|refine bD_ ?_|refine bA_ ?_ _));refine blk_far ?_ NB215_233.out _;exact bup BK215.out⟩,⟨by(with_reducible repeat(first|refine bN_ ?_ _|refine bD_ ?_|refine bA_ ?_ _));refine blk_far ?_ NB216_233.out _;(with_reducible repeat(first|refine bN_ ?_ _|refine bD_ ?_|refine bA_ ?_ _));refine blk_far ?_ NB216_233.out _;(with_reducible repeat(first|refine bN_ ?_ _|refine bD_ ?_|refine bA_ ?_ _));refine blk_far ?_ NB216_233.out _;exact bup BK216.out⟩,⟨by(with_reducible repeat(first|refine bN_ ?_ _|refine bD_ ?_|refine bA_ ?_ _));refine blk_far ?_ NB231_233.out _;(with_reducible repeat(first|refine bN_ ?_ _|refine bD_ ?_|refine bA_ ?_ _));refine blk_far ?_ NB231_233.out _;(with_reducible repeat(first|refine bN_ ?_ _|refine bD_ ?_|refine bA_ ?_ _));refine blk_far ?_ NB231_233.out _;exact bup BK231.out⟩,⟨bl⟩⟩
               ·rw[if_neg c37] at H
                exact absurd H (by simp)
              ·rw[if_neg c36] at H
               have c36b0:decide (x18_2<0)=false:=decide_eq_false c36
               clear c36
               have H':=am H
               clear H
               have p232:0≤(x51_2:Int):=od
               have q232:x51_2<(t218.length:Int):=od
               obtain⟨ad232,e232,hx232_0,hx232_1,hx232_2⟩:=at_T97 (Kd.R_reads' HO_49.out).2.2 x51_2 p232 q232
               cases e232
               replace p232:=eq_true p232
               replace q232:=eq_true q232
               iterate 3 ((try go_quiet (fail));(try go_wp2_with (first|((with_reducible refine gate_dst (N:=20) rfl ?_);refine box_event ?hg (N:=20) ?hd (cs := #[.int .i64 0,.int .i64 0,.int .i64 0]) (t:=97) ?hr ?_;(case hd=>rfl);(case hg=>rfl);(case hr=>first|(go_simp;done)|(go_simp;rfl));intro gb233 hg w65 hbox hb;have n0_:=am (Kd.R_below (Kd.R_elderB (rup HO_12.out) gb233 (Nat.le_of_eq hg.symm)) hb);have n1_:=am (Kd.S_below (by(with_reducible repeat(first|apply Kd.S_alloc|apply Kd.S_drewN|apply Kd.S_drew));exact HO_14.out) hb);have n2_:=am (Kd.R_below (rup HO_15.out) hb);have n3_:=am (Kd.R_below (Kd.R_elderB (rup HO_49.out) gb233 (Nat.le_of_eq hg.symm)) hb);have n4_:=am (blk_below (g:=gb215) (o := .cells #[.slice A0_0 l0_0.length c0_0,.int .i64 a0_1] 44 (0,0)) (bup BK215.out) hb);have n5_:=am (blk_below (g:=gb216) (o := .cells #[.int .i64 a3_0,.int .i64 a3_1,.int .i64 a3_2] 48 (0,0)) (bup BK216.out) hb);have n6_:=am (blk_below (g:=gb231) (o := .cells #[.int .i64 ((rd_T95 l1 x44_1).f0),.int .i64 ((rd_T95 l1 x44_1).f1),.int .i64 ((rd_T95 l1 x44_1).f2)] 95 (0,0)) (bup BK231.out) hb);have n7_:=am (below_step bl hb);have n8_:=am (hbox);have n9_:=am ((by rw[hg];exact(below_size bl):w.heap.size≤gb233));have n10_:=am ((by rw[hg];exact(below_size bl):w.heap.size≤gb233));have n11_:=am ((by rw[hg];exact Nat.ne_of_lt (blk_lt (g:=gb215) (o := .cells #[.slice A0_0 l0_0.length c0_0,.int .i64 a0_1] 44 (0,0)) (bup BK215.out)):gb215≠gb233));have n12_:=am ((by rw[hg];exact Nat.ne_of_gt (blk_lt (g:=gb215) (o := .cells #[.slice A0_0 l0_0.length c0_0,.int .i64 a0_1] 44 (0,0)) (bup BK215.out)):gb233≠gb215));have n13_:=am ((by rw[hg];exact Nat.ne_of_lt (blk_lt (g:=gb216) (o := .cells #[.int .i64 a3_0,.int .i64 a3_1,.int .i64 a3_2] 48 (0,0)) (bup BK216.out)):gb216≠gb233));have n14_:=am ((by rw[hg];exact Nat.ne_of_gt (blk_lt (g:=gb216) (o := .cells #[.int .i64 a3_0,.int .i64 a3_1,.int .i64 a3_2] 48 (0,0)) (bup BK216.out)):gb233≠gb216));have n15_:=am ((by rw[hg];exact Nat.ne_of_lt (blk_lt (g:=gb231) (o := .cells #[.int .i64 ((rd_T95 l1 x44_1).f0),.int .i64 ((rd_T95 l1 x44_1).f1),.int .i64 ((rd_T95 l1 x44_1).f2)] 95 (0,0)) (bup BK231.out)):gb231≠gb233));have n16_:=am ((by rw[hg];exact Nat.ne_of_gt (blk_lt (g:=gb231) (o := .cells #[.int .i64 ((rd_T95 l1 x44_1).f0),.int .i64 ((rd_T95 l1 x44_1).f1),.int .i64 ((rd_T95 l1 x44_1).f2)] 95 (0,0)) (bup BK231.out)):gb233≠gb231));clear HO_12 HO_14 HO_15 HO_49 BK215 BK216 BK231 HB;have HO_12:=n0_;have HO_14:=n1_;have HO_15:=n2_;have HO_49:=n3_;have BK215:=n4_;have BK216:=n5_;have BK231:=n6_;have HB:=n7_;have BK233:=n8_;have GW233:=n9_;have GE233:=n10_;have NB215_233:=n11_;have NB233_215:=n12_;have NB216_233:=n13_;have NB233_216:=n14_;have NB231_233:=n15_;have NB233_231:=n16_;clear n0_ n1_ n2_ n3_ n4_ n5_ n6_ n7_ n8_ n9_ n10_ n11_ n12_ n13_ n14_ n15_ n16_ hb hbox hg;have hnb66:=NB233_215.out;have hnc66:=NB215_233.out;have hnb67:=NB233_216.out;have hnc67:=NB216_233.out;have hnb68:=NB233_231.out;have hnc68:=NB231_233.out;have hcz69_0:w65.cell? ⟨gb233,0,none⟩=some (.int .i64 0):=(blk_cell BK233.out 0).trans rfl;have hcz69_1:w65.cell? ⟨gb233,1,none⟩=some (.int .i64 0):=(blk_cell BK233.out 1).trans rfl;have hcz69_2:w65.cell? ⟨gb233,2,none⟩=some (.int .i64 0):=(blk_cell BK233.out 2).trans rfl;have hfz69_0:=blk_frozen BK233.out 0;have hfz69_1:=blk_frozen BK233.out 1;have hfz69_2:=blk_frozen BK233.out 2))))
               go_roundg k2
               case measure=>have:=HK1.out;have:=HK2.out;omega
               case rel=>exact⟨(x18_2),(wrap64 (x51_2+1)),fin2,fin2,H',⟨by have:=HK1.out;have:=HK2.out;omega⟩,⟨by(with_reducible repeat(first|apply Kd.R_alloc|apply Kd.R_drewN|apply Kd.R_drew));exact Kd.R_mono (Kd.R_far (p:=⟨gb233,2,none⟩) (Kd.R_far (p:=⟨gb233,1,none⟩) (Kd.R_far (p:=⟨gb233,0,none⟩) (Kd.R_mono HO_12.out (fun k_ hk=>(⟨hk,hk.2⟩:_∧k_≠gb233))) (fun _ hk=>hk.2) (.int .i64 ((rd_T97 t218 x51_2).f0))) (fun _ hk=>hk.2) (.int .i64 ((rd_T97 t218 x51_2).f1))) (fun _ hk=>hk.2) (.int .i64 ((rd_T97 t218 x51_2).f2))) (fun _ hk=>trivial)⟩,⟨by(with_reducible repeat(first|apply Kd.S_alloc|apply Kd.S_drewN|apply Kd.S_drew));exact Kd.S_mono (Kd.S_far (p:=⟨gb233,2,none⟩) (Kd.S_far (p:=⟨gb233,1,none⟩) (Kd.S_far (p:=⟨gb233,0,none⟩) (Kd.S_types HO_14.out BK233.out (by decide)) (fun _ hk=>hk.2) (.int .i64 ((rd_T97 t218 x51_2).f0))) (fun _ hk=>hk.2) (.int .i64 ((rd_T97 t218 x51_2).f1))) (fun _ hk=>hk.2) (.int .i64 ((rd_T97 t218 x51_2).f2))) (fun _ hk=>trivial)⟩,⟨by(with_reducible repeat(first|apply Kd.R_alloc|apply Kd.R_drewN|apply Kd.R_drew));exact Kd.R_mono (Kd.R_far (p:=⟨gb233,2,none⟩) (Kd.R_far (p:=⟨gb233,1,none⟩) (Kd.R_far (p:=⟨gb233,0,none⟩) (Kd.R_types HO_15.out BK233.out (by decide)) (fun _ hk=>hk.2) (.int .i64 ((rd_T97 t218 x51_2).f0))) (fun _ hk=>hk.2) (.int .i64 ((rd_T97 t218 x51_2).f1))) (fun _ hk=>hk.2) (.int .i64 ((rd_T97 t218 x51_2).f2))) (fun _ hk=>trivial)⟩,⟨by(with_reducible repeat(first|apply Kd.R_alloc|apply Kd.R_drewN|apply Kd.R_drew));exact Kd.R_mono (Kd.R_far (p:=⟨gb233,2,none⟩) (Kd.R_far (p:=⟨gb233,1,none⟩) (Kd.R_far (p:=⟨gb233,0,none⟩) (Kd.R_mono HO_49.out (fun k_ hk=>(⟨hk,hk.2⟩:_∧k_≠gb233))) (fun _ hk=>hk.2) (.int .i64 ((rd_T97 t218 x51_2).f0))) (fun _ hk=>hk.2) (.int .i64 ((rd_T97 t218 x51_2).f1))) (fun _ hk=>hk.2) (.int .i64 ((rd_T97 t218 x51_2).f2))) (fun _ hk=>trivial)⟩,⟨by(with_reducible repeat(first|refine bN_ ?_ _|refine bD_ ?_|refine bA_ ?_ _));refine blk_far ?_ NB215_233.out _;(with_reducible repeat(first|refine bN_ ?_ _|refine bD_ ?_|refine bA_ ?_ _));refine blk_far ?_ NB215_233.out _;(with_reducible repeat(first|refine bN_ ?_ _|refine bD_ ?_|refine bA_ ?_ _));refine blk_far ?_ NB215_233.out _;exact bup BK215.out⟩,⟨by(with_reducible repeat(first|refine bN_ ?_ _|refine bD_ ?_|refine bA_ ?_ _));refine blk_far ?_ NB216_233.out _;(with_reducible repeat(first|refine bN_ ?_ _|refine bD_ ?_|refine bA_ ?_ _));refine blk_far ?_ NB216_233.out _;(with_reducible repeat(first|refine bN_ ?_ _|refine bD_ ?_|refine bA_ ?_ _));refine blk_far ?_ NB216_233.out _;exact bup BK216.out⟩,⟨by(with_reducible repeat(first|refine bN_ ?_ _|refine bD_ ?_|refine bA_ ?_ _));refine blk_far ?_ NB231_233.out _;(with_reducible repeat(first|refine bN_ ?_ _|refine bD_ ?_|refine bA_ ?_ _));refine blk_far ?_ NB231_233.out _;(with_reducible repeat(first|refine bN_ ?_ _|refine bD_ ?_|refine bA_ ?_ _));refine blk_far ?_ NB231_233.out _;exact bup BK231.out⟩,⟨bl⟩⟩
             ·rw[if_neg c35] at H
              exact absurd H (by simp)
            ·rw[if_neg c34] at H
             exact absurd H (by simp)
           ·rw[if_neg c33] at H
            have c33b0:decide (x51_2<(t218.length:Int))=false:=decide_eq_false c33
            clear c33
            by_cases c70:x18_2<0
            ·rw[if_pos c70] at H
             have c70b0:decide (x18_2<0)=true:=decide_eq_true c70
             clear c70
             simp only[Option.some.injEq,Prod.mk.injEq] at H
             obtain⟨rfl,rfl⟩:=H
             go_wp2
             repeat(go_quiet (fail);try go_wp2)
             go_ret2
             exact⟨fin1,bl⟩
            ·rw[if_neg c70] at H
             have c70b0:decide (x18_2<0)=false:=decide_eq_false c70
             clear c70
             by_cases c71:0≤x18_2
             ·rw[if_pos c71] at H
              have c71b0:decide (0≤x18_2)=true:=decide_eq_true c71
              clear c71
              by_cases c72:x18_2<(t218.length:Int)
              ·rw[if_pos c72] at H
               have c72b0:decide (x18_2<(t218.length:Int))=true:=decide_eq_true c72
               clear c72
               by_cases c73:0≤x44_1
               ·rw[if_pos c73] at H
                have c73b0:decide (0≤x44_1)=true:=decide_eq_true c73
                clear c73
                by_cases c74:x44_1<(t224.length:Int)
                ·rw[if_pos c74] at H
                 have c74b0:decide (x44_1<(t224.length:Int))=true:=decide_eq_true c74
                 clear c74
                 by_cases c75:0<((rd_L6 t224 x44_1).length:Int)
                 ·rw[if_pos c75] at H
                  have c75b0:decide (0<((rd_L6 t224 x44_1).length:Int))=true:=decide_eq_true c75
                  have c75b1:decide (0<(rd_L6 t224 x44_1).length)=true:=decide_eq_true (by omega)
                  clear c75
                  by_cases c76:1<((rd_L6 t224 x44_1).length:Int)
                  ·rw[if_pos c76] at H
                   have c76b0:decide (1<((rd_L6 t224 x44_1).length:Int))=true:=decide_eq_true c76
                   have c76b1:decide (1<(rd_L6 t224 x44_1).length)=true:=decide_eq_true (by omega)
                   clear c76
                   replace H:=Option.bind_eq_some_iff.mp H
                   obtain⟨t240,A770,H⟩:=H
                   replace H:(if t240=true then(if x18_2<(x15_1.length:Int) then(spec_PlaysAsPromised.l0 k2 l1 t218 t224 (x15_1.set (x18_2:Int).toNat true) l1 (l1.length:Int) (wrap64 (x44_1+1))) else(none)) else(some (false,true)))=some (r1,r2):=H
                   have A77:=am A770
                   clear A770
                   by_cases c78:t240=true
                   ·subst c78
                    have H1:(if x18_2<(x15_1.length:Int) then(spec_PlaysAsPromised.l0 k2 l1 t218 t224 (x15_1.set (x18_2:Int).toNat true) l1 (l1.length:Int) (wrap64 (x44_1+1))) else(none))=some (r1,r2):=by rw[if_pos rfl] at H;exact H
                    clear H
                    have H:=H1
                    clear H1
                    by_cases c79:x18_2<(x15_1.length:Int)
                    ·rw[if_pos c79] at H
                     have c79b0:decide (x18_2<(x15_1.length:Int))=true:=decide_eq_true c79
                     clear c79
                     obtain⟨y241,hy241⟩:∃ y_:List Bool,y_=(x15_1.set (x18_2:Int).toNat true):=⟨_,rfl⟩
                     replace H:(spec_PlaysAsPromised.l0 k2 l1 t218 t224 y241 l1 (l1.length:Int) (wrap64 (x44_1+1)))=some (r1,r2):=by first|(rw[hy241];with_reducible exact H)|(have H2_:=(Option.bind_some _ _).symm.trans H;rw[hy241];with_reducible exact H2_)|(have H2_:=(Option.bind_some _ _).symm.trans H;with_reducible exact H2_)|with_reducible exact H|(rw[hy241];exact H)|exact H
                     have Ny241:=am hy241
                     clear hy241
                     have H':=am H
                     clear H
                     have p235:0≤(x18_2:Int):=od
                     have q235:x18_2<(t218.length:Int):=od
                     obtain⟨ad235,e235,hx235_0,hx235_1,hx235_2⟩:=at_T97 (Kd.R_reads' HO_12.out).2.2 x18_2 p235 q235
                     cases e235
                     replace p235:=eq_true p235
                     replace q235:=eq_true q235
                     obtain⟨Ao81,co81,eo81⟩:=Kd.S_slice HO_14.out
                     subst eo81
                     have p236:0≤(x44_1:Int):=od
                     have q236:x44_1<(t224.length:Int):=od
                     obtain⟨ad236,A236_0,c236_0,e236,hx236_0,hl236_0,hi236_0⟩:=at_L6 (Kd.S_reads' HO_14.out).2.2 x44_1 p236 q236
                     cases e236
                     obtain⟨ce236,hce236,hMe236,hcc236⟩:=Kd.S_get HO_14.out [] x44_1 p236 (by first|exact q236|exact od|(have e_:=(Kd.S_reads' HO_14.out).1;omega))
                     obtain⟨ve236_0,rfl,ge236_0⟩:=hMe236
                     have hv236_0:=hcc236 0 _ rfl
                     rw[Nat.add_zero,show((Kd.slice 3 (Kd.int .i64))).sz=1 from rfl,Nat.mul_one] at hv236_0
                     replace hv236_0:=Option.some.inj (hv236_0.symm.trans hx236_0)
                     rw[hv236_0] at ge236_0
                     have HL236_0:=am (show Kd.R (Kd.int .i64) 3 _ _ _ _ (rd_L6 t224 x44_1) from ge236_0)
                     clear hv236_0 ge236_0
                     clear hcc236 hce236
                     have HR236_0:=am hi236_0
                     have HC236_0:=am hl236_0
                     clear hi236_0 hl236_0
                     replace p236:=eq_true p236
                     replace q236:=eq_true q236
                     have p237:0≤(0:Int):=(by omega)
                     have q237:0<((rd_L6 t224 x44_1).length:Int):=od
                     obtain⟨ad237,e237,hx237_0⟩:=Kd.at_int (by repeat(first|(with_reducible exact HR236_0.out)|(with_reducible refine Kd.C_alloc ?_ _)|(with_reducible refine Kd.C_drewN ?_ _)|(with_reducible refine Kd.C_drew ?_)|exact HR236_0.out)) 0 p237 q237
                     cases e237
                     have qi237:(0<(rd_L6 t224 x44_1).length)=True:=eq_true (by omega)
                     (try rw[show((0:Int)).toNat=0 from rfl] at hx237_0)
                     (try rw[Addr.add_zero'] at hx237_0)
                     replace p237:=eq_true p237
                     replace q237:=eq_true q237
                     have p238:0≤(x44_1:Int):=od
                     have q238:x44_1<(t224.length:Int):=od
                     obtain⟨ad238,A238_0,c238_0,e238,hx238_0,hl238_0,hi238_0⟩:=at_L6 (Kd.S_reads' HO_14.out).2.2 x44_1 p238 q238
                     obtain rfl:ad236=ad238:=(by injection e238)
                     obtain⟨ce238,hce238,hMe238,hcc238⟩:=Kd.S_get HO_14.out [] x44_1 p238 (by first|exact q238|exact od|(have e_:=(Kd.S_reads' HO_14.out).1;omega))
                     obtain⟨ve238_0,rfl,ge238_0⟩:=hMe238
                     have hv238_0:=hcc238 0 _ rfl
                     rw[Nat.add_zero,show((Kd.slice 3 (Kd.int .i64))).sz=1 from rfl,Nat.mul_one] at hv238_0
                     replace hv238_0:=Option.some.inj (hv238_0.symm.trans hx238_0)
                     rw[hv238_0] at ge238_0
                     have HL238_0:=am (show Kd.R (Kd.int .i64) 3 _ _ _ _ (rd_L6 t224 x44_1) from ge238_0)
                     clear hv238_0 ge238_0
                     clear hcc238 hce238
                     have HR238_0:=am hi238_0
                     have HC238_0:=am hl238_0
                     clear hi238_0 hl238_0
                     replace p238:=eq_true p238
                     replace q238:=eq_true q238
                     have ea_:=Option.some.inj (hx236_0.symm.trans hx238_0)
                     injection ea_ with ea_ en_ ec_
                     subst ea_
                     subst ec_
                     clear en_
                     have p239:0≤(1:Int):=(by omega)
                     have q239:1<((rd_L6 t224 x44_1).length:Int):=od
                     obtain⟨ad239,e239,hx239_0⟩:=Kd.at_int (by repeat(first|(with_reducible exact HR238_0.out)|(with_reducible refine Kd.C_alloc ?_ _)|(with_reducible refine Kd.C_drewN ?_ _)|(with_reducible refine Kd.C_drew ?_)|exact HR238_0.out)) 1 p239 q239
                     cases e239
                     (try simp only[show(1:Int).toNat=1 from rfl,Nat.reduceMul,Nat.reduceEqDiff,Go.Addr.add,↓reduceIte] at hx239_0)
                     have qi239:(1<(rd_L6 t224 x44_1).length)=True:=eq_true (by omega)
                     (try rw[show((1:Int)).toNat=1 from rfl] at hx239_0)
                     replace p239:=eq_true p239
                     replace q239:=eq_true q239
                     iterate 3 ((try go_quiet (first|(go_at_call 65;(with_reducible refine(spec_l1In.calls ((rd_T97 t218 x18_2).f1) (rd (rd_L6 t224 x44_1) 0) (rd (rd_L6 t224 x44_1) 1) true _ A77.out).mono ?_);rintro e w' ⟨rfl,⟨nd,rfl⟩⟩;(try first|exact⟨rfl,_,World.drewN_drewN _ _ _⟩|exact⟨rfl,_,Eq.trans (World.drewN_drewN _ _ _) (congrArg (World.drewN _) (Nat.add_assoc _ _ _))⟩);have p80:0≤(x18_2:Int):=od;have q80:(x18_2:Int)<((x15_1.length:Int):Int):=od;obtain⟨go80,co80,eo80,gb80,gl80,cl80,HG80⟩:=Kd.R_form HO_15.out (by omega);(first|cases eo80|(injection eo80 with ea_ en_ ec_;(first|subst ea_|(injection ea_ with ea_;subst ea_));subst ec_;clear en_));have GB80:=am gb80;have GG80:=am HG80;clear gb80 gl80 HG80;obtain⟨hx80_0,hf80_0⟩:=Kd.R_celln false HO_15.out (x18_2:Int) p80 q80;replace p80:=eq_true p80;replace q80:=eq_true q80;obtain⟨hy82_,hz82_⟩:=Kd.R_celln false HO_15.out (x18_2:Int) (od) (od);have HP82:=Kd.R_putg HO_15.out (x18_2:Int) true)|((with_reducible refine gate_store (t:=4) (p:=99) rfl ?_);(try(rw[drewN_self wr];generalize hq_:World.drewN wr _=wr;have n0_:=am (Kd.R_at hq_ HO_12.out);have n1_:=am (Kd.S_at hq_ HO_14.out);have n2_:=am (Kd.R_at hq_ HO_15.out);have n3_:=am (Kd.R_at hq_ HO_49.out);have n4_:=am (Kd.R_at hq_ HL236_0.out);have n5_:=am (Kd.R_at hq_ HL238_0.out);have n6_:=am (blk_at hq_ BK215.out);have n7_:=am (blk_at hq_ BK216.out);have n8_:=am (blk_at hq_ BK231.out);have n9_:=am (below_at hq_ HB.out);clear hq_ HO_12 HO_14 HO_15 HO_49 HL236_0 HL238_0 BK215 BK216 BK231 HB;have HO_12:=n0_;have HO_14:=n1_;have HO_15:=n2_;have HO_49:=n3_;have HL236_0:=n4_;have HL238_0:=n5_;have BK215:=n6_;have BK216:=n7_;have BK231:=n8_;have HB:=n9_;clear n0_ n1_ n2_ n3_ n4_ n5_ n6_ n7_ n8_ n9_;(try(obtain⟨hy82_,hz82_⟩:=Kd.R_celln false HO_15.out (x18_2:Int) (od) (od)));(try(have HP82:=Kd.R_putg HO_15.out (x18_2:Int) true))));refine store_event (t:=4) (p:=99) (v:=?vo_w83) (w1:=(wr.setCell ⟨go80,(x18_2:Int).toNat,none⟩ (.bool true))) ?hg ?ho ?hn ?hr ?_;(case ho=>rfl);(case hg=>rfl);(case hn=>rfl);(case hr=>first|(go_simp;done)|(go_simp;rfl));intro w83 hw;have hg:wr.grownBy w83 (some go80):=(by rw[hw];exact HP82.2);have hp_:Kd.R Kd.bool 4 w83 w.heap.size (fun _=>True) (.slice (some ⟨go80,0,none⟩) x15_1.length co80) y241:=(by rw[hw,Ny241.out];exact HP82.1);clear HP82;have n0_:=am (Kd.R_over' (v:=(.slice (some ⟨go80,0,none⟩) x15_1.length co80)) (rup HO_12.out) (Kd.R_typed HO_15.out) (by decide) hg);have n1_:=am (Kd.S_over' (v:=(.slice (some ⟨go80,0,none⟩) x15_1.length co80)) (by(with_reducible repeat(first|apply Kd.S_alloc|apply Kd.S_drewN|apply Kd.S_drew));exact HO_14.out) (Kd.R_typed HO_15.out) (by decide) hg);have n2_:=am (hp_);have n3_:=am (Kd.R_over' (v:=(.slice (some ⟨go80,0,none⟩) x15_1.length co80)) (rup HO_49.out) (Kd.R_typed HO_15.out) (by decide) hg);have n4_:=am (blk_grown (g:=gb215) (o := .cells #[.slice A0_0 l0_0.length c0_0,.int .i64 a0_1] 44 (0,0)) (bup BK215.out) hg (Kd.R_ne HO_15.out BK215.out (by decide)));have n5_:=am (blk_grown (g:=gb216) (o := .cells #[.int .i64 a3_0,.int .i64 a3_1,.int .i64 a3_2] 48 (0,0)) (bup BK216.out) hg (Kd.R_ne HO_15.out BK216.out (by decide)));have n6_:=am (blk_grown (g:=gb231) (o := .cells #[.int .i64 ((rd_T95 l1 x44_1).f0),.int .i64 ((rd_T95 l1 x44_1).f1),.int .i64 ((rd_T95 l1 x44_1).f2)] 95 (0,0)) (bup BK231.out) hg (Kd.R_ne HO_15.out BK231.out (by decide)));have n7_:=am (Kd.R_over' (v:=(.slice (some ⟨go80,0,none⟩) x15_1.length co80)) (by(with_reducible repeat(first|apply Kd.R_alloc|apply Kd.R_drewN|apply Kd.R_drew));exact HL236_0.out) (Kd.R_typed HO_15.out) (by decide) hg);have n8_:=am (Kd.R_over' (v:=(.slice (some ⟨go80,0,none⟩) x15_1.length co80)) (by(with_reducible repeat(first|apply Kd.R_alloc|apply Kd.R_drewN|apply Kd.R_drew));exact HL238_0.out) (Kd.R_typed HO_15.out) (by decide) hg);have n9_:=am ((by rw[hw];exact below_set (HB.out) GB80.out:Below w.heap.size w w83));clear HO_12 HO_14 HO_15 HO_49 BK215 BK216 BK231 HL236_0 HL238_0 HB;have HO_12:=n0_;have HO_14:=n1_;have HO_15:=n2_;have HO_49:=n3_;have BK215:=n4_;have BK216:=n5_;have BK231:=n6_;have HL236_0:=n7_;have HL238_0:=n8_;have HB:=n9_;clear n0_ n1_ n2_ n3_ n4_ n5_ n6_ n7_ n8_ n9_ hg hw hp_)));(try go_wp2_with (first|(go_at_call 65;(with_reducible refine(spec_l1In.calls ((rd_T97 t218 x18_2).f1) (rd (rd_L6 t224 x44_1) 0) (rd (rd_L6 t224 x44_1) 1) true _ A77.out).mono ?_);rintro e w' ⟨rfl,⟨nd,rfl⟩⟩;(try first|exact⟨rfl,_,World.drewN_drewN _ _ _⟩|exact⟨rfl,_,Eq.trans (World.drewN_drewN _ _ _) (congrArg (World.drewN _) (Nat.add_assoc _ _ _))⟩);have p80:0≤(x18_2:Int):=od;have q80:(x18_2:Int)<((x15_1.length:Int):Int):=od;obtain⟨go80,co80,eo80,gb80,gl80,cl80,HG80⟩:=Kd.R_form HO_15.out (by omega);(first|cases eo80|(injection eo80 with ea_ en_ ec_;(first|subst ea_|(injection ea_ with ea_;subst ea_));subst ec_;clear en_));have GB80:=am gb80;have GG80:=am HG80;clear gb80 gl80 HG80;obtain⟨hx80_0,hf80_0⟩:=Kd.R_celln false HO_15.out (x18_2:Int) p80 q80;replace p80:=eq_true p80;replace q80:=eq_true q80;obtain⟨hy82_,hz82_⟩:=Kd.R_celln false HO_15.out (x18_2:Int) (od) (od);have HP82:=Kd.R_putg HO_15.out (x18_2:Int) true)|((with_reducible refine gate_store (t:=4) (p:=99) rfl ?_);(try(rw[drewN_self wr];generalize hq_:World.drewN wr _=wr;have n0_:=am (Kd.R_at hq_ HO_12.out);have n1_:=am (Kd.S_at hq_ HO_14.out);have n2_:=am (Kd.R_at hq_ HO_15.out);have n3_:=am (Kd.R_at hq_ HO_49.out);have n4_:=am (Kd.R_at hq_ HL236_0.out);have n5_:=am (Kd.R_at hq_ HL238_0.out);have n6_:=am (blk_at hq_ BK215.out);have n7_:=am (blk_at hq_ BK216.out);have n8_:=am (blk_at hq_ BK231.out);have n9_:=am (below_at hq_ HB.out);clear hq_ HO_12 HO_14 HO_15 HO_49 HL236_0 HL238_0 BK215 BK216 BK231 HB;have HO_12:=n0_;have HO_14:=n1_;have HO_15:=n2_;have HO_49:=n3_;have HL236_0:=n4_;have HL238_0:=n5_;have BK215:=n6_;have BK216:=n7_;have BK231:=n8_;have HB:=n9_;clear n0_ n1_ n2_ n3_ n4_ n5_ n6_ n7_ n8_ n9_;(try(obtain⟨hy82_,hz82_⟩:=Kd.R_celln false HO_15.out (x18_2:Int) (od) (od)));(try(have HP82:=Kd.R_putg HO_15.out (x18_2:Int) true))));refine store_event (t:=4) (p:=99) (v:=?vo_w83) (w1:=(wr.setCell ⟨go80,(x18_2:Int).toNat,none⟩ (.bool true))) ?hg ?ho ?hn ?hr ?_;(case ho=>rfl);(case hg=>rfl);(case hn=>rfl);(case hr=>first|(go_simp;done)|(go_simp;rfl));intro w83 hw;have hg:wr.grownBy w83 (some go80):=(by rw[hw];exact HP82.2);have hp_:Kd.R Kd.bool 4 w83 w.heap.size (fun _=>True) (.slice (some ⟨go80,0,none⟩) x15_1.length co80) y241:=(by rw[hw,Ny241.out];exact HP82.1);clear HP82;have n0_:=am (Kd.R_over' (v:=(.slice (some ⟨go80,0,none⟩) x15_1.length co80)) (rup HO_12.out) (Kd.R_typed HO_15.out) (by decide) hg);have n1_:=am (Kd.S_over' (v:=(.slice (some ⟨go80,0,none⟩) x15_1.length co80)) (by(with_reducible repeat(first|apply Kd.S_alloc|apply Kd.S_drewN|apply Kd.S_drew));exact HO_14.out) (Kd.R_typed HO_15.out) (by decide) hg);have n2_:=am (hp_);have n3_:=am (Kd.R_over' (v:=(.slice (some ⟨go80,0,none⟩) x15_1.length co80)) (rup HO_49.out) (Kd.R_typed HO_15.out) (by decide) hg);have n4_:=am (blk_grown (g:=gb215) (o := .cells #[.slice A0_0 l0_0.length c0_0,.int .i64 a0_1] 44 (0,0)) (bup BK215.out) hg (Kd.R_ne HO_15.out BK215.out (by decide)));have n5_:=am (blk_grown (g:=gb216) (o := .cells #[.int .i64 a3_0,.int .i64 a3_1,.int .i64 a3_2] 48 (0,0)) (bup BK216.out) hg (Kd.R_ne HO_15.out BK216.out (by decide)));have n6_:=am (blk_grown (g:=gb231) (o := .cells #[.int .i64 ((rd_T95 l1 x44_1).f0),.int .i64 ((rd_T95 l1 x44_1).f1),.int .i64 ((rd_T95 l1 x44_1).f2)] 95 (0,0)) (bup BK231.out) hg (Kd.R_ne HO_15.out BK231.out (by decide)));have n7_:=am (Kd.R_over' (v:=(.slice (some ⟨go80,0,none⟩) x15_1.length co80)) (by(with_reducible repeat(first|apply Kd.R_alloc|apply Kd.R_drewN|apply Kd.R_drew));exact HL236_0.out) (Kd.R_typed HO_15.out) (by decide) hg);have n8_:=am (Kd.R_over' (v:=(.slice (some ⟨go80,0,none⟩) x15_1.length co80)) (by(with_reducible repeat(first|apply Kd.R_alloc|apply Kd.R_drewN|apply Kd.R_drew));exact HL238_0.out) (Kd.R_typed HO_15.out) (by decide) hg);have n9_:=am ((by rw[hw];exact below_set (HB.out) GB80.out:Below w.heap.size w w83));clear HO_12 HO_14 HO_15 HO_49 BK215 BK216 BK231 HL236_0 HL238_0 HB;have HO_12:=n0_;have HO_14:=n1_;have HO_15:=n2_;have HO_49:=n3_;have BK215:=n4_;have BK216:=n5_;have BK231:=n6_;have HL236_0:=n7_;have HL238_0:=n8_;have HB:=n9_;clear n0_ n1_ n2_ n3_ n4_ n5_ n6_ n7_ n8_ n9_ hg hw hp_))))
                     go_roundg k2
                     case measure=>have:=HK1.out;have:=HK2.out;omega
                     case rel=>exact⟨(y241),(wrap64 (x44_1+1)),fin2,H',⟨by have:=HK1.out;have:=HK2.out;omega⟩,⟨rup HO_12.out⟩,⟨by(with_reducible repeat(first|apply Kd.S_alloc|apply Kd.S_drewN|apply Kd.S_drew));exact HO_14.out⟩,⟨rup HO_15.out⟩,⟨bup BK215.out⟩,⟨bup BK216.out⟩,⟨bl⟩⟩
                    ·rw[if_neg c79] at H
                     exact absurd H (by simp)
                   ·replace c78:=Bool.eq_false_iff.mpr c78
                    subst c78
                    have H1:(some (false,true))=some (r1,r2):=by rw[if_neg (show ¬ (false=true) by decide)] at H;exact H
                    clear H
                    have H:=H1
                    clear H1
                    simp only[Option.some.injEq,Prod.mk.injEq] at H
                    obtain⟨rfl,rfl⟩:=H
                    have p235:0≤(x18_2:Int):=od
                    have q235:x18_2<(t218.length:Int):=od
                    obtain⟨ad235,e235,hx235_0,hx235_1,hx235_2⟩:=at_T97 (Kd.R_reads' HO_12.out).2.2 x18_2 p235 q235
                    cases e235
                    replace p235:=eq_true p235
                    replace q235:=eq_true q235
                    obtain⟨Ao84,co84,eo84⟩:=Kd.S_slice HO_14.out
                    subst eo84
                    have p236:0≤(x44_1:Int):=od
                    have q236:x44_1<(t224.length:Int):=od
                    obtain⟨ad236,A236_0,c236_0,e236,hx236_0,hl236_0,hi236_0⟩:=at_L6 (Kd.S_reads' HO_14.out).2.2 x44_1 p236 q236
                    cases e236
                    obtain⟨ce236,hce236,hMe236,hcc236⟩:=Kd.S_get HO_14.out [] x44_1 p236 (by first|exact q236|exact od|(have e_:=(Kd.S_reads' HO_14.out).1;omega))
                    obtain⟨ve236_0,rfl,ge236_0⟩:=hMe236
                    have hv236_0:=hcc236 0 _ rfl
                    rw[Nat.add_zero,show((Kd.slice 3 (Kd.int .i64))).sz=1 from rfl,Nat.mul_one] at hv236_0
                    replace hv236_0:=Option.some.inj (hv236_0.symm.trans hx236_0)
                    rw[hv236_0] at ge236_0
                    have HL236_0:=am (show Kd.R (Kd.int .i64) 3 _ _ _ _ (rd_L6 t224 x44_1) from ge236_0)
                    clear hv236_0 ge236_0
                    clear hcc236 hce236
                    have HR236_0:=am hi236_0
                    have HC236_0:=am hl236_0
                    clear hi236_0 hl236_0
                    replace p236:=eq_true p236
                    replace q236:=eq_true q236
                    have p237:0≤(0:Int):=(by omega)
                    have q237:0<((rd_L6 t224 x44_1).length:Int):=od
                    obtain⟨ad237,e237,hx237_0⟩:=Kd.at_int (by repeat(first|(with_reducible exact HR236_0.out)|(with_reducible refine Kd.C_alloc ?_ _)|(with_reducible refine Kd.C_drewN ?_ _)|(with_reducible refine Kd.C_drew ?_)|exact HR236_0.out)) 0 p237 q237
                    cases e237
                    have qi237:(0<(rd_L6 t224 x44_1).length)=True:=eq_true (by omega)
                    (try rw[show((0:Int)).toNat=0 from rfl] at hx237_0)
                    (try rw[Addr.add_zero'] at hx237_0)
                    replace p237:=eq_true p237
                    replace q237:=eq_true q237
                    have p238:0≤(x44_1:Int):=od
                    have q238:x44_1<(t224.length:Int):=od
                    obtain⟨ad238,A238_0,c238_0,e238,hx238_0,hl238_0,hi238_0⟩:=at_L6 (Kd.S_reads' HO_14.out).2.2 x44_1 p238 q238
                    obtain rfl:ad236=ad238:=(by injection e238)
                    obtain⟨ce238,hce238,hMe238,hcc238⟩:=Kd.S_get HO_14.out [] x44_1 p238 (by first|exact q238|exact od|(have e_:=(Kd.S_reads' HO_14.out).1;omega))
                    obtain⟨ve238_0,rfl,ge238_0⟩:=hMe238
                    have hv238_0:=hcc238 0 _ rfl
                    rw[Nat.add_zero,show((Kd.slice 3 (Kd.int .i64))).sz=1 from rfl,Nat.mul_one] at hv238_0
                    replace hv238_0:=Option.some.inj (hv238_0.symm.trans hx238_0)
                    rw[hv238_0] at ge238_0
                    have HL238_0:=am (show Kd.R (Kd.int .i64) 3 _ _ _ _ (rd_L6 t224 x44_1) from ge238_0)
                    clear hv238_0 ge238_0
                    clear hcc238 hce238
                    have HR238_0:=am hi238_0
                    have HC238_0:=am hl238_0
                    clear hi238_0 hl238_0
                    replace p238:=eq_true p238
                    replace q238:=eq_true q238
                    have ea_:=Option.some.inj (hx236_0.symm.trans hx238_0)
                    injection ea_ with ea_ en_ ec_
                    subst ea_
                    subst ec_
                    clear en_
                    have p239:0≤(1:Int):=(by omega)
                    have q239:1<((rd_L6 t224 x44_1).length:Int):=od
                    obtain⟨ad239,e239,hx239_0⟩:=Kd.at_int (by repeat(first|(with_reducible exact HR238_0.out)|(with_reducible refine Kd.C_alloc ?_ _)|(with_reducible refine Kd.C_drewN ?_ _)|(with_reducible refine Kd.C_drew ?_)|exact HR238_0.out)) 1 p239 q239
                    cases e239
                    (try simp only[show(1:Int).toNat=1 from rfl,Nat.reduceMul,Nat.reduceEqDiff,Go.Addr.add,↓reduceIte] at hx239_0)
                    have qi239:(1<(rd_L6 t224 x44_1).length)=True:=eq_true (by omega)
                    (try rw[show((1:Int)).toNat=1 from rfl] at hx239_0)
                    replace p239:=eq_true p239
                    replace q239:=eq_true q239
                    iterate 3 ((try go_quiet (first|(go_at_call 65;(with_reducible refine(spec_l1In.calls ((rd_T97 t218 x18_2).f1) (rd (rd_L6 t224 x44_1) 0) (rd (rd_L6 t224 x44_1) 1) false _ A77.out).mono ?_);rintro e w' ⟨rfl,⟨nd,rfl⟩⟩;(try first|exact⟨rfl,_,World.drewN_drewN _ _ _⟩|exact⟨rfl,_,Eq.trans (World.drewN_drewN _ _ _) (congrArg (World.drewN _) (Nat.add_assoc _ _ _))⟩))));(try go_wp2_with (first|(go_at_call 65;(with_reducible refine(spec_l1In.calls ((rd_T97 t218 x18_2).f1) (rd (rd_L6 t224 x44_1) 0) (rd (rd_L6 t224 x44_1) 1) false _ A77.out).mono ?_);rintro e w' ⟨rfl,⟨nd,rfl⟩⟩;(try first|exact⟨rfl,_,World.drewN_drewN _ _ _⟩|exact⟨rfl,_,Eq.trans (World.drewN_drewN _ _ _) (congrArg (World.drewN _) (Nat.add_assoc _ _ _))⟩)))))
                    go_ret2
                    exact⟨fin1,bl⟩
                  ·rw[if_neg c76] at H
                   exact absurd H (by simp)
                 ·rw[if_neg c75] at H
                  exact absurd H (by simp)
                ·rw[if_neg c74] at H
                 exact absurd H (by simp)
               ·rw[if_neg c73] at H
                exact absurd H (by simp)
              ·rw[if_neg c72] at H
               exact absurd H (by simp)
             ·rw[if_neg c71] at H
              exact absurd H (by simp)
        ·rw[if_neg c28] at H
         exact absurd H (by simp)
       ·rw[if_neg c27] at H
        exact absurd H (by simp)
      ·rw[if_neg c26] at H
       have c26b0:decide (x44_1<(l1.length:Int))=false:=decide_eq_false c26
       clear c26
       simp only[Option.some.injEq,Prod.mk.injEq] at H
       obtain⟨rfl,rfl⟩:=H
       go_wp2
       repeat(go_quiet (fail);try go_wp2)
       go_ret2
       exact⟨fin1,bl⟩
   ·rw[if_neg c11] at H
    exact absurd H (by simp)
  ·rw[if_neg c10] at H
   exact absurd H (by simp)
 ·replace c7:=Bool.eq_false_iff.mpr c7
  subst c7
  have H1:(some (false,false))=some (r1,r2):=by rw[if_neg (show ¬ (false=true) by decide)] at H;exact H
  clear H
  have H:=H1
  clear H1
  simp only[Option.some.injEq,Prod.mk.injEq] at H
  obtain⟨rfl,rfl⟩:=H
  go_enter Try.func24,Try.ntmps24
  iterate 3 ((try go_quiet (fail));(try go_wp2_with (first|((with_reducible refine gate_dst (N:=5) rfl ?_);refine box_event ?hg (N:=5) ?hd (cs := #[.slice A0_0 l0_0.length c0_0,.int .i64 a0_1]) (t:=44) ?hr ?_;(case hd=>rfl);(case hg=>rfl);(case hr=>first|(go_simp;done)|(go_simp;rfl));intro gb215 hg w85 hbox hb;have n0_:=am (below_step bl hb);have n1_:=am (hbox);have n2_:=am ((by rw[hg];exact(below_size bl):w.heap.size≤gb215));have n3_:=am ((by rw[hg];exact(below_size bl):w.heap.size≤gb215));clear HB;have HB:=n0_;have BK215:=n1_;have GW215:=n2_;have GE215:=n3_;clear n0_ n1_ n2_ n3_ hb hbox hg)|((with_reducible refine gate_dst (N:=8) rfl ?_);refine box_event ?hg (N:=8) ?hd (cs := #[.int .i64 a3_0,.int .i64 a3_1,.int .i64 a3_2]) (t:=48) ?hr ?_;(case hd=>rfl);(case hg=>rfl);(case hr=>first|(go_simp;done)|(go_simp;rfl));intro gb216 hg w86 hbox hb;have n0_:=am (blk_below (g:=gb215) (o := .cells #[.slice A0_0 l0_0.length c0_0,.int .i64 a0_1] 44 (0,0)) (bup BK215.out) hb);have n1_:=am (below_step bl hb);have n2_:=am (hbox);have n3_:=am ((by rw[hg];exact(below_size bl):w.heap.size≤gb216));have n4_:=am ((by rw[hg];exact(below_size bl):w.heap.size≤gb216));have n5_:=am ((by rw[hg];exact Nat.ne_of_lt (blk_lt (g:=gb215) (o := .cells #[.slice A0_0 l0_0.length c0_0,.int .i64 a0_1] 44 (0,0)) (bup BK215.out)):gb215≠gb216));have n6_:=am ((by rw[hg];exact Nat.ne_of_gt (blk_lt (g:=gb215) (o := .cells #[.slice A0_0 l0_0.length c0_0,.int .i64 a0_1] 44 (0,0)) (bup BK215.out)):gb216≠gb215));clear BK215 HB;have BK215:=n0_;have HB:=n1_;have BK216:=n2_;have GW216:=n3_;have GE216:=n4_;have NB215_216:=n5_;have NB216_215:=n6_;clear n0_ n1_ n2_ n3_ n4_ n5_ n6_ hb hbox hg;have hnb87:=NB215_216.out;have hnc87:=NB216_215.out;have hcz88_0:w86.cell? ⟨gb215,0,none⟩=some (.slice A0_0 l0_0.length c0_0):=(blk_cell BK215.out 0).trans rfl;have hcz88_1:w86.cell? ⟨gb215,1,none⟩=some (.int .i64 a0_1):=(blk_cell BK215.out 1).trans rfl;have hfz88_0:=blk_frozen BK215.out 0;have hfz88_1:=blk_frozen BK215.out 1;have hcz89_0:w86.cell? ⟨gb216,0,none⟩=some (.int .i64 a3_0):=(blk_cell BK216.out 0).trans rfl;have hcz89_1:w86.cell? ⟨gb216,1,none⟩=some (.int .i64 a3_1):=(blk_cell BK216.out 1).trans rfl;have hcz89_2:w86.cell? ⟨gb216,2,none⟩=some (.int .i64 a3_2):=(blk_cell BK216.out 2).trans rfl;have hfz89_0:=blk_frozen BK216.out 0;have hfz89_1:=blk_frozen BK216.out 1;have hfz89_2:=blk_frozen BK216.out 2)|(go_at_call 62;(with_reducible refine(spec_vfAll.calls k _ _ l0_0 a0_1 _ _ l1 _ _ l2 a3_0 a3_1 a3_2 a4 false _ ?side1 ?side2 ?side3 ?side4 ?side5 ?side6 A6.out).mono ?_);(case side1=>repeat(first|exact(Kd.C_below HR0_0.out HB.out)|(with_reducible refine Kd.C_alloc ?_ _)|(with_reducible refine Kd.C_drewN ?_ _)|(with_reducible refine Kd.C_drew ?_)));(case side2=>exact HC0_0.out);(case side3=>repeat(first|exact(Kd.C_below HR1.out HB.out)|(with_reducible refine Kd.C_alloc ?_ _)|(with_reducible refine Kd.C_drewN ?_ _)|(with_reducible refine Kd.C_drew ?_)));(case side4=>exact HC1.out);(case side5=>repeat(first|exact(Kd.C_below HR2.out HB.out)|(with_reducible refine Kd.C_alloc ?_ _)|(with_reducible refine Kd.C_drewN ?_ _)|(with_reducible refine Kd.C_drew ?_)));(case side6=>exact HC2.out);rintro e w90 ⟨rfl,hb⟩;have n0_:=am (blk_below (g:=gb215) (o := .cells #[.slice A0_0 l0_0.length c0_0,.int .i64 a0_1] 44 (0,0)) (bup BK215.out) hb);have n1_:=am (blk_below (g:=gb216) (o := .cells #[.int .i64 a3_0,.int .i64 a3_1,.int .i64 a3_2] 48 (0,0)) (bup BK216.out) hb);have n2_:=am (below_step bl hb);clear BK215 BK216 HB;have BK215:=n0_;have BK216:=n1_;have HB:=n2_;clear n0_ n1_ n2_;(try clear hb);(try clear hb2);(try clear hk);(try clear hi)))))
  go_ret2
  exact⟨fin1,bl⟩

/-! ### laws_toIntS: function 66 -/
def laws_toIntS.l0:Nat→List Int→List Int→Int→Option (List Int)
 | 0,_,_,_=>none
 | k+1,x0,x3,x4=>if x4<(x0.length:Int) then(if 0≤x4 then(if x4<(x3.length:Int) then(laws_toIntS.l0 k x0 (x3.set (x4:Int).toNat (rd x0 x4)) (wrap64 (x4+1))) else(none)) else(none)) else(some x3)
def laws_toIntS.f (k:Nat) (l0:List Int):Option (List Int):=if 0≤(l0.length:Int) then(if((l0.length:Int):Int).toNat≤35184372088832 then(laws_toIntS.l0 k l0 (List.replicate ((l0.length:Int):Int).toNat 0) 0) else(none)) else(none)
set_option maxHeartbeats 8000000 in
set_option maxRecDepth 100000 in
theorem laws_toIntS.calls (k:Nat) (A0:Option Addr) (c0:Nat) (l0:List Int) (r:List Int) (w:World) (hr0:Kd.C (Kd.int .i64) w A0 l0.length l0) (hc0:l0.length≤c0) (h:laws_toIntS.f k l0=some r) :
  Calls Try.prog 66 #[.slice A0 l0.length c0] w fun e w'=>∃ v0_:Value,e = .returned (v0_)∧Kd.R (Kd.int .i64) 3 w' w.heap.size (fun _=>True) v0_ r∧Below w.heap.size w w':=by
 have HR0:=am hr0
 have HC0:=am hc0
 clear hr0 hc0
 have HB:=am (Below.refl w.heap.size w)
 have H:(if 0≤(l0.length:Int) then(if((l0.length:Int):Int).toNat≤35184372088832 then(laws_toIntS.l0 k l0 (List.replicate ((l0.length:Int):Int).toNat 0) 0) else(none)) else(none))=some r:=h
 clear h
 by_cases c2:0≤(l0.length:Int)
 ·rw[if_pos c2] at H
  have c2b0:=eq_true c2
  have c2b1:decide (0≤(l0.length:Int))=true:=decide_eq_true c2
  clear c2
  by_cases c3:((l0.length:Int):Int).toNat≤35184372088832
  ·rw[if_pos c3] at H
   have c3b0:=eq_true c3
   have c3b1:decide (((l0.length:Int):Int).toNat≤35184372088832)=true:=decide_eq_true c3
   clear c3
   obtain⟨y242,hy242⟩:∃ y_:List Int,y_=(List.replicate ((l0.length:Int):Int).toNat 0):=⟨_,rfl⟩
   replace H:(laws_toIntS.l0 k l0 y242 0)=some r:=by first|(rw[hy242];with_reducible exact H)|(have H2_:=(Option.bind_some _ _).symm.trans H;rw[hy242];with_reducible exact H2_)|(have H2_:=(Option.bind_some _ _).symm.trans H;with_reducible exact H2_)|with_reducible exact H|(rw[hy242];exact H)|exact H
   have Ny242:=am hy242
   clear hy242
   have H':=am H
   clear H
   go_enter Try.func66,Try.ntmps66
   go_wp2_with (first|((with_reducible refine gate_dst (N:=7) rfl ?_);refine Kd.R_make (Kd.int .i64) _ 3 rfl (N:=7) rfl 34 _ _ rfl (l0.length:Int) rfl rfl Try.underlying34 (.int .i64 0) 8 info3 rfl (by decide) (by omega) 0 (ok:=fun _=>True) (okp:=fun _=>True) rfl (fun _ hk=>hk) trivial (od) (Nat.le_trans (Nat.mul_le_mul_right _ (od:(l0.length:Int).toNat≤35184372088832)) (by omega)) (Below.refl _ _) (Nat.le_refl _) ?_;intro v243 w4 ho5 hb hg_ hnew_;clear hg_ hnew_;(first|rw[← Ny242.out] at ho5|(simp only[Int.reduceToNat] at ho5;rw[← Ny242.out] at ho5));have n0_:=am (Kd.R_lower ho5 (below_size bl));have n1_:=am (below_step bl hb);clear HB;have HO244:=n0_;have HB:=n1_;clear n0_ n1_ hb ho5))
   go_loopg [4] k (fun kq v4 w'=>∃(x3_1:List Int) (x4_1:Int),v4 = .int .i64 x4_1∧Aside0 (laws_toIntS.l0 kq l0 x3_1 x4_1=some r)∧Aside0 (kq≤k)∧Aside0 (Kd.R (Kd.int .i64) 3 w' w.heap.size (fun _=>True) v243 x3_1)∧Aside0 (Below w.heap.size w w'))
   case atStart=>exact⟨(y242),(0),fin2,H',⟨Nat.le_refl _⟩,⟨rup HO244.out⟩,⟨bl⟩⟩
   case round =>
    clear H'
    try clear c2
    try clear c2b0
    try clear c2b1
    try clear p2
    try clear c3
    try clear c3b0
    try clear c3b1
    obtain⟨x3_1,x4_1,rfl,HA,HK1,HO_3,HB⟩:=hrel
    cases gk with
    | zero=>exact absurd HA.out (by simp [laws_toIntS.l0])
    | succ k1 =>
     have H:=HA.out
     clear HA
     simp only[laws_toIntS.l0] at H
     by_cases c6:x4_1<(l0.length:Int)
     ·rw[if_pos c6] at H
      have c6b0:decide (x4_1<(l0.length:Int))=true:=decide_eq_true c6
      clear c6
      by_cases c7:0≤x4_1
      ·rw[if_pos c7] at H
       have c7b0:decide (0≤x4_1)=true:=decide_eq_true c7
       clear c7
       by_cases c8:x4_1<(x3_1.length:Int)
       ·rw[if_pos c8] at H
        have c8b0:decide (x4_1<(x3_1.length:Int))=true:=decide_eq_true c8
        clear c8
        obtain⟨y246,hy246⟩:∃ y_:List Int,y_=(x3_1.set (x4_1:Int).toNat (rd l0 x4_1)):=⟨_,rfl⟩
        replace H:(laws_toIntS.l0 k1 l0 y246 (wrap64 (x4_1+1)))=some r:=by first|(rw[hy246];with_reducible exact H)|(have H2_:=(Option.bind_some _ _).symm.trans H;rw[hy246];with_reducible exact H2_)|(have H2_:=(Option.bind_some _ _).symm.trans H;with_reducible exact H2_)|with_reducible exact H|(rw[hy246];exact H)|exact H
        have Ny246:=am hy246
        clear hy246
        have H':=am H
        clear H
        have p245:0≤(x4_1:Int):=od
        have q245:x4_1<(l0.length:Int):=od
        obtain⟨ad245,e245,hx245_0⟩:=Kd.at_int HR0.out x4_1 p245 q245
        cases e245
        replace hx245_0:=(HB.out.cell (World.block_lt_of_cell? w _ hx245_0)).trans hx245_0
        replace p245:=eq_true p245
        replace q245:=eq_true q245
        have p9:0≤(x4_1:Int):=od
        have q9:(x4_1:Int)<((x3_1.length:Int):Int):=od
        obtain⟨go9,co9,eo9,gb9,gl9,cl9,HG9⟩:=Kd.R_form HO_3.out (by omega)
        (first|cases eo9|(injection eo9 with ea_ en_ ec_;(first|subst ea_|(injection ea_ with ea_;subst ea_));subst ec_;clear en_))
        have GB9:=am gb9
        have GG9:=am HG9
        clear gb9 gl9 HG9
        obtain⟨hx9_0,hf9_0⟩:=Kd.R_celln 0 HO_3.out (x4_1:Int) p9 q9
        replace p9:=eq_true p9
        replace q9:=eq_true q9
        have HP10:=Kd.R_putg HO_3.out (x4_1:Int) (rd l0 x4_1)
        go_wp2_with (first|((with_reducible refine gate_store (t:=3) (p:=20) rfl ?_);refine store_event (t:=3) (p:=20) (v:=?vo_w11) (w1:=(wr.setCell ⟨go9,(x4_1:Int).toNat,none⟩ (.int .i64 (rd l0 x4_1)))) ?hg ?ho ?hn ?hr ?_;(case ho=>rfl);(case hg=>rfl);(case hn=>rfl);(case hr=>first|(go_simp;done)|(go_simp;rfl));intro w11 hw;have hg:wr.grownBy w11 (some go9):=(by rw[hw];exact HP10.2);have hp_:Kd.R (Kd.int .i64) 3 w11 w.heap.size (fun _=>True) (.slice (some ⟨go9,0,none⟩) x3_1.length co9) y246:=(by rw[hw,Ny246.out];exact HP10.1);clear HP10;have n0_:=am (hp_);have n1_:=am ((by rw[hw];exact below_set (HB.out) GB9.out:Below w.heap.size w w11));clear HO_3 HB;have HO_3:=n0_;have HB:=n1_;clear n0_ n1_ hg hw hp_))
        go_roundg k1
        case measure=>have:=HK1.out;omega
        case rel=>exact⟨(y246),(wrap64 (x4_1+1)),fin2,H',⟨by have:=HK1.out;omega⟩,⟨rup HO_3.out⟩,⟨bl⟩⟩
       ·rw[if_neg c8] at H
        exact absurd H (by simp)
      ·rw[if_neg c7] at H
       exact absurd H (by simp)
     ·rw[if_neg c6] at H
      have c6b0:decide (x4_1<(l0.length:Int))=false:=decide_eq_false c6
      clear c6
      obtain rfl:=Option.some.inj H
      go_wp2
      go_ret
      exact⟨_,fin1,by(with_reducible repeat(first|apply Kd.R_alloc|apply Kd.R_drewN|apply Kd.R_drew));exact HO_3.out,bl⟩
  ·rw[if_neg c3] at H
   exact absurd H (by simp)
 ·rw[if_neg c2] at H
  exact absurd H (by simp)

/-! ### laws_toInstrument: function 25 -/
def laws_toInstrument.f (k:Nat) (l0_0:List Int) (a0_1:Int):Option (List Int×Int):=(laws_toIntS.f k l0_0).bind fun t250=>(some (t250,a0_1))
set_option maxHeartbeats 8000000 in
set_option maxRecDepth 100000 in
theorem laws_toInstrument.calls (k:Nat) (A0_0:Option Addr) (c0_0:Nat) (l0_0:List Int) (a0_1:Int) (r1:List Int) (r2:Int) (w:World) (hr0_0:Kd.C (Kd.int .i64) w A0_0 l0_0.length l0_0) (hc0_0:l0_0.length≤c0_0) (h:laws_toInstrument.f k l0_0 a0_1=some (r1,r2)) :
  Calls Try.prog 25 #[.agg #[.slice A0_0 l0_0.length c0_0,.int .i64 a0_1]] w fun e w'=>∃ v0_:Value,e = .returned (.agg #[v0_,.int .i64 r2])∧Kd.R (Kd.int .i64) 3 w' w.heap.size (fun _=>True) v0_ r1∧Below w.heap.size w w':=by
 have hu36:=Try.underlying36
 have hu44:=Try.underlying44
 have HR0_0:=am hr0_0
 have HC0_0:=am hc0_0
 clear hr0_0 hc0_0
 have HB:=am (Below.refl w.heap.size w)
 have H:((laws_toIntS.f k l0_0).bind fun t250=>(some (t250,a0_1)))=some (r1,r2):=h
 clear h
 replace H:=Option.bind_eq_some_iff.mp H
 obtain⟨t250,A20,H⟩:=H
 replace H:(some (t250,a0_1))=some (r1,r2):=H
 have A2:=am A20
 clear A20
 simp only[Option.some.injEq,Prod.mk.injEq] at H
 obtain⟨rfl,rfl⟩:=H
 go_enter Try.func25,Try.ntmps25
 go_wp2_with (first|((with_reducible refine gate_dst (N:=1) rfl ?_);refine box_event ?hg (N:=1) ?hd (cs := #[.slice A0_0 l0_0.length c0_0,.int .i64 a0_1]) (t:=36) ?hr ?_;(case hd=>rfl);(case hg=>rfl);(case hr=>first|(go_simp;done)|(go_simp;rfl));intro gb247 hg w3 hbox hb;have n0_:=am (below_step bl hb);have n1_:=am (hbox);have n2_:=am ((by rw[hg];exact(below_size bl):w.heap.size≤gb247));have n3_:=am ((by rw[hg];exact(below_size bl):w.heap.size≤gb247));clear HB;have HB:=n0_;have BK247:=n1_;have GW247:=n2_;have GE247:=n3_;clear n0_ n1_ n2_ n3_ hb hbox hg)|((with_reducible refine gate_dst (N:=2) rfl ?_);refine box_event ?hg (N:=2) ?hd (cs := #[.slice none 0 0,.int .i64 0]) (t:=44) ?hr ?_;(case hd=>rfl);(case hg=>rfl);(case hr=>first|(go_simp;done)|(go_simp;rfl));intro gb248 hg w4 hbox hb;have n0_:=am (blk_below (g:=gb247) (o := .cells #[.slice A0_0 l0_0.length c0_0,.int .i64 a0_1] 36 (0,0)) (bup BK247.out) hb);have n1_:=am (below_step bl hb);have n2_:=am (hbox);have n3_:=am ((by rw[hg];exact(below_size bl):w.heap.size≤gb248));have n4_:=am ((by rw[hg];exact(below_size bl):w.heap.size≤gb248));have n5_:=am ((by rw[hg];exact Nat.ne_of_lt (blk_lt (g:=gb247) (o := .cells #[.slice A0_0 l0_0.length c0_0,.int .i64 a0_1] 36 (0,0)) (bup BK247.out)):gb247≠gb248));have n6_:=am ((by rw[hg];exact Nat.ne_of_gt (blk_lt (g:=gb247) (o := .cells #[.slice A0_0 l0_0.length c0_0,.int .i64 a0_1] 36 (0,0)) (bup BK247.out)):gb248≠gb247));clear BK247 HB;have BK247:=n0_;have HB:=n1_;have BK248:=n2_;have GW248:=n3_;have GE248:=n4_;have NB247_248:=n5_;have NB248_247:=n6_;clear n0_ n1_ n2_ n3_ n4_ n5_ n6_ hb hbox hg)|((with_reducible refine gate_dst (N:=3) rfl ?_);refine box_event ?hg (N:=3) ?hd (cs := #[.slice none 0 0,.int .i64 0]) (t:=44) ?hr ?_;(case hd=>rfl);(case hg=>rfl);(case hr=>first|(go_simp;done)|(go_simp;rfl));intro gb249 hg w5 hbox hb;have n0_:=am (blk_below (g:=gb247) (o := .cells #[.slice A0_0 l0_0.length c0_0,.int .i64 a0_1] 36 (0,0)) (bup BK247.out) hb);have n1_:=am (blk_below (g:=gb248) (o := .cells #[.slice none 0 0,.int .i64 0] 44 (0,0)) (bup BK248.out) hb);have n2_:=am (below_step bl hb);have n3_:=am (hbox);have n4_:=am ((by rw[hg];exact(below_size bl):w.heap.size≤gb249));have n5_:=am ((by rw[hg];exact(below_size bl):w.heap.size≤gb249));have n6_:=am ((by rw[hg];exact Nat.ne_of_lt (blk_lt (g:=gb247) (o := .cells #[.slice A0_0 l0_0.length c0_0,.int .i64 a0_1] 36 (0,0)) (bup BK247.out)):gb247≠gb249));have n7_:=am ((by rw[hg];exact Nat.ne_of_gt (blk_lt (g:=gb247) (o := .cells #[.slice A0_0 l0_0.length c0_0,.int .i64 a0_1] 36 (0,0)) (bup BK247.out)):gb249≠gb247));have n8_:=am ((by rw[hg];exact Nat.ne_of_lt (blk_lt (g:=gb248) (o := .cells #[.slice none 0 0,.int .i64 0] 44 (0,0)) (bup BK248.out)):gb248≠gb249));have n9_:=am ((by rw[hg];exact Nat.ne_of_gt (blk_lt (g:=gb248) (o := .cells #[.slice none 0 0,.int .i64 0] 44 (0,0)) (bup BK248.out)):gb249≠gb248));clear BK247 BK248 HB;have BK247:=n0_;have BK248:=n1_;have HB:=n2_;have BK249:=n3_;have GW249:=n4_;have GE249:=n5_;have NB247_249:=n6_;have NB249_247:=n7_;have NB248_249:=n8_;have NB249_248:=n9_;clear n0_ n1_ n2_ n3_ n4_ n5_ n6_ n7_ n8_ n9_ hb hbox hg;have hnb6:=NB247_248.out;have hnc6:=NB248_247.out;have hnb7:=NB247_249.out;have hnc7:=NB249_247.out;have hcz8_0:w5.cell? ⟨gb247,0,none⟩=some (.slice A0_0 l0_0.length c0_0):=(blk_cell BK247.out 0).trans rfl;have hcz8_1:w5.cell? ⟨gb247,1,none⟩=some (.int .i64 a0_1):=(blk_cell BK247.out 1).trans rfl;have hfz8_0:=blk_frozen BK247.out 0;have hfz8_1:=blk_frozen BK247.out 1)|((with_reducible refine gate_callee (f:=66) rfl ?_);refine goesL_ (some 6) rfl rfl Try.func66 (by kernel_rfl) rfl #[.slice A0_0 l0_0.length c0_0] rfl (by(try simp only[List.map_toArray,List.map_cons,List.map_nil]);first|done|rfl|(simp only[List.length_drop,List.length_take];rfl)) ?_;(with_reducible refine(laws_toIntS.calls k _ _ l0_0 t250 _ ?side1 ?side2 A2.out).mono ?_);(case side1=>repeat(first|exact(Kd.C_below HR0_0.out HB.out)|(with_reducible refine Kd.C_alloc ?_ _)|(with_reducible refine Kd.C_drewN ?_ _)|(with_reducible refine Kd.C_drew ?_)));(case side2=>exact HC0_0.out);rintro e w9 ⟨v251,rfl,ho0,hb⟩;refine⟨_,rfl,?_⟩;have n0_:=am (Kd.R_lower ho0 (below_size bl));have n1_:=am (blk_below (g:=gb247) (o := .cells #[.slice A0_0 l0_0.length c0_0,.int .i64 a0_1] 36 (0,0)) (bup BK247.out) hb);have n2_:=am (blk_below (g:=gb248) (o := .cells #[.slice none 0 0,.int .i64 0] 44 (0,0)) (bup BK248.out) hb);have n3_:=am (blk_below (g:=gb249) (o := .cells #[.slice none 0 0,.int .i64 0] 44 (0,0)) (bup BK249.out) hb);have n4_:=am (below_step bl hb);clear BK247 BK248 BK249 HB;have HO252:=n0_;have BK247:=n1_;have BK248:=n2_;have BK249:=n3_;have HB:=n4_;clear n0_ n1_ n2_ n3_ n4_;(try clear hb);(try clear hb2);(try clear hk);(try clear hi);(try clear ho0);obtain⟨Ao10,co10,eo10⟩:=Kd.R_slice HO252.out;subst eo10;have hnb11:=NB249_248.out;have hnc11:=NB248_249.out;have hcz12_0:w9.cell? ⟨gb249,0,none⟩=some (.slice none 0 0):=(blk_cell BK249.out 0).trans rfl;have hcz12_1:w9.cell? ⟨gb249,1,none⟩=some (.int .i64 0):=(blk_cell BK249.out 1).trans rfl;have hfz12_0:=blk_frozen BK249.out 0;have hfz12_1:=blk_frozen BK249.out 1;have hcz13_0:w9.cell? ⟨gb247,0,none⟩=some (.slice A0_0 l0_0.length c0_0):=(blk_cell BK247.out 0).trans rfl;have hcz13_1:w9.cell? ⟨gb247,1,none⟩=some (.int .i64 a0_1):=(blk_cell BK247.out 1).trans rfl;have hfz13_0:=blk_frozen BK247.out 0;have hfz13_1:=blk_frozen BK247.out 1;have hcz14_0:w9.cell? ⟨gb248,0,none⟩=some (.slice none 0 0):=(blk_cell BK248.out 0).trans rfl;have hcz14_1:w9.cell? ⟨gb248,1,none⟩=some (.int .i64 0):=(blk_cell BK248.out 1).trans rfl;have hfz14_0:=blk_frozen BK248.out 0;have hfz14_1:=blk_frozen BK248.out 1))
 refine bodyPost_ret (results_cell_row rfl _ _ gb248 44 #[.slice Ao10 t250.length co10,.int .i64 a0_1] (0,0) _ rfl (by(with_reducible repeat(first|refine bN_ ?_ _|refine bD_ ?_|refine bA_ ?_ _));refine blk_put (cs := #[.slice Ao10 t250.length co10,.int .i64 0]) ?_ 1 _ rfl;(with_reducible repeat(first|refine bN_ ?_ _|refine bD_ ?_|refine bA_ ?_ _));refine blk_put (cs := #[.slice none 0 0,.int .i64 0]) ?_ 0 _ rfl;(with_reducible repeat(first|refine bN_ ?_ _|refine bD_ ?_|refine bA_ ?_ _));refine blk_far ?_ NB248_249.out _;(with_reducible repeat(first|refine bN_ ?_ _|refine bD_ ?_|refine bA_ ?_ _));refine blk_far ?_ NB248_249.out _;exact bup BK248.out) Try.underlying44 rfl (by kernel_rfl)) rfl ?_
 exact⟨_,fin1,by(with_reducible repeat(first|apply Kd.R_alloc|apply Kd.R_drewN|apply Kd.R_drew));exact Kd.R_mono (Kd.R_far (p:=⟨gb248,1,none⟩) (Kd.R_far (p:=⟨gb248,0,none⟩) (Kd.R_far (p:=⟨gb249,1,none⟩) (Kd.R_far (p:=⟨gb249,0,none⟩) (Kd.R_types (Kd.R_types HO252.out BK249.out (by decide)) BK248.out (by decide)) (fun _ hk=>hk.1.2) (.slice Ao10 t250.length co10)) (fun _ hk=>hk.1.2) (.int .i64 a0_1)) (fun _ hk=>hk.2) (.slice Ao10 t250.length co10)) (fun _ hk=>hk.2) (.int .i64 a0_1)) (fun _ hk=>trivial),bl⟩

/-! ### laws_toNote: function 67 -/
def laws_toNote.f (a0_0:Int) (a0_1:Int) (a0_2:Int):Option (Int×Int×Int):=some (a0_0,a0_1,a0_2)
set_option maxHeartbeats 8000000 in
set_option maxRecDepth 100000 in
theorem laws_toNote.calls (a0_0:Int) (a0_1:Int) (a0_2:Int) (r1:Int) (r2:Int) (r3:Int) (w:World) (h:laws_toNote.f a0_0 a0_1 a0_2=some (r1,r2,r3)) :
  Calls Try.prog 67 #[.agg #[.int .i64 a0_0,.int .i64 a0_1,.int .i64 a0_2]] w fun e w'=>e = .returned (.agg #[.int .i64 r1,.int .i64 r2,.int .i64 r3])∧Below w.heap.size w w':=by
 have hu101:=Try.underlying101
 have hu95:=Try.underlying95
 have HB:=am (Below.refl w.heap.size w)
 have H:(some (a0_0,a0_1,a0_2))=some (r1,r2,r3):=h
 clear h
 simp only[Option.some.injEq,Prod.mk.injEq] at H
 obtain⟨rfl,rfl,rfl⟩:=H
 go_enter Try.func67,Try.ntmps67
 go_wp2_with (first|((with_reducible refine gate_dst (N:=1) rfl ?_);refine box_event ?hg (N:=1) ?hd (cs := #[.int .i64 a0_0,.int .i64 a0_1,.int .i64 a0_2]) (t:=101) ?hr ?_;(case hd=>rfl);(case hg=>rfl);(case hr=>first|(go_simp;done)|(go_simp;rfl));intro gb253 hg w2 hbox hb;have n0_:=am (below_step bl hb);have n1_:=am (hbox);have n2_:=am ((by rw[hg];exact(below_size bl):w.heap.size≤gb253));have n3_:=am ((by rw[hg];exact(below_size bl):w.heap.size≤gb253));clear HB;have HB:=n0_;have BK253:=n1_;have GW253:=n2_;have GE253:=n3_;clear n0_ n1_ n2_ n3_ hb hbox hg)|((with_reducible refine gate_dst (N:=2) rfl ?_);refine box_event ?hg (N:=2) ?hd (cs := #[.int .i64 0,.int .i64 0,.int .i64 0]) (t:=95) ?hr ?_;(case hd=>rfl);(case hg=>rfl);(case hr=>first|(go_simp;done)|(go_simp;rfl));intro gb254 hg w3 hbox hb;have n0_:=am (blk_below (g:=gb253) (o := .cells #[.int .i64 a0_0,.int .i64 a0_1,.int .i64 a0_2] 101 (0,0)) (bup BK253.out) hb);have n1_:=am (below_step bl hb);have n2_:=am (hbox);have n3_:=am ((by rw[hg];exact(below_size bl):w.heap.size≤gb254));have n4_:=am ((by rw[hg];exact(below_size bl):w.heap.size≤gb254));have n5_:=am ((by rw[hg];exact Nat.ne_of_lt (blk_lt (g:=gb253) (o := .cells #[.int .i64 a0_0,.int .i64 a0_1,.int .i64 a0_2] 101 (0,0)) (bup BK253.out)):gb253≠gb254));have n6_:=am ((by rw[hg];exact Nat.ne_of_gt (blk_lt (g:=gb253) (o := .cells #[.int .i64 a0_0,.int .i64 a0_1,.int .i64 a0_2] 101 (0,0)) (bup BK253.out)):gb254≠gb253));clear BK253 HB;have BK253:=n0_;have HB:=n1_;have BK254:=n2_;have GW254:=n3_;have GE254:=n4_;have NB253_254:=n5_;have NB254_253:=n6_;clear n0_ n1_ n2_ n3_ n4_ n5_ n6_ hb hbox hg)|((with_reducible refine gate_dst (N:=3) rfl ?_);refine box_event ?hg (N:=3) ?hd (cs := #[.int .i64 0,.int .i64 0,.int .i64 0]) (t:=95) ?hr ?_;(case hd=>rfl);(case hg=>rfl);(case hr=>first|(go_simp;done)|(go_simp;rfl));intro gb255 hg w4 hbox hb;have n0_:=am (blk_below (g:=gb253) (o := .cells #[.int .i64 a0_0,.int .i64 a0_1,.int .i64 a0_2] 101 (0,0)) (bup BK253.out) hb);have n1_:=am (blk_below (g:=gb254) (o := .cells #[.int .i64 0,.int .i64 0,.int .i64 0] 95 (0,0)) (bup BK254.out) hb);have n2_:=am (below_step bl hb);have n3_:=am (hbox);have n4_:=am ((by rw[hg];exact(below_size bl):w.heap.size≤gb255));have n5_:=am ((by rw[hg];exact(below_size bl):w.heap.size≤gb255));have n6_:=am ((by rw[hg];exact Nat.ne_of_lt (blk_lt (g:=gb253) (o := .cells #[.int .i64 a0_0,.int .i64 a0_1,.int .i64 a0_2] 101 (0,0)) (bup BK253.out)):gb253≠gb255));have n7_:=am ((by rw[hg];exact Nat.ne_of_gt (blk_lt (g:=gb253) (o := .cells #[.int .i64 a0_0,.int .i64 a0_1,.int .i64 a0_2] 101 (0,0)) (bup BK253.out)):gb255≠gb253));have n8_:=am ((by rw[hg];exact Nat.ne_of_lt (blk_lt (g:=gb254) (o := .cells #[.int .i64 0,.int .i64 0,.int .i64 0] 95 (0,0)) (bup BK254.out)):gb254≠gb255));have n9_:=am ((by rw[hg];exact Nat.ne_of_gt (blk_lt (g:=gb254) (o := .cells #[.int .i64 0,.int .i64 0,.int .i64 0] 95 (0,0)) (bup BK254.out)):gb255≠gb254));clear BK253 BK254 HB;have BK253:=n0_;have BK254:=n1_;have HB:=n2_;have BK255:=n3_;have GW255:=n4_;have GE255:=n5_;have NB253_255:=n6_;have NB255_253:=n7_;have NB254_255:=n8_;have NB255_254:=n9_;clear n0_ n1_ n2_ n3_ n4_ n5_ n6_ n7_ n8_ n9_ hb hbox hg;have hnb5:=NB253_254.out;have hnc5:=NB254_253.out;have hnb6:=NB253_255.out;have hnc6:=NB255_253.out;have hcz7_0:w4.cell? ⟨gb253,0,none⟩=some (.int .i64 a0_0):=(blk_cell BK253.out 0).trans rfl;have hcz7_1:w4.cell? ⟨gb253,1,none⟩=some (.int .i64 a0_1):=(blk_cell BK253.out 1).trans rfl;have hcz7_2:w4.cell? ⟨gb253,2,none⟩=some (.int .i64 a0_2):=(blk_cell BK253.out 2).trans rfl;have hfz7_0:=blk_frozen BK253.out 0;have hfz7_1:=blk_frozen BK253.out 1;have hfz7_2:=blk_frozen BK253.out 2;have hnb8:=NB255_254.out;have hnc8:=NB254_255.out;have hcz9_0:w4.cell? ⟨gb255,0,none⟩=some (.int .i64 0):=(blk_cell BK255.out 0).trans rfl;have hcz9_1:w4.cell? ⟨gb255,1,none⟩=some (.int .i64 0):=(blk_cell BK255.out 1).trans rfl;have hcz9_2:w4.cell? ⟨gb255,2,none⟩=some (.int .i64 0):=(blk_cell BK255.out 2).trans rfl;have hfz9_0:=blk_frozen BK255.out 0;have hfz9_1:=blk_frozen BK255.out 1;have hfz9_2:=blk_frozen BK255.out 2;have hcz10_0:w4.cell? ⟨gb254,0,none⟩=some (.int .i64 0):=(blk_cell BK254.out 0).trans rfl;have hcz10_1:w4.cell? ⟨gb254,1,none⟩=some (.int .i64 0):=(blk_cell BK254.out 1).trans rfl;have hcz10_2:w4.cell? ⟨gb254,2,none⟩=some (.int .i64 0):=(blk_cell BK254.out 2).trans rfl;have hfz10_0:=blk_frozen BK254.out 0;have hfz10_1:=blk_frozen BK254.out 1;have hfz10_2:=blk_frozen BK254.out 2))
 refine bodyPost_ret (results_cell_row rfl _ _ gb254 95 #[.int .i64 a0_0,.int .i64 a0_1,.int .i64 a0_2] (0,0) _ rfl (by(with_reducible repeat(first|refine bN_ ?_ _|refine bD_ ?_|refine bA_ ?_ _));refine blk_put (cs := #[.int .i64 a0_0,.int .i64 a0_1,.int .i64 0]) ?_ 2 _ rfl;(with_reducible repeat(first|refine bN_ ?_ _|refine bD_ ?_|refine bA_ ?_ _));refine blk_put (cs := #[.int .i64 a0_0,.int .i64 0,.int .i64 0]) ?_ 1 _ rfl;(with_reducible repeat(first|refine bN_ ?_ _|refine bD_ ?_|refine bA_ ?_ _));refine blk_put (cs := #[.int .i64 0,.int .i64 0,.int .i64 0]) ?_ 0 _ rfl;(with_reducible repeat(first|refine bN_ ?_ _|refine bD_ ?_|refine bA_ ?_ _));refine blk_far ?_ NB254_255.out _;(with_reducible repeat(first|refine bN_ ?_ _|refine bD_ ?_|refine bA_ ?_ _));refine blk_far ?_ NB254_255.out _;(with_reducible repeat(first|refine bN_ ?_ _|refine bD_ ?_|refine bA_ ?_ _));refine blk_far ?_ NB254_255.out _;exact bup BK254.out) Try.underlying95 rfl (by kernel_rfl)) rfl ?_
 exact⟨fin1,bl⟩

end Go.Proofs.Ytjniaiobnbdhhab.PFnExactPlaysAsPromised
