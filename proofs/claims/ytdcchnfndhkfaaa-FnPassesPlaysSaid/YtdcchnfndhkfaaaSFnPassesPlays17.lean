/- Walks of functions that FnPassesPlays reaches. No conditions beyond the arguments' being read. -/
import Derived.Test.YtdcchnfndhkfaaaSFnPassesPlays0
import Derived.Test.YtdcchnfndhkfaaaSFnPassesPlays13
import Derived.Test.YtdcchnfndhkfaaaSFnPassesPlays16
namespace Go.Proofs.Ytdcchnfndhkfaaa.PFnPassesPlays
open Go.RowKit Go.Proofs.YtdcchnfndhkfaaaW.PrintWords Go.Proofs.YtdcchnfndhkfaaaW.PrintLast Go.Proofs.YtdcchnfndhkfaaaW.PrintMore
attribute [local go_sem] max2_int min2_int max_two min_two max_three min_three max_four min_four
set_option linter.unusedVariables false
set_option linter.unusedSimpArgs false

def spec_PassesVerifier.f (k:Nat) (l0_0:List Int) (a0_1:Int) (l1:List (S35)) (l2:List (S60)) (a3_0:Int) (a3_1:Int) (a3_2:Int) (a4:Int):Option (Bool×Bool):=(spec_vfAll.f k l0_0 a0_1 l1 l2 a3_0 a3_1 a3_2 a4).bind fun t395=>(if t395=true then((spec_vfFaults.f k l0_0 a0_1 l1 l2 a3_0 a3_1 a3_2 a4).bind fun t396=>(some (((t396.length:Int) == 0),true))) else(some (false,false)))
set_option maxHeartbeats 8000000 in
set_option maxRecDepth 100000 in
theorem spec_PassesVerifier.calls (k:Nat) (A0_0:Option Addr) (c0_0:Nat) (l0_0:List Int) (a0_1:Int) (A1:Option Addr) (c1:Nat) (l1:List (S35)) (A2:Option Addr) (c2:Nat) (l2:List (S60)) (a3_0:Int) (a3_1:Int) (a3_2:Int) (a4:Int) (r1:Bool) (r2:Bool) (w:World) (hr0_0:Kd.C (Kd.int .i64) w A0_0 l0_0.length l0_0) (hc0_0:l0_0.length≤c0_0) (hr1:Kd.C k35 w A1 l1.length l1) (hc1:l1.length≤c1) (hr2:Kd.C k60 w A2 l2.length l2) (hc2:l2.length≤c2) (h:spec_PassesVerifier.f k l0_0 a0_1 l1 l2 a3_0 a3_1 a3_2 a4=some (r1,r2)) :
  Calls Try.prog 5 #[.agg #[.slice A0_0 l0_0.length c0_0,.int .i64 a0_1],.slice A1 l1.length c1,.slice A2 l2.length c2,.agg #[.int .i64 a3_0,.int .i64 a3_1,.int .i64 a3_2],.int .i64 a4] w fun e w'=>e = .returned (.tuple #[.bool r1,.bool r2])∧Below w.heap.size w w':=by
 have hu24:=Try.underlying24
 have hu28:=Try.underlying28
 have HR0_0:=am hr0_0
 have HC0_0:=am hc0_0
 clear hr0_0 hc0_0
 have HR1:=am hr1
 have HC1:=am hc1
 clear hr1 hc1
 have HR2:=am hr2
 have HC2:=am hc2
 clear hr2 hc2
 have HB:=am (Below.refl w.heap.size w)
 have H:((spec_vfAll.f k l0_0 a0_1 l1 l2 a3_0 a3_1 a3_2 a4).bind fun t395=>(if t395=true then((spec_vfFaults.f k l0_0 a0_1 l1 l2 a3_0 a3_1 a3_2 a4).bind fun t396=>(some (((t396.length:Int) == 0),true))) else(some (false,false))))=some (r1,r2):=h
 clear h
 replace H:=Option.bind_eq_some_iff.mp H
 obtain⟨t395,A60,H⟩:=H
 replace H:(if t395=true then((spec_vfFaults.f k l0_0 a0_1 l1 l2 a3_0 a3_1 a3_2 a4).bind fun t396=>(some (((t396.length:Int) == 0),true))) else(some (false,false)))=some (r1,r2):=H
 have A6:=am A60
 clear A60
 by_cases c7:t395=true
 ·subst c7
  replace H:=(if_pos rfl).symm.trans H
  replace H:=Option.bind_eq_some_iff.mp H
  obtain⟨t396,A80,H⟩:=H
  replace H:(some (((t396.length:Int) == 0),true))=some (r1,r2):=H
  have A8:=am A80
  clear A80
  simp only[Option.some.injEq,Prod.mk.injEq] at H
  obtain⟨rfl,rfl⟩:=H
  go_enter Try.func5,Try.ntmps5
  go_wp2_with (first|((with_reducible refine gate_dst (N:=5) rfl ?_);refine box_event ?hg (N:=5) ?hd (cs := #[.slice A0_0 l0_0.length c0_0,.int .i64 a0_1]) (t:=24) ?hr ?_;(case hd=>rfl);(case hg=>rfl);(case hr=>first|(go_simp;done)|(go_simp;rfl));intro gb393 hg w9 hbox hb;have BK393:=am (hbox);have GW393:=am (ge_ bl hg);have GE393:=am (ge_ bl hg);replace HB:=am (below_step bl hb);clear hb hbox hg)|((with_reducible refine gate_dst (N:=8) rfl ?_);refine box_event ?hg (N:=8) ?hd (cs := #[.int .i64 a3_0,.int .i64 a3_1,.int .i64 a3_2]) (t:=28) ?hr ?_;(case hd=>rfl);(case hg=>rfl);(case hr=>first|(go_simp;done)|(go_simp;rfl));intro gb394 hg w10 hbox hb;have BK394:=am (hbox);have GW394:=am (ge_ bl hg);have GE394:=am (ge_ bl hg);replace HB:=am (below_step bl hb);have NB393_394:=am (nl (bup BK393.out) hg);have NB394_393:=am (ng (bup BK393.out) hg);replace BK393:=am (blk_below (bup BK393.out) hb);clear hb hbox hg;have hnb11:=NB393_394.out;have hnc11:=NB394_393.out;have hcz12_0:=bc BK393.out 0;have hcz12_1:=bc BK393.out 1;have hfz12_0:=blk_frozen BK393.out 0;have hfz12_1:=blk_frozen BK393.out 1;have hcz13_0:=bc BK394.out 0;have hcz13_1:=bc BK394.out 1;have hcz13_2:=bc BK394.out 2;have hfz13_0:=blk_frozen BK394.out 0;have hfz13_1:=blk_frozen BK394.out 1;have hfz13_2:=blk_frozen BK394.out 2)|((with_reducible refine gate_callee (f:=9) rfl ?_);refine goesL_ (some 17) rfl rfl Try.func9 (by kernel_rfl) rfl #[.agg #[.slice A0_0 l0_0.length c0_0,.int .i64 a0_1],.slice A1 l1.length c1,.slice A2 l2.length c2,.agg #[.int .i64 a3_0,.int .i64 a3_1,.int .i64 a3_2],.int .i64 a4] rfl tl ?_;(with_reducible refine(spec_vfAll.calls k _ _ l0_0 a0_1 _ _ l1 _ _ l2 a3_0 a3_1 a3_2 a4 true _ ?side1 ?side2 ?side3 ?side4 ?side5 ?side6 A6.out).mono ?_);(case side1=>exact cup (Kd.C_below HR0_0.out HB.out));(case side2=>exact HC0_0.out);(case side3=>exact cup (Kd.C_below HR1.out HB.out));(case side4=>exact HC1.out);(case side5=>exact cup (Kd.C_below HR2.out HB.out));(case side6=>exact HC2.out);rintro e w14 ⟨rfl,hb⟩;refine⟨_,rfl,?_⟩;replace BK393:=am (blk_below (bup BK393.out) hb);replace BK394:=am (blk_below (bup BK394.out) hb);replace HB:=am (below_step bl hb);(try clear hb);have hcz15_0:=bc BK393.out 0;have hcz15_1:=bc BK393.out 1;have hfz15_0:=blk_frozen BK393.out 0;have hfz15_1:=blk_frozen BK393.out 1;have hcz16_0:=bc BK394.out 0;have hcz16_1:=bc BK394.out 1;have hcz16_2:=bc BK394.out 2;have hfz16_0:=blk_frozen BK394.out 0;have hfz16_1:=blk_frozen BK394.out 1;have hfz16_2:=blk_frozen BK394.out 2)|((with_reducible refine gate_callee (f:=10) rfl ?_);refine goesL_ (some 24) rfl rfl Try.func10 (by kernel_rfl) rfl #[.agg #[.slice A0_0 l0_0.length c0_0,.int .i64 a0_1],.slice A1 l1.length c1,.slice A2 l2.length c2,.agg #[.int .i64 a3_0,.int .i64 a3_1,.int .i64 a3_2],.int .i64 a4] rfl tl ?_;(with_reducible refine(spec_vfFaults.calls k _ _ l0_0 a0_1 _ _ l1 _ _ l2 a3_0 a3_1 a3_2 a4 t396 _ ?side1 ?side2 ?side3 ?side4 ?side5 ?side6 A8.out).mono ?_);(case side1=>exact cup (Kd.C_below HR0_0.out HB.out));(case side2=>exact HC0_0.out);(case side3=>exact cup (Kd.C_below HR1.out HB.out));(case side4=>exact HC1.out);(case side5=>exact cup (Kd.C_below HR2.out HB.out));(case side6=>exact HC2.out);rintro e w17 ⟨v397,rfl,ho0,hb⟩;refine⟨_,rfl,?_⟩;have HO398:=am (Kd.S_lower ho0 (below_size bl));replace BK393:=am (blk_below (bup BK393.out) hb);replace BK394:=am (blk_below (bup BK394.out) hb);replace HB:=am (below_step bl hb);(try clear hb);(try clear ho0);obtain⟨Ao18,co18,eo18⟩:=Kd.S_slice HO398.out;subst eo18))
  go_ret2
  exact⟨fin1,bl⟩
 ·replace c7:=Bool.eq_false_iff.mpr c7
  subst c7
  replace H:=(if_neg Bool.false_ne_true).symm.trans H
  simp only[Option.some.injEq,Prod.mk.injEq] at H
  obtain⟨rfl,rfl⟩:=H
  go_enter Try.func5,Try.ntmps5
  go_wp2_with (first|((with_reducible refine gate_dst (N:=5) rfl ?_);refine box_event ?hg (N:=5) ?hd (cs := #[.slice A0_0 l0_0.length c0_0,.int .i64 a0_1]) (t:=24) ?hr ?_;(case hd=>rfl);(case hg=>rfl);(case hr=>first|(go_simp;done)|(go_simp;rfl));intro gb393 hg w19 hbox hb;have BK393:=am (hbox);have GW393:=am (ge_ bl hg);have GE393:=am (ge_ bl hg);replace HB:=am (below_step bl hb);clear hb hbox hg)|((with_reducible refine gate_dst (N:=8) rfl ?_);refine box_event ?hg (N:=8) ?hd (cs := #[.int .i64 a3_0,.int .i64 a3_1,.int .i64 a3_2]) (t:=28) ?hr ?_;(case hd=>rfl);(case hg=>rfl);(case hr=>first|(go_simp;done)|(go_simp;rfl));intro gb394 hg w20 hbox hb;have BK394:=am (hbox);have GW394:=am (ge_ bl hg);have GE394:=am (ge_ bl hg);replace HB:=am (below_step bl hb);have NB393_394:=am (nl (bup BK393.out) hg);have NB394_393:=am (ng (bup BK393.out) hg);replace BK393:=am (blk_below (bup BK393.out) hb);clear hb hbox hg;have hnb21:=NB393_394.out;have hnc21:=NB394_393.out;have hcz22_0:=bc BK393.out 0;have hcz22_1:=bc BK393.out 1;have hfz22_0:=blk_frozen BK393.out 0;have hfz22_1:=blk_frozen BK393.out 1;have hcz23_0:=bc BK394.out 0;have hcz23_1:=bc BK394.out 1;have hcz23_2:=bc BK394.out 2;have hfz23_0:=blk_frozen BK394.out 0;have hfz23_1:=blk_frozen BK394.out 1;have hfz23_2:=blk_frozen BK394.out 2)|((with_reducible refine gate_callee (f:=9) rfl ?_);refine goesL_ (some 17) rfl rfl Try.func9 (by kernel_rfl) rfl #[.agg #[.slice A0_0 l0_0.length c0_0,.int .i64 a0_1],.slice A1 l1.length c1,.slice A2 l2.length c2,.agg #[.int .i64 a3_0,.int .i64 a3_1,.int .i64 a3_2],.int .i64 a4] rfl tl ?_;(with_reducible refine(spec_vfAll.calls k _ _ l0_0 a0_1 _ _ l1 _ _ l2 a3_0 a3_1 a3_2 a4 false _ ?side1 ?side2 ?side3 ?side4 ?side5 ?side6 A6.out).mono ?_);(case side1=>exact cup (Kd.C_below HR0_0.out HB.out));(case side2=>exact HC0_0.out);(case side3=>exact cup (Kd.C_below HR1.out HB.out));(case side4=>exact HC1.out);(case side5=>exact cup (Kd.C_below HR2.out HB.out));(case side6=>exact HC2.out);rintro e w24 ⟨rfl,hb⟩;refine⟨_,rfl,?_⟩;replace BK393:=am (blk_below (bup BK393.out) hb);replace BK394:=am (blk_below (bup BK394.out) hb);replace HB:=am (below_step bl hb);(try clear hb)))
  go_ret2
  exact⟨fin1,bl⟩

def impl_promisedTimes.l0:Nat→Int→List (List Int)→List (S35)→Int→Int→Int→Int→Int→Option ((List (List Int)))
 | 0,_,_,_,_,_,_,_,_=>none
 | k+1,x2,x7,x12,x13,x14,x400000,x400001,x400002=>if x14<x13 then(if 0≤x14 then(if x14<(x12.length:Int) then(if x7.length<5864062014805 then(impl_promisedTimes.l0 k x2 (x7 ++ [(([wrap64 ((wrap64 ((wrap64 (2*((rd_T35 x12 x14).f1)))+x400000)) - x2),wrap64 ((wrap64 ((wrap64 (2*((rd_T35 x12 x14).f1)))+x400000))+x2)]:List Int))]) x12 x13 (wrap64 (x14+1)) x400000 x400001 x400002) else(none)) else(none)) else(none)) else(some x7)
def impl_promisedTimes.f (k:Nat) (l0:List (S35)) (a1_0:Int) (a1_1:Int) (a1_2:Int) (a2:Int):Option ((List (List Int))):=impl_promisedTimes.l0 k a2 (([]:List (List Int))) l0 (l0.length:Int) 0 a1_0 a1_1 a1_2
set_option maxHeartbeats 8000000 in
set_option maxRecDepth 100000 in
theorem impl_promisedTimes.calls (k:Nat) (A0:Option Addr) (c0:Nat) (l0:List (S35)) (a1_0:Int) (a1_1:Int) (a1_2:Int) (a2:Int) (r:List (List Int)) (w:World) (hr0:Kd.C k35 w A0 l0.length l0) (hc0:l0.length≤c0) (h:impl_promisedTimes.f k l0 a1_0 a1_1 a1_2 a2=some r) :
  Calls Try.prog 15 #[.slice A0 l0.length c0,.agg #[.int .i64 a1_0,.int .i64 a1_1,.int .i64 a1_2],.int .i64 a2] w fun e w'=>∃ v0_:Value,e = .returned (v0_)∧Kd.S (Kd.slice 3 (Kd.int .i64)) 22 w' w.heap.size (fun _=>True) v0_ r∧Below w.heap.size w w':=by
 have hu28:=Try.underlying28
 have hu35:=Try.underlying35
 have HR0:=am hr0
 have HC0:=am hc0
 clear hr0 hc0
 have HB:=am (Below.refl w.heap.size w)
 have H:(impl_promisedTimes.l0 k a2 (([]:List (List Int))) l0 (l0.length:Int) 0 a1_0 a1_1 a1_2)=some r:=h
 clear h
 obtain⟨y400,hy400⟩:∃ y_:List (List Int),y_=(([]:List (List Int))):=⟨_,rfl⟩
 replace H:(impl_promisedTimes.l0 k a2 y400 l0 (l0.length:Int) 0 a1_0 a1_1 a1_2)=some r:=by subst hy400;exact H
 have Ny400:=am hy400
 clear hy400
 have H':=am H
 clear H
 go_enter Try.func15,Try.ntmps15
 go_wp2_with (first|((with_reducible refine gate_dst (N:=4) rfl ?_);refine box_event ?hg (N:=4) ?hd (cs := #[.int .i64 a1_0,.int .i64 a1_1,.int .i64 a1_2]) (t:=28) ?hr ?_;(case hd=>rfl);(case hg=>rfl);(case hr=>first|(go_simp;done)|(go_simp;rfl));intro gb399 hg w4 hbox hb;have BK399:=am (hbox);have GW399:=am (ge_ bl hg);have GE399:=am (ge_ bl hg);replace HB:=am (below_step bl hb);clear hb hbox hg)|((with_reducible refine gate_dst (N:=11) rfl ?_);refine Kd.S_lit (Kd.slice 3 (Kd.int .i64)) _ 22 ?hg (N:=11) ?hd (xs:=([]:List (List Int))) (inner:=[]) (ok:=fun _=>True) (okp:=fun _=>True) ?hr ?hp (fun _ hk=>hk) trivial (Below.refl _ _) (Nat.le_refl _) (by simp) ?_;(case hd=>rfl);(case hg=>rfl);(case hr=>first|(go_simp;done)|(go_simp;rfl));(case hp=>exact(Reps.none _ _));intro v401 w5 ho6 hb hg_ hnew_;clear hg_ hnew_;(first|rw[← Ny400.out] at ho6|(simp only[Int.reduceToNat] at ho6;rw[← Ny400.out] at ho6));have HO402:=am (Kd.S_lower ho6 (below_size bl));replace BK399:=am (blk_below (bup BK399.out) hb);replace HB:=am (below_step bl hb);clear hb ho6))
 go_loopg [7,14] k (fun kq v7 v14 w'=>∃(x7_1:List (List Int)) (x14_1:Int),v14 = .int .i64 x14_1∧Aside0 (impl_promisedTimes.l0 kq a2 x7_1 l0 (l0.length:Int) x14_1 a1_0 a1_1 a1_2=some r)∧Aside0 (kq≤k)∧Aside0 (Kd.S (Kd.slice 3 (Kd.int .i64)) 22 w' w.heap.size (fun _=>True) v7 x7_1)∧Aside0 (w'.heap[gb399]?=some (.cells #[.int .i64 a1_0,.int .i64 a1_1,.int .i64 a1_2] 28 (0,0)))∧Aside0 (Below w.heap.size w w'))
 case atStart=>exact⟨(y400),(0),fin2,H',⟨Nat.le_refl _⟩,⟨by(with_reducible repeat(first|apply Kd.S_alloc|apply Kd.S_drewN|apply Kd.S_drew));exact HO402.out⟩,⟨bup BK399.out⟩,⟨bl⟩⟩
 case round =>
  clear H'
  obtain⟨x7_1,x14_1,rfl,HA,HK1,HO_7,BK399,HB⟩:=hrel
  cases gk with
  | zero=>exact absurd HA.out (by simp [impl_promisedTimes.l0])
  | succ k1 =>
   have H:=HA.out
   clear HA
   simp only[impl_promisedTimes.l0] at H
   rcases itc H with⟨c7,H⟩|⟨c7,H⟩
   ·have c7b0:=decide_eq_true c7
    clear c7
    obtain⟨c8b0,H⟩:=ifb H
    obtain⟨c9b0,H⟩:=ifb H
    obtain⟨y405,hy405⟩:∃ y_:List Int,y_=(([wrap64 ((wrap64 ((wrap64 (2*((rd_T35 l0 x14_1).f1)))+a1_0)) - a2),wrap64 ((wrap64 ((wrap64 (2*((rd_T35 l0 x14_1).f1)))+a1_0))+a2)]:List Int)):=⟨_,rfl⟩
    replace H:(if x7_1.length<5864062014805 then(impl_promisedTimes.l0 k1 a2 (x7_1 ++ [y405]) l0 (l0.length:Int) (wrap64 (x14_1+1)) a1_0 a1_1 a1_2) else(none))=some r:=by subst hy405;exact H
    have Ny405:=am hy405
    clear hy405
    obtain⟨c10,H⟩:=ifp H
    have LMc10:=am c10
    clear c10
    obtain⟨y408,hy408⟩:∃ y_:List (List Int),y_=(x7_1 ++ [y405]):=⟨_,rfl⟩
    replace H:(impl_promisedTimes.l0 k1 a2 y408 l0 (l0.length:Int) (wrap64 (x14_1+1)) a1_0 a1_1 a1_2)=some r:=by subst hy408;exact H
    have Ny408:=am hy408
    clear hy408
    have H':=am H
    clear H
    have p403:0≤(x14_1:Int):=od
    have q403:x14_1<(l0.length:Int):=od
    obtain⟨ad403,e403,hx403_0,hx403_1,hx403_2⟩:=at_T35 HR0.out x14_1 p403 q403
    cases e403
    replace hx403_0:=(HB.out.cell (World.block_lt_of_cell? w _ hx403_0)).trans hx403_0
    replace hx403_1:=(HB.out.cell (World.block_lt_of_cell? w _ hx403_1)).trans hx403_1
    replace hx403_2:=(HB.out.cell (World.block_lt_of_cell? w _ hx403_2)).trans hx403_2
    replace p403:=eq_true p403
    replace q403:=eq_true q403
    go_wp2_with (first|((with_reducible refine gate_dst (N:=9) rfl ?_);refine box_event ?hg (N:=9) ?hd (cs := #[.int .i64 0,.int .i64 0,.int .i64 0]) (t:=35) ?hr ?_;(case hd=>rfl);(case hg=>rfl);(case hr=>first|(go_simp;done)|(go_simp;rfl));intro gb404 hg w11 hbox hb;replace HO_7:=am (Kd.S_below (by(with_reducible repeat(first|apply Kd.S_alloc|apply Kd.S_drewN|apply Kd.S_drew));exact HO_7.out) hb);have BK404:=am (hbox);have GW404:=am (ge_ bl hg);have GE404:=am (ge_ bl hg);replace HB:=am (below_step bl hb);have NB399_404:=am (nl (bup BK399.out) hg);have NB404_399:=am (ng (bup BK399.out) hg);replace BK399:=am (blk_below (bup BK399.out) hb);clear hb hbox hg;have hnb12:=NB404_399.out;have hnc12:=NB399_404.out;have hcz13_0:=bc BK404.out 0;have hcz13_1:=bc BK404.out 1;have hcz13_2:=bc BK404.out 2;have hfz13_0:=blk_frozen BK404.out 0;have hfz13_1:=blk_frozen BK404.out 1;have hfz13_2:=blk_frozen BK404.out 2;have hcz14_0:=bc BK399.out 0;have hcz14_1:=bc BK399.out 1;have hcz14_2:=bc BK399.out 2;have hfz14_0:=blk_frozen BK399.out 0;have hfz14_1:=blk_frozen BK399.out 1;have hfz14_2:=blk_frozen BK399.out 2)|((with_reducible refine gate_dst (N:=31) rfl ?_);refine Kd.R_lit (Kd.int .i64) _ 3 ?hg (N:=31) ?hd (xs:=([wrap64 ((wrap64 ((wrap64 (2*((rd_T35 l0 x14_1).f1)))+a1_0)) - a2),wrap64 ((wrap64 ((wrap64 (2*((rd_T35 l0 x14_1).f1)))+a1_0))+a2)]:List Int)) (inner:=[.int .i64 (wrap64 ((wrap64 ((wrap64 (2*((rd_T35 l0 x14_1).f1)))+a1_0)) - a2)),.int .i64 (wrap64 ((wrap64 ((wrap64 (2*((rd_T35 l0 x14_1).f1)))+a1_0))+a2))]) (ok:=fun _=>True) (okp:=fun _=>True) ?hr ?hp (fun _ hk=>hk) trivial (Below.refl _ _) (Nat.le_refl _) (by simp) ?_;(case hd=>rfl);(case hg=>rfl);(case hr=>first|(go_simp;done)|(go_simp;rfl));(case hp=>exact(Reps.one (show Kd.M (Kd.int .i64) _ _ _ (wrap64 ((wrap64 ((wrap64 (2*((rd_T35 l0 x14_1).f1)))+a1_0)) - a2)) [.int .i64 (wrap64 ((wrap64 ((wrap64 (2*((rd_T35 l0 x14_1).f1)))+a1_0)) - a2))] from rfl) (Reps.one (show Kd.M (Kd.int .i64) _ _ _ (wrap64 ((wrap64 ((wrap64 (2*((rd_T35 l0 x14_1).f1)))+a1_0))+a2)) [.int .i64 (wrap64 ((wrap64 ((wrap64 (2*((rd_T35 l0 x14_1).f1)))+a1_0))+a2))] from rfl) (Reps.none _ _))));intro v406 w15 ho16 hb hg_ hnew_;clear hg_ hnew_;(first|rw[← Ny405.out] at ho16|(simp only[Int.reduceToNat] at ho16;rw[← Ny405.out] at ho16));replace HO_7:=am (Kd.S_elder' (by(with_reducible repeat(first|apply Kd.S_alloc|apply Kd.S_drewN|apply Kd.S_drew));exact(Kd.S_mono (Kd.S_far (p:=⟨gb404,2,none⟩) (Kd.S_far (p:=⟨gb404,1,none⟩) (Kd.S_far (p:=⟨gb404,0,none⟩) (Kd.S_types HO_7.out BK404.out (by decide)) (fun _ hk=>hk.2) (.int .i64 ((rd_T35 l0 x14_1).f0))) (fun _ hk=>hk.2) (.int .i64 ((rd_T35 l0 x14_1).f1))) (fun _ hk=>hk.2) (.int .i64 ((rd_T35 l0 x14_1).f2))) (fun _ h_=>h_.1))) (Kd.R_base ho16) hb);have HO407:=am (Kd.R_lower ho16 (below_size bl));replace BK399:=am (blk_below (g:=gb399) (o := .cells #[.int .i64 a1_0,.int .i64 a1_1,.int .i64 a1_2] 28 (0,0)) (by(with_reducible repeat(first|refine bN_ ?_ _|refine bD_ ?_|refine bA_ ?_ _));refine blk_far ?_ NB399_404.out _;(with_reducible repeat(first|refine bN_ ?_ _|refine bD_ ?_|refine bA_ ?_ _));refine blk_far ?_ NB399_404.out _;(with_reducible repeat(first|refine bN_ ?_ _|refine bD_ ?_|refine bA_ ?_ _));refine blk_far ?_ NB399_404.out _;exact bup BK399.out) hb);replace BK404:=am (blk_below (g:=gb404) (o := .cells #[.int .i64 ((rd_T35 l0 x14_1).f0),.int .i64 ((rd_T35 l0 x14_1).f1),.int .i64 ((rd_T35 l0 x14_1).f2)] 35 (0,0)) (by(with_reducible repeat(first|refine bN_ ?_ _|refine bD_ ?_|refine bA_ ?_ _));refine blk_put (cs := #[.int .i64 ((rd_T35 l0 x14_1).f0),.int .i64 ((rd_T35 l0 x14_1).f1),.int .i64 0]) ?_ 2 _ rfl;(with_reducible repeat(first|refine bN_ ?_ _|refine bD_ ?_|refine bA_ ?_ _));refine blk_put (cs := #[.int .i64 ((rd_T35 l0 x14_1).f0),.int .i64 0,.int .i64 0]) ?_ 1 _ rfl;(with_reducible repeat(first|refine bN_ ?_ _|refine bD_ ?_|refine bA_ ?_ _));refine blk_put (cs := #[.int .i64 0,.int .i64 0,.int .i64 0]) ?_ 0 _ rfl;exact bup BK404.out) hb);replace HB:=am (below_step bl hb);clear hb ho16;obtain⟨Ao18,co18,eo18⟩:=Kd.R_slice HO407.out;subst eo18)|((with_reducible refine gate_builtin (b := .append) (xs := #[.tmp 24,.tmp 32]) rfl ?_);at_builtin;refine Kd.S_append (Kd.slice 3 (Kd.int .i64)) (w0:=w) w.heap.size rfl (.tmp 24) (.tmp 32) 39 22 (.slice none 0 0) 24 rfl Try.underlying39 info22 rfl (by decide) (by omega) u7 x7_1 y405 [.slice Ao18 y405.length co18] (fun _=>True) (fun k_=>some k_=(.slice Ao18 y405.length co18:Value).ownBlock) rfl rfl ?aP (fun k_ hk_=>((Kd.R_mono (ok':=fun k_=>((fun _=>True)) k_∧some k_≠(u7:Value).ownBlock) (Kd.R_apart' (HO407.out) (Kd.S_typed HO_7.out) (by decide)) (fun k_ hk=>⟨trivial,hk.2⟩))).1 k_ hk_.symm) ?aF ?aO ?aB ?aS ?aL ?_;(case aP=>exact Kd.M_row (Kd.R_mono (Kd.R_tight rfl (Kd.R_mono (ok':=fun k_=>((fun _=>True)) k_∧some k_≠(u7:Value).ownBlock) (Kd.R_apart' (HO407.out) (Kd.S_typed HO_7.out) (by decide)) (fun k_ hk=>⟨trivial,hk.2⟩))) (fun _ h_=>h_)));(case aB=>exact bl);(case aF=>exact(fun _ _=>trivial));(case aO=>exact(by(with_reducible repeat(first|apply Kd.S_alloc|apply Kd.S_drewN|apply Kd.S_drew));exact Kd.S_mono HO_7.out (fun k_ hk=>⟨trivial,fun e_=>hk.2 e_⟩)));(case aS=>exact(below_size bl));(case aL=>have:=LMc10.out;omega);intro v409 w17 ho hb hg hat;rw[← Ny408.out] at ho;replace BK399:=am (blk_grown (bup BK399.out) hg (Kd.S_ne HO_7.out BK399.out (by decide)));replace BK404:=am (blk_grown (bup BK404.out) hg (Kd.S_ne HO_7.out BK404.out (by decide)));replace HB:=am (hb);have HO410:=am (ho);clear HO_7 HO407 ho hb hg hat))
    go_roundg k1
    case measure=>have:=HK1.out;omega
    case rel=>exact⟨(y408),(wrap64 (x14_1+1)),fin2,H',⟨by have:=HK1.out;omega⟩,⟨by(with_reducible repeat(first|apply Kd.S_alloc|apply Kd.S_drewN|apply Kd.S_drew));exact HO410.out⟩,⟨bup BK399.out⟩,⟨bl⟩⟩
   ·have c7b0:=decide_eq_false c7
    clear c7
    obtain rfl:=Option.some.inj H
    go_wp2
    go_ret
    exact⟨_,fin1,by(with_reducible repeat(first|apply Kd.S_alloc|apply Kd.S_drewN|apply Kd.S_drew));exact HO_7.out,bl⟩

end Go.Proofs.Ytdcchnfndhkfaaa.PFnPassesPlays
