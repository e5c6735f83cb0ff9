/- Walks of functions that FnPassesPlays reaches. No conditions beyond the arguments' being read. -/
import Derived.Test.YtdcchnfndhkfaaaSFnPassesPlays0
import Derived.Test.YtdcchnfndhkfaaaSFnPassesPlays5
import Derived.Test.YtdcchnfndhkfaaaSFnPassesPlays17
namespace Go.Proofs.Ytdcchnfndhkfaaa.PFnPassesPlays
open Go.RowKit Go.Proofs.YtdcchnfndhkfaaaW.PrintWords Go.Proofs.YtdcchnfndhkfaaaW.PrintLast Go.Proofs.YtdcchnfndhkfaaaW.PrintMore
attribute [local go_sem] max2_int min2_int max_two min_two max_three min_three max_four min_four
set_option linter.unusedVariables false
set_option linter.unusedSimpArgs false

mutual
def impl_PlaysAsPromised.j0:Nat→List (S35)→List (S60)→Int→Bool→List Int→Int→Int→Int→Int→Option (Bool×Bool)
 | 0,_,_,_,_,_,_,_,_,_=>none
 | k+1,x1,x2,x4,x35,x412000,x412001,x413000,x413001,x413002=>if x35=true then(some (false,false)) else((impl_spoken.f k x412000 x412001 x2 x413000 x413001 x413002).bind fun bt416=>(if(bt416.1.length:Int)=(x1.length:Int) then((impl_promisedTimes.f k x1 x413000 x413001 x413002 x4).bind fun t422=>(if 0≤(x1.length:Int) then(if((x1.length:Int):Int).toNat≤281474976710656 then(impl_PlaysAsPromised.l0 k x1 t422 (List.replicate ((x1.length:Int):Int).toNat false) bt416.1 (bt416.1.length:Int) 0) else(none)) else(none))) else(some (false,true))))
def impl_PlaysAsPromised.l0:Nat→List (S35)→List (List Int)→List Bool→List (S37)→Int→Int→Option (Bool×Bool)
 | 0,_,_,_,_,_,_=>none
 | k+1,x1,x14,x15,x55,x56,x57=>if x57<x56 then(if 0≤x57 then(if x57<(x55.length:Int) then(impl_PlaysAsPromised.l1 k x1 x14 x15 (-1) x55 x56 x57 x1 (x1.length:Int) 0 ((rd_T37 x55 x57).f0) ((rd_T37 x55 x57).f1) ((rd_T37 x55 x57).f2)) else(none)) else(none)) else(some (true,true))
def impl_PlaysAsPromised.l1:Nat→List (S35)→List (List Int)→List Bool→Int→List (S37)→Int→Int→List (S35)→Int→Int→Int→Int→Int→Option (Bool×Bool)
 | 0,_,_,_,_,_,_,_,_,_,_,_,_,_=>none
 | k+1,x1,x14,x15,x18,x55,x56,x57,x61,x62,x63,x430000,x430001,x430002=>if x63<x62 then(if 0≤x63 then(if x63<(x61.length:Int) then(if x18<0 then(if((rd_T35 x61 x63).f0)=x430000 then(if x63<(x15.length:Int) then(if rdOf false x15 x63=true then(impl_PlaysAsPromised.l1 k x1 x14 x15 x18 x55 x56 x57 x61 x62 (wrap64 (x63+1)) x430000 x430001 x430002) else(impl_PlaysAsPromised.l1 k x1 x14 x15 x63 x55 x56 x57 x61 x62 (wrap64 (x63+1)) x430000 x430001 x430002)) else(none)) else(impl_PlaysAsPromised.l1 k x1 x14 x15 x18 x55 x56 x57 x61 x62 (wrap64 (x63+1)) x430000 x430001 x430002)) else(impl_PlaysAsPromised.l1 k x1 x14 x15 x18 x55 x56 x57 x61 x62 (wrap64 (x63+1)) x430000 x430001 x430002)) else(none)) else(none)) else(if x18<0 then(some (false,true)) else(if 0≤x18 then(if x18<(x14.length:Int) then(if 0<((rd_L5 x14 x18).length:Int) then(if x430001<(rd (rd_L5 x14 x18) 0) then(some (false,true)) else(if 1<((rd_L5 x14 x18).length:Int) then(if x430001>(rd (rd_L5 x14 x18) 1) then(some (false,true)) else(if x18<(x15.length:Int) then(impl_PlaysAsPromised.l0 k x1 x14 (x15.set (x18:Int).toNat true) x55 x56 (wrap64 (x57+1))) else(none))) else(none))) else(none)) else(none)) else(none)))
end
def impl_PlaysAsPromised.f (k:Nat) (l0_0:List Int) (a0_1:Int) (l1:List (S35)) (l2:List (S60)) (a3_0:Int) (a3_1:Int) (a3_2:Int) (a4:Int):Option (Bool×Bool):=(impl_canMatch.f k l0_0 a0_1 l1 l2).bind fun t413=>(if t413=true then((impl_IsAction.f a3_0 a3_1 a3_2).bind fun t414=>(if t414=true then((impl_isTolerance.f a4).bind fun t415=>(impl_PlaysAsPromised.j0 k l1 l2 a4 (!t415) l0_0 a0_1 a3_0 a3_1 a3_2)) else(impl_PlaysAsPromised.j0 k l1 l2 a4 true l0_0 a0_1 a3_0 a3_1 a3_2))) else(impl_PlaysAsPromised.j0 k l1 l2 a4 true l0_0 a0_1 a3_0 a3_1 a3_2))
set_option maxHeartbeats 8000000 in
set_option maxRecDepth 100000 in
theorem impl_PlaysAsPromised.calls (k:Nat) (A0_0:Option Addr) (c0_0:Nat) (l0_0:List Int) (a0_1:Int) (A1:Option Addr) (c1:Nat) (l1:List (S35)) (A2:Option Addr) (c2:Nat) (l2:List (S60)) (a3_0:Int) (a3_1:Int) (a3_2:Int) (a4:Int) (r1:Bool) (r2:Bool) (w:World) (hr0_0:Kd.C (Kd.int .i64) w A0_0 l0_0.length l0_0) (hc0_0:l0_0.length≤c0_0) (hr1:Kd.C k35 w A1 l1.length l1) (hc1:l1.length≤c1) (hr2:Kd.C k60 w A2 l2.length l2) (hc2:l2.length≤c2) (h:impl_PlaysAsPromised.f k l0_0 a0_1 l1 l2 a3_0 a3_1 a3_2 a4=some (r1,r2)) :
  Calls Try.prog 6 #[.agg #[.slice A0_0 l0_0.length c0_0,.int .i64 a0_1],.slice A1 l1.length c1,.slice A2 l2.length c2,.agg #[.int .i64 a3_0,.int .i64 a3_1,.int .i64 a3_2],.int .i64 a4] w fun e w'=>e = .returned (.tuple #[.bool r1,.bool r2])∧Below w.heap.size w w':=by
 have hu24:=Try.underlying24
 have hu28:=Try.underlying28
 have hu37:=Try.underlying37
 have hu35:=Try.underlying35
 have HR0_0:=am hr0_0
 have HC0_0:=am hc0_0
 clear hr0_0 hc0_0
 have HR1:=am hr1
 have HC1:=am hc1
 clear hr1 hc1
 have HR2:=am hr2
 have HC2:=am hc2
 clear hr2 hc2
 have HB:=am (Below.refl w.heap.size w)
 have H:((impl_canMatch.f k l0_0 a0_1 l1 l2).bind fun t413=>(if t413=true then((impl_IsAction.f a3_0 a3_1 a3_2).bind fun t414=>(if t414=true then((impl_isTolerance.f a4).bind fun t415=>(impl_PlaysAsPromised.j0 k l1 l2 a4 (!t415) l0_0 a0_1 a3_0 a3_1 a3_2)) else(impl_PlaysAsPromised.j0 k l1 l2 a4 true l0_0 a0_1 a3_0 a3_1 a3_2))) else(impl_PlaysAsPromised.j0 k l1 l2 a4 true l0_0 a0_1 a3_0 a3_1 a3_2)))=some (r1,r2):=h
 clear h
 have HC6:=am H
 clear H
 go_enter Try.func6,Try.ntmps6
 go_upto_region 1 with(first|((with_reducible refine gate_dst (N:=5) rfl ?_);refine box_event ?hg (N:=5) ?hd (cs := #[.slice A0_0 l0_0.length c0_0,.int .i64 a0_1]) (t:=24) ?hr ?_;(case hd=>rfl);(case hg=>rfl);(case hr=>first|(go_simp;done)|(go_simp;rfl));intro gb411 hg w7 hbox hb;have BK411:=am (hbox);have GW411:=am (ge_ bl hg);have GE411:=am (ge_ bl hg);replace HB:=am (below_step bl hb);clear hb hbox hg)|((with_reducible refine gate_dst (N:=8) rfl ?_);refine box_event ?hg (N:=8) ?hd (cs := #[.int .i64 a3_0,.int .i64 a3_1,.int .i64 a3_2]) (t:=28) ?hr ?_;(case hd=>rfl);(case hg=>rfl);(case hr=>first|(go_simp;done)|(go_simp;rfl));intro gb412 hg w8 hbox hb;have BK412:=am (hbox);have GW412:=am (ge_ bl hg);have GE412:=am (ge_ bl hg);replace HB:=am (below_step bl hb);have NB411_412:=am (nl (bup BK411.out) hg);have NB412_411:=am (ng (bup BK411.out) hg);replace BK411:=am (blk_below (bup BK411.out) hb);clear hb hbox hg))
 repeat(go_quiet (first|((with_reducible refine gate_dst (N:=5) rfl ?_);refine box_event ?hg (N:=5) ?hd (cs := #[.slice A0_0 l0_0.length c0_0,.int .i64 a0_1]) (t:=24) ?hr ?_;(case hd=>rfl);(case hg=>rfl);(case hr=>first|(go_simp;done)|(go_simp;rfl));intro gb411 hg w7 hbox hb;have BK411:=am (hbox);have GW411:=am (ge_ bl hg);have GE411:=am (ge_ bl hg);replace HB:=am (below_step bl hb);clear hb hbox hg)|((with_reducible refine gate_dst (N:=8) rfl ?_);refine box_event ?hg (N:=8) ?hd (cs := #[.int .i64 a3_0,.int .i64 a3_1,.int .i64 a3_2]) (t:=28) ?hr ?_;(case hd=>rfl);(case hg=>rfl);(case hr=>first|(go_simp;done)|(go_simp;rfl));intro gb412 hg w8 hbox hb;have BK412:=am (hbox);have GW412:=am (ge_ bl hg);have GE412:=am (ge_ bl hg);replace HB:=am (below_step bl hb);have NB411_412:=am (nl (bup BK411.out) hg);have NB412_411:=am (ng (bup BK411.out) hg);replace BK411:=am (blk_below (bup BK411.out) hb);clear hb hbox hg));go_upto_region 1 with(first|((with_reducible refine gate_dst (N:=5) rfl ?_);refine box_event ?hg (N:=5) ?hd (cs := #[.slice A0_0 l0_0.length c0_0,.int .i64 a0_1]) (t:=24) ?hr ?_;(case hd=>rfl);(case hg=>rfl);(case hr=>first|(go_simp;done)|(go_simp;rfl));intro gb411 hg w7 hbox hb;have BK411:=am (hbox);have GW411:=am (ge_ bl hg);have GE411:=am (ge_ bl hg);replace HB:=am (below_step bl hb);clear hb hbox hg)|((with_reducible refine gate_dst (N:=8) rfl ?_);refine box_event ?hg (N:=8) ?hd (cs := #[.int .i64 a3_0,.int .i64 a3_1,.int .i64 a3_2]) (t:=28) ?hr ?_;(case hd=>rfl);(case hg=>rfl);(case hr=>first|(go_simp;done)|(go_simp;rfl));intro gb412 hg w8 hbox hb;have BK412:=am (hbox);have GW412:=am (ge_ bl hg);have GE412:=am (ge_ bl hg);replace HB:=am (below_step bl hb);have NB411_412:=am (nl (bup BK411.out) hg);have NB412_411:=am (ng (bup BK411.out) hg);replace BK411:=am (blk_below (bup BK411.out) hb);clear hb hbox hg)))
 (try simp only[Act.put,List.setIfInBounds_toArray,List.set_cons_zero,List.set_cons_succ])
 go_cut [35] (fun v35 wc=>∃(kq:Nat) (x35_5:Bool),v35 = .bool x35_5∧Aside0 (impl_PlaysAsPromised.j0 kq l1 l2 a4 x35_5 l0_0 a0_1 a3_0 a3_1 a3_2=some (r1,r2))∧Aside0 (kq≤k)∧Aside0 (wc.heap[gb411]?=some (.cells #[(.slice A0_0 l0_0.length c0_0),.int .i64 a0_1] 24 (0,0)))∧Aside0 (wc.heap[gb412]?=some (.cells #[.int .i64 a3_0,.int .i64 a3_1,.int .i64 a3_2] 28 (0,0)))∧Aside0 (Below w.heap.size w wc))
 case first =>
  have H:=HC6.out
  clear HC6
  replace H:=Option.bind_eq_some_iff.mp H
  obtain⟨t413,A90,H⟩:=H
  replace H:(if t413=true then((impl_IsAction.f a3_0 a3_1 a3_2).bind fun t414=>(if t414=true then((impl_isTolerance.f a4).bind fun t415=>(impl_PlaysAsPromised.j0 k l1 l2 a4 (!t415) l0_0 a0_1 a3_0 a3_1 a3_2)) else(impl_PlaysAsPromised.j0 k l1 l2 a4 true l0_0 a0_1 a3_0 a3_1 a3_2))) else(impl_PlaysAsPromised.j0 k l1 l2 a4 true l0_0 a0_1 a3_0 a3_1 a3_2))=some (r1,r2):=H
  have A9:=am A90
  clear A90
  by_cases c10:t413=true
  ·subst c10
   replace H:=(if_pos rfl).symm.trans H
   replace H:=Option.bind_eq_some_iff.mp H
   obtain⟨t414,A110,H⟩:=H
   replace H:(if t414=true then((impl_isTolerance.f a4).bind fun t415=>(impl_PlaysAsPromised.j0 k l1 l2 a4 (!t415) l0_0 a0_1 a3_0 a3_1 a3_2)) else(impl_PlaysAsPromised.j0 k l1 l2 a4 true l0_0 a0_1 a3_0 a3_1 a3_2))=some (r1,r2):=H
   have A11:=am A110
   clear A110
   by_cases c12:t414=true
   ·subst c12
    replace H:=(if_pos rfl).symm.trans H
    replace H:=Option.bind_eq_some_iff.mp H
    obtain⟨t415,A130,H⟩:=H
    replace H:(impl_PlaysAsPromised.j0 k l1 l2 a4 (!t415) l0_0 a0_1 a3_0 a3_1 a3_2)=some (r1,r2):=H
    have A13:=am A130
    clear A130
    have H':=am H
    clear H
    have hnb14:=NB411_412.out
    have hnc14:=NB412_411.out
    have hcz15_0:=bc BK411.out 0
    have hcz15_1:=bc BK411.out 1
    have hfz15_0:=blk_frozen BK411.out 0
    have hfz15_1:=blk_frozen BK411.out 1
    go_wp2_with (first|(go_at_call 11;(with_reducible refine(impl_canMatch.calls k _ _ l0_0 a0_1 _ _ l1 _ _ l2 true _ ?side1 ?side2 ?side3 ?side4 ?side5 ?side6 A9.out).mono ?_);(case side1=>exact cup (Kd.C_below HR0_0.out HB.out));(case side2=>exact HC0_0.out);(case side3=>exact cup (Kd.C_below HR1.out HB.out));(case side4=>exact HC1.out);(case side5=>exact cup (Kd.C_below HR2.out HB.out));(case side6=>exact HC2.out);rintro e w16 ⟨rfl,hb⟩;replace BK411:=am (blk_below (bup BK411.out) hb);replace BK412:=am (blk_below (bup BK412.out) hb);replace HB:=am (below_step bl hb);(try clear hb);have hcz17_0:=bc BK412.out 0;have hcz17_1:=bc BK412.out 1;have hcz17_2:=bc BK412.out 2;have hfz17_0:=blk_frozen BK412.out 0;have hfz17_1:=blk_frozen BK412.out 1;have hfz17_2:=blk_frozen BK412.out 2)|(go_at_call 12;(with_reducible refine(impl_IsAction.calls a3_0 a3_1 a3_2 true _ A11.out).mono ?_);rintro e w18 ⟨rfl,hb⟩;replace BK411:=am (blk_below (bup BK411.out) hb);replace BK412:=am (blk_below (bup BK412.out) hb);replace HB:=am (below_step bl hb);(try clear hb))|(go_at_call 13;(with_reducible refine(impl_isTolerance.calls a4 t415 _ A13.out).mono ?_);rintro e w' ⟨rfl,⟨nd,rfl⟩⟩;(try first|exact⟨rfl,_,World.drewN_drewN _ _ _⟩|exact⟨rfl,_,Eq.trans (World.drewN_drewN _ _ _) (congrArg (World.drewN _) (Nat.add_assoc _ _ _))⟩)))
    repeat(go_quiet (first|(go_at_call 11;(with_reducible refine(impl_canMatch.calls k _ _ l0_0 a0_1 _ _ l1 _ _ l2 true _ ?side1 ?side2 ?side3 ?side4 ?side5 ?side6 A9.out).mono ?_);(case side1=>exact cup (Kd.C_below HR0_0.out HB.out));(case side2=>exact HC0_0.out);(case side3=>exact cup (Kd.C_below HR1.out HB.out));(case side4=>exact HC1.out);(case side5=>exact cup (Kd.C_below HR2.out HB.out));(case side6=>exact HC2.out);rintro e w16 ⟨rfl,hb⟩;replace BK411:=am (blk_below (bup BK411.out) hb);replace BK412:=am (blk_below (bup BK412.out) hb);replace HB:=am (below_step bl hb);(try clear hb);have hcz17_0:=bc BK412.out 0;have hcz17_1:=bc BK412.out 1;have hcz17_2:=bc BK412.out 2;have hfz17_0:=blk_frozen BK412.out 0;have hfz17_1:=blk_frozen BK412.out 1;have hfz17_2:=blk_frozen BK412.out 2)|(go_at_call 12;(with_reducible refine(impl_IsAction.calls a3_0 a3_1 a3_2 true _ A11.out).mono ?_);rintro e w18 ⟨rfl,hb⟩;replace BK411:=am (blk_below (bup BK411.out) hb);replace BK412:=am (blk_below (bup BK412.out) hb);replace HB:=am (below_step bl hb);(try clear hb))|(go_at_call 13;(with_reducible refine(impl_isTolerance.calls a4 t415 _ A13.out).mono ?_);rintro e w' ⟨rfl,⟨nd,rfl⟩⟩;(try first|exact⟨rfl,_,World.drewN_drewN _ _ _⟩|exact⟨rfl,_,Eq.trans (World.drewN_drewN _ _ _) (congrArg (World.drewN _) (Nat.add_assoc _ _ _))⟩)));try go_wp2_with (first|(go_at_call 11;(with_reducible refine(impl_canMatch.calls k _ _ l0_0 a0_1 _ _ l1 _ _ l2 true _ ?side1 ?side2 ?side3 ?side4 ?side5 ?side6 A9.out).mono ?_);(case side1=>exact cup (Kd.C_below HR0_0.out HB.out));(case side2=>exact HC0_0.out);(case side3=>exact cup (Kd.C_below HR1.out HB.out));(case side4=>exact HC1.out);(case side5=>exact cup (Kd.C_below HR2.out HB.out));(case side6=>exact HC2.out);rintro e w16 ⟨rfl,hb⟩;replace BK411:=am (blk_below (bup BK411.out) hb);replace BK412:=am (blk_below (bup BK412.out) hb);replace HB:=am (below_step bl hb);(try clear hb);have hcz17_0:=bc BK412.out 0;have hcz17_1:=bc BK412.out 1;have hcz17_2:=bc BK412.out 2;have hfz17_0:=blk_frozen BK412.out 0;have hfz17_1:=blk_frozen BK412.out 1;have hfz17_2:=blk_frozen BK412.out 2)|(go_at_call 12;(with_reducible refine(impl_IsAction.calls a3_0 a3_1 a3_2 true _ A11.out).mono ?_);rintro e w18 ⟨rfl,hb⟩;replace BK411:=am (blk_below (bup BK411.out) hb);replace BK412:=am (blk_below (bup BK412.out) hb);replace HB:=am (below_step bl hb);(try clear hb))|(go_at_call 13;(with_reducible refine(impl_isTolerance.calls a4 t415 _ A13.out).mono ?_);rintro e w' ⟨rfl,⟨nd,rfl⟩⟩;(try first|exact⟨rfl,_,World.drewN_drewN _ _ _⟩|exact⟨rfl,_,Eq.trans (World.drewN_drewN _ _ _) (congrArg (World.drewN _) (Nat.add_assoc _ _ _))⟩))))
    go_meet
    case rel=>exact⟨_,(!t415),fin2,H',⟨by first|omega|exact Nat.le_refl _⟩,⟨bup BK411.out⟩,⟨bup BK412.out⟩,⟨bl⟩⟩
   ·replace c12:=Bool.eq_false_iff.mpr c12
    subst c12
    replace H:=(if_neg Bool.false_ne_true).symm.trans H
    have H':=am H
    clear H
    have hnb19:=NB411_412.out
    have hnc19:=NB412_411.out
    have hcz20_0:=bc BK411.out 0
    have hcz20_1:=bc BK411.out 1
    have hfz20_0:=blk_frozen BK411.out 0
    have hfz20_1:=blk_frozen BK411.out 1
    go_wp2_with (first|(go_at_call 11;(with_reducible refine(impl_canMatch.calls k _ _ l0_0 a0_1 _ _ l1 _ _ l2 true _ ?side1 ?side2 ?side3 ?side4 ?side5 ?side6 A9.out).mono ?_);(case side1=>exact cup (Kd.C_below HR0_0.out HB.out));(case side2=>exact HC0_0.out);(case side3=>exact cup (Kd.C_below HR1.out HB.out));(case side4=>exact HC1.out);(case side5=>exact cup (Kd.C_below HR2.out HB.out));(case side6=>exact HC2.out);rintro e w21 ⟨rfl,hb⟩;replace BK411:=am (blk_below (bup BK411.out) hb);replace BK412:=am (blk_below (bup BK412.out) hb);replace HB:=am (below_step bl hb);(try clear hb);have hcz22_0:=bc BK412.out 0;have hcz22_1:=bc BK412.out 1;have hcz22_2:=bc BK412.out 2;have hfz22_0:=blk_frozen BK412.out 0;have hfz22_1:=blk_frozen BK412.out 1;have hfz22_2:=blk_frozen BK412.out 2)|(go_at_call 12;(with_reducible refine(impl_IsAction.calls a3_0 a3_1 a3_2 false _ A11.out).mono ?_);rintro e w23 ⟨rfl,hb⟩;replace BK411:=am (blk_below (bup BK411.out) hb);replace BK412:=am (blk_below (bup BK412.out) hb);replace HB:=am (below_step bl hb);(try clear hb)))
    repeat(go_quiet (first|(go_at_call 11;(with_reducible refine(impl_canMatch.calls k _ _ l0_0 a0_1 _ _ l1 _ _ l2 true _ ?side1 ?side2 ?side3 ?side4 ?side5 ?side6 A9.out).mono ?_);(case side1=>exact cup (Kd.C_below HR0_0.out HB.out));(case side2=>exact HC0_0.out);(case side3=>exact cup (Kd.C_below HR1.out HB.out));(case side4=>exact HC1.out);(case side5=>exact cup (Kd.C_below HR2.out HB.out));(case side6=>exact HC2.out);rintro e w21 ⟨rfl,hb⟩;replace BK411:=am (blk_below (bup BK411.out) hb);replace BK412:=am (blk_below (bup BK412.out) hb);replace HB:=am (below_step bl hb);(try clear hb);have hcz22_0:=bc BK412.out 0;have hcz22_1:=bc BK412.out 1;have hcz22_2:=bc BK412.out 2;have hfz22_0:=blk_frozen BK412.out 0;have hfz22_1:=blk_frozen BK412.out 1;have hfz22_2:=blk_frozen BK412.out 2)|(go_at_call 12;(with_reducible refine(impl_IsAction.calls a3_0 a3_1 a3_2 false _ A11.out).mono ?_);rintro e w23 ⟨rfl,hb⟩;replace BK411:=am (blk_below (bup BK411.out) hb);replace BK412:=am (blk_below (bup BK412.out) hb);replace HB:=am (below_step bl hb);(try clear hb)));try go_wp2_with (first|(go_at_call 11;(with_reducible refine(impl_canMatch.calls k _ _ l0_0 a0_1 _ _ l1 _ _ l2 true _ ?side1 ?side2 ?side3 ?side4 ?side5 ?side6 A9.out).mono ?_);(case side1=>exact cup (Kd.C_below HR0_0.out HB.out));(case side2=>exact HC0_0.out);(case side3=>exact cup (Kd.C_below HR1.out HB.out));(case side4=>exact HC1.out);(case side5=>exact cup (Kd.C_below HR2.out HB.out));(case side6=>exact HC2.out);rintro e w21 ⟨rfl,hb⟩;replace BK411:=am (blk_below (bup BK411.out) hb);replace BK412:=am (blk_below (bup BK412.out) hb);replace HB:=am (below_step bl hb);(try clear hb);have hcz22_0:=bc BK412.out 0;have hcz22_1:=bc BK412.out 1;have hcz22_2:=bc BK412.out 2;have hfz22_0:=blk_frozen BK412.out 0;have hfz22_1:=blk_frozen BK412.out 1;have hfz22_2:=blk_frozen BK412.out 2)|(go_at_call 12;(with_reducible refine(impl_IsAction.calls a3_0 a3_1 a3_2 false _ A11.out).mono ?_);rintro e w23 ⟨rfl,hb⟩;replace BK411:=am (blk_below (bup BK411.out) hb);replace BK412:=am (blk_below (bup BK412.out) hb);replace HB:=am (below_step bl hb);(try clear hb))))
    go_meet
    case rel=>exact⟨_,(true),fin2,H',⟨by first|omega|exact Nat.le_refl _⟩,⟨bup BK411.out⟩,⟨bup BK412.out⟩,⟨bl⟩⟩
  ·replace c10:=Bool.eq_false_iff.mpr c10
   subst c10
   replace H:=(if_neg Bool.false_ne_true).symm.trans H
   have H':=am H
   clear H
   have hnb24:=NB411_412.out
   have hnc24:=NB412_411.out
   have hcz25_0:=bc BK411.out 0
   have hcz25_1:=bc BK411.out 1
   have hfz25_0:=blk_frozen BK411.out 0
   have hfz25_1:=blk_frozen BK411.out 1
   go_wp2_with (first|(go_at_call 11;(with_reducible refine(impl_canMatch.calls k _ _ l0_0 a0_1 _ _ l1 _ _ l2 false _ ?side1 ?side2 ?side3 ?side4 ?side5 ?side6 A9.out).mono ?_);(case side1=>exact cup (Kd.C_below HR0_0.out HB.out));(case side2=>exact HC0_0.out);(case side3=>exact cup (Kd.C_below HR1.out HB.out));(case side4=>exact HC1.out);(case side5=>exact cup (Kd.C_below HR2.out HB.out));(case side6=>exact HC2.out);rintro e w26 ⟨rfl,hb⟩;replace BK411:=am (blk_below (bup BK411.out) hb);replace BK412:=am (blk_below (bup BK412.out) hb);replace HB:=am (below_step bl hb);(try clear hb)))
   repeat(go_quiet (first|(go_at_call 11;(with_reducible refine(impl_canMatch.calls k _ _ l0_0 a0_1 _ _ l1 _ _ l2 false _ ?side1 ?side2 ?side3 ?side4 ?side5 ?side6 A9.out).mono ?_);(case side1=>exact cup (Kd.C_below HR0_0.out HB.out));(case side2=>exact HC0_0.out);(case side3=>exact cup (Kd.C_below HR1.out HB.out));(case side4=>exact HC1.out);(case side5=>exact cup (Kd.C_below HR2.out HB.out));(case side6=>exact HC2.out);rintro e w26 ⟨rfl,hb⟩;replace BK411:=am (blk_below (bup BK411.out) hb);replace BK412:=am (blk_below (bup BK412.out) hb);replace HB:=am (below_step bl hb);(try clear hb)));try go_wp2_with (first|(go_at_call 11;(with_reducible refine(impl_canMatch.calls k _ _ l0_0 a0_1 _ _ l1 _ _ l2 false _ ?side1 ?side2 ?side3 ?side4 ?side5 ?side6 A9.out).mono ?_);(case side1=>exact cup (Kd.C_below HR0_0.out HB.out));(case side2=>exact HC0_0.out);(case side3=>exact cup (Kd.C_below HR1.out HB.out));(case side4=>exact HC1.out);(case side5=>exact cup (Kd.C_below HR2.out HB.out));(case side6=>exact HC2.out);rintro e w26 ⟨rfl,hb⟩;replace BK411:=am (blk_below (bup BK411.out) hb);replace BK412:=am (blk_below (bup BK412.out) hb);replace HB:=am (below_step bl hb);(try clear hb))))
   go_meet
   case rel=>exact⟨_,(true),fin2,H',⟨by first|omega|exact Nat.le_refl _⟩,⟨bup BK411.out⟩,⟨bup BK412.out⟩,⟨bl⟩⟩
 case rest =>
  clear HC6
  obtain⟨kq,x35_5,rfl,HA,HJ5,BK411,BK412,HB⟩:=hcut
  cases kq with
  | zero=>exact absurd HA.out (by simp [impl_PlaysAsPromised.j0])
  | succ kj5 =>
   have H:=HA.out
   clear HA
   simp only[impl_PlaysAsPromised.j0] at H
   by_cases c27:x35_5=true
   ·subst c27
    replace H:=(if_pos rfl).symm.trans H
    simp only[Option.some.injEq,Prod.mk.injEq] at H
    obtain⟨rfl,rfl⟩:=H
    go_wp2
    repeat(go_quiet (fail);try go_wp2)
    go_ret2
    exact⟨fin1,bl⟩
   ·replace c27:=Bool.eq_false_iff.mpr c27
    subst c27
    replace H:=(if_neg Bool.false_ne_true).symm.trans H
    replace H:=Option.bind_eq_some_iff.mp H
    obtain⟨⟨t416,t419⟩,A280,H⟩:=H
    replace H:(if(t416.length:Int)=(l1.length:Int) then((impl_promisedTimes.f kj5 l1 a3_0 a3_1 a3_2 a4).bind fun t422=>(if 0≤(l1.length:Int) then(if((l1.length:Int):Int).toNat≤281474976710656 then(impl_PlaysAsPromised.l0 kj5 l1 t422 (List.replicate ((l1.length:Int):Int).toNat false) t416 (t416.length:Int) 0) else(none)) else(none))) else(some (false,true)))=some (r1,r2):=H
    have A28:=am A280
    clear A280
    rcases itc H with⟨c29,H⟩|⟨c29,H⟩
    ·have c29b0:((t416.length:Int) == (l1.length:Int))=true:=beq_iff_eq.mpr c29
     have c29b1:((t416.length:Int) != (l1.length:Int))=false:=bne_eq_false_iff_eq.mpr c29
     have c29b2:(t416.length == l1.length)=true:=by first|simpa using c29|(simp at c29 ⊢;omega)
     clear c29
     replace H:=Option.bind_eq_some_iff.mp H
     obtain⟨t422,A300,H⟩:=H
     replace H:(if 0≤(l1.length:Int) then(if((l1.length:Int):Int).toNat≤281474976710656 then(impl_PlaysAsPromised.l0 kj5 l1 t422 (List.replicate ((l1.length:Int):Int).toNat false) t416 (t416.length:Int) 0) else(none)) else(none))=some (r1,r2):=H
     have A30:=am A300
     clear A300
     obtain⟨c31,H⟩:=ifp H
     have c31b0:=eq_true c31
     have c31b1:decide (0≤(l1.length:Int))=true:=decide_eq_true c31
     clear c31
     obtain⟨c32,H⟩:=ifp H
     have c32b0:=eq_true c32
     have c32b1:decide (((l1.length:Int):Int).toNat≤281474976710656)=true:=decide_eq_true c32
     clear c32
     obtain⟨y425,hy425⟩:∃ y_:List Bool,y_=(List.replicate ((l1.length:Int):Int).toNat false):=⟨_,rfl⟩
     replace H:(impl_PlaysAsPromised.l0 kj5 l1 t422 y425 t416 (t416.length:Int) 0)=some (r1,r2):=by subst hy425;exact H
     have Ny425:=am hy425
     clear hy425
     have H':=am H
     clear H
     have hnb33:=NB411_412.out
     have hnc33:=NB412_411.out
     have hcz34_0:=bc BK411.out 0
     have hcz34_1:=bc BK411.out 1
     have hfz34_0:=blk_frozen BK411.out 0
     have hfz34_1:=blk_frozen BK411.out 1
     have hcz35_0:=bc BK412.out 0
     have hcz35_1:=bc BK412.out 1
     have hcz35_2:=bc BK412.out 2
     have hfz35_0:=blk_frozen BK412.out 0
     have hfz35_1:=blk_frozen BK412.out 1
     have hfz35_2:=blk_frozen BK412.out 2
     go_wp2_with (first|(go_at_call 14;(with_reducible refine(impl_spoken.calls kj5 _ _ l0_0 a0_1 _ _ l2 a3_0 a3_1 a3_2 t416 t419 _ ?side1 ?side2 ?side3 ?side4 A28.out).mono ?_);(case side1=>exact cup (Kd.C_below HR0_0.out HB.out));(case side2=>exact HC0_0.out);(case side3=>exact cup (Kd.C_below HR2.out HB.out));(case side4=>exact HC2.out);rintro e w36 ⟨v417,v420,rfl,ho0,ho1,hb⟩;have HO418:=am (Kd.R_lower ho0 (below_size bl));have HO421:=am (Kd.R_lower ho1 (below_size bl));replace BK411:=am (blk_below (bup BK411.out) hb);replace BK412:=am (blk_below (bup BK412.out) hb);replace HB:=am (below_step bl hb);(try clear hb);(try clear ho0);(try clear ho1);obtain⟨Ao37,co37,eo37⟩:=Kd.R_slice HO418.out;subst eo37;have hcz38_0:=bc BK412.out 0;have hcz38_1:=bc BK412.out 1;have hcz38_2:=bc BK412.out 2;have hfz38_0:=blk_frozen BK412.out 0;have hfz38_1:=blk_frozen BK412.out 1;have hfz38_2:=blk_frozen BK412.out 2)|(go_at_call 15;(with_reducible refine(impl_promisedTimes.calls kj5 _ _ l1 a3_0 a3_1 a3_2 a4 t422 _ ?side1 ?side2 A30.out).mono ?_);(case side1=>exact cup (Kd.C_below HR1.out HB.out));(case side2=>exact HC1.out);rintro e w39 ⟨v423,rfl,ho0,hb⟩;replace HO418:=am (Kd.R_below (rup HO418.out) hb);have HO424:=am (Kd.S_lower (Kd.S_new' ho0 (Kd.R_lt (rup HO421.out))) (below_size bl));replace HO421:=am (Kd.R_below (rup HO421.out) hb);replace BK411:=am (blk_below (bup BK411.out) hb);replace BK412:=am (blk_below (bup BK412.out) hb);replace HB:=am (below_step bl hb);(try clear hb);(try clear ho0))|((with_reducible refine gate_dst (N:=54) rfl ?_);refine Kd.R_make Kd.bool _ 4 rfl (N:=54) rfl 49 _ _ rfl (l1.length:Int) rfl rfl Try.underlying49 (.bool false) 1 info4 rfl (by decide) (by omega) false (ok:=fun _=>True) (okp:=fun _=>True) rfl (fun _ hk=>hk) trivial (od) (Nat.le_trans (Nat.mul_le_mul_right _ (od:(l1.length:Int).toNat≤281474976710656)) (by omega)) (Below.refl _ _) (Nat.le_refl _) ?_;intro v426 w40 ho41 hb hg_ hnew_;clear hg_ hnew_;(first|rw[← Ny425.out] at ho41|(simp only[Int.reduceToNat] at ho41;rw[← Ny425.out] at ho41));replace HO418:=am (Kd.R_below (rup HO418.out) hb);replace HO421:=am (Kd.R_below (rup HO421.out) hb);replace HO424:=am (Kd.S_below (by(with_reducible repeat(first|apply Kd.S_alloc|apply Kd.S_drewN|apply Kd.S_drew));exact HO424.out) hb);have HO427:=am (Kd.R_lower ho41 (below_size bl));replace BK411:=am (blk_below (bup BK411.out) hb);replace BK412:=am (blk_below (bup BK412.out) hb);replace HB:=am (below_step bl hb);clear hb ho41))
     repeat(go_quiet (first|(go_at_call 14;(with_reducible refine(impl_spoken.calls kj5 _ _ l0_0 a0_1 _ _ l2 a3_0 a3_1 a3_2 t416 t419 _ ?side1 ?side2 ?side3 ?side4 A28.out).mono ?_);(case side1=>exact cup (Kd.C_below HR0_0.out HB.out));(case side2=>exact HC0_0.out);(case side3=>exact cup (Kd.C_below HR2.out HB.out));(case side4=>exact HC2.out);rintro e w36 ⟨v417,v420,rfl,ho0,ho1,hb⟩;have HO418:=am (Kd.R_lower ho0 (below_size bl));have HO421:=am (Kd.R_lower ho1 (below_size bl));replace BK411:=am (blk_below (bup BK411.out) hb);replace BK412:=am (blk_below (bup BK412.out) hb);replace HB:=am (below_step bl hb);(try clear hb);(try clear ho0);(try clear ho1);obtain⟨Ao37,co37,eo37⟩:=Kd.R_slice HO418.out;subst eo37;have hcz38_0:=bc BK412.out 0;have hcz38_1:=bc BK412.out 1;have hcz38_2:=bc BK412.out 2;have hfz38_0:=blk_frozen BK412.out 0;have hfz38_1:=blk_frozen BK412.out 1;have hfz38_2:=blk_frozen BK412.out 2)|(go_at_call 15;(with_reducible refine(impl_promisedTimes.calls kj5 _ _ l1 a3_0 a3_1 a3_2 a4 t422 _ ?side1 ?side2 A30.out).mono ?_);(case side1=>exact cup (Kd.C_below HR1.out HB.out));(case side2=>exact HC1.out);rintro e w39 ⟨v423,rfl,ho0,hb⟩;replace HO418:=am (Kd.R_below (rup HO418.out) hb);have HO424:=am (Kd.S_lower (Kd.S_new' ho0 (Kd.R_lt (rup HO421.out))) (below_size bl));replace HO421:=am (Kd.R_below (rup HO421.out) hb);replace BK411:=am (blk_below (bup BK411.out) hb);replace BK412:=am (blk_below (bup BK412.out) hb);replace HB:=am (below_step bl hb);(try clear hb);(try clear ho0))|((with_reducible refine gate_dst (N:=54) rfl ?_);refine Kd.R_make Kd.bool _ 4 rfl (N:=54) rfl 49 _ _ rfl (l1.length:Int) rfl rfl Try.underlying49 (.bool false) 1 info4 rfl (by decide) (by omega) false (ok:=fun _=>True) (okp:=fun _=>True) rfl (fun _ hk=>hk) trivial (od) (Nat.le_trans (Nat.mul_le_mul_right _ (od:(l1.length:Int).toNat≤281474976710656)) (by omega)) (Below.refl _ _) (Nat.le_refl _) ?_;intro v426 w40 ho41 hb hg_ hnew_;clear hg_ hnew_;(first|rw[← Ny425.out] at ho41|(simp only[Int.reduceToNat] at ho41;rw[← Ny425.out] at ho41));replace HO418:=am (Kd.R_below (rup HO418.out) hb);replace HO421:=am (Kd.R_below (rup HO421.out) hb);replace HO424:=am (Kd.S_below (by(with_reducible repeat(first|apply Kd.S_alloc|apply Kd.S_drewN|apply Kd.S_drew));exact HO424.out) hb);have HO427:=am (Kd.R_lower ho41 (below_size bl));replace BK411:=am (blk_below (bup BK411.out) hb);replace BK412:=am (blk_below (bup BK412.out) hb);replace HB:=am (below_step bl hb);clear hb ho41));try go_wp2_with (first|(go_at_call 14;(with_reducible refine(impl_spoken.calls kj5 _ _ l0_0 a0_1 _ _ l2 a3_0 a3_1 a3_2 t416 t419 _ ?side1 ?side2 ?side3 ?side4 A28.out).mono ?_);(case side1=>exact cup (Kd.C_below HR0_0.out HB.out));(case side2=>exact HC0_0.out);(case side3=>exact cup (Kd.C_below HR2.out HB.out));(case side4=>exact HC2.out);rintro e w36 ⟨v417,v420,rfl,ho0,ho1,hb⟩;have HO418:=am (Kd.R_lower ho0 (below_size bl));have HO421:=am (Kd.R_lower ho1 (below_size bl));replace BK411:=am (blk_below (bup BK411.out) hb);replace BK412:=am (blk_below (bup BK412.out) hb);replace HB:=am (below_step bl hb);(try clear hb);(try clear ho0);(try clear ho1);obtain⟨Ao37,co37,eo37⟩:=Kd.R_slice HO418.out;subst eo37;have hcz38_0:=bc BK412.out 0;have hcz38_1:=bc BK412.out 1;have hcz38_2:=bc BK412.out 2;have hfz38_0:=blk_frozen BK412.out 0;have hfz38_1:=blk_frozen BK412.out 1;have hfz38_2:=blk_frozen BK412.out 2)|(go_at_call 15;(with_reducible refine(impl_promisedTimes.calls kj5 _ _ l1 a3_0 a3_1 a3_2 a4 t422 _ ?side1 ?side2 A30.out).mono ?_);(case side1=>exact cup (Kd.C_below HR1.out HB.out));(case side2=>exact HC1.out);rintro e w39 ⟨v423,rfl,ho0,hb⟩;replace HO418:=am (Kd.R_below (rup HO418.out) hb);have HO424:=am (Kd.S_lower (Kd.S_new' ho0 (Kd.R_lt (rup HO421.out))) (below_size bl));replace HO421:=am (Kd.R_below (rup HO421.out) hb);replace BK411:=am (blk_below (bup BK411.out) hb);replace BK412:=am (blk_below (bup BK412.out) hb);replace HB:=am (below_step bl hb);(try clear hb);(try clear ho0))|((with_reducible refine gate_dst (N:=54) rfl ?_);refine Kd.R_make Kd.bool _ 4 rfl (N:=54) rfl 49 _ _ rfl (l1.length:Int) rfl rfl Try.underlying49 (.bool false) 1 info4 rfl (by decide) (by omega) false (ok:=fun _=>True) (okp:=fun _=>True) rfl (fun _ hk=>hk) trivial (od) (Nat.le_trans (Nat.mul_le_mul_right _ (od:(l1.length:Int).toNat≤281474976710656)) (by omega)) (Below.refl _ _) (Nat.le_refl _) ?_;intro v426 w40 ho41 hb hg_ hnew_;clear hg_ hnew_;(first|rw[← Ny425.out] at ho41|(simp only[Int.reduceToNat] at ho41;rw[← Ny425.out] at ho41));replace HO418:=am (Kd.R_below (rup HO418.out) hb);replace HO421:=am (Kd.R_below (rup HO421.out) hb);replace HO424:=am (Kd.S_below (by(with_reducible repeat(first|apply Kd.S_alloc|apply Kd.S_drewN|apply Kd.S_drew));exact HO424.out) hb);have HO427:=am (Kd.R_lower ho41 (below_size bl));replace BK411:=am (blk_below (bup BK411.out) hb);replace BK412:=am (blk_below (bup BK412.out) hb);replace HB:=am (below_step bl hb);clear hb ho41)))
     go_loopg [57] kj5 (fun kq v57 w'=>∃(x15_2:List Bool) (x57_2:Int),v57 = .int .i64 x57_2∧Aside0 (impl_PlaysAsPromised.l0 kq l1 t422 x15_2 t416 (t416.length:Int) x57_2=some (r1,r2))∧Aside0 (kq≤kj5)∧Aside0 (Kd.S (Kd.slice 3 (Kd.int .i64)) 22 w' w.heap.size (fun _=>True) v423 t422)∧Aside0 (Kd.R Kd.bool 4 w' w.heap.size (fun _=>True) v426 x15_2)∧Aside0 (Kd.R k37 37 w' w.heap.size (fun _=>True) (.slice Ao37 t416.length co37) t416)∧Aside0 (w'.heap[gb411]?=some (.cells #[(.slice A0_0 l0_0.length c0_0),.int .i64 a0_1] 24 (0,0)))∧Aside0 (w'.heap[gb412]?=some (.cells #[.int .i64 a3_0,.int .i64 a3_1,.int .i64 a3_2] 28 (0,0)))∧Aside0 (Below w.heap.size w w'))
     case atStart=>exact⟨(y425),(0),fin2,H',⟨Nat.le_refl _⟩,⟨by(with_reducible repeat(first|apply Kd.S_alloc|apply Kd.S_drewN|apply Kd.S_drew));exact Kd.S_mono HO424.out (fun _ hk=>trivial)⟩,⟨rup HO427.out⟩,⟨rup HO418.out⟩,⟨bup BK411.out⟩,⟨bup BK412.out⟩,⟨bl⟩⟩
     case round =>
      clear H'
      try clear c27
      try clear c29b0
      try clear c29b1
      try clear c29b2
      try clear c31b0
      try clear c31b1
      try clear c32b0
      try clear c32b1
      try clear hcz34_0
      try clear hcz34_1
      try clear hcz35_0
      try clear hcz35_1
      try clear hcz35_2
      try clear hcz38_0
      try clear hcz38_1
      try clear hcz38_2
      try clear hfz34_0
      try clear hfz34_1
      try clear hfz35_0
      try clear hfz35_1
      try clear hfz35_2
      try clear hfz38_0
      try clear hfz38_1
      try clear hfz38_2
      obtain⟨x15_2,x57_2,rfl,HA,HK2,HO_14,HO_15,HO_55,BK411,BK412,HB⟩:=hrel
      cases gk with
      | zero=>exact absurd HA.out (by simp [impl_PlaysAsPromised.l0])
      | succ k2 =>
       have H:=HA.out
       clear HA
       simp only[impl_PlaysAsPromised.l0] at H
       rcases itc H with⟨c42,H⟩|⟨c42,H⟩
       ·have c42b0:=decide_eq_true c42
        clear c42
        obtain⟨c43b0,H⟩:=ifb H
        obtain⟨c44b0,H⟩:=ifb H
        have H':=am H
        clear H
        have p428:0≤(x57_2:Int):=od
        have q428:x57_2<(t416.length:Int):=od
        obtain⟨ad428,e428,hx428_0,hx428_1,hx428_2⟩:=at_T37 (Kd.R_reads' HO_55.out).2.2 x57_2 p428 q428
        cases e428
        replace p428:=eq_true p428
        replace q428:=eq_true q428
        go_wp2_with (first|((with_reducible refine gate_dst (N:=17) rfl ?_);refine box_event ?hg (N:=17) ?hd (cs := #[.int .i64 0,.int .i64 0,.int .i64 0]) (t:=37) ?hr ?_;(case hd=>rfl);(case hg=>rfl);(case hr=>first|(go_simp;done)|(go_simp;rfl));intro gb429 hg w45 hbox hb;replace HO_14:=am (Kd.S_below (by(with_reducible repeat(first|apply Kd.S_alloc|apply Kd.S_drewN|apply Kd.S_drew));exact HO_14.out) hb);replace HO_15:=am (Kd.R_below (rup HO_15.out) hb);replace HO_55:=am (Kd.R_below (Kd.R_elderB (rup HO_55.out) gb429 (Nat.le_of_eq hg.symm)) hb);have BK429:=am (hbox);have GW429:=am (ge_ bl hg);have GE429:=am (ge_ bl hg);replace HB:=am (below_step bl hb);have NB411_429:=am (nl (bup BK411.out) hg);have NB429_411:=am (ng (bup BK411.out) hg);replace BK411:=am (blk_below (bup BK411.out) hb);have NB412_429:=am (nl (bup BK412.out) hg);have NB429_412:=am (ng (bup BK412.out) hg);replace BK412:=am (blk_below (bup BK412.out) hb);clear hb hbox hg;have hnb46:=NB429_411.out;have hnc46:=NB411_429.out;have hnb47:=NB429_412.out;have hnc47:=NB412_429.out;have hcz48_0:=bc BK429.out 0;have hcz48_1:=bc BK429.out 1;have hcz48_2:=bc BK429.out 2;have hfz48_0:=blk_frozen BK429.out 0;have hfz48_1:=blk_frozen BK429.out 1;have hfz48_2:=blk_frozen BK429.out 2))
        repeat(go_quiet (first|((with_reducible refine gate_dst (N:=17) rfl ?_);refine box_event ?hg (N:=17) ?hd (cs := #[.int .i64 0,.int .i64 0,.int .i64 0]) (t:=37) ?hr ?_;(case hd=>rfl);(case hg=>rfl);(case hr=>first|(go_simp;done)|(go_simp;rfl));intro gb429 hg w45 hbox hb;replace HO_14:=am (Kd.S_below (by(with_reducible repeat(first|apply Kd.S_alloc|apply Kd.S_drewN|apply Kd.S_drew));exact HO_14.out) hb);replace HO_15:=am (Kd.R_below (rup HO_15.out) hb);replace HO_55:=am (Kd.R_below (Kd.R_elderB (rup HO_55.out) gb429 (Nat.le_of_eq hg.symm)) hb);have BK429:=am (hbox);have GW429:=am (ge_ bl hg);have GE429:=am (ge_ bl hg);replace HB:=am (below_step bl hb);have NB411_429:=am (nl (bup BK411.out) hg);have NB429_411:=am (ng (bup BK411.out) hg);replace BK411:=am (blk_below (bup BK411.out) hb);have NB412_429:=am (nl (bup BK412.out) hg);have NB429_412:=am (ng (bup BK412.out) hg);replace BK412:=am (blk_below (bup BK412.out) hb);clear hb hbox hg;have hnb46:=NB429_411.out;have hnc46:=NB411_429.out;have hnb47:=NB429_412.out;have hnc47:=NB412_429.out;have hcz48_0:=bc BK429.out 0;have hcz48_1:=bc BK429.out 1;have hcz48_2:=bc BK429.out 2;have hfz48_0:=blk_frozen BK429.out 0;have hfz48_1:=blk_frozen BK429.out 1;have hfz48_2:=blk_frozen BK429.out 2));try go_wp2_with (first|((with_reducible refine gate_dst (N:=17) rfl ?_);refine box_event ?hg (N:=17) ?hd (cs := #[.int .i64 0,.int .i64 0,.int .i64 0]) (t:=37) ?hr ?_;(case hd=>rfl);(case hg=>rfl);(case hr=>first|(go_simp;done)|(go_simp;rfl));intro gb429 hg w45 hbox hb;replace HO_14:=am (Kd.S_below (by(with_reducible repeat(first|apply Kd.S_alloc|apply Kd.S_drewN|apply Kd.S_drew));exact HO_14.out) hb);replace HO_15:=am (Kd.R_below (rup HO_15.out) hb);replace HO_55:=am (Kd.R_below (Kd.R_elderB (rup HO_55.out) gb429 (Nat.le_of_eq hg.symm)) hb);have BK429:=am (hbox);have GW429:=am (ge_ bl hg);have GE429:=am (ge_ bl hg);replace HB:=am (below_step bl hb);have NB411_429:=am (nl (bup BK411.out) hg);have NB429_411:=am (ng (bup BK411.out) hg);replace BK411:=am (blk_below (bup BK411.out) hb);have NB412_429:=am (nl (bup BK412.out) hg);have NB429_412:=am (ng (bup BK412.out) hg);replace BK412:=am (blk_below (bup BK412.out) hb);clear hb hbox hg;have hnb46:=NB429_411.out;have hnc46:=NB411_429.out;have hnb47:=NB429_412.out;have hnc47:=NB412_429.out;have hcz48_0:=bc BK429.out 0;have hcz48_1:=bc BK429.out 1;have hcz48_2:=bc BK429.out 2;have hfz48_0:=blk_frozen BK429.out 0;have hfz48_1:=blk_frozen BK429.out 1;have hfz48_2:=blk_frozen BK429.out 2)))
        go_loopg [18,63] k2 (fun kq v18 v63 w'=>∃(x18_3:Int) (x63_3:Int),v18 = .int .i64 x18_3∧v63 = .int .i64 x63_3∧Aside0 (impl_PlaysAsPromised.l1 kq l1 t422 x15_2 x18_3 t416 (t416.length:Int) x57_2 l1 (l1.length:Int) x63_3 ((rd_T37 t416 x57_2).f0) ((rd_T37 t416 x57_2).f1) ((rd_T37 t416 x57_2).f2)=some (r1,r2))∧Aside0 (kq≤k2)∧Aside0 (Kd.S (Kd.slice 3 (Kd.int .i64)) 22 w' w.heap.size (fun _=>True) v423 t422)∧Aside0 (Kd.R Kd.bool 4 w' w.heap.size (fun _=>True) v426 x15_2)∧Aside0 (Kd.R k37 37 w' w.heap.size (fun k_=>k_≠gb429) (.slice (some ad428) t416.length co37) t416)∧Aside0 (w'.heap[gb411]?=some (.cells #[(.slice A0_0 l0_0.length c0_0),.int .i64 a0_1] 24 (0,0)))∧Aside0 (w'.heap[gb412]?=some (.cells #[.int .i64 a3_0,.int .i64 a3_1,.int .i64 a3_2] 28 (0,0)))∧Aside0 (w'.heap[gb429]?=some (.cells #[.int .i64 ((rd_T37 t416 x57_2).f0),.int .i64 ((rd_T37 t416 x57_2).f1),.int .i64 ((rd_T37 t416 x57_2).f2)] 37 (0,0)))∧Aside0 (Below w.heap.size w w'))
        case atStart=>exact⟨((-1)),(0),fin2,fin2,H',⟨Nat.le_refl _⟩,⟨by(with_reducible repeat(first|apply Kd.S_alloc|apply Kd.S_drewN|apply Kd.S_drew));exact Kd.S_mono (Kd.S_far (p:=⟨gb429,2,none⟩) (Kd.S_far (p:=⟨gb429,1,none⟩) (Kd.S_far (p:=⟨gb429,0,none⟩) (Kd.S_types HO_14.out BK429.out (by decide)) (fun _ hk=>hk.2) (.int .i64 ((rd_T37 t416 x57_2).f0))) (fun _ hk=>hk.2) (.int .i64 ((rd_T37 t416 x57_2).f1))) (fun _ hk=>hk.2) (.int .i64 ((rd_T37 t416 x57_2).f2))) (fun _ hk=>trivial)⟩,⟨rup (Kd.R_mono (Kd.R_far (p:=⟨gb429,2,none⟩) (Kd.R_far (p:=⟨gb429,1,none⟩) (Kd.R_far (p:=⟨gb429,0,none⟩) (Kd.R_types HO_15.out BK429.out (by decide)) (fun _ hk=>hk.2) (.int .i64 ((rd_T37 t416 x57_2).f0))) (fun _ hk=>hk.2) (.int .i64 ((rd_T37 t416 x57_2).f1))) (fun _ hk=>hk.2) (.int .i64 ((rd_T37 t416 x57_2).f2))) (fun _ hk=>trivial))⟩,⟨rup (Kd.R_mono (Kd.R_far (p:=⟨gb429,2,none⟩) (Kd.R_far (p:=⟨gb429,1,none⟩) (Kd.R_far (p:=⟨gb429,0,none⟩) (Kd.R_mono HO_55.out (fun k_ hk=>(⟨hk,hk.2⟩:_∧k_≠gb429))) (fun _ hk=>hk.2) (.int .i64 ((rd_T37 t416 x57_2).f0))) (fun _ hk=>hk.2) (.int .i64 ((rd_T37 t416 x57_2).f1))) (fun _ hk=>hk.2) (.int .i64 ((rd_T37 t416 x57_2).f2))) (fun _ hk=>hk.1.2))⟩,⟨by(with_reducible repeat(first|refine bN_ ?_ _|refine bD_ ?_|refine bA_ ?_ _));refine blk_far ?_ NB411_429.out _;(with_reducible repeat(first|refine bN_ ?_ _|refine bD_ ?_|refine bA_ ?_ _));refine blk_far ?_ NB411_429.out _;(with_reducible repeat(first|refine bN_ ?_ _|refine bD_ ?_|refine bA_ ?_ _));refine blk_far ?_ NB411_429.out _;exact bup BK411.out⟩,⟨by(with_reducible repeat(first|refine bN_ ?_ _|refine bD_ ?_|refine bA_ ?_ _));refine blk_far ?_ NB412_429.out _;(with_reducible repeat(first|refine bN_ ?_ _|refine bD_ ?_|refine bA_ ?_ _));refine blk_far ?_ NB412_429.out _;(with_reducible repeat(first|refine bN_ ?_ _|refine bD_ ?_|refine bA_ ?_ _));refine blk_far ?_ NB412_429.out _;exact bup BK412.out⟩,⟨by(with_reducible repeat(first|refine bN_ ?_ _|refine bD_ ?_|refine bA_ ?_ _));refine blk_put (cs := #[.int .i64 ((rd_T37 t416 x57_2).f0),.int .i64 ((rd_T37 t416 x57_2).f1),.int .i64 0]) ?_ 2 _ rfl;(with_reducible repeat(first|refine bN_ ?_ _|refine bD_ ?_|refine bA_ ?_ _));refine blk_put (cs := #[.int .i64 ((rd_T37 t416 x57_2).f0),.int .i64 0,.int .i64 0]) ?_ 1 _ rfl;(with_reducible repeat(first|refine bN_ ?_ _|refine bD_ ?_|refine bA_ ?_ _));refine blk_put (cs := #[.int .i64 0,.int .i64 0,.int .i64 0]) ?_ 0 _ rfl;exact bup BK429.out⟩,⟨bl⟩⟩
        case round =>
         clear H'
         try clear c42b0
         try clear c43b0
         try clear c44b0
         try clear hcz48_0
         try clear hcz48_1
         try clear hcz48_2
         try clear hfz48_0
         try clear hfz48_1
         try clear hfz48_2
         try clear hx428_0
         try clear hx428_1
         try clear hx428_2
         try clear p428
         try clear q428
         obtain⟨x18_3,x63_3,rfl,rfl,HA,HK3,HO_14,HO_15,HO_55,BK411,BK412,BK429,HB⟩:=hrel
         cases gk with
         | zero=>exact absurd HA.out (by simp [impl_PlaysAsPromised.l1])
         | succ k3 =>
          have H:=HA.out
          clear HA
          simp only[impl_PlaysAsPromised.l1] at H
          rcases itc H with⟨c49,H⟩|⟨c49,H⟩
          ·have c49b0:=decide_eq_true c49
           clear c49
           obtain⟨c50b0,H⟩:=ifb H
           obtain⟨c51b0,H⟩:=ifb H
           rcases itc H with⟨c52,H⟩|⟨c52,H⟩
           ·have c52b0:=decide_eq_true c52
            clear c52
            rcases itc H with⟨c53,H⟩|⟨c53,H⟩
            ·have c53b0:(((rd_T35 l1 x63_3).f0) == ((rd_T37 t416 x57_2).f0))=true:=beq_iff_eq.mpr c53
             have c53b1:(((rd_T35 l1 x63_3).f0) != ((rd_T37 t416 x57_2).f0))=false:=bne_eq_false_iff_eq.mpr c53
             clear c53
             obtain⟨c54b0,H⟩:=ifb H
             obtain⟨bq55,hbq55⟩:∃ b_:Bool,b_=(rdOf false x15_2 x63_3):=⟨_,rfl⟩
             replace H:(if bq55=true then(impl_PlaysAsPromised.l1 k3 l1 t422 x15_2 x18_3 t416 (t416.length:Int) x57_2 l1 (l1.length:Int) (wrap64 (x63_3+1)) ((rd_T37 t416 x57_2).f0) ((rd_T37 t416 x57_2).f1) ((rd_T37 t416 x57_2).f2)) else(impl_PlaysAsPromised.l1 k3 l1 t422 x15_2 x63_3 t416 (t416.length:Int) x57_2 l1 (l1.length:Int) (wrap64 (x63_3+1)) ((rd_T37 t416 x57_2).f0) ((rd_T37 t416 x57_2).f1) ((rd_T37 t416 x57_2).f2)))=some (r1,r2):=by rw[← hbq55] at H;exact H
             have Nbq55:=am hbq55
             clear hbq55
             by_cases c56:bq55=true
             ·subst c56
              replace H:=(if_pos rfl).symm.trans H
              have H':=am H
              clear H
              have p430:0≤(x63_3:Int):=od
              have q430:x63_3<(l1.length:Int):=od
              obtain⟨ad430,e430,hx430_0,hx430_1,hx430_2⟩:=at_T35 HR1.out x63_3 p430 q430
              cases e430
              replace hx430_0:=(HB.out.cell (World.block_lt_of_cell? w _ hx430_0)).trans hx430_0
              replace hx430_1:=(HB.out.cell (World.block_lt_of_cell? w _ hx430_1)).trans hx430_1
              replace hx430_2:=(HB.out.cell (World.block_lt_of_cell? w _ hx430_2)).trans hx430_2
              replace p430:=eq_true p430
              replace q430:=eq_true q430
              go_wp2_with (first|((with_reducible refine gate_dst (N:=20) rfl ?_);refine box_event ?hg (N:=20) ?hd (cs := #[.int .i64 0,.int .i64 0,.int .i64 0]) (t:=35) ?hr ?_;(case hd=>rfl);(case hg=>rfl);(case hr=>first|(go_simp;done)|(go_simp;rfl));intro gb431 hg w57 hbox hb;replace HO_14:=am (Kd.S_below (by(with_reducible repeat(first|apply Kd.S_alloc|apply Kd.S_drewN|apply Kd.S_drew));exact HO_14.out) hb);replace HO_15:=am (Kd.R_below (rup HO_15.out) hb);replace HO_55:=am (Kd.R_below (rup HO_55.out) hb);have BK431:=am (hbox);have GW431:=am (ge_ bl hg);have GE431:=am (ge_ bl hg);replace HB:=am (below_step bl hb);have NB411_431:=am (nl (bup BK411.out) hg);have NB431_411:=am (ng (bup BK411.out) hg);replace BK411:=am (blk_below (bup BK411.out) hb);have NB412_431:=am (nl (bup BK412.out) hg);have NB431_412:=am (ng (bup BK412.out) hg);replace BK412:=am (blk_below (bup BK412.out) hb);have NB429_431:=am (nl (bup BK429.out) hg);have NB431_429:=am (ng (bup BK429.out) hg);replace BK429:=am (blk_below (bup BK429.out) hb);clear hb hbox hg;have hnb58:=NB431_411.out;have hnc58:=NB411_431.out;have hnb59:=NB431_412.out;have hnc59:=NB412_431.out;have hnb60:=NB431_429.out;have hnc60:=NB429_431.out;have hcz61_0:=bc BK431.out 0;have hcz61_1:=bc BK431.out 1;have hcz61_2:=bc BK431.out 2;have hfz61_0:=blk_frozen BK431.out 0;have hfz61_1:=blk_frozen BK431.out 1;have hfz61_2:=blk_frozen BK431.out 2;have hnb62:=NB429_411.out;have hnc62:=NB411_429.out;have hnb63:=NB429_412.out;have hnc63:=NB412_429.out;have hcz64_0:=bc BK429.out 0;have hcz64_1:=bc BK429.out 1;have hcz64_2:=bc BK429.out 2;have hfz64_0:=blk_frozen BK429.out 0;have hfz64_1:=blk_frozen BK429.out 1;have hfz64_2:=blk_frozen BK429.out 2;obtain⟨Ao65,co65,eo65⟩:=Kd.R_slice HO_15.out;subst eo65;have p432:0≤(x63_3:Int):=od;have q432:x63_3<(x15_2.length:Int):=od;obtain⟨ad432,e432,hx432_0⟩:=Kd.at_bool (Kd.R_reads' HO_15.out).2.2 x63_3 p432 q432;(try rw[← Nbq55.out] at hx432_0);cases e432;have hn432_0:ad432.block≠gb431:=Kd.own_blk (Kd.R_ne HO_15.out BK431.out (by decide));have hn432_1:ad432.block≠gb431:=Kd.own_blk (Kd.R_ne HO_15.out BK431.out (by decide));have hn432_2:ad432.block≠gb431:=Kd.own_blk (Kd.R_ne HO_15.out BK431.out (by decide));replace hx432_0:=(cell_far (p:=⟨gb431,0,none⟩) (by first|(rw[add_block];exact hn432_0)|(show(Addr.add _ _).block≠_;rw[add_block];exact hn432_0)|exact hn432_0) (.int .i64 ((rd_T35 l1 x63_3).f0))).trans hx432_0;replace hx432_0:=(cell_far (p:=⟨gb431,1,none⟩) (by first|(rw[add_block];exact hn432_1)|(show(Addr.add _ _).block≠_;rw[add_block];exact hn432_1)|exact hn432_1) (.int .i64 ((rd_T35 l1 x63_3).f1))).trans hx432_0;replace hx432_0:=(cell_far (p:=⟨gb431,2,none⟩) (by first|(rw[add_block];exact hn432_2)|(show(Addr.add _ _).block≠_;rw[add_block];exact hn432_2)|exact hn432_2) (.int .i64 ((rd_T35 l1 x63_3).f2))).trans hx432_0;(try have hy432_0:=fun(n_:Nat)=>(show(((((w57.drewN n_).setCell ⟨gb431,0,none⟩ (.int .i64 ((rd_T35 l1 x63_3).f0))).setCell ⟨gb431,1,none⟩ (.int .i64 ((rd_T35 l1 x63_3).f1))).setCell ⟨gb431,2,none⟩ (.int .i64 ((rd_T35 l1 x63_3).f2)))).cell? _=some _ from hx432_0));clear hn432_0 hn432_1 hn432_2;replace p432:=eq_true p432;replace q432:=eq_true q432))
              repeat(go_quiet (first|((with_reducible refine gate_dst (N:=20) rfl ?_);refine box_event ?hg (N:=20) ?hd (cs := #[.int .i64 0,.int .i64 0,.int .i64 0]) (t:=35) ?hr ?_;(case hd=>rfl);(case hg=>rfl);(case hr=>first|(go_simp;done)|(go_simp;rfl));intro gb431 hg w57 hbox hb;replace HO_14:=am (Kd.S_below (by(with_reducible repeat(first|apply Kd.S_alloc|apply Kd.S_drewN|apply Kd.S_drew));exact HO_14.out) hb);replace HO_15:=am (Kd.R_below (rup HO_15.out) hb);replace HO_55:=am (Kd.R_below (rup HO_55.out) hb);have BK431:=am (hbox);have GW431:=am (ge_ bl hg);have GE431:=am (ge_ bl hg);replace HB:=am (below_step bl hb);have NB411_431:=am (nl (bup BK411.out) hg);have NB431_411:=am (ng (bup BK411.out) hg);replace BK411:=am (blk_below (bup BK411.out) hb);have NB412_431:=am (nl (bup BK412.out) hg);have NB431_412:=am (ng (bup BK412.out) hg);replace BK412:=am (blk_below (bup BK412.out) hb);have NB429_431:=am (nl (bup BK429.out) hg);have NB431_429:=am (ng (bup BK429.out) hg);replace BK429:=am (blk_below (bup BK429.out) hb);clear hb hbox hg;have hnb58:=NB431_411.out;have hnc58:=NB411_431.out;have hnb59:=NB431_412.out;have hnc59:=NB412_431.out;have hnb60:=NB431_429.out;have hnc60:=NB429_431.out;have hcz61_0:=bc BK431.out 0;have hcz61_1:=bc BK431.out 1;have hcz61_2:=bc BK431.out 2;have hfz61_0:=blk_frozen BK431.out 0;have hfz61_1:=blk_frozen BK431.out 1;have hfz61_2:=blk_frozen BK431.out 2;have hnb62:=NB429_411.out;have hnc62:=NB411_429.out;have hnb63:=NB429_412.out;have hnc63:=NB412_429.out;have hcz64_0:=bc BK429.out 0;have hcz64_1:=bc BK429.out 1;have hcz64_2:=bc BK429.out 2;have hfz64_0:=blk_frozen BK429.out 0;have hfz64_1:=blk_frozen BK429.out 1;have hfz64_2:=blk_frozen BK429.out 2;obtain⟨Ao65,co65,eo65⟩:=Kd.R_slice HO_15.out;subst eo65;have p432:0≤(x63_3:Int):=od;have q432:x63_3<(x15_2.length:Int):=od;obtain⟨ad432,e432,hx432_0⟩:=Kd.at_bool (Kd.R_reads' HO_15.out).2.2 x63_3 p432 q432;(try rw[← Nbq55.out] at hx432_0);cases e432;have hn432_0:ad432.block≠gb431:=Kd.own_blk (Kd.R_ne HO_15.out BK431.out (by decide));have hn432_1:ad432.block≠gb431:=Kd.own_blk (Kd.R_ne HO_15.out BK431.out (by decide));have hn432_2:ad432.block≠gb431:=Kd.own_blk (Kd.R_ne HO_15.out BK431.out (by decide));replace hx432_0:=(cell_far (p:=⟨gb431,0,none⟩) (by first|(rw[add_block];exact hn432_0)|(show(Addr.add _ _).block≠_;rw[add_block];exact hn432_0)|exact hn432_0) (.int .i64 ((rd_T35 l1 x63_3).f0))).trans hx432_0;replace hx432_0:=(cell_far (p:=⟨gb431,1,none⟩) (by first|(rw[add_block];exact hn432_1)|(show(Addr.add _ _).block≠_;rw[add_block];exact hn432_1)|exact hn432_1) (.int .i64 ((rd_T35 l1 x63_3).f1))).trans hx432_0;replace hx432_0:=(cell_far (p:=⟨gb431,2,none⟩) (by first|(rw[add_block];exact hn432_2)|(show(Addr.add _ _).block≠_;rw[add_block];exact hn432_2)|exact hn432_2) (.int .i64 ((rd_T35 l1 x63_3).f2))).trans hx432_0;(try have hy432_0:=fun(n_:Nat)=>(show(((((w57.drewN n_).setCell ⟨gb431,0,none⟩ (.int .i64 ((rd_T35 l1 x63_3).f0))).setCell ⟨gb431,1,none⟩ (.int .i64 ((rd_T35 l1 x63_3).f1))).setCell ⟨gb431,2,none⟩ (.int .i64 ((rd_T35 l1 x63_3).f2)))).cell? _=some _ from hx432_0));clear hn432_0 hn432_1 hn432_2;replace p432:=eq_true p432;replace q432:=eq_true q432));try go_wp2_with (first|((with_reducible refine gate_dst (N:=20) rfl ?_);refine box_event ?hg (N:=20) ?hd (cs := #[.int .i64 0,.int .i64 0,.int .i64 0]) (t:=35) ?hr ?_;(case hd=>rfl);(case hg=>rfl);(case hr=>first|(go_simp;done)|(go_simp;rfl));intro gb431 hg w57 hbox hb;replace HO_14:=am (Kd.S_below (by(with_reducible repeat(first|apply Kd.S_alloc|apply Kd.S_drewN|apply Kd.S_drew));exact HO_14.out) hb);replace HO_15:=am (Kd.R_below (rup HO_15.out) hb);replace HO_55:=am (Kd.R_below (rup HO_55.out) hb);have BK431:=am (hbox);have GW431:=am (ge_ bl hg);have GE431:=am (ge_ bl hg);replace HB:=am (below_step bl hb);have NB411_431:=am (nl (bup BK411.out) hg);have NB431_411:=am (ng (bup BK411.out) hg);replace BK411:=am (blk_below (bup BK411.out) hb);have NB412_431:=am (nl (bup BK412.out) hg);have NB431_412:=am (ng (bup BK412.out) hg);replace BK412:=am (blk_below (bup BK412.out) hb);have NB429_431:=am (nl (bup BK429.out) hg);have NB431_429:=am (ng (bup BK429.out) hg);replace BK429:=am (blk_below (bup BK429.out) hb);clear hb hbox hg;have hnb58:=NB431_411.out;have hnc58:=NB411_431.out;have hnb59:=NB431_412.out;have hnc59:=NB412_431.out;have hnb60:=NB431_429.out;have hnc60:=NB429_431.out;have hcz61_0:=bc BK431.out 0;have hcz61_1:=bc BK431.out 1;have hcz61_2:=bc BK431.out 2;have hfz61_0:=blk_frozen BK431.out 0;have hfz61_1:=blk_frozen BK431.out 1;have hfz61_2:=blk_frozen BK431.out 2;have hnb62:=NB429_411.out;have hnc62:=NB411_429.out;have hnb63:=NB429_412.out;have hnc63:=NB412_429.out;have hcz64_0:=bc BK429.out 0;have hcz64_1:=bc BK429.out 1;have hcz64_2:=bc BK429.out 2;have hfz64_0:=blk_frozen BK429.out 0;have hfz64_1:=blk_frozen BK429.out 1;have hfz64_2:=blk_frozen BK429.out 2;obtain⟨Ao65,co65,eo65⟩:=Kd.R_slice HO_15.out;subst eo65;have p432:0≤(x63_3:Int):=od;have q432:x63_3<(x15_2.length:Int):=od;obtain⟨ad432,e432,hx432_0⟩:=Kd.at_bool (Kd.R_reads' HO_15.out).2.2 x63_3 p432 q432;(try rw[← Nbq55.out] at hx432_0);cases e432;have hn432_0:ad432.block≠gb431:=Kd.own_blk (Kd.R_ne HO_15.out BK431.out (by decide));have hn432_1:ad432.block≠gb431:=Kd.own_blk (Kd.R_ne HO_15.out BK431.out (by decide));have hn432_2:ad432.block≠gb431:=Kd.own_blk (Kd.R_ne HO_15.out BK431.out (by decide));replace hx432_0:=(cell_far (p:=⟨gb431,0,none⟩) (by first|(rw[add_block];exact hn432_0)|(show(Addr.add _ _).block≠_;rw[add_block];exact hn432_0)|exact hn432_0) (.int .i64 ((rd_T35 l1 x63_3).f0))).trans hx432_0;replace hx432_0:=(cell_far (p:=⟨gb431,1,none⟩) (by first|(rw[add_block];exact hn432_1)|(show(Addr.add _ _).block≠_;rw[add_block];exact hn432_1)|exact hn432_1) (.int .i64 ((rd_T35 l1 x63_3).f1))).trans hx432_0;replace hx432_0:=(cell_far (p:=⟨gb431,2,none⟩) (by first|(rw[add_block];exact hn432_2)|(show(Addr.add _ _).block≠_;rw[add_block];exact hn432_2)|exact hn432_2) (.int .i64 ((rd_T35 l1 x63_3).f2))).trans hx432_0;(try have hy432_0:=fun(n_:Nat)=>(show(((((w57.drewN n_).setCell ⟨gb431,0,none⟩ (.int .i64 ((rd_T35 l1 x63_3).f0))).setCell ⟨gb431,1,none⟩ (.int .i64 ((rd_T35 l1 x63_3).f1))).setCell ⟨gb431,2,none⟩ (.int .i64 ((rd_T35 l1 x63_3).f2)))).cell? _=some _ from hx432_0));clear hn432_0 hn432_1 hn432_2;replace p432:=eq_true p432;replace q432:=eq_true q432)))
              go_roundg k3
              case measure=>have:=HJ5.out;have:=HK2.out;have:=HK3.out;omega
              case rel=>exact⟨(x18_3),(wrap64 (x63_3+1)),fin2,fin2,H',⟨by have:=HJ5.out;have:=HK2.out;have:=HK3.out;omega⟩,⟨by(with_reducible repeat(first|apply Kd.S_alloc|apply Kd.S_drewN|apply Kd.S_drew));exact Kd.S_mono (Kd.S_far (p:=⟨gb431,2,none⟩) (Kd.S_far (p:=⟨gb431,1,none⟩) (Kd.S_far (p:=⟨gb431,0,none⟩) (Kd.S_types HO_14.out BK431.out (by decide)) (fun _ hk=>hk.2) (.int .i64 ((rd_T35 l1 x63_3).f0))) (fun _ hk=>hk.2) (.int .i64 ((rd_T35 l1 x63_3).f1))) (fun _ hk=>hk.2) (.int .i64 ((rd_T35 l1 x63_3).f2))) (fun _ hk=>trivial)⟩,⟨rup (Kd.R_mono (Kd.R_far (p:=⟨gb431,2,none⟩) (Kd.R_far (p:=⟨gb431,1,none⟩) (Kd.R_far (p:=⟨gb431,0,none⟩) (Kd.R_types HO_15.out BK431.out (by decide)) (fun _ hk=>hk.2) (.int .i64 ((rd_T35 l1 x63_3).f0))) (fun _ hk=>hk.2) (.int .i64 ((rd_T35 l1 x63_3).f1))) (fun _ hk=>hk.2) (.int .i64 ((rd_T35 l1 x63_3).f2))) (fun _ hk=>trivial))⟩,⟨rup (Kd.R_mono (Kd.R_far (p:=⟨gb431,2,none⟩) (Kd.R_far (p:=⟨gb431,1,none⟩) (Kd.R_far (p:=⟨gb431,0,none⟩) (Kd.R_types HO_55.out BK431.out (by decide)) (fun _ hk=>hk.2) (.int .i64 ((rd_T35 l1 x63_3).f0))) (fun _ hk=>hk.2) (.int .i64 ((rd_T35 l1 x63_3).f1))) (fun _ hk=>hk.2) (.int .i64 ((rd_T35 l1 x63_3).f2))) (fun _ hk=>hk.1))⟩,⟨by(with_reducible repeat(first|refine bN_ ?_ _|refine bD_ ?_|refine bA_ ?_ _));refine blk_far ?_ NB411_431.out _;(with_reducible repeat(first|refine bN_ ?_ _|refine bD_ ?_|refine bA_ ?_ _));refine blk_far ?_ NB411_431.out _;(with_reducible repeat(first|refine bN_ ?_ _|refine bD_ ?_|refine bA_ ?_ _));refine blk_far ?_ NB411_431.out _;exact bup BK411.out⟩,⟨by(with_reducible repeat(first|refine bN_ ?_ _|refine bD_ ?_|refine bA_ ?_ _));refine blk_far ?_ NB412_431.out _;(with_reducible repeat(first|refine bN_ ?_ _|refine bD_ ?_|refine bA_ ?_ _));refine blk_far ?_ NB412_431.out _;(with_reducible repeat(first|refine bN_ ?_ _|refine bD_ ?_|refine bA_ ?_ _));refine blk_far ?_ NB412_431.out _;exact bup BK412.out⟩,⟨by(with_reducible repeat(first|refine bN_ ?_ _|refine bD_ ?_|refine bA_ ?_ _));refine blk_far ?_ NB429_431.out _;(with_reducible repeat(first|refine bN_ ?_ _|refine bD_ ?_|refine bA_ ?_ _));refine blk_far ?_ NB429_431.out _;(with_reducible repeat(first|refine bN_ ?_ _|refine bD_ ?_|refine bA_ ?_ _));refine blk_far ?_ NB429_431.out _;exact bup BK429.out⟩,⟨bl⟩⟩
             ·replace c56:=Bool.eq_false_iff.mpr c56
              subst c56
              replace H:=(if_neg Bool.false_ne_true).symm.trans H
              have H':=am H
              clear H
              have p430:0≤(x63_3:Int):=od
              have q430:x63_3<(l1.length:Int):=od
              obtain⟨ad430,e430,hx430_0,hx430_1,hx430_2⟩:=at_T35 HR1.out x63_3 p430 q430
              cases e430
              replace hx430_0:=(HB.out.cell (World.block_lt_of_cell? w _ hx430_0)).trans hx430_0
              replace hx430_1:=(HB.out.cell (World.block_lt_of_cell? w _ hx430_1)).trans hx430_1
              replace hx430_2:=(HB.out.cell (World.block_lt_of_cell? w _ hx430_2)).trans hx430_2
              replace p430:=eq_true p430
              replace q430:=eq_true q430
              go_wp2_with (first|((with_reducible refine gate_dst (N:=20) rfl ?_);refine box_event ?hg (N:=20) ?hd (cs := #[.int .i64 0,.int .i64 0,.int .i64 0]) (t:=35) ?hr ?_;(case hd=>rfl);(case hg=>rfl);(case hr=>first|(go_simp;done)|(go_simp;rfl));intro gb431 hg w66 hbox hb;replace HO_14:=am (Kd.S_below (by(with_reducible repeat(first|apply Kd.S_alloc|apply Kd.S_drewN|apply Kd.S_drew));exact HO_14.out) hb);replace HO_15:=am (Kd.R_below (rup HO_15.out) hb);replace HO_55:=am (Kd.R_below (rup HO_55.out) hb);have BK431:=am (hbox);have GW431:=am (ge_ bl hg);have GE431:=am (ge_ bl hg);replace HB:=am (below_step bl hb);have NB411_431:=am (nl (bup BK411.out) hg);have NB431_411:=am (ng (bup BK411.out) hg);replace BK411:=am (blk_below (bup BK411.out) hb);have NB412_431:=am (nl (bup BK412.out) hg);have NB431_412:=am (ng (bup BK412.out) hg);replace BK412:=am (blk_below (bup BK412.out) hb);have NB429_431:=am (nl (bup BK429.out) hg);have NB431_429:=am (ng (bup BK429.out) hg);replace BK429:=am (blk_below (bup BK429.out) hb);clear hb hbox hg;have hnb67:=NB431_411.out;have hnc67:=NB411_431.out;have hnb68:=NB431_412.out;have hnc68:=NB412_431.out;have hnb69:=NB431_429.out;have hnc69:=NB429_431.out;have hcz70_0:=bc BK431.out 0;have hcz70_1:=bc BK431.out 1;have hcz70_2:=bc BK431.out 2;have hfz70_0:=blk_frozen BK431.out 0;have hfz70_1:=blk_frozen BK431.out 1;have hfz70_2:=blk_frozen BK431.out 2;have hnb71:=NB429_411.out;have hnc71:=NB411_429.out;have hnb72:=NB429_412.out;have hnc72:=NB412_429.out;have hcz73_0:=bc BK429.out 0;have hcz73_1:=bc BK429.out 1;have hcz73_2:=bc BK429.out 2;have hfz73_0:=blk_frozen BK429.out 0;have hfz73_1:=blk_frozen BK429.out 1;have hfz73_2:=blk_frozen BK429.out 2;obtain⟨Ao74,co74,eo74⟩:=Kd.R_slice HO_15.out;subst eo74;have p432:0≤(x63_3:Int):=od;have q432:x63_3<(x15_2.length:Int):=od;obtain⟨ad432,e432,hx432_0⟩:=Kd.at_bool (Kd.R_reads' HO_15.out).2.2 x63_3 p432 q432;(try rw[← Nbq55.out] at hx432_0);cases e432;have hn432_0:ad432.block≠gb431:=Kd.own_blk (Kd.R_ne HO_15.out BK431.out (by decide));have hn432_1:ad432.block≠gb431:=Kd.own_blk (Kd.R_ne HO_15.out BK431.out (by decide));have hn432_2:ad432.block≠gb431:=Kd.own_blk (Kd.R_ne HO_15.out BK431.out (by decide));replace hx432_0:=(cell_far (p:=⟨gb431,0,none⟩) (by first|(rw[add_block];exact hn432_0)|(show(Addr.add _ _).block≠_;rw[add_block];exact hn432_0)|exact hn432_0) (.int .i64 ((rd_T35 l1 x63_3).f0))).trans hx432_0;replace hx432_0:=(cell_far (p:=⟨gb431,1,none⟩) (by first|(rw[add_block];exact hn432_1)|(show(Addr.add _ _).block≠_;rw[add_block];exact hn432_1)|exact hn432_1) (.int .i64 ((rd_T35 l1 x63_3).f1))).trans hx432_0;replace hx432_0:=(cell_far (p:=⟨gb431,2,none⟩) (by first|(rw[add_block];exact hn432_2)|(show(Addr.add _ _).block≠_;rw[add_block];exact hn432_2)|exact hn432_2) (.int .i64 ((rd_T35 l1 x63_3).f2))).trans hx432_0;(try have hy432_0:=fun(n_:Nat)=>(show(((((w66.drewN n_).setCell ⟨gb431,0,none⟩ (.int .i64 ((rd_T35 l1 x63_3).f0))).setCell ⟨gb431,1,none⟩ (.int .i64 ((rd_T35 l1 x63_3).f1))).setCell ⟨gb431,2,none⟩ (.int .i64 ((rd_T35 l1 x63_3).f2)))).cell? _=some _ from hx432_0));clear hn432_0 hn432_1 hn432_2;replace p432:=eq_true p432;replace q432:=eq_true q432))
              repeat(go_quiet (first|((with_reducible refine gate_dst (N:=20) rfl ?_);refine box_event ?hg (N:=20) ?hd (cs := #[.int .i64 0,.int .i64 0,.int .i64 0]) (t:=35) ?hr ?_;(case hd=>rfl);(case hg=>rfl);(case hr=>first|(go_simp;done)|(go_simp;rfl));intro gb431 hg w66 hbox hb;replace HO_14:=am (Kd.S_below (by(with_reducible repeat(first|apply Kd.S_alloc|apply Kd.S_drewN|apply Kd.S_drew));exact HO_14.out) hb);replace HO_15:=am (Kd.R_below (rup HO_15.out) hb);replace HO_55:=am (Kd.R_below (rup HO_55.out) hb);have BK431:=am (hbox);have GW431:=am (ge_ bl hg);have GE431:=am (ge_ bl hg);replace HB:=am (below_step bl hb);have NB411_431:=am (nl (bup BK411.out) hg);have NB431_411:=am (ng (bup BK411.out) hg);replace BK411:=am (blk_below (bup BK411.out) hb);have NB412_431:=am (nl (bup BK412.out) hg);have NB431_412:=am (ng (bup BK412.out) hg);replace BK412:=am (blk_below (bup BK412.out) hb);have NB429_431:=am (nl (bup BK429.out) hg);have NB431_429:=am (ng (bup BK429.out) hg);replace BK429:=am (blk_below (bup BK429.out) hb);clear hb hbox hg;have hnb67:=NB431_411.out;have hnc67:=NB411_431.out;have hnb68:=NB431_412.out;have hnc68:=NB412_431.out;have hnb69:=NB431_429.out;have hnc69:=NB429_431.out;have hcz70_0:=bc BK431.out 0;have hcz70_1:=bc BK431.out 1;have hcz70_2:=bc BK431.out 2;have hfz70_0:=blk_frozen BK431.out 0;have hfz70_1:=blk_frozen BK431.out 1;have hfz70_2:=blk_frozen BK431.out 2;have hnb71:=NB429_411.out;have hnc71:=NB411_429.out;have hnb72:=NB429_412.out;have hnc72:=NB412_429.out;have hcz73_0:=bc BK429.out 0;have hcz73_1:=bc BK429.out 1;have hcz73_2:=bc BK429.out 2;have hfz73_0:=blk_frozen BK429.out 0;have hfz73_1:=blk_frozen BK429.out 1;have hfz73_2:=blk_frozen BK429.out 2;obtain⟨Ao74,co74,eo74⟩:=Kd.R_slice HO_15.out;subst eo74;have p432:0≤(x63_3:Int):=od;have q432:x63_3<(x15_2.length:Int):=od;obtain⟨ad432,e432,hx432_0⟩:=Kd.at_bool (Kd.R_reads' HO_15.out).2.2 x63_3 p432 q432;(try rw[← Nbq55.out] at hx432_0);cases e432;have hn432_0:ad432.block≠gb431:=Kd.own_blk (Kd.R_ne HO_15.out BK431.out (by decide));have hn432_1:ad432.block≠gb431:=Kd.own_blk (Kd.R_ne HO_15.out BK431.out (by decide));have hn432_2:ad432.block≠gb431:=Kd.own_blk (Kd.R_ne HO_15.out BK431.out (by decide));replace hx432_0:=(cell_far (p:=⟨gb431,0,none⟩) (by first|(rw[add_block];exact hn432_0)|(show(Addr.add _ _).block≠_;rw[add_block];exact hn432_0)|exact hn432_0) (.int .i64 ((rd_T35 l1 x63_3).f0))).trans hx432_0;replace hx432_0:=(cell_far (p:=⟨gb431,1,none⟩) (by first|(rw[add_block];exact hn432_1)|(show(Addr.add _ _).block≠_;rw[add_block];exact hn432_1)|exact hn432_1) (.int .i64 ((rd_T35 l1 x63_3).f1))).trans hx432_0;replace hx432_0:=(cell_far (p:=⟨gb431,2,none⟩) (by first|(rw[add_block];exact hn432_2)|(show(Addr.add _ _).block≠_;rw[add_block];exact hn432_2)|exact hn432_2) (.int .i64 ((rd_T35 l1 x63_3).f2))).trans hx432_0;(try have hy432_0:=fun(n_:Nat)=>(show(((((w66.drewN n_).setCell ⟨gb431,0,none⟩ (.int .i64 ((rd_T35 l1 x63_3).f0))).setCell ⟨gb431,1,none⟩ (.int .i64 ((rd_T35 l1 x63_3).f1))).setCell ⟨gb431,2,none⟩ (.int .i64 ((rd_T35 l1 x63_3).f2)))).cell? _=some _ from hx432_0));clear hn432_0 hn432_1 hn432_2;replace p432:=eq_true p432;replace q432:=eq_true q432));try go_wp2_with (first|((with_reducible refine gate_dst (N:=20) rfl ?_);refine box_event ?hg (N:=20) ?hd (cs := #[.int .i64 0,.int .i64 0,.int .i64 0]) (t:=35) ?hr ?_;(case hd=>rfl);(case hg=>rfl);(case hr=>first|(go_simp;done)|(go_simp;rfl));intro gb431 hg w66 hbox hb;replace HO_14:=am (Kd.S_below (by(with_reducible repeat(first|apply Kd.S_alloc|apply Kd.S_drewN|apply Kd.S_drew));exact HO_14.out) hb);replace HO_15:=am (Kd.R_below (rup HO_15.out) hb);replace HO_55:=am (Kd.R_below (rup HO_55.out) hb);have BK431:=am (hbox);have GW431:=am (ge_ bl hg);have GE431:=am (ge_ bl hg);replace HB:=am (below_step bl hb);have NB411_431:=am (nl (bup BK411.out) hg);have NB431_411:=am (ng (bup BK411.out) hg);replace BK411:=am (blk_below (bup BK411.out) hb);have NB412_431:=am (nl (bup BK412.out) hg);have NB431_412:=am (ng (bup BK412.out) hg);replace BK412:=am (blk_below (bup BK412.out) hb);have NB429_431:=am (nl (bup BK429.out) hg);have NB431_429:=am (ng (bup BK429.out) hg);replace BK429:=am (blk_below (bup BK429.out) hb);clear hb hbox hg;have hnb67:=NB431_411.out;have hnc67:=NB411_431.out;have hnb68:=NB431_412.out;have hnc68:=NB412_431.out;have hnb69:=NB431_429.out;have hnc69:=NB429_431.out;have hcz70_0:=bc BK431.out 0;have hcz70_1:=bc BK431.out 1;have hcz70_2:=bc BK431.out 2;have hfz70_0:=blk_frozen BK431.out 0;have hfz70_1:=blk_frozen BK431.out 1;have hfz70_2:=blk_frozen BK431.out 2;have hnb71:=NB429_411.out;have hnc71:=NB411_429.out;have hnb72:=NB429_412.out;have hnc72:=NB412_429.out;have hcz73_0:=bc BK429.out 0;have hcz73_1:=bc BK429.out 1;have hcz73_2:=bc BK429.out 2;have hfz73_0:=blk_frozen BK429.out 0;have hfz73_1:=blk_frozen BK429.out 1;have hfz73_2:=blk_frozen BK429.out 2;obtain⟨Ao74,co74,eo74⟩:=Kd.R_slice HO_15.out;subst eo74;have p432:0≤(x63_3:Int):=od;have q432:x63_3<(x15_2.length:Int):=od;obtain⟨ad432,e432,hx432_0⟩:=Kd.at_bool (Kd.R_reads' HO_15.out).2.2 x63_3 p432 q432;(try rw[← Nbq55.out] at hx432_0);cases e432;have hn432_0:ad432.block≠gb431:=Kd.own_blk (Kd.R_ne HO_15.out BK431.out (by decide));have hn432_1:ad432.block≠gb431:=Kd.own_blk (Kd.R_ne HO_15.out BK431.out (by decide));have hn432_2:ad432.block≠gb431:=Kd.own_blk (Kd.R_ne HO_15.out BK431.out (by decide));replace hx432_0:=(cell_far (p:=⟨gb431,0,none⟩) (by first|(rw[add_block];exact hn432_0)|(show(Addr.add _ _).block≠_;rw[add_block];exact hn432_0)|exact hn432_0) (.int .i64 ((rd_T35 l1 x63_3).f0))).trans hx432_0;replace hx432_0:=(cell_far (p:=⟨gb431,1,none⟩) (by first|(rw[add_block];exact hn432_1)|(show(Addr.add _ _).block≠_;rw[add_block];exact hn432_1)|exact hn432_1) (.int .i64 ((rd_T35 l1 x63_3).f1))).trans hx432_0;replace hx432_0:=(cell_far (p:=⟨gb431,2,none⟩) (by first|(rw[add_block];exact hn432_2)|(show(Addr.add _ _).block≠_;rw[add_block];exact hn432_2)|exact hn432_2) (.int .i64 ((rd_T35 l1 x63_3).f2))).trans hx432_0;(try have hy432_0:=fun(n_:Nat)=>(show(((((w66.drewN n_).setCell ⟨gb431,0,none⟩ (.int .i64 ((rd_T35 l1 x63_3).f0))).setCell ⟨gb431,1,none⟩ (.int .i64 ((rd_T35 l1 x63_3).f1))).setCell ⟨gb431,2,none⟩ (.int .i64 ((rd_T35 l1 x63_3).f2)))).cell? _=some _ from hx432_0));clear hn432_0 hn432_1 hn432_2;replace p432:=eq_true p432;replace q432:=eq_true q432)))
              go_roundg k3
              case measure=>have:=HJ5.out;have:=HK2.out;have:=HK3.out;omega
              case rel=>exact⟨(x63_3),(wrap64 (x63_3+1)),fin2,fin2,H',⟨by have:=HJ5.out;have:=HK2.out;have:=HK3.out;omega⟩,⟨by(with_reducible repeat(first|apply Kd.S_alloc|apply Kd.S_drewN|apply Kd.S_drew));exact Kd.S_mono (Kd.S_far (p:=⟨gb431,2,none⟩) (Kd.S_far (p:=⟨gb431,1,none⟩) (Kd.S_far (p:=⟨gb431,0,none⟩) (Kd.S_types HO_14.out BK431.out (by decide)) (fun _ hk=>hk.2) (.int .i64 ((rd_T35 l1 x63_3).f0))) (fun _ hk=>hk.2) (.int .i64 ((rd_T35 l1 x63_3).f1))) (fun _ hk=>hk.2) (.int .i64 ((rd_T35 l1 x63_3).f2))) (fun _ hk=>trivial)⟩,⟨rup (Kd.R_mono (Kd.R_far (p:=⟨gb431,2,none⟩) (Kd.R_far (p:=⟨gb431,1,none⟩) (Kd.R_far (p:=⟨gb431,0,none⟩) (Kd.R_types HO_15.out BK431.out (by decide)) (fun _ hk=>hk.2) (.int .i64 ((rd_T35 l1 x63_3).f0))) (fun _ hk=>hk.2) (.int .i64 ((rd_T35 l1 x63_3).f1))) (fun _ hk=>hk.2) (.int .i64 ((rd_T35 l1 x63_3).f2))) (fun _ hk=>trivial))⟩,⟨rup (Kd.R_mono (Kd.R_far (p:=⟨gb431,2,none⟩) (Kd.R_far (p:=⟨gb431,1,none⟩) (Kd.R_far (p:=⟨gb431,0,none⟩) (Kd.R_types HO_55.out BK431.out (by decide)) (fun _ hk=>hk.2) (.int .i64 ((rd_T35 l1 x63_3).f0))) (fun _ hk=>hk.2) (.int .i64 ((rd_T35 l1 x63_3).f1))) (fun _ hk=>hk.2) (.int .i64 ((rd_T35 l1 x63_3).f2))) (fun _ hk=>hk.1))⟩,⟨by(with_reducible repeat(first|refine bN_ ?_ _|refine bD_ ?_|refine bA_ ?_ _));refine blk_far ?_ NB411_431.out _;(with_reducible repeat(first|refine bN_ ?_ _|refine bD_ ?_|refine bA_ ?_ _));refine blk_far ?_ NB411_431.out _;(with_reducible repeat(first|refine bN_ ?_ _|refine bD_ ?_|refine bA_ ?_ _));refine blk_far ?_ NB411_431.out _;exact bup BK411.out⟩,⟨by(with_reducible repeat(first|refine bN_ ?_ _|refine bD_ ?_|refine bA_ ?_ _));refine blk_far ?_ NB412_431.out _;(with_reducible repeat(first|refine bN_ ?_ _|refine bD_ ?_|refine bA_ ?_ _));refine blk_far ?_ NB412_431.out _;(with_reducible repeat(first|refine bN_ ?_ _|refine bD_ ?_|refine bA_ ?_ _));refine blk_far ?_ NB412_431.out _;exact bup BK412.out⟩,⟨by(with_reducible repeat(first|refine bN_ ?_ _|refine bD_ ?_|refine bA_ ?_ _));refine blk_far ?_ NB429_431.out _;(with_reducible repeat(first|refine bN_ ?_ _|refine bD_ ?_|refine bA_ ?_ _));refine blk_far ?_ NB429_431.out _;(with_reducible repeat(first|refine bN_ ?_ _|refine bD_ ?_|refine bA_ ?_ _));refine blk_far ?_ NB429_431.out _;exact bup BK429.out⟩,⟨bl⟩⟩
            ·have c53b0:(((rd_T35 l1 x63_3).f0) == ((rd_T37 t416 x57_2).f0))=false:=beq_eq_false_iff_ne.mpr c53
             have c53b1:(((rd_T35 l1 x63_3).f0) != ((rd_T37 t416 x57_2).f0))=true:=bne_iff_ne.mpr c53
             have H':=am H
             clear H
             have p430:0≤(x63_3:Int):=od
             have q430:x63_3<(l1.length:Int):=od
             obtain⟨ad430,e430,hx430_0,hx430_1,hx430_2⟩:=at_T35 HR1.out x63_3 p430 q430
             cases e430
             replace hx430_0:=(HB.out.cell (World.block_lt_of_cell? w _ hx430_0)).trans hx430_0
             replace hx430_1:=(HB.out.cell (World.block_lt_of_cell? w _ hx430_1)).trans hx430_1
             replace hx430_2:=(HB.out.cell (World.block_lt_of_cell? w _ hx430_2)).trans hx430_2
             replace p430:=eq_true p430
             replace q430:=eq_true q430
             go_wp2_with (first|((with_reducible refine gate_dst (N:=20) rfl ?_);refine box_event ?hg (N:=20) ?hd (cs := #[.int .i64 0,.int .i64 0,.int .i64 0]) (t:=35) ?hr ?_;(case hd=>rfl);(case hg=>rfl);(case hr=>first|(go_simp;done)|(go_simp;rfl));intro gb431 hg w75 hbox hb;replace HO_14:=am (Kd.S_below (by(with_reducible repeat(first|apply Kd.S_alloc|apply Kd.S_drewN|apply Kd.S_drew));exact HO_14.out) hb);replace HO_15:=am (Kd.R_below (rup HO_15.out) hb);replace HO_55:=am (Kd.R_below (rup HO_55.out) hb);have BK431:=am (hbox);have GW431:=am (ge_ bl hg);have GE431:=am (ge_ bl hg);replace HB:=am (below_step bl hb);have NB411_431:=am (nl (bup BK411.out) hg);have NB431_411:=am (ng (bup BK411.out) hg);replace BK411:=am (blk_below (bup BK411.out) hb);have NB412_431:=am (nl (bup BK412.out) hg);have NB431_412:=am (ng (bup BK412.out) hg);replace BK412:=am (blk_below (bup BK412.out) hb);have NB429_431:=am (nl (bup BK429.out) hg);have NB431_429:=am (ng (bup BK429.out) hg);replace BK429:=am (blk_below (bup BK429.out) hb);clear hb hbox hg;have hnb76:=NB431_411.out;have hnc76:=NB411_431.out;have hnb77:=NB431_412.out;have hnc77:=NB412_431.out;have hnb78:=NB431_429.out;have hnc78:=NB429_431.out;have hcz79_0:=bc BK431.out 0;have hcz79_1:=bc BK431.out 1;have hcz79_2:=bc BK431.out 2;have hfz79_0:=blk_frozen BK431.out 0;have hfz79_1:=blk_frozen BK431.out 1;have hfz79_2:=blk_frozen BK431.out 2;have hnb80:=NB429_411.out;have hnc80:=NB411_429.out;have hnb81:=NB429_412.out;have hnc81:=NB412_429.out;have hcz82_0:=bc BK429.out 0;have hcz82_1:=bc BK429.out 1;have hcz82_2:=bc BK429.out 2;have hfz82_0:=blk_frozen BK429.out 0;have hfz82_1:=blk_frozen BK429.out 1;have hfz82_2:=blk_frozen BK429.out 2))
             repeat(go_quiet (first|((with_reducible refine gate_dst (N:=20) rfl ?_);refine box_event ?hg (N:=20) ?hd (cs := #[.int .i64 0,.int .i64 0,.int .i64 0]) (t:=35) ?hr ?_;(case hd=>rfl);(case hg=>rfl);(case hr=>first|(go_simp;done)|(go_simp;rfl));intro gb431 hg w75 hbox hb;replace HO_14:=am (Kd.S_below (by(with_reducible repeat(first|apply Kd.S_alloc|apply Kd.S_drewN|apply Kd.S_drew));exact HO_14.out) hb);replace HO_15:=am (Kd.R_below (rup HO_15.out) hb);replace HO_55:=am (Kd.R_below (rup HO_55.out) hb);have BK431:=am (hbox);have GW431:=am (ge_ bl hg);have GE431:=am (ge_ bl hg);replace HB:=am (below_step bl hb);have NB411_431:=am (nl (bup BK411.out) hg);have NB431_411:=am (ng (bup BK411.out) hg);replace BK411:=am (blk_below (bup BK411.out) hb);have NB412_431:=am (nl (bup BK412.out) hg);have NB431_412:=am (ng (bup BK412.out) hg);replace BK412:=am (blk_below (bup BK412.out) hb);have NB429_431:=am (nl (bup BK429.out) hg);have NB431_429:=am (ng (bup BK429.out) hg);replace BK429:=am (blk_below (bup BK429.out) hb);clear hb hbox hg;have hnb76:=NB431_411.out;have hnc76:=NB411_431.out;have hnb77:=NB431_412.out;have hnc77:=NB412_431.out;have hnb78:=NB431_429.out;have hnc78:=NB429_431.out;have hcz79_0:=bc BK431.out 0;have hcz79_1:=bc BK431.out 1;have hcz79_2:=bc BK431.out 2;have hfz79_0:=blk_frozen BK431.out 0;have hfz79_1:=blk_frozen BK431.out 1;have hfz79_2:=blk_frozen BK431.out 2;have hnb80:=NB429_411.out;have hnc80:=NB411_429.out;have hnb81:=NB429_412.out;have hnc81:=NB412_429.out;have hcz82_0:=bc BK429.out 0;have hcz82_1:=bc BK429.out 1;have hcz82_2:=bc BK429.out 2;have hfz82_0:=blk_frozen BK429.out 0;have hfz82_1:=blk_frozen BK429.out 1;have hfz82_2:=blk_frozen BK429.out 2));try go_wp2_with (first|((with_reducible refine gate_dst (N:=20) rfl ?_);refine box_event ?hg (N:=20) ?hd (cs := #[.int .i64 0,.int .i64 0,.int .i64 0]) (t:=35) ?hr ?_;(case hd=>rfl);(case hg=>rfl);(case hr=>first|(go_simp;done)|(go_simp;rfl));intro gb431 hg w75 hbox hb;replace HO_14:=am (Kd.S_below (by(with_reducible repeat(first|apply Kd.S_alloc|apply Kd.S_drewN|apply Kd.S_drew));exact HO_14.out) hb);replace HO_15:=am (Kd.R_below (rup HO_15.out) hb);replace HO_55:=am (Kd.R_below (rup HO_55.out) hb);have BK431:=am (hbox);have GW431:=am (ge_ bl hg);have GE431:=am (ge_ bl hg);replace HB:=am (below_step bl hb);have NB411_431:=am (nl (bup BK411.out) hg);have NB431_411:=am (ng (bup BK411.out) hg);replace BK411:=am (blk_below (bup BK411.out) hb);have NB412_431:=am (nl (bup BK412.out) hg);have NB431_412:=am (ng (bup BK412.out) hg);replace BK412:=am (blk_below (bup BK412.out) hb);have NB429_431:=am (nl (bup BK429.out) hg);have NB431_429:=am (ng (bup BK429.out) hg);replace BK429:=am (blk_below (bup BK429.out) hb);clear hb hbox hg;have hnb76:=NB431_411.out;have hnc76:=NB411_431.out;have hnb77:=NB431_412.out;have hnc77:=NB412_431.out;have hnb78:=NB431_429.out;have hnc78:=NB429_431.out;have hcz79_0:=bc BK431.out 0;have hcz79_1:=bc BK431.out 1;have hcz79_2:=bc BK431.out 2;have hfz79_0:=blk_frozen BK431.out 0;have hfz79_1:=blk_frozen BK431.out 1;have hfz79_2:=blk_frozen BK431.out 2;have hnb80:=NB429_411.out;have hnc80:=NB411_429.out;have hnb81:=NB429_412.out;have hnc81:=NB412_429.out;have hcz82_0:=bc BK429.out 0;have hcz82_1:=bc BK429.out 1;have hcz82_2:=bc BK429.out 2;have hfz82_0:=blk_frozen BK429.out 0;have hfz82_1:=blk_frozen BK429.out 1;have hfz82_2:=blk_frozen BK429.out 2)))
             go_roundg k3
             case measure=>have:=HJ5.out;have:=HK2.out;have:=HK3.out;omega
             case rel=>exact⟨(x18_3),(wrap64 (x63_3+1)),fin2,fin2,H',⟨by have:=HJ5.out;have:=HK2.out;have:=HK3.out;omega⟩,⟨by(with_reducible repeat(first|apply Kd.S_alloc|apply Kd.S_drewN|apply Kd.S_drew));exact Kd.S_mono (Kd.S_far (p:=⟨gb431,2,none⟩) (Kd.S_far (p:=⟨gb431,1,none⟩) (Kd.S_far (p:=⟨gb431,0,none⟩) (Kd.S_types HO_14.out BK431.out (by decide)) (fun _ hk=>hk.2) (.int .i64 ((rd_T35 l1 x63_3).f0))) (fun _ hk=>hk.2) (.int .i64 ((rd_T35 l1 x63_3).f1))) (fun _ hk=>hk.2) (.int .i64 ((rd_T35 l1 x63_3).f2))) (fun _ hk=>trivial)⟩,⟨rup (Kd.R_mono (Kd.R_far (p:=⟨gb431,2,none⟩) (Kd.R_far (p:=⟨gb431,1,none⟩) (Kd.R_far (p:=⟨gb431,0,none⟩) (Kd.R_types HO_15.out BK431.out (by decide)) (fun _ hk=>hk.2) (.int .i64 ((rd_T35 l1 x63_3).f0))) (fun _ hk=>hk.2) (.int .i64 ((rd_T35 l1 x63_3).f1))) (fun _ hk=>hk.2) (.int .i64 ((rd_T35 l1 x63_3).f2))) (fun _ hk=>trivial))⟩,⟨rup (Kd.R_mono (Kd.R_far (p:=⟨gb431,2,none⟩) (Kd.R_far (p:=⟨gb431,1,none⟩) (Kd.R_far (p:=⟨gb431,0,none⟩) (Kd.R_types HO_55.out BK431.out (by decide)) (fun _ hk=>hk.2) (.int .i64 ((rd_T35 l1 x63_3).f0))) (fun _ hk=>hk.2) (.int .i64 ((rd_T35 l1 x63_3).f1))) (fun _ hk=>hk.2) (.int .i64 ((rd_T35 l1 x63_3).f2))) (fun _ hk=>hk.1))⟩,⟨by(with_reducible repeat(first|refine bN_ ?_ _|refine bD_ ?_|refine bA_ ?_ _));refine blk_far ?_ NB411_431.out _;(with_reducible repeat(first|refine bN_ ?_ _|refine bD_ ?_|refine bA_ ?_ _));refine blk_far ?_ NB411_431.out _;(with_reducible repeat(first|refine bN_ ?_ _|refine bD_ ?_|refine bA_ ?_ _));refine blk_far ?_ NB411_431.out _;exact bup BK411.out⟩,⟨by(with_reducible repeat(first|refine bN_ ?_ _|refine bD_ ?_|refine bA_ ?_ _));refine blk_far ?_ NB412_431.out _;(with_reducible repeat(first|refine bN_ ?_ _|refine bD_ ?_|refine bA_ ?_ _));refine blk_far ?_ NB412_431.out _;(with_reducible repeat(first|refine bN_ ?_ _|refine bD_ ?_|refine bA_ ?_ _));refine blk_far ?_ NB412_431.out _;exact bup BK412.out⟩,⟨by(with_reducible repeat(first|refine bN_ ?_ _|refine bD_ ?_|refine bA_ ?_ _));refine blk_far ?_ NB429_431.out _;(with_reducible repeat(first|refine bN_ ?_ _|refine bD_ ?_|refine bA_ ?_ _));refine blk_far ?_ NB429_431.out _;(with_reducible repeat(first|refine bN_ ?_ _|refine bD_ ?_|refine bA_ ?_ _));refine blk_far ?_ NB429_431.out _;exact bup BK429.out⟩,⟨bl⟩⟩
           ·have c52b0:=decide_eq_false c52
            clear c52
            have H':=am H
            clear H
            have p430:0≤(x63_3:Int):=od
            have q430:x63_3<(l1.length:Int):=od
            obtain⟨ad430,e430,hx430_0,hx430_1,hx430_2⟩:=at_T35 HR1.out x63_3 p430 q430
            cases e430
            replace hx430_0:=(HB.out.cell (World.block_lt_of_cell? w _ hx430_0)).trans hx430_0
            replace hx430_1:=(HB.out.cell (World.block_lt_of_cell? w _ hx430_1)).trans hx430_1
            replace hx430_2:=(HB.out.cell (World.block_lt_of_cell? w _ hx430_2)).trans hx430_2
            replace p430:=eq_true p430
            replace q430:=eq_true q430
            go_wp2_with (first|((with_reducible refine gate_dst (N:=20) rfl ?_);refine box_event ?hg (N:=20) ?hd (cs := #[.int .i64 0,.int .i64 0,.int .i64 0]) (t:=35) ?hr ?_;(case hd=>rfl);(case hg=>rfl);(case hr=>first|(go_simp;done)|(go_simp;rfl));intro gb431 hg w83 hbox hb;replace HO_14:=am (Kd.S_below (by(with_reducible repeat(first|apply Kd.S_alloc|apply Kd.S_drewN|apply Kd.S_drew));exact HO_14.out) hb);replace HO_15:=am (Kd.R_below (rup HO_15.out) hb);replace HO_55:=am (Kd.R_below (rup HO_55.out) hb);have BK431:=am (hbox);have GW431:=am (ge_ bl hg);have GE431:=am (ge_ bl hg);replace HB:=am (below_step bl hb);have NB411_431:=am (nl (bup BK411.out) hg);have NB431_411:=am (ng (bup BK411.out) hg);replace BK411:=am (blk_below (bup BK411.out) hb);have NB412_431:=am (nl (bup BK412.out) hg);have NB431_412:=am (ng (bup BK412.out) hg);replace BK412:=am (blk_below (bup BK412.out) hb);have NB429_431:=am (nl (bup BK429.out) hg);have NB431_429:=am (ng (bup BK429.out) hg);replace BK429:=am (blk_below (bup BK429.out) hb);clear hb hbox hg;have hnb84:=NB431_411.out;have hnc84:=NB411_431.out;have hnb85:=NB431_412.out;have hnc85:=NB412_431.out;have hnb86:=NB431_429.out;have hnc86:=NB429_431.out;have hcz87_0:=bc BK431.out 0;have hcz87_1:=bc BK431.out 1;have hcz87_2:=bc BK431.out 2;have hfz87_0:=blk_frozen BK431.out 0;have hfz87_1:=blk_frozen BK431.out 1;have hfz87_2:=blk_frozen BK431.out 2))
            repeat(go_quiet (first|((with_reducible refine gate_dst (N:=20) rfl ?_);refine box_event ?hg (N:=20) ?hd (cs := #[.int .i64 0,.int .i64 0,.int .i64 0]) (t:=35) ?hr ?_;(case hd=>rfl);(case hg=>rfl);(case hr=>first|(go_simp;done)|(go_simp;rfl));intro gb431 hg w83 hbox hb;replace HO_14:=am (Kd.S_below (by(with_reducible repeat(first|apply Kd.S_alloc|apply Kd.S_drewN|apply Kd.S_drew));exact HO_14.out) hb);replace HO_15:=am (Kd.R_below (rup HO_15.out) hb);replace HO_55:=am (Kd.R_below (rup HO_55.out) hb);have BK431:=am (hbox);have GW431:=am (ge_ bl hg);have GE431:=am (ge_ bl hg);replace HB:=am (below_step bl hb);have NB411_431:=am (nl (bup BK411.out) hg);have NB431_411:=am (ng (bup BK411.out) hg);replace BK411:=am (blk_below (bup BK411.out) hb);have NB412_431:=am (nl (bup BK412.out) hg);have NB431_412:=am (ng (bup BK412.out) hg);replace BK412:=am (blk_below (bup BK412.out) hb);have NB429_431:=am (nl (bup BK429.out) hg);have NB431_429:=am (ng (bup BK429.out) hg);replace BK429:=am (blk_below (bup BK429.out) hb);clear hb hbox hg;have hnb84:=NB431_411.out;have hnc84:=NB411_431.out;have hnb85:=NB431_412.out;have hnc85:=NB412_431.out;have hnb86:=NB431_429.out;have hnc86:=NB429_431.out;have hcz87_0:=bc BK431.out 0;have hcz87_1:=bc BK431.out 1;have hcz87_2:=bc BK431.out 2;have hfz87_0:=blk_frozen BK431.out 0;have hfz87_1:=blk_frozen BK431.out 1;have hfz87_2:=blk_frozen BK431.out 2));try go_wp2_with (first|((with_reducible refine gate_dst (N:=20) rfl ?_);refine box_event ?hg (N:=20) ?hd (cs := #[.int .i64 0,.int .i64 0,.int .i64 0]) (t:=35) ?hr ?_;(case hd=>rfl);(case hg=>rfl);(case hr=>first|(go_simp;done)|(go_simp;rfl));intro gb431 hg w83 hbox hb;replace HO_14:=am (Kd.S_below (by(with_reducible repeat(first|apply Kd.S_alloc|apply Kd.S_drewN|apply Kd.S_drew));exact HO_14.out) hb);replace HO_15:=am (Kd.R_below (rup HO_15.out) hb);replace HO_55:=am (Kd.R_below (rup HO_55.out) hb);have BK431:=am (hbox);have GW431:=am (ge_ bl hg);have GE431:=am (ge_ bl hg);replace HB:=am (below_step bl hb);have NB411_431:=am (nl (bup BK411.out) hg);have NB431_411:=am (ng (bup BK411.out) hg);replace BK411:=am (blk_below (bup BK411.out) hb);have NB412_431:=am (nl (bup BK412.out) hg);have NB431_412:=am (ng (bup BK412.out) hg);replace BK412:=am (blk_below (bup BK412.out) hb);have NB429_431:=am (nl (bup BK429.out) hg);have NB431_429:=am (ng (bup BK429.out) hg);replace BK429:=am (blk_below (bup BK429.out) hb);clear hb hbox hg;have hnb84:=NB431_411.out;have hnc84:=NB411_431.out;have hnb85:=NB431_412.out;have hnc85:=NB412_431.out;have hnb86:=NB431_429.out;have hnc86:=NB429_431.out;have hcz87_0:=bc BK431.out 0;have hcz87_1:=bc BK431.out 1;have hcz87_2:=bc BK431.out 2;have hfz87_0:=blk_frozen BK431.out 0;have hfz87_1:=blk_frozen BK431.out 1;have hfz87_2:=blk_frozen BK431.out 2)))
            go_roundg k3
            case measure=>have:=HJ5.out;have:=HK2.out;have:=HK3.out;omega
            case rel=>exact⟨(x18_3),(wrap64 (x63_3+1)),fin2,fin2,H',⟨by have:=HJ5.out;have:=HK2.out;have:=HK3.out;omega⟩,⟨by(with_reducible repeat(first|apply Kd.S_alloc|apply Kd.S_drewN|apply Kd.S_drew));exact Kd.S_mono (Kd.S_far (p:=⟨gb431,2,none⟩) (Kd.S_far (p:=⟨gb431,1,none⟩) (Kd.S_far (p:=⟨gb431,0,none⟩) (Kd.S_types HO_14.out BK431.out (by decide)) (fun _ hk=>hk.2) (.int .i64 ((rd_T35 l1 x63_3).f0))) (fun _ hk=>hk.2) (.int .i64 ((rd_T35 l1 x63_3).f1))) (fun _ hk=>hk.2) (.int .i64 ((rd_T35 l1 x63_3).f2))) (fun _ hk=>trivial)⟩,⟨rup (Kd.R_mono (Kd.R_far (p:=⟨gb431,2,none⟩) (Kd.R_far (p:=⟨gb431,1,none⟩) (Kd.R_far (p:=⟨gb431,0,none⟩) (Kd.R_types HO_15.out BK431.out (by decide)) (fun _ hk=>hk.2) (.int .i64 ((rd_T35 l1 x63_3).f0))) (fun _ hk=>hk.2) (.int .i64 ((rd_T35 l1 x63_3).f1))) (fun _ hk=>hk.2) (.int .i64 ((rd_T35 l1 x63_3).f2))) (fun _ hk=>trivial))⟩,⟨rup (Kd.R_mono (Kd.R_far (p:=⟨gb431,2,none⟩) (Kd.R_far (p:=⟨gb431,1,none⟩) (Kd.R_far (p:=⟨gb431,0,none⟩) (Kd.R_types HO_55.out BK431.out (by decide)) (fun _ hk=>hk.2) (.int .i64 ((rd_T35 l1 x63_3).f0))) (fun _ hk=>hk.2) (.int .i64 ((rd_T35 l1 x63_3).f1))) (fun _ hk=>hk.2) (.int .i64 ((rd_T35 l1 x63_3).f2))) (fun _ hk=>hk.1))⟩,⟨by(with_reducible repeat(first|refine bN_ ?_ _|refine bD_ ?_|refine bA_ ?_ _));refine blk_far ?_ NB411_431.out _;(with_reducible repeat(first|refine bN_ ?_ _|refine bD_ ?_|refine bA_ ?_ _));refine blk_far ?_ NB411_431.out _;(with_reducible repeat(first|refine bN_ ?_ _|refine bD_ ?_|refine bA_ ?_ _));refine blk_far ?_ NB411_431.out _;exact bup BK411.out⟩,⟨by(with_reducible repeat(first|refine bN_ ?_ _|refine bD_ ?_|refine bA_ ?_ _));refine blk_far ?_ NB412_431.out _;(with_reducible repeat(first|refine bN_ ?_ _|refine bD_ ?_|refine bA_ ?_ _));refine blk_far ?_ NB412_431.out _;(with_reducible repeat(first|refine bN_ ?_ _|refine bD_ ?_|refine bA_ ?_ _));refine blk_far ?_ NB412_431.out _;exact bup BK412.out⟩,⟨by(with_reducible repeat(first|refine bN_ ?_ _|refine bD_ ?_|refine bA_ ?_ _));refine blk_far ?_ NB429_431.out _;(with_reducible repeat(first|refine bN_ ?_ _|refine bD_ ?_|refine bA_ ?_ _));refine blk_far ?_ NB429_431.out _;(with_reducible repeat(first|refine bN_ ?_ _|refine bD_ ?_|refine bA_ ?_ _));refine blk_far ?_ NB429_431.out _;exact bup BK429.out⟩,⟨bl⟩⟩
          ·have c49b0:=decide_eq_false c49
           clear c49
           rcases itc H with⟨c88,H⟩|⟨c88,H⟩
           ·have c88b0:=decide_eq_true c88
            clear c88
            simp only[Option.some.injEq,Prod.mk.injEq] at H
            obtain⟨rfl,rfl⟩:=H
            go_wp2
            repeat(go_quiet (fail);try go_wp2)
            go_ret2
            exact⟨fin1,bl⟩
           ·have c88b0:=decide_eq_false c88
            clear c88
            obtain⟨c89b0,H⟩:=ifb H
            obtain⟨c90b0,H⟩:=ifb H
            obtain⟨c91,H⟩:=ifp H
            have c91b0:=decide_eq_true c91
            have c91b1:decide (0<(rd_L5 t422 x18_3).length)=true:=decide_eq_true (by omega)
            clear c91
            rcases itc H with⟨c92,H⟩|⟨c92,H⟩
            ·have c92b0:=decide_eq_true c92
             clear c92
             simp only[Option.some.injEq,Prod.mk.injEq] at H
             obtain⟨rfl,rfl⟩:=H
             have hnb93:=NB429_411.out
             have hnc93:=NB411_429.out
             have hnb94:=NB429_412.out
             have hnc94:=NB412_429.out
             have hcz95_0:=bc BK429.out 0
             have hcz95_1:=bc BK429.out 1
             have hcz95_2:=bc BK429.out 2
             have hfz95_0:=blk_frozen BK429.out 0
             have hfz95_1:=blk_frozen BK429.out 1
             have hfz95_2:=blk_frozen BK429.out 2
             obtain⟨Ao96,co96,eo96⟩:=Kd.S_slice HO_14.out
             subst eo96
             have p433:0≤(x18_3:Int):=od
             have q433:x18_3<(t422.length:Int):=od
             obtain⟨ad433,A433_0,c433_0,e433,hx433_0,hl433_0,hi433_0⟩:=at_L5 (Kd.S_reads' HO_14.out).2.2 x18_3 p433 q433
             cases e433
             obtain⟨ce433,hce433,hMe433,hcc433⟩:=Kd.S_get HO_14.out [] x18_3 p433 (by first|exact q433|exact od|(have e_:=(Kd.S_reads' HO_14.out).1;omega))
             obtain⟨ve433_0,rfl,ge433_0⟩:=hMe433
             have hv433_0:=hcc433 0 _ rfl
             rw[Nat.add_zero,show((Kd.slice 3 (Kd.int .i64))).sz=1 from rfl,Nat.mul_one] at hv433_0
             replace hv433_0:=Option.some.inj (hv433_0.symm.trans hx433_0)
             rw[hv433_0] at ge433_0
             have HL433_0:=am (show Kd.R (Kd.int .i64) 3 _ _ _ _ (rd_L5 t422 x18_3) from ge433_0)
             clear hv433_0 ge433_0
             clear hcc433 hce433
             have HR433_0:=am hi433_0
             have HC433_0:=am hl433_0
             clear hi433_0 hl433_0
             replace p433:=eq_true p433
             replace q433:=eq_true q433
             have p434:0≤(0:Int):=(by omega)
             have q434:0<((rd_L5 t422 x18_3).length:Int):=od
             obtain⟨ad434,e434,hx434_0⟩:=Kd.at_int (by repeat(first|(with_reducible exact HR433_0.out)|(with_reducible refine Kd.C_alloc ?_ _)|(with_reducible refine Kd.C_drewN ?_ _)|(with_reducible refine Kd.C_drew ?_)|exact HR433_0.out)) 0 p434 q434
             cases e434
             have qi434:(0<(rd_L5 t422 x18_3).length)=True:=eq_true (by omega)
             (try rw[show((0:Int)).toNat=0 from rfl] at hx434_0)
             (try rw[Addr.add_zero'] at hx434_0)
             replace p434:=eq_true p434
             replace q434:=eq_true q434
             go_wp2
             repeat(go_quiet (fail);try go_wp2)
             go_ret2
             exact⟨fin1,bl⟩
            ·have c92b0:=decide_eq_false c92
             clear c92
             obtain⟨c97,H⟩:=ifp H
             have c97b0:=decide_eq_true c97
             have c97b1:decide (1<(rd_L5 t422 x18_3).length)=true:=decide_eq_true (by omega)
             clear c97
             rcases itc H with⟨c98,H⟩|⟨c98,H⟩
             ·have c98b0:decide ((rd (rd_L5 t422 x18_3) 1)<((rd_T37 t416 x57_2).f1))=true:=decide_eq_true c98
              clear c98
              simp only[Option.some.injEq,Prod.mk.injEq] at H
              obtain⟨rfl,rfl⟩:=H
              have hnb99:=NB429_411.out
              have hnc99:=NB411_429.out
              have hnb100:=NB429_412.out
              have hnc100:=NB412_429.out
              have hcz101_0:=bc BK429.out 0
              have hcz101_1:=bc BK429.out 1
              have hcz101_2:=bc BK429.out 2
              have hfz101_0:=blk_frozen BK429.out 0
              have hfz101_1:=blk_frozen BK429.out 1
              have hfz101_2:=blk_frozen BK429.out 2
              obtain⟨Ao102,co102,eo102⟩:=Kd.S_slice HO_14.out
              subst eo102
              have p433:0≤(x18_3:Int):=od
              have q433:x18_3<(t422.length:Int):=od
              obtain⟨ad433,A433_0,c433_0,e433,hx433_0,hl433_0,hi433_0⟩:=at_L5 (Kd.S_reads' HO_14.out).2.2 x18_3 p433 q433
              cases e433
              obtain⟨ce433,hce433,hMe433,hcc433⟩:=Kd.S_get HO_14.out [] x18_3 p433 (by first|exact q433|exact od|(have e_:=(Kd.S_reads' HO_14.out).1;omega))
              obtain⟨ve433_0,rfl,ge433_0⟩:=hMe433
              have hv433_0:=hcc433 0 _ rfl
              rw[Nat.add_zero,show((Kd.slice 3 (Kd.int .i64))).sz=1 from rfl,Nat.mul_one] at hv433_0
              replace hv433_0:=Option.some.inj (hv433_0.symm.trans hx433_0)
              rw[hv433_0] at ge433_0
              have HL433_0:=am (show Kd.R (Kd.int .i64) 3 _ _ _ _ (rd_L5 t422 x18_3) from ge433_0)
              clear hv433_0 ge433_0
              clear hcc433 hce433
              have HR433_0:=am hi433_0
              have HC433_0:=am hl433_0
              clear hi433_0 hl433_0
              replace p433:=eq_true p433
              replace q433:=eq_true q433
              have p434:0≤(0:Int):=(by omega)
              have q434:0<((rd_L5 t422 x18_3).length:Int):=od
              obtain⟨ad434,e434,hx434_0⟩:=Kd.at_int (by repeat(first|(with_reducible exact HR433_0.out)|(with_reducible refine Kd.C_alloc ?_ _)|(with_reducible refine Kd.C_drewN ?_ _)|(with_reducible refine Kd.C_drew ?_)|exact HR433_0.out)) 0 p434 q434
              cases e434
              have qi434:(0<(rd_L5 t422 x18_3).length)=True:=eq_true (by omega)
              (try rw[show((0:Int)).toNat=0 from rfl] at hx434_0)
              (try rw[Addr.add_zero'] at hx434_0)
              replace p434:=eq_true p434
              replace q434:=eq_true q434
              have p435:0≤(x18_3:Int):=od
              have q435:x18_3<(t422.length:Int):=od
              obtain⟨ad435,A435_0,c435_0,e435,hx435_0,hl435_0,hi435_0⟩:=at_L5 (Kd.S_reads' HO_14.out).2.2 x18_3 p435 q435
              obtain rfl:ad433=ad435:=(by injection e435)
              obtain⟨ce435,hce435,hMe435,hcc435⟩:=Kd.S_get HO_14.out [] x18_3 p435 (by first|exact q435|exact od|(have e_:=(Kd.S_reads' HO_14.out).1;omega))
              obtain⟨ve435_0,rfl,ge435_0⟩:=hMe435
              have hv435_0:=hcc435 0 _ rfl
              rw[Nat.add_zero,show((Kd.slice 3 (Kd.int .i64))).sz=1 from rfl,Nat.mul_one] at hv435_0
              replace hv435_0:=Option.some.inj (hv435_0.symm.trans hx435_0)
              rw[hv435_0] at ge435_0
              have HL435_0:=am (show Kd.R (Kd.int .i64) 3 _ _ _ _ (rd_L5 t422 x18_3) from ge435_0)
              clear hv435_0 ge435_0
              clear hcc435 hce435
              have HR435_0:=am hi435_0
              have HC435_0:=am hl435_0
              clear hi435_0 hl435_0
              replace p435:=eq_true p435
              replace q435:=eq_true q435
              have ea_:=Option.some.inj (hx433_0.symm.trans hx435_0)
              injection ea_ with ea_ en_ ec_
              subst ea_
              subst ec_
              clear en_
              have p436:0≤(1:Int):=(by omega)
              have q436:1<((rd_L5 t422 x18_3).length:Int):=od
              obtain⟨ad436,e436,hx436_0⟩:=Kd.at_int (by repeat(first|(with_reducible exact HR435_0.out)|(with_reducible refine Kd.C_alloc ?_ _)|(with_reducible refine Kd.C_drewN ?_ _)|(with_reducible refine Kd.C_drew ?_)|exact HR435_0.out)) 1 p436 q436
              cases e436
              (try simp only[show(1:Int).toNat=1 from rfl,Nat.reduceMul,Nat.reduceEqDiff,Go.Addr.add,↓reduceIte] at hx436_0)
              have qi436:(1<(rd_L5 t422 x18_3).length)=True:=eq_true (by omega)
              (try rw[show((1:Int)).toNat=1 from rfl] at hx436_0)
              replace p436:=eq_true p436
              replace q436:=eq_true q436
              go_wp2
              repeat(go_quiet (fail);try go_wp2)
              go_ret2
              exact⟨fin1,bl⟩
             ·have c98b0:decide ((rd (rd_L5 t422 x18_3) 1)<((rd_T37 t416 x57_2).f1))=false:=decide_eq_false c98
              clear c98
              obtain⟨c103b0,H⟩:=ifb H
              obtain⟨y437,hy437⟩:∃ y_:List Bool,y_=(x15_2.set (x18_3:Int).toNat true):=⟨_,rfl⟩
              replace H:(impl_PlaysAsPromised.l0 k3 l1 t422 y437 t416 (t416.length:Int) (wrap64 (x57_2+1)))=some (r1,r2):=by subst hy437;exact H
              have Ny437:=am hy437
              clear hy437
              have H':=am H
              clear H
              have hnb105:=NB429_411.out
              have hnc105:=NB411_429.out
              have hnb106:=NB429_412.out
              have hnc106:=NB412_429.out
              have hcz107_0:=bc BK429.out 0
              have hcz107_1:=bc BK429.out 1
              have hcz107_2:=bc BK429.out 2
              have hfz107_0:=blk_frozen BK429.out 0
              have hfz107_1:=blk_frozen BK429.out 1
              have hfz107_2:=blk_frozen BK429.out 2
              obtain⟨Ao108,co108,eo108⟩:=Kd.S_slice HO_14.out
              subst eo108
              have p433:0≤(x18_3:Int):=od
              have q433:x18_3<(t422.length:Int):=od
              obtain⟨ad433,A433_0,c433_0,e433,hx433_0,hl433_0,hi433_0⟩:=at_L5 (Kd.S_reads' HO_14.out).2.2 x18_3 p433 q433
              cases e433
              obtain⟨ce433,hce433,hMe433,hcc433⟩:=Kd.S_get HO_14.out [] x18_3 p433 (by first|exact q433|exact od|(have e_:=(Kd.S_reads' HO_14.out).1;omega))
              obtain⟨ve433_0,rfl,ge433_0⟩:=hMe433
              have hv433_0:=hcc433 0 _ rfl
              rw[Nat.add_zero,show((Kd.slice 3 (Kd.int .i64))).sz=1 from rfl,Nat.mul_one] at hv433_0
              replace hv433_0:=Option.some.inj (hv433_0.symm.trans hx433_0)
              rw[hv433_0] at ge433_0
              have HL433_0:=am (show Kd.R (Kd.int .i64) 3 _ _ _ _ (rd_L5 t422 x18_3) from ge433_0)
              clear hv433_0 ge433_0
              clear hcc433 hce433
              have HR433_0:=am hi433_0
              have HC433_0:=am hl433_0
              clear hi433_0 hl433_0
              replace p433:=eq_true p433
              replace q433:=eq_true q433
              have p434:0≤(0:Int):=(by omega)
              have q434:0<((rd_L5 t422 x18_3).length:Int):=od
              obtain⟨ad434,e434,hx434_0⟩:=Kd.at_int (by repeat(first|(with_reducible exact HR433_0.out)|(with_reducible refine Kd.C_alloc ?_ _)|(with_reducible refine Kd.C_drewN ?_ _)|(with_reducible refine Kd.C_drew ?_)|exact HR433_0.out)) 0 p434 q434
              cases e434
              have qi434:(0<(rd_L5 t422 x18_3).length)=True:=eq_true (by omega)
              (try rw[show((0:Int)).toNat=0 from rfl] at hx434_0)
              (try rw[Addr.add_zero'] at hx434_0)
              replace p434:=eq_true p434
              replace q434:=eq_true q434
              have p435:0≤(x18_3:Int):=od
              have q435:x18_3<(t422.length:Int):=od
              obtain⟨ad435,A435_0,c435_0,e435,hx435_0,hl435_0,hi435_0⟩:=at_L5 (Kd.S_reads' HO_14.out).2.2 x18_3 p435 q435
              obtain rfl:ad433=ad435:=(by injection e435)
              obtain⟨ce435,hce435,hMe435,hcc435⟩:=Kd.S_get HO_14.out [] x18_3 p435 (by first|exact q435|exact od|(have e_:=(Kd.S_reads' HO_14.out).1;omega))
              obtain⟨ve435_0,rfl,ge435_0⟩:=hMe435
              have hv435_0:=hcc435 0 _ rfl
              rw[Nat.add_zero,show((Kd.slice 3 (Kd.int .i64))).sz=1 from rfl,Nat.mul_one] at hv435_0
              replace hv435_0:=Option.some.inj (hv435_0.symm.trans hx435_0)
              rw[hv435_0] at ge435_0
              have HL435_0:=am (show Kd.R (Kd.int .i64) 3 _ _ _ _ (rd_L5 t422 x18_3) from ge435_0)
              clear hv435_0 ge435_0
              clear hcc435 hce435
              have HR435_0:=am hi435_0
              have HC435_0:=am hl435_0
              clear hi435_0 hl435_0
              replace p435:=eq_true p435
              replace q435:=eq_true q435
              have ea_:=Option.some.inj (hx433_0.symm.trans hx435_0)
              injection ea_ with ea_ en_ ec_
              subst ea_
              subst ec_
              clear en_
              have p436:0≤(1:Int):=(by omega)
              have q436:1<((rd_L5 t422 x18_3).length:Int):=od
              obtain⟨ad436,e436,hx436_0⟩:=Kd.at_int (by repeat(first|(with_reducible exact HR435_0.out)|(with_reducible refine Kd.C_alloc ?_ _)|(with_reducible refine Kd.C_drewN ?_ _)|(with_reducible refine Kd.C_drew ?_)|exact HR435_0.out)) 1 p436 q436
              cases e436
              (try simp only[show(1:Int).toNat=1 from rfl,Nat.reduceMul,Nat.reduceEqDiff,Go.Addr.add,↓reduceIte] at hx436_0)
              have qi436:(1<(rd_L5 t422 x18_3).length)=True:=eq_true (by omega)
              (try rw[show((1:Int)).toNat=1 from rfl] at hx436_0)
              replace p436:=eq_true p436
              replace q436:=eq_true q436
              have p104:0≤(x18_3:Int):=od
              have q104:(x18_3:Int)<((x15_2.length:Int):Int):=od
              obtain⟨go104,co104,eo104,gb104,gl104,cl104,HG104⟩:=Kd.R_form HO_15.out (by omega)
              (first|cases eo104|(injection eo104 with ea_ en_ ec_;(first|subst ea_|(injection ea_ with ea_;subst ea_));subst ec_;clear en_))
              have GB104:=am gb104
              have GG104:=am HG104
              clear gb104 gl104 HG104
              obtain⟨hx104_0,hf104_0⟩:=Kd.R_celln false HO_15.out (x18_3:Int) p104 q104
              replace p104:=eq_true p104
              replace q104:=eq_true q104
              have HP109:=Kd.R_putg HO_15.out (x18_3:Int) true
              go_wp2_with (first|((with_reducible refine gate_store (t:=4) (p:=112) rfl ?_);(try(rw[drewN_self wr];generalize hq_:World.drewN wr _=wr;replace HO_14:=am (Kd.S_at hq_ HO_14.out);replace HO_15:=am (Kd.R_at hq_ HO_15.out);replace HO_55:=am (Kd.R_at hq_ HO_55.out);replace HL433_0:=am (Kd.R_at hq_ HL433_0.out);replace HL435_0:=am (Kd.R_at hq_ HL435_0.out);replace BK411:=am (blk_at hq_ BK411.out);replace BK412:=am (blk_at hq_ BK412.out);replace BK429:=am (blk_at hq_ BK429.out);replace HB:=am (below_at hq_ HB.out);clear hq_;(try(have HP109:=Kd.R_putg HO_15.out (x18_3:Int) true));(try(obtain⟨hx104_0,hf104_0⟩:=Kd.R_celln false HO_15.out (x18_3:Int) (of_eq_true p104) (of_eq_true q104)))));refine store_event (t:=4) (p:=112) (v:=?vo_w110) (w1:=(wr.setCell ⟨go104,(x18_3:Int).toNat,none⟩ (.bool true))) ?hg ?ho ?hn ?hr ?_;(case ho=>rfl);(case hg=>rfl);(case hn=>rfl);(case hr=>first|(go_simp;done)|(go_simp;rfl));intro w110 hw;have hg:wr.grownBy w110 (some go104):=(by rw[hw];exact HP109.2);have hp_:Kd.R Kd.bool 4 w110 w.heap.size (fun _=>True) (.slice (some ⟨go104,0,none⟩) x15_2.length co104) y437:=(by rw[hw,Ny437.out];exact HP109.1);clear HP109;replace HO_14:=am (Kd.S_over' (v:=(.slice (some ⟨go104,0,none⟩) x15_2.length co104)) (by(with_reducible repeat(first|apply Kd.S_alloc|apply Kd.S_drewN|apply Kd.S_drew));exact HO_14.out) (Kd.R_typed HO_15.out) (by decide) hg);replace HO_55:=am (Kd.R_over' (v:=(.slice (some ⟨go104,0,none⟩) x15_2.length co104)) (rup HO_55.out) (Kd.R_typed HO_15.out) (by decide) hg);replace BK411:=am (blk_grown (bup BK411.out) hg (Kd.R_ne HO_15.out BK411.out (by decide)));replace BK412:=am (blk_grown (bup BK412.out) hg (Kd.R_ne HO_15.out BK412.out (by decide)));replace BK429:=am (blk_grown (bup BK429.out) hg (Kd.R_ne HO_15.out BK429.out (by decide)));replace HL433_0:=am (Kd.R_over' (v:=(.slice (some ⟨go104,0,none⟩) x15_2.length co104)) (rup (HL433_0.out)) (Kd.R_typed HO_15.out) (by decide) hg);replace HL435_0:=am (Kd.R_over' (v:=(.slice (some ⟨go104,0,none⟩) x15_2.length co104)) (rup (HL435_0.out)) (Kd.R_typed HO_15.out) (by decide) hg);replace HO_15:=am (hp_);replace HB:=am ((by rw[hw];exact below_set (HB.out) GB104.out:Below w.heap.size w w110));clear hg hw hp_))
              repeat(go_quiet (first|((with_reducible refine gate_store (t:=4) (p:=112) rfl ?_);(try(rw[drewN_self wr];generalize hq_:World.drewN wr _=wr;replace HO_14:=am (Kd.S_at hq_ HO_14.out);replace HO_15:=am (Kd.R_at hq_ HO_15.out);replace HO_55:=am (Kd.R_at hq_ HO_55.out);replace HL433_0:=am (Kd.R_at hq_ HL433_0.out);replace HL435_0:=am (Kd.R_at hq_ HL435_0.out);replace BK411:=am (blk_at hq_ BK411.out);replace BK412:=am (blk_at hq_ BK412.out);replace BK429:=am (blk_at hq_ BK429.out);replace HB:=am (below_at hq_ HB.out);clear hq_;(try(have HP109:=Kd.R_putg HO_15.out (x18_3:Int) true));(try(obtain⟨hx104_0,hf104_0⟩:=Kd.R_celln false HO_15.out (x18_3:Int) (of_eq_true p104) (of_eq_true q104)))));refine store_event (t:=4) (p:=112) (v:=?vo_w110) (w1:=(wr.setCell ⟨go104,(x18_3:Int).toNat,none⟩ (.bool true))) ?hg ?ho ?hn ?hr ?_;(case ho=>rfl);(case hg=>rfl);(case hn=>rfl);(case hr=>first|(go_simp;done)|(go_simp;rfl));intro w110 hw;have hg:wr.grownBy w110 (some go104):=(by rw[hw];exact HP109.2);have hp_:Kd.R Kd.bool 4 w110 w.heap.size (fun _=>True) (.slice (some ⟨go104,0,none⟩) x15_2.length co104) y437:=(by rw[hw,Ny437.out];exact HP109.1);clear HP109;replace HO_14:=am (Kd.S_over' (v:=(.slice (some ⟨go104,0,none⟩) x15_2.length co104)) (by(with_reducible repeat(first|apply Kd.S_alloc|apply Kd.S_drewN|apply Kd.S_drew));exact HO_14.out) (Kd.R_typed HO_15.out) (by decide) hg);replace HO_55:=am (Kd.R_over' (v:=(.slice (some ⟨go104,0,none⟩) x15_2.length co104)) (rup HO_55.out) (Kd.R_typed HO_15.out) (by decide) hg);replace BK411:=am (blk_grown (bup BK411.out) hg (Kd.R_ne HO_15.out BK411.out (by decide)));replace BK412:=am (blk_grown (bup BK412.out) hg (Kd.R_ne HO_15.out BK412.out (by decide)));replace BK429:=am (blk_grown (bup BK429.out) hg (Kd.R_ne HO_15.out BK429.out (by decide)));replace HL433_0:=am (Kd.R_over' (v:=(.slice (some ⟨go104,0,none⟩) x15_2.length co104)) (rup (HL433_0.out)) (Kd.R_typed HO_15.out) (by decide) hg);replace HL435_0:=am (Kd.R_over' (v:=(.slice (some ⟨go104,0,none⟩) x15_2.length co104)) (rup (HL435_0.out)) (Kd.R_typed HO_15.out) (by decide) hg);replace HO_15:=am (hp_);replace HB:=am ((by rw[hw];exact below_set (HB.out) GB104.out:Below w.heap.size w w110));clear hg hw hp_));try go_wp2_with (first|((with_reducible refine gate_store (t:=4) (p:=112) rfl ?_);(try(rw[drewN_self wr];generalize hq_:World.drewN wr _=wr;replace HO_14:=am (Kd.S_at hq_ HO_14.out);replace HO_15:=am (Kd.R_at hq_ HO_15.out);replace HO_55:=am (Kd.R_at hq_ HO_55.out);replace HL433_0:=am (Kd.R_at hq_ HL433_0.out);replace HL435_0:=am (Kd.R_at hq_ HL435_0.out);replace BK411:=am (blk_at hq_ BK411.out);replace BK412:=am (blk_at hq_ BK412.out);replace BK429:=am (blk_at hq_ BK429.out);replace HB:=am (below_at hq_ HB.out);clear hq_;(try(have HP109:=Kd.R_putg HO_15.out (x18_3:Int) true));(try(obtain⟨hx104_0,hf104_0⟩:=Kd.R_celln false HO_15.out (x18_3:Int) (of_eq_true p104) (of_eq_true q104)))));refine store_event (t:=4) (p:=112) (v:=?vo_w110) (w1:=(wr.setCell ⟨go104,(x18_3:Int).toNat,none⟩ (.bool true))) ?hg ?ho ?hn ?hr ?_;(case ho=>rfl);(case hg=>rfl);(case hn=>rfl);(case hr=>first|(go_simp;done)|(go_simp;rfl));intro w110 hw;have hg:wr.grownBy w110 (some go104):=(by rw[hw];exact HP109.2);have hp_:Kd.R Kd.bool 4 w110 w.heap.size (fun _=>True) (.slice (some ⟨go104,0,none⟩) x15_2.length co104) y437:=(by rw[hw,Ny437.out];exact HP109.1);clear HP109;replace HO_14:=am (Kd.S_over' (v:=(.slice (some ⟨go104,0,none⟩) x15_2.length co104)) (by(with_reducible repeat(first|apply Kd.S_alloc|apply Kd.S_drewN|apply Kd.S_drew));exact HO_14.out) (Kd.R_typed HO_15.out) (by decide) hg);replace HO_55:=am (Kd.R_over' (v:=(.slice (some ⟨go104,0,none⟩) x15_2.length co104)) (rup HO_55.out) (Kd.R_typed HO_15.out) (by decide) hg);replace BK411:=am (blk_grown (bup BK411.out) hg (Kd.R_ne HO_15.out BK411.out (by decide)));replace BK412:=am (blk_grown (bup BK412.out) hg (Kd.R_ne HO_15.out BK412.out (by decide)));replace BK429:=am (blk_grown (bup BK429.out) hg (Kd.R_ne HO_15.out BK429.out (by decide)));replace HL433_0:=am (Kd.R_over' (v:=(.slice (some ⟨go104,0,none⟩) x15_2.length co104)) (rup (HL433_0.out)) (Kd.R_typed HO_15.out) (by decide) hg);replace HL435_0:=am (Kd.R_over' (v:=(.slice (some ⟨go104,0,none⟩) x15_2.length co104)) (rup (HL435_0.out)) (Kd.R_typed HO_15.out) (by decide) hg);replace HO_15:=am (hp_);replace HB:=am ((by rw[hw];exact below_set (HB.out) GB104.out:Below w.heap.size w w110));clear hg hw hp_)))
              go_roundg k3
              case measure=>have:=HJ5.out;have:=HK2.out;have:=HK3.out;omega
              case rel=>exact⟨(y437),(wrap64 (x57_2+1)),fin2,H',⟨by have:=HJ5.out;have:=HK2.out;have:=HK3.out;omega⟩,⟨by(with_reducible repeat(first|apply Kd.S_alloc|apply Kd.S_drewN|apply Kd.S_drew));exact HO_14.out⟩,⟨rup HO_15.out⟩,⟨rup (Kd.R_mono HO_55.out (fun _ hk=>trivial))⟩,⟨bup BK411.out⟩,⟨bup BK412.out⟩,⟨bl⟩⟩
       ·have c42b0:=decide_eq_false c42
        clear c42
        simp only[Option.some.injEq,Prod.mk.injEq] at H
        obtain⟨rfl,rfl⟩:=H
        go_wp2
        repeat(go_quiet (fail);try go_wp2)
        go_ret2
        exact⟨fin1,bl⟩
    ·have c29b0:((t416.length:Int) == (l1.length:Int))=false:=beq_eq_false_iff_ne.mpr c29
     have c29b1:((t416.length:Int) != (l1.length:Int))=true:=bne_iff_ne.mpr c29
     have c29b2:(t416.length == l1.length)=false:=by first|simpa using c29|(simp at c29 ⊢;omega)
     simp only[Option.some.injEq,Prod.mk.injEq] at H
     obtain⟨rfl,rfl⟩:=H
     have hnb111:=NB411_412.out
     have hnc111:=NB412_411.out
     have hcz112_0:=bc BK411.out 0
     have hcz112_1:=bc BK411.out 1
     have hfz112_0:=blk_frozen BK411.out 0
     have hfz112_1:=blk_frozen BK411.out 1
     have hcz113_0:=bc BK412.out 0
     have hcz113_1:=bc BK412.out 1
     have hcz113_2:=bc BK412.out 2
     have hfz113_0:=blk_frozen BK412.out 0
     have hfz113_1:=blk_frozen BK412.out 1
     have hfz113_2:=blk_frozen BK412.out 2
     go_wp2_with (first|(go_at_call 14;(with_reducible refine(impl_spoken.calls kj5 _ _ l0_0 a0_1 _ _ l2 a3_0 a3_1 a3_2 t416 t419 _ ?side1 ?side2 ?side3 ?side4 A28.out).mono ?_);(case side1=>exact cup (Kd.C_below HR0_0.out HB.out));(case side2=>exact HC0_0.out);(case side3=>exact cup (Kd.C_below HR2.out HB.out));(case side4=>exact HC2.out);rintro e w114 ⟨v417,v420,rfl,ho0,ho1,hb⟩;have HO418:=am (Kd.R_lower ho0 (below_size bl));have HO421:=am (Kd.R_lower ho1 (below_size bl));replace BK411:=am (blk_below (bup BK411.out) hb);replace BK412:=am (blk_below (bup BK412.out) hb);replace HB:=am (below_step bl hb);(try clear hb);(try clear ho0);(try clear ho1);obtain⟨Ao115,co115,eo115⟩:=Kd.R_slice HO418.out;subst eo115))
     repeat(go_quiet (first|(go_at_call 14;(with_reducible refine(impl_spoken.calls kj5 _ _ l0_0 a0_1 _ _ l2 a3_0 a3_1 a3_2 t416 t419 _ ?side1 ?side2 ?side3 ?side4 A28.out).mono ?_);(case side1=>exact cup (Kd.C_below HR0_0.out HB.out));(case side2=>exact HC0_0.out);(case side3=>exact cup (Kd.C_below HR2.out HB.out));(case side4=>exact HC2.out);rintro e w114 ⟨v417,v420,rfl,ho0,ho1,hb⟩;have HO418:=am (Kd.R_lower ho0 (below_size bl));have HO421:=am (Kd.R_lower ho1 (below_size bl));replace BK411:=am (blk_below (bup BK411.out) hb);replace BK412:=am (blk_below (bup BK412.out) hb);replace HB:=am (below_step bl hb);(try clear hb);(try clear ho0);(try clear ho1);obtain⟨Ao115,co115,eo115⟩:=Kd.R_slice HO418.out;subst eo115));try go_wp2_with (first|(go_at_call 14;(with_reducible refine(impl_spoken.calls kj5 _ _ l0_0 a0_1 _ _ l2 a3_0 a3_1 a3_2 t416 t419 _ ?side1 ?side2 ?side3 ?side4 A28.out).mono ?_);(case side1=>exact cup (Kd.C_below HR0_0.out HB.out));(case side2=>exact HC0_0.out);(case side3=>exact cup (Kd.C_below HR2.out HB.out));(case side4=>exact HC2.out);rintro e w114 ⟨v417,v420,rfl,ho0,ho1,hb⟩;have HO418:=am (Kd.R_lower ho0 (below_size bl));have HO421:=am (Kd.R_lower ho1 (below_size bl));replace BK411:=am (blk_below (bup BK411.out) hb);replace BK412:=am (blk_below (bup BK412.out) hb);replace HB:=am (below_step bl hb);(try clear hb);(try clear ho0);(try clear ho1);obtain⟨Ao115,co115,eo115⟩:=Kd.R_slice HO418.out;subst eo115)))
     go_ret2
     exact⟨fin1,bl⟩

end Go.Proofs.Ytdcchnfndhkfaaa.PFnPassesPlays
