/- The walks of functions that FnDrums reaches: what they return is what the plain functions of the same names say. Made by a program of this session after the kit's print. No conditions beyond the arguments' being read. -/
import Derived.Test.YtlhjjpdlfddflacSFnDrums0
import Derived.Test.YtlhjjpdlfddflacSFnDrums1
import Derived.Test.YtlhjjpdlfddflacSFnDrums3
namespace Go.Proofs.Ytlhjjpdlfddflac.PFnDrums
open Go.RowKit Go.Proofs.YtlhjjpdlfddflacW.PrintWords Go.Proofs.YtlhjjpdlfddflacW.PrintLast Go.Proofs.YtlhjjpdlfddflacW.PrintMore
attribute [local go_sem] max2_int min2_int max_two min_two max_three min_three max_four min_four   -- for this text's walks alone
set_option linter.unusedVariables false
set_option linter.unusedSimpArgs false

/-! ### spec_DrawLeastTurn: function 19 -/
def spec_DrawLeastTurn.j0:Nat→Bool→List Int→Int→Int→Int→List Int→Option (Int×List Int×Int×List Int)
 | 0,_,_,_,_,_,_=>none
 | k+1,x17,x384000,x384001,x384002,x391000,x391001=>if x17=true then((spec_l1Cur_pattern.f k x384000 x384001 x384002).bind fun bt395=>(some (x391000,x391001,bt395.1,bt395.2.1))) else((spec_l1Cur_pick.f x384000 x384001 x384002 x391000).bind fun bt401=>((spec_drTurn.f k x391000 x391001 bt401.1).bind fun bt404=>(some (x391000,x391001,bt404.1,bt404.2))))
def spec_DrawLeastTurn.f (k:Nat) (l0:List Int):Option (Int×List Int×Int×List Int):=(spec_l1Cur_pattern.f k l0 0 0).bind fun bt384=>((spec_drGood.f k bt384.1 bt384.2.1).bind fun t391=>(if t391=true then((spec_l1Cur_one.f l0 bt384.2.2.1 bt384.2.2.2 4).bind fun bt392=>(spec_DrawLeastTurn.j0 k bt392.1 l0 bt392.2.1 bt392.2.2 bt384.1 bt384.2.1)) else(spec_DrawLeastTurn.j0 k true l0 bt384.2.2.1 bt384.2.2.2 bt384.1 bt384.2.1)))
def spec_DrawLeastTurn.T5:Bool×List (List Nat×List Nat):=(true,[([],[]),([],[]),([],[]),([],[]),([3],[3]),([2,4],[2,4]),([1,5,5],[1,5]),([0,6,0],[0]),([6,7,0,1,2,3,4,5,6,7],[6])])
def spec_DrawLeastTurn.B5:List Nat:=[0,0,0,0,8,28,62,127,255]
theorem spec_DrawLeastTurn.tab5:rtab .any (opsOf Try.f19 5)=spec_DrawLeastTurn.T5:=by kernel_rfl
theorem spec_DrawLeastTurn.bits5:waitsOk spec_DrawLeastTurn.T5.2 spec_DrawLeastTurn.B5=true:=by kernel_rfl
set_option maxHeartbeats 8000000 in
set_option maxRecDepth 100000 in
theorem spec_DrawLeastTurn.calls (k:Nat) (A0:Option Addr) (c0:Nat) (l0:List Int) (r1:Int) (r2:List Int) (r3:Int) (r4:List Int) (w:World) (hr0:Kd.C (Kd.int .u8) w A0 l0.length l0) (hc0:l0.length≤c0) (h:spec_DrawLeastTurn.f k l0=some (r1,r2,r3,r4)) :
  Calls Try.prog 19 #[.slice A0 l0.length c0] w fun e w'=>∃ v1_ v3_:Value,e = .returned (.tuple #[.agg #[.int .i64 r1,v1_],.agg #[.int .i64 r3,v3_]])∧Kd.R (Kd.int .i64) 3 w' w.heap.size (fun k_=>some k_≠(v3_:Value).ownBlock) v1_ r2∧Kd.R (Kd.int .i64) 3 w' w.heap.size (fun k_=>some k_≠(v1_:Value).ownBlock) v3_ r4∧Below w.heap.size w w':=by
 have hu26:=Try.underlying26
 have hu45:=Try.underlying45
 have HR0:=am hr0
 have HC0:=am hc0
 clear hr0 hc0
 have HB:=am (Below.refl w.heap.size w)
 have H:((spec_l1Cur_pattern.f k l0 0 0).bind fun bt384=>((spec_drGood.f k bt384.1 bt384.2.1).bind fun t391=>(if t391=true then((spec_l1Cur_one.f l0 bt384.2.2.1 bt384.2.2.2 4).bind fun bt392=>(spec_DrawLeastTurn.j0 k bt392.1 l0 bt392.2.1 bt392.2.2 bt384.1 bt384.2.1)) else(spec_DrawLeastTurn.j0 k true l0 bt384.2.2.1 bt384.2.2.2 bt384.1 bt384.2.1))))=some (r1,r2,r3,r4):=h
 clear h
 replace H:=Option.bind_eq_some_iff.mp H
 obtain⟨⟨t384,t385,t388,t389⟩,A20,H⟩:=H
 replace H:((spec_drGood.f k t384 t385).bind fun t391=>(if t391=true then((spec_l1Cur_one.f l0 t388 t389 4).bind fun bt392=>(spec_DrawLeastTurn.j0 k bt392.1 l0 bt392.2.1 bt392.2.2 t384 t385)) else(spec_DrawLeastTurn.j0 k true l0 t388 t389 t384 t385)))=some (r1,r2,r3,r4):=H
 have A2:=am A20
 clear A20
 have HC3:=am H
 clear H
 go_enter Try.func19,Try.ntmps19
 go_upto_region 3 with(first|((with_reducible refine gate_dst (N:=2) rfl ?_);refine box_event ?hg (N:=2) ?hd (cs := #[.int .i64 0,.slice none 0 0]) (t:=26) ?hr ?_;(case hd=>rfl);(case hg=>rfl);(case hr=>first|(go_simp;done)|(go_simp;rfl));intro gb381 hg w4 hbox hb;have n0_:=am (below_step bl hb);have n1_:=am (hbox);have n2_:=am (ge_ bl hg);have n3_:=am (ge_ bl hg);clear HB;have HB:=n0_;have BK381:=n1_;have GW381:=n2_;have GE381:=n3_;clear n0_ n1_ n2_ n3_ hb hbox hg)|((with_reducible refine gate_dst (N:=3) rfl ?_);refine box_event ?hg (N:=3) ?hd (cs := #[.int .i64 0,.slice none 0 0]) (t:=26) ?hr ?_;(case hd=>rfl);(case hg=>rfl);(case hr=>first|(go_simp;done)|(go_simp;rfl));intro gb382 hg w5 hbox hb;have n0_:=am (blk_below (bup BK381.out) hb);have n1_:=am (below_step bl hb);have n2_:=am (hbox);have n3_:=am (ge_ bl hg);have n4_:=am (ge_ bl hg);have n5_:=am (nl (bup BK381.out) hg);have n6_:=am (ng (bup BK381.out) hg);clear BK381 HB;have BK381:=n0_;have HB:=n1_;have BK382:=n2_;have GW382:=n3_;have GE382:=n4_;have NB381_382:=n5_;have NB382_381:=n6_;clear n0_ n1_ n2_ n3_ n4_ n5_ n6_ hb hbox hg)|((with_reducible refine gate_dst (N:=8) rfl ?_);refine box_event ?hg (N:=8) ?hd (cs := #[.slice A0 l0.length c0,.int .i64 0,.int .u64 0]) (t:=45) ?hr ?_;(case hd=>rfl);(case hg=>rfl);(case hr=>first|(go_simp;done)|(go_simp;rfl));intro gb383 hg w6 hbox hb;have n0_:=am (blk_below (bup BK381.out) hb);have n1_:=am (blk_below (bup BK382.out) hb);have n2_:=am (below_step bl hb);have n3_:=am (hbox);have n4_:=am (ge_ bl hg);have n5_:=am (ge_ bl hg);have n6_:=am (nl (bup BK381.out) hg);have n7_:=am (ng (bup BK381.out) hg);have n8_:=am (nl (bup BK382.out) hg);have n9_:=am (ng (bup BK382.out) hg);have n10_:=am ((show IsS45 w w6 gb383 l0 0 0 from⟨_,_,hbox,(by rw[hg];exact(below_size bl):w.heap.size≤gb383),HR0.out⟩));clear BK381 BK382 HB;have BK381:=n0_;have BK382:=n1_;have HB:=n2_;have BK383:=n3_;have GW383:=n4_;have GE383:=n5_;have NB381_383:=n6_;have NB383_381:=n7_;have NB382_383:=n8_;have NB383_382:=n9_;have HI383:=n10_;clear n0_ n1_ n2_ n3_ n4_ n5_ n6_ n7_ n8_ n9_ n10_ hb hbox hg)|((with_reducible refine gate_callee (f:=20) rfl ?_);refine goesL_ (some 10) rfl rfl Try.func20 (by kernel_rfl) rfl #[.pointer (some ⟨gb383,0,none⟩)] rfl tl ?_;(with_reducible refine(spec_l1Cur_pattern.calls k gb383 l0 0 0 t384 t385 t388 t389 w _ ?side1 ?side2 A2.out).mono ?_);(case side1=>repeat(first|(with_reducible first|exact HI383.out|apply IsS45.alloc|apply IsS45.drewN|apply IsS45.drew|apply IsS45.set_1|apply IsS45.set_2|refine IsS45.far ?_ NB383_381.out _|refine IsS45.far ?_ NB383_382.out _)|exact HI383.out));(case side2=>repeat(first|(with_reducible first|exact HB.out|apply below_alloc|apply pw_below_drewN|apply below_drew1|refine below_set ?_ (IsS45.ge HI383.out)|refine below_set ?_ GE381.out|refine below_set ?_ GE382.out)|exact HB.out));rintro e w7 ⟨v386,rfl,ho0,hi,hb,hk⟩;refine⟨_,rfl,?_⟩;have n0_:=am (KeepBut.blk hk (g':=gb381) (o := .cells #[.int .i64 0,.slice none 0 0] 26 (0,0)) (bup BK381.out) NB381_383.out (by simp));have n1_:=am (KeepBut.blk hk (g':=gb382) (o := .cells #[.int .i64 0,.slice none 0 0] 26 (0,0)) (bup BK382.out) NB382_383.out (by simp));have n2_:=am (Kd.R_lower ho0 (below_size (by repeat(first|(with_reducible first|exact HB.out|apply below_alloc|apply pw_below_drewN|apply below_drew1|refine below_set ?_ (IsS45.ge HI383.out)|refine below_set ?_ GE381.out|refine below_set ?_ GE382.out)|exact HB.out))));have n3_:=am (hb);have n4_:=am (hi);clear BK381 BK382 HB HI383;have BK381:=n0_;have BK382:=n1_;have HO387:=n2_;have HB:=n3_;have HI383:=n4_;clear n0_ n1_ n2_ n3_ n4_;(try clear hb);(try clear hb2);(try clear hk);(try clear hi);(try clear ho0))|((with_reducible refine gate_dst (N:=5) rfl ?_);refine box_event ?hg (N:=5) ?hd (cs := #[.int .i64 0,.slice none 0 0]) (t:=26) ?hr ?_;(case hd=>rfl);(case hg=>rfl);(case hr=>first|(go_simp;done)|(go_simp;rfl));intro gb390 hg w8 hbox hb;have n0_:=am (Kd.R_below (rup HO387.out) hb);have n1_:=am (blk_below (bup BK381.out) hb);have n2_:=am (blk_below (bup BK382.out) hb);have n3_:=am (IsS45.below (by repeat(first|(with_reducible first|exact HI383.out|apply IsS45.alloc|apply IsS45.drewN|apply IsS45.drew|apply IsS45.set_1|apply IsS45.set_2|refine IsS45.far ?_ NB383_381.out _|refine IsS45.far ?_ NB383_382.out _)|exact HI383.out)) hb);have n4_:=am (below_step (by repeat(first|(with_reducible first|exact HB.out|apply below_alloc|apply pw_below_drewN|apply below_drew1|refine below_set ?_ (IsS45.ge HI383.out)|refine below_set ?_ GE381.out|refine below_set ?_ GE382.out)|exact HB.out)) hb);have n5_:=am (hbox);have n6_:=am ((by rw[hg];exact(below_size (by repeat(first|(with_reducible first|exact HB.out|apply below_alloc|apply pw_below_drewN|apply below_drew1|refine below_set ?_ (IsS45.ge HI383.out)|refine below_set ?_ GE381.out|refine below_set ?_ GE382.out)|exact HB.out))):w.heap.size≤gb390));have n7_:=am ((by rw[hg];exact(below_size (by repeat(first|(with_reducible first|exact HB.out|apply below_alloc|apply pw_below_drewN|apply below_drew1|refine below_set ?_ (IsS45.ge HI383.out)|refine below_set ?_ GE381.out|refine below_set ?_ GE382.out)|exact HB.out))):w.heap.size≤gb390));have n8_:=am (nl (bup BK381.out) hg);have n9_:=am (ng (bup BK381.out) hg);have n10_:=am (nl (bup BK382.out) hg);have n11_:=am (ng (bup BK382.out) hg);have n12_:=am ((by rw[hg];exact Nat.ne_of_lt (IsS45.lt (show IsS45 w _ gb383 l0 t388 t389 from by repeat(first|(with_reducible first|exact HI383.out|apply IsS45.alloc|apply IsS45.drewN|apply IsS45.drew|apply IsS45.set_1|apply IsS45.set_2|refine IsS45.far ?_ NB383_381.out _|refine IsS45.far ?_ NB383_382.out _)|exact HI383.out))):gb383≠gb390));have n13_:=am ((by rw[hg];exact Nat.ne_of_gt (IsS45.lt (show IsS45 w _ gb383 l0 t388 t389 from by repeat(first|(with_reducible first|exact HI383.out|apply IsS45.alloc|apply IsS45.drewN|apply IsS45.drew|apply IsS45.set_1|apply IsS45.set_2|refine IsS45.far ?_ NB383_381.out _|refine IsS45.far ?_ NB383_382.out _)|exact HI383.out))):gb390≠gb383));clear HO387 BK381 BK382 HI383 HB;have HO387:=n0_;have BK381:=n1_;have BK382:=n2_;have HI383:=n3_;have HB:=n4_;have BK390:=n5_;have GW390:=n6_;have GE390:=n7_;have NB381_390:=n8_;have NB390_381:=n9_;have NB382_390:=n10_;have NB390_382:=n11_;have NB383_390:=n12_;have NB390_383:=n13_;clear n0_ n1_ n2_ n3_ n4_ n5_ n6_ n7_ n8_ n9_ n10_ n11_ n12_ n13_ hb hbox hg;have hnb9:=NB390_381.out;have hnc9:=NB381_390.out;have hnb10:=NB390_382.out;have hnc10:=NB382_390.out;have hnb11:=NB390_383.out;have hnc11:=NB383_390.out;have hcz12_0:w8.cell? ⟨gb390,0,none⟩=some (.int .i64 0):=(blk_cell BK390.out 0).trans rfl;have hcz12_1:w8.cell? ⟨gb390,1,none⟩=some (.slice none 0 0):=(blk_cell BK390.out 1).trans rfl;have hfz12_0:=blk_frozen BK390.out 0;have hfz12_1:=blk_frozen BK390.out 1;obtain⟨Ao13,co13,eo13⟩:=Kd.R_slice HO387.out;subst eo13))
 (try simp only[Act.put,List.setIfInBounds_toArray,List.set_cons_zero,List.set_cons_succ])
 go_cut [17] (fun v17 wc=>∃(kq:Nat) (x17_2:Bool) (x384001_2:Int) (x384002_2:Int),v17 = .bool x17_2∧Aside0 (spec_DrawLeastTurn.j0 kq x17_2 l0 x384001_2 x384002_2 t384 t385=some (r1,r2,r3,r4))∧Aside0 (kq≤k)∧Aside0 (Kd.R (Kd.int .i64) 3 wc w.heap.size (fun _=>True) (.slice Ao13 t385.length co13) t385)∧Aside0 (wc.heap[gb381]?=some (.cells #[.int .i64 0,(.slice none 0 0)] 26 (0,0)))∧Aside0 (wc.heap[gb382]?=some (.cells #[.int .i64 0,(.slice none 0 0)] 26 (0,0)))∧Aside0 (wc.heap[gb390]?=some (.cells #[.int .i64 t384,(.slice Ao13 t385.length co13)] 26 (0,0)))∧Aside0 (IsS45 w wc gb383 l0 x384001_2 x384002_2)∧Aside0 (Below w.heap.size w wc))
 case first =>
  have H:=HC3.out
  clear HC3
  replace H:=Option.bind_eq_some_iff.mp H
  obtain⟨t391,A140,H⟩:=H
  replace H:(if t391=true then((spec_l1Cur_one.f l0 t388 t389 4).bind fun bt392=>(spec_DrawLeastTurn.j0 k bt392.1 l0 bt392.2.1 bt392.2.2 t384 t385)) else(spec_DrawLeastTurn.j0 k true l0 t388 t389 t384 t385))=some (r1,r2,r3,r4):=H
  have A14:=am A140
  clear A140
  by_cases c15:t391=true
  ·subst c15
   have H1:((spec_l1Cur_one.f l0 t388 t389 4).bind fun bt392=>(spec_DrawLeastTurn.j0 k bt392.1 l0 bt392.2.1 bt392.2.2 t384 t385))=some (r1,r2,r3,r4):=by rw[if_pos rfl] at H;exact H
   clear H
   have H:=H1
   clear H1
   replace H:=Option.bind_eq_some_iff.mp H
   obtain⟨⟨t392,t393,t394⟩,A160,H⟩:=H
   replace H:(spec_DrawLeastTurn.j0 k t392 l0 t393 t394 t384 t385)=some (r1,r2,r3,r4):=H
   have A16:=am A160
   clear A160
   have H':=am H
   clear H
   have hnb17:=NB390_381.out
   have hnc17:=NB381_390.out
   have hnb18:=NB390_382.out
   have hnc18:=NB382_390.out
   have hnb19:=NB390_383.out
   have hnc19:=NB383_390.out
   have hcz20_0:w8.cell? ⟨gb390,0,none⟩=some (.int .i64 0):=(blk_cell BK390.out 0).trans rfl
   have hcz20_1:w8.cell? ⟨gb390,1,none⟩=some (.slice none 0 0):=(blk_cell BK390.out 1).trans rfl
   have hfz20_0:=blk_frozen BK390.out 0
   have hfz20_1:=blk_frozen BK390.out 1
   go_wp2_with (first|((with_reducible refine gate_callee (f:=24) rfl ?_);refine goesL_ (some 12) rfl rfl Try.func24 (by kernel_rfl) rfl #[.agg #[.int .i64 t384,.slice Ao13 t385.length co13]] rfl tl ?_;(with_reducible refine(spec_drGood.calls k t384 _ _ t385 true _ ?side1 ?side2 A14.out).mono ?_);(case side1=>refine(Kd.R_reads' (e:=3) (base:=w.heap.size) (ok:=fun k_=>True) (n:=t385.length) (c:=co13) ?_).2.2;exact(by(with_reducible repeat(first|apply Kd.R_alloc|apply Kd.R_drewN|apply Kd.R_drew));exact(Kd.R_mono (Kd.R_far (p:=⟨gb390,1,none⟩) (Kd.R_far (p:=⟨gb390,0,none⟩) (Kd.R_types HO387.out BK390.out (by decide)) (fun _ hk=>hk.2) (.int .i64 t384)) (fun _ hk=>hk.2) (.slice Ao13 t385.length co13)) (fun _ h_=>h_.1))));(case side2=>exact(Kd.R_reads' HO387.out).2.1);rintro e w21 ⟨rfl,hb⟩;refine⟨_,rfl,?_⟩;have n0_:=am (Kd.R_below (by(with_reducible repeat(first|apply Kd.R_alloc|apply Kd.R_drewN|apply Kd.R_drew));exact(Kd.R_mono (Kd.R_far (p:=⟨gb390,1,none⟩) (Kd.R_far (p:=⟨gb390,0,none⟩) (Kd.R_types HO387.out BK390.out (by decide)) (fun _ hk=>hk.2) (.int .i64 t384)) (fun _ hk=>hk.2) (.slice Ao13 t385.length co13)) (fun _ h_=>h_.1))) hb);have n1_:=am (blk_below (g:=gb381) (o := .cells #[.int .i64 0,.slice none 0 0] 26 (0,0)) (by(with_reducible repeat(first|refine bN_ ?_ _|refine bD_ ?_|refine bA_ ?_ _));refine blk_far ?_ NB381_390.out _;(with_reducible repeat(first|refine bN_ ?_ _|refine bD_ ?_|refine bA_ ?_ _));refine blk_far ?_ NB381_390.out _;exact bup BK381.out) hb);have n2_:=am (blk_below (g:=gb382) (o := .cells #[.int .i64 0,.slice none 0 0] 26 (0,0)) (by(with_reducible repeat(first|refine bN_ ?_ _|refine bD_ ?_|refine bA_ ?_ _));refine blk_far ?_ NB382_390.out _;(with_reducible repeat(first|refine bN_ ?_ _|refine bD_ ?_|refine bA_ ?_ _));refine blk_far ?_ NB382_390.out _;exact bup BK382.out) hb);have n3_:=am (IsS45.below (show IsS45 w ((w8.setCell ⟨gb390,0,none⟩ (.int .i64 t384)).setCell ⟨gb390,1,none⟩ (.slice Ao13 t385.length co13)) gb383 l0 t388 t389 from by repeat(first|(with_reducible first|exact HI383.out|apply IsS45.alloc|apply IsS45.drewN|apply IsS45.drew|apply IsS45.set_1|apply IsS45.set_2|refine IsS45.far ?_ NB383_381.out _|refine IsS45.far ?_ NB383_382.out _|refine IsS45.far ?_ NB383_390.out _)|exact HI383.out)) hb);have n4_:=am (blk_below (g:=gb390) (o := .cells #[.int .i64 t384,.slice Ao13 t385.length co13] 26 (0,0)) (by(with_reducible repeat(first|refine bN_ ?_ _|refine bD_ ?_|refine bA_ ?_ _));refine blk_put (cs := #[.int .i64 t384,.slice none 0 0]) ?_ 1 _ rfl;(with_reducible repeat(first|refine bN_ ?_ _|refine bD_ ?_|refine bA_ ?_ _));refine blk_put (cs := #[.int .i64 0,.slice none 0 0]) ?_ 0 _ rfl;exact bup BK390.out) hb);have n5_:=am (below_step (by repeat(first|(with_reducible first|exact HB.out|apply below_alloc|apply pw_below_drewN|apply below_drew1|refine below_set ?_ (IsS45.ge HI383.out)|refine below_set ?_ GE381.out|refine below_set ?_ GE382.out|refine below_set ?_ GE390.out)|exact HB.out)) hb);clear HO387 BK381 BK382 HI383 BK390 HB;have HO387:=n0_;have BK381:=n1_;have BK382:=n2_;have HI383:=n3_;have BK390:=n4_;have HB:=n5_;clear n0_ n1_ n2_ n3_ n4_ n5_;(try clear hb);(try clear hb2);(try clear hk);(try clear hi))|(go_at_call 35;(with_reducible refine(spec_l1Cur_one.calls gb383 l0 t388 t389 4 t392 t393 t394 w _ ?side1 ?side2 A16.out).mono ?_);(case side1=>repeat(first|(with_reducible first|exact HI383.out|apply IsS45.alloc|apply IsS45.drewN|apply IsS45.drew|apply IsS45.set_1|apply IsS45.set_2|refine IsS45.far ?_ NB383_381.out _|refine IsS45.far ?_ NB383_382.out _|refine IsS45.far ?_ NB383_390.out _)|exact HI383.out));(case side2=>repeat(first|(with_reducible first|exact HB.out|apply below_alloc|apply pw_below_drewN|apply below_drew1|refine below_set ?_ (IsS45.ge HI383.out)|refine below_set ?_ GE381.out|refine below_set ?_ GE382.out|refine below_set ?_ GE390.out)|exact HB.out));rintro e w22 ⟨rfl,hi,hb,hk⟩;have n0_:=am (KeepBut.blk hk (g':=gb381) (o := .cells #[.int .i64 0,.slice none 0 0] 26 (0,0)) (bup BK381.out) NB381_383.out (by simp));have n1_:=am (KeepBut.blk hk (g':=gb382) (o := .cells #[.int .i64 0,.slice none 0 0] 26 (0,0)) (bup BK382.out) NB382_383.out (by simp));have n2_:=am (Kd.R_mono (Kd.R_keep (IsS45.apart (show IsS45 w _ gb383 l0 t388 t389 from by repeat(first|(with_reducible first|exact HI383.out|apply IsS45.alloc|apply IsS45.drewN|apply IsS45.drew|apply IsS45.set_1|apply IsS45.set_2|refine IsS45.far ?_ NB383_381.out _|refine IsS45.far ?_ NB383_382.out _|refine IsS45.far ?_ NB383_390.out _)|exact HI383.out)) (rup HO387.out) (by decide)) hk (fun _ h=>h.2)) (fun _ h=>h.1));have n3_:=am (KeepBut.blk hk (g':=gb390) (o := .cells #[.int .i64 t384,.slice Ao13 t385.length co13] 26 (0,0)) (bup BK390.out) NB390_383.out (by simp));have n4_:=am (hb);have n5_:=am (hi);clear BK381 BK382 HO387 BK390 HB HI383;have BK381:=n0_;have BK382:=n1_;have HO387:=n2_;have BK390:=n3_;have HB:=n4_;have HI383:=n5_;clear n0_ n1_ n2_ n3_ n4_ n5_;(try clear hb);(try clear hb2);(try clear hk);(try clear hi)))
   go_meet
   case rel=>exact⟨_,(t392),(t393),(t394),fin2,H',⟨by first|omega|exact Nat.le_refl _⟩,⟨rup HO387.out⟩,⟨bup BK381.out⟩,⟨bup BK382.out⟩,⟨bup BK390.out⟩,⟨by repeat(first|(with_reducible first|exact HI383.out|apply IsS45.alloc|apply IsS45.drewN|apply IsS45.drew|apply IsS45.set_1|apply IsS45.set_2|refine IsS45.far ?_ NB383_381.out _|refine IsS45.far ?_ NB383_382.out _|refine IsS45.far ?_ NB383_390.out _)|exact HI383.out)⟩,⟨by repeat(first|(with_reducible first|exact HB.out|apply below_alloc|apply pw_below_drewN|apply below_drew1|refine below_set ?_ (IsS45.ge HI383.out)|refine below_set ?_ GE381.out|refine below_set ?_ GE382.out|refine below_set ?_ GE390.out)|exact HB.out)⟩⟩
  ·replace c15:=Bool.eq_false_iff.mpr c15
   subst c15
   have H1:(spec_DrawLeastTurn.j0 k true l0 t388 t389 t384 t385)=some (r1,r2,r3,r4):=by rw[if_neg (show ¬ (false=true) by decide)] at H;exact H
   clear H
   have H:=H1
   clear H1
   have H':=am H
   clear H
   have hnb23:=NB390_381.out
   have hnc23:=NB381_390.out
   have hnb24:=NB390_382.out
   have hnc24:=NB382_390.out
   have hnb25:=NB390_383.out
   have hnc25:=NB383_390.out
   have hcz26_0:w8.cell? ⟨gb390,0,none⟩=some (.int .i64 0):=(blk_cell BK390.out 0).trans rfl
   have hcz26_1:w8.cell? ⟨gb390,1,none⟩=some (.slice none 0 0):=(blk_cell BK390.out 1).trans rfl
   have hfz26_0:=blk_frozen BK390.out 0
   have hfz26_1:=blk_frozen BK390.out 1
   go_wp2_with (first|((with_reducible refine gate_callee (f:=24) rfl ?_);refine goesL_ (some 12) rfl rfl Try.func24 (by kernel_rfl) rfl #[.agg #[.int .i64 t384,.slice Ao13 t385.length co13]] rfl tl ?_;(with_reducible refine(spec_drGood.calls k t384 _ _ t385 false _ ?side1 ?side2 A14.out).mono ?_);(case side1=>refine(Kd.R_reads' (e:=3) (base:=w.heap.size) (ok:=fun k_=>True) (n:=t385.length) (c:=co13) ?_).2.2;exact(by(with_reducible repeat(first|apply Kd.R_alloc|apply Kd.R_drewN|apply Kd.R_drew));exact(Kd.R_mono (Kd.R_far (p:=⟨gb390,1,none⟩) (Kd.R_far (p:=⟨gb390,0,none⟩) (Kd.R_types HO387.out BK390.out (by decide)) (fun _ hk=>hk.2) (.int .i64 t384)) (fun _ hk=>hk.2) (.slice Ao13 t385.length co13)) (fun _ h_=>h_.1))));(case side2=>exact(Kd.R_reads' HO387.out).2.1);rintro e w27 ⟨rfl,hb⟩;refine⟨_,rfl,?_⟩;have n0_:=am (Kd.R_below (by(with_reducible repeat(first|apply Kd.R_alloc|apply Kd.R_drewN|apply Kd.R_drew));exact(Kd.R_mono (Kd.R_far (p:=⟨gb390,1,none⟩) (Kd.R_far (p:=⟨gb390,0,none⟩) (Kd.R_types HO387.out BK390.out (by decide)) (fun _ hk=>hk.2) (.int .i64 t384)) (fun _ hk=>hk.2) (.slice Ao13 t385.length co13)) (fun _ h_=>h_.1))) hb);have n1_:=am (blk_below (g:=gb381) (o := .cells #[.int .i64 0,.slice none 0 0] 26 (0,0)) (by(with_reducible repeat(first|refine bN_ ?_ _|refine bD_ ?_|refine bA_ ?_ _));refine blk_far ?_ NB381_390.out _;(with_reducible repeat(first|refine bN_ ?_ _|refine bD_ ?_|refine bA_ ?_ _));refine blk_far ?_ NB381_390.out _;exact bup BK381.out) hb);have n2_:=am (blk_below (g:=gb382) (o := .cells #[.int .i64 0,.slice none 0 0] 26 (0,0)) (by(with_reducible repeat(first|refine bN_ ?_ _|refine bD_ ?_|refine bA_ ?_ _));refine blk_far ?_ NB382_390.out _;(with_reducible repeat(first|refine bN_ ?_ _|refine bD_ ?_|refine bA_ ?_ _));refine blk_far ?_ NB382_390.out _;exact bup BK382.out) hb);have n3_:=am (IsS45.below (show IsS45 w ((w8.setCell ⟨gb390,0,none⟩ (.int .i64 t384)).setCell ⟨gb390,1,none⟩ (.slice Ao13 t385.length co13)) gb383 l0 t388 t389 from by repeat(first|(with_reducible first|exact HI383.out|apply IsS45.alloc|apply IsS45.drewN|apply IsS45.drew|apply IsS45.set_1|apply IsS45.set_2|refine IsS45.far ?_ NB383_381.out _|refine IsS45.far ?_ NB383_382.out _|refine IsS45.far ?_ NB383_390.out _)|exact HI383.out)) hb);have n4_:=am (blk_below (g:=gb390) (o := .cells #[.int .i64 t384,.slice Ao13 t385.length co13] 26 (0,0)) (by(with_reducible repeat(first|refine bN_ ?_ _|refine bD_ ?_|refine bA_ ?_ _));refine blk_put (cs := #[.int .i64 t384,.slice none 0 0]) ?_ 1 _ rfl;(with_reducible repeat(first|refine bN_ ?_ _|refine bD_ ?_|refine bA_ ?_ _));refine blk_put (cs := #[.int .i64 0,.slice none 0 0]) ?_ 0 _ rfl;exact bup BK390.out) hb);have n5_:=am (below_step (by repeat(first|(with_reducible first|exact HB.out|apply below_alloc|apply pw_below_drewN|apply below_drew1|refine below_set ?_ (IsS45.ge HI383.out)|refine below_set ?_ GE381.out|refine below_set ?_ GE382.out|refine below_set ?_ GE390.out)|exact HB.out)) hb);clear HO387 BK381 BK382 HI383 BK390 HB;have HO387:=n0_;have BK381:=n1_;have BK382:=n2_;have HI383:=n3_;have BK390:=n4_;have HB:=n5_;clear n0_ n1_ n2_ n3_ n4_ n5_;(try clear hb);(try clear hb2);(try clear hk);(try clear hi)))
   go_meet
   case rel=>exact⟨_,(true),(t388),(t389),fin2,H',⟨by first|omega|exact Nat.le_refl _⟩,⟨rup HO387.out⟩,⟨bup BK381.out⟩,⟨bup BK382.out⟩,⟨bup BK390.out⟩,⟨by repeat(first|(with_reducible first|exact HI383.out|apply IsS45.alloc|apply IsS45.drewN|apply IsS45.drew|apply IsS45.set_1|apply IsS45.set_2|refine IsS45.far ?_ NB383_381.out _|refine IsS45.far ?_ NB383_382.out _|refine IsS45.far ?_ NB383_390.out _)|exact HI383.out)⟩,⟨by repeat(first|(with_reducible first|exact HB.out|apply below_alloc|apply pw_below_drewN|apply below_drew1|refine below_set ?_ (IsS45.ge HI383.out)|refine below_set ?_ GE381.out|refine below_set ?_ GE382.out|refine below_set ?_ GE390.out)|exact HB.out)⟩⟩
 case rest =>
  clear HC3
  try clear c1
  try clear c2
  try clear p2
  try clear c9
  try clear c10
  try clear c11
  try clear c15
  try clear c17
  try clear c18
  try clear c19
  try clear c20
  try clear c23
  try clear c24
  try clear c25
  try clear hcz12_0
  try clear hcz12_1
  try clear hcz20_0
  try clear hcz20_1
  try clear hcz26_0
  try clear hcz26_1
  try clear hfz12_0
  try clear hfz12_1
  try clear hfz20_0
  try clear hfz20_1
  try clear hfz26_0
  try clear hfz26_1
  obtain⟨kq,x17_2,x384001_2,x384002_2,rfl,HA,HJ2,HO_391001,BK381,BK382,BK390,HI383,HB⟩:=hcut
  cases kq with
  | zero=>exact absurd HA.out (by simp [spec_DrawLeastTurn.j0])
  | succ kj2 =>
   have H:=HA.out
   clear HA
   simp only[spec_DrawLeastTurn.j0] at H
   by_cases c28:x17_2=true
   ·subst c28
    have H1:((spec_l1Cur_pattern.f kj2 l0 x384001_2 x384002_2).bind fun bt395=>(some (t384,t385,bt395.1,bt395.2.1)))=some (r1,r2,r3,r4):=by rw[if_pos rfl] at H;exact H
    clear H
    have H:=H1
    clear H1
    replace H:=Option.bind_eq_some_iff.mp H
    obtain⟨⟨t395,t396,t399,t400⟩,A290,H⟩:=H
    replace H:(some (t384,t385,t395,t396))=some (r1,r2,r3,r4):=H
    have A29:=am A290
    clear A290
    simp only[Option.some.injEq,Prod.mk.injEq] at H
    obtain⟨rfl,rfl,rfl,rfl⟩:=H
    try go_wp2
    have n0_:=am (Kd.R_drew HO_391001.out)
    have n1_:=am (bD_ BK381.out)
    have n2_:=am (bD_ BK382.out)
    have n3_:=am (bD_ BK390.out)
    have n4_:=am (IsS45.drew HI383.out)
    have n5_:=am (below_drew1 HB.out)
    clear HO_391001
    clear BK381
    clear BK382
    clear BK390
    clear HI383
    clear HB
    have HO_391001:=n0_
    have BK381:=n1_
    have BK382:=n2_
    have BK390:=n3_
    have HI383:=n4_
    have HB:=n5_
    clear n0_ n1_ n2_ n3_ n4_ n5_
    refine start_ (n:=5) (S:=fun w'=>w'.cell? ⟨gb390,0,none⟩=some (.int .i64 t384)∧w'.cell? ⟨gb390,1,none⟩=some (.slice Ao13 t385.length co13)) (ds:=[]) #[false,false,false,false,false] (by kernel_rfl) rfl rfl ⟨(blk_cell BK390.out 0).trans rfl,(blk_cell BK390.out 1).trans rfl⟩ (fun hHeld=>?_)
    generalize wc.drew=w30 at HO_391001 BK381 BK382 BK390 HI383 HB hHeld ⊢
    refine pure_ (i:=1) (N:=some 19) (v:=?_) (a':=?_) #[false,true,false,false,false] rfl rfl (by kernel_rfl) (fun _ _ _ h=>h) (Or.inl ⟨by rfl,?_⟩) ?_ ?_
    rotate_left
    ·intro w'
     go_simp
     with_reducible rfl
    rotate_left
    ·simp only[Act.put,List.setIfInBounds_toArray,List.set_cons_zero,List.set_cons_succ,i64_w,i32_w]
     rfl
    refine take_ (i:=0) (N:=some 18) (v:=?_) (a':=?_) #[true,true,false,false,false] rfl rfl (by kernel_rfl) (fun _ _ _ h=>h) (Or.inl ⟨by rfl,?_⟩) hHeld ?_ ?_
    rotate_left
    ·rintro w' ⟨s0,s1⟩
     go_simp
     with_reducible rfl
    rotate_left
    ·simp only[Act.put,List.setIfInBounds_toArray,List.set_cons_zero,List.set_cons_succ,i64_w,i32_w]
     rfl
    refine one_ (i:=2) (N:=some 20) #[true,true,true,false,false] rfl rfl (by kernel_rfl) (by decide) (fun K hK=>?_)
    refine goes_ Try.func20 (by kernel_rfl) rfl #[.pointer (some ⟨gb383,0,none⟩)] (by rfl) rfl rfl tl ?_
    with_reducible refine(spec_l1Cur_pattern.calls kj2 gb383 l0 x384001_2 x384002_2 t395 t396 t399 t400 w _ ?side1 ?side2 A29.out).mono ?_
    (case side1=>repeat(first|(with_reducible first|exact HI383.out|apply IsS45.alloc|apply IsS45.drewN|apply IsS45.drew|apply IsS45.set_1|apply IsS45.set_2|refine IsS45.far ?_ NB383_381.out _|refine IsS45.far ?_ NB383_382.out _|refine IsS45.far ?_ NB383_390.out _)|exact HI383.out))
    (case side2=>repeat(first|(with_reducible first|exact HB.out|apply below_alloc|apply pw_below_drewN|apply below_drew1|refine below_set ?_ (IsS45.ge HI383.out)|refine below_set ?_ GE381.out|refine below_set ?_ GE382.out|refine below_set ?_ GE390.out)|exact HB.out))
    rintro e w31 ⟨v397,rfl,ho0,hi,hb,hk⟩
    refine⟨_,rfl,?_⟩
    have n0_:=am (Kd.R_mono (Kd.R_told (Kd.R_oldK (IsS45.apart (show IsS45 w _ gb383 l0 x384001_2 x384002_2 from by repeat(first|(with_reducible first|exact HI383.out|apply IsS45.alloc|apply IsS45.drewN|apply IsS45.drew|apply IsS45.set_1|apply IsS45.set_2|refine IsS45.far ?_ NB383_381.out _|refine IsS45.far ?_ NB383_382.out _|refine IsS45.far ?_ NB383_390.out _)|exact HI383.out)) (rup HO_391001.out) (by decide)) hk) (Kd.R_base ho0)) (fun _ h_=>h_.1))
    have n1_:=am (KeepBut.blk hk (g':=gb381) (o := .cells #[.int .i64 0,.slice none 0 0] 26 (0,0)) (bup BK381.out) NB381_383.out (by simp))
    have n2_:=am (KeepBut.blk hk (g':=gb382) (o := .cells #[.int .i64 0,.slice none 0 0] 26 (0,0)) (bup BK382.out) NB382_383.out (by simp))
    have n3_:=am (KeepBut.blk hk (g':=gb390) (o := .cells #[.int .i64 t384,.slice Ao13 t385.length co13] 26 (0,0)) (bup BK390.out) NB390_383.out (by simp))
    have n4_:=am (Kd.R_lower (Kd.R_new' ho0 (Kd.R_lt (rup HO_391001.out))) (below_size (by repeat(first|(with_reducible first|exact HB.out|apply below_alloc|apply pw_below_drewN|apply below_drew1|refine below_set ?_ (IsS45.ge HI383.out)|refine below_set ?_ GE381.out|refine below_set ?_ GE382.out|refine below_set ?_ GE390.out)|exact HB.out))))
    have n5_:=am (hb)
    have n6_:=am (hi)
    clear HO_391001
    clear BK381
    clear BK382
    clear BK390
    clear HB
    clear HI383
    have HO_391001:=n0_
    have BK381:=n1_
    have BK382:=n2_
    have BK390:=n3_
    have HO398:=n4_
    have HB:=n5_
    have HI383:=n6_
    clear n0_ n1_ n2_ n3_ n4_ n5_ n6_
    (try clear hb)
    (try clear hb2)
    (try clear hk)
    (try clear hi)
    (try clear ho0)
    obtain⟨Ao35,co35,eo35⟩:=Kd.R_slice HO398.out
    (first|subst eo35|(injection eo35 with f1_ f2_ f3_;have f4_:=f1_.symm;have f5_:=f3_.symm;clear f1_ f2_ f3_;subst f4_;subst f5_))
    refine hK.out _ _ ⟨(blk_cell BK390.out 0).trans rfl,(blk_cell BK390.out 1).trans rfl⟩ (fun hHeld=>?_)
    clear hK K
    refine norm_ (a':=?_) ?_ ?_
    rotate_left
    ·show Act.put _ (some 20) _=_
     simp only[Act.put,List.setIfInBounds_toArray,List.set_cons_zero,List.set_cons_succ,i64_w,i32_w]
     rfl
    refine one_ (i:=3) (N:=none) #[true,true,true,true,false] rfl rfl (by kernel_rfl) (by decide) (fun K hK=>?_)
    have hs32:w31.cell? ⟨gb381,0,none⟩=some (.int .i64 0):=(blk_cell BK381.out 0).trans rfl
    have hfs32:=blk_frozen BK381.out 0
    have hns32_1:=NB382_381.out
    have hns32_2:=NB390_381.out
    have hms32_1:=NB381_382.out
    have hms32_2:=NB381_390.out
    have hs33:w31.cell? ⟨gb381,1,none⟩=some (.slice none 0 0):=(blk_cell BK381.out 1).trans rfl
    have hfs33:=blk_frozen BK381.out 1
    have hns33_1:=NB382_381.out
    have hns33_2:=NB390_381.out
    have hms33_1:=NB381_382.out
    have hms33_2:=NB381_390.out
    refine skip_ (w1:=?_) (by rfl) rfl ?_ ?_
    rotate_left
    ·go_simp
     rfl
    refine hK.out _ _ ⟨((cell_far (p:=⟨gb381,_,none⟩) NB390_381.out _).trans (((cell_far (p:=⟨gb381,_,none⟩) NB390_381.out _).trans (hHeld.1)))),((cell_far (p:=⟨gb381,_,none⟩) NB390_381.out _).trans (((cell_far (p:=⟨gb381,_,none⟩) NB390_381.out _).trans (hHeld.2))))⟩ (fun hHeld=>?_)
    clear hK K
    refine one_ (i:=4) (N:=none) #[true,true,true,true,true] rfl rfl (by kernel_rfl) (by decide) (fun K hK=>?_)
    have hs34:w31.cell? ⟨gb382,0,none⟩=some (.int .i64 0):=(blk_cell BK382.out 0).trans rfl
    have hfs34:=blk_frozen BK382.out 0
    have hns34_0:=NB381_382.out
    have hns34_2:=NB390_382.out
    have hms34_0:=NB382_381.out
    have hms34_2:=NB382_390.out
    have hs36:w31.cell? ⟨gb382,1,none⟩=some (.slice none 0 0):=(blk_cell BK382.out 1).trans rfl
    have hfs36:=blk_frozen BK382.out 1
    have hns36_0:=NB381_382.out
    have hns36_2:=NB390_382.out
    have hms36_0:=NB382_381.out
    have hms36_2:=NB382_390.out
    refine skip_ (w1:=?_) (by rfl) rfl ?_ ?_
    rotate_left
    ·go_simp
     rfl
    refine hK.out _ _ ⟨((cell_far (p:=⟨gb382,_,none⟩) NB390_382.out _).trans (((cell_far (p:=⟨gb382,_,none⟩) NB390_382.out _).trans (hHeld.1)))),((cell_far (p:=⟨gb382,_,none⟩) NB390_382.out _).trans (((cell_far (p:=⟨gb382,_,none⟩) NB390_382.out _).trans (hHeld.2))))⟩ (fun hHeld=>?_)
    clear hK K
    refine done_ (by kernel_rfl) ?_
    try go_wp2
    refine bodyPost_ret (results_cc rfl _ _ gb381 gb382 26 26 #[.int .i64 t384,.slice Ao13 t385.length co13] #[.int .i64 t395,.slice Ao35 t396.length co35] (0,0) (0,0) _ _ rfl (by(with_reducible repeat(first|refine bN_ ?_ _|refine bD_ ?_|refine bA_ ?_ _));refine blk_far ?_ NB381_382.out _;(with_reducible repeat(first|refine bN_ ?_ _|refine bD_ ?_|refine bA_ ?_ _));refine blk_far ?_ NB381_382.out _;(with_reducible repeat(first|refine bN_ ?_ _|refine bD_ ?_|refine bA_ ?_ _));refine blk_put (cs := #[.int .i64 t384,.slice none 0 0]) ?_ 1 _ rfl;(with_reducible repeat(first|refine bN_ ?_ _|refine bD_ ?_|refine bA_ ?_ _));refine blk_put (cs := #[.int .i64 0,.slice none 0 0]) ?_ 0 _ rfl;exact bup BK381.out) Try.underlying26 rfl (by kernel_rfl) rfl (by(with_reducible repeat(first|refine bN_ ?_ _|refine bD_ ?_|refine bA_ ?_ _));refine blk_put (cs := #[.int .i64 t395,.slice none 0 0]) ?_ 1 _ rfl;(with_reducible repeat(first|refine bN_ ?_ _|refine bD_ ?_|refine bA_ ?_ _));refine blk_put (cs := #[.int .i64 0,.slice none 0 0]) ?_ 0 _ rfl;(with_reducible repeat(first|refine bN_ ?_ _|refine bD_ ?_|refine bA_ ?_ _));refine blk_far ?_ NB382_381.out _;(with_reducible repeat(first|refine bN_ ?_ _|refine bD_ ?_|refine bA_ ?_ _));refine blk_far ?_ NB382_381.out _;exact bup BK382.out) Try.underlying26 rfl (by kernel_rfl)) rfl ?_
    exact⟨_,_,fin1,rup (Kd.R_mono (Kd.R_far (p:=⟨gb382,1,none⟩) (Kd.R_far (p:=⟨gb382,0,none⟩) (Kd.R_far (p:=⟨gb381,1,none⟩) (Kd.R_far (p:=⟨gb381,0,none⟩) (Kd.R_types (Kd.R_types HO_391001.out BK381.out (by decide)) BK382.out (by decide)) (fun _ hk=>hk.1.2) (.int .i64 t384)) (fun _ hk=>hk.1.2) (.slice Ao13 t385.length co13)) (fun _ hk=>hk.2) (.int .i64 t395)) (fun _ hk=>hk.2) (.slice Ao35 t396.length co35)) (fun _ hk=>hk.1.1.2)),rup (Kd.R_mono (Kd.R_far (p:=⟨gb382,1,none⟩) (Kd.R_far (p:=⟨gb382,0,none⟩) (Kd.R_far (p:=⟨gb381,1,none⟩) (Kd.R_far (p:=⟨gb381,0,none⟩) (Kd.R_types (Kd.R_types HO398.out BK381.out (by decide)) BK382.out (by decide)) (fun _ hk=>hk.1.2) (.int .i64 t384)) (fun _ hk=>hk.1.2) (.slice Ao13 t385.length co13)) (fun _ hk=>hk.2) (.int .i64 t395)) (fun _ hk=>hk.2) (.slice Ao35 t396.length co35)) (fun _ hk=>hk.1.1.2)),by repeat(first|(with_reducible first|exact HB.out|apply below_alloc|apply pw_below_drewN|apply below_drew1|refine below_set ?_ (IsS45.ge HI383.out)|refine below_set ?_ GE381.out|refine below_set ?_ GE382.out|refine below_set ?_ GE390.out)|exact HB.out)⟩
   ·replace c28:=Bool.eq_false_iff.mpr c28
    subst c28
    have H1:((spec_l1Cur_pick.f l0 x384001_2 x384002_2 t384).bind fun bt401=>((spec_drTurn.f kj2 t384 t385 bt401.1).bind fun bt404=>(some (t384,t385,bt404.1,bt404.2))))=some (r1,r2,r3,r4):=by rw[if_neg (show ¬ (false=true) by decide)] at H;exact H
    clear H
    have H:=H1
    clear H1
    replace H:=Option.bind_eq_some_iff.mp H
    obtain⟨⟨t401,t402,t403⟩,A370,H⟩:=H
    replace H:((spec_drTurn.f kj2 t384 t385 t401).bind fun bt404=>(some (t384,t385,bt404.1,bt404.2)))=some (r1,r2,r3,r4):=H
    have A37:=am A370
    clear A370
    replace H:=Option.bind_eq_some_iff.mp H
    obtain⟨⟨t404,t405⟩,A380,H⟩:=H
    replace H:(some (t384,t385,t404,t405))=some (r1,r2,r3,r4):=H
    have A38:=am A380
    clear A380
    simp only[Option.some.injEq,Prod.mk.injEq] at H
    obtain⟨rfl,rfl,rfl,rfl⟩:=H
    try go_wp2
    have n0_:=am (Kd.R_drew HO_391001.out)
    have n1_:=am (bD_ BK381.out)
    have n2_:=am (bD_ BK382.out)
    have n3_:=am (bD_ BK390.out)
    have n4_:=am (IsS45.drew HI383.out)
    have n5_:=am (below_drew1 HB.out)
    clear HO_391001
    clear BK381
    clear BK382
    clear BK390
    clear HI383
    clear HB
    have HO_391001:=n0_
    have BK381:=n1_
    have BK382:=n2_
    have BK390:=n3_
    have HI383:=n4_
    have HB:=n5_
    clear n0_ n1_ n2_ n3_ n4_ n5_
    refine start_ (n:=9) (S:=fun w'=>w'.cell? ⟨gb390,0,none⟩=some (.int .i64 t384)∧w'.cell? ⟨gb390,1,none⟩=some (.slice Ao13 t385.length co13)) (ds:=[]) #[false,false,false,false,false,false,false,false,false] (by kernel_rfl) rfl rfl ⟨(blk_cell BK390.out 0).trans rfl,(blk_cell BK390.out 1).trans rfl⟩ (fun hHeld=>?_);refine with_tabW spec_DrawLeastTurn.tab5 spec_DrawLeastTurn.bits5 (fun HT_ HW_=>?_)
    generalize wc.drew=w39 at HO_391001 BK381 BK382 BK390 HI383 HB hHeld ⊢
    refine pure_ (i:=2) (N:=some 23) (v:=?_) (a':=?_) #[false,false,true,false,false,false,false,false,false] rfl rfl (any_of HT_.out (by kernel_rfl)) (fun _ _ _ h=>h) (Or.inl ⟨by rfl,?_⟩) ?_ ?_
    rotate_left
    ·intro w'
     go_simp
     with_reducible rfl
    rotate_left
    ·simp only[Act.put,List.setIfInBounds_toArray,List.set_cons_zero,List.set_cons_succ,i64_w,i32_w]
     rfl
    refine pure_ (i:=3) (N:=some 24) (v:=?_) (a':=?_) #[false,false,true,true,false,false,false,false,false] rfl rfl (any_of HT_.out (by kernel_rfl)) (fun _ _ _ h=>h) (Or.inl ⟨by rfl,?_⟩) ?_ ?_
    rotate_left
    ·intro w'
     go_simp
     with_reducible rfl
    rotate_left
    ·simp only[Act.put,List.setIfInBounds_toArray,List.set_cons_zero,List.set_cons_succ,i64_w,i32_w]
     rfl
    refine take_ (i:=0) (N:=some 21) (v:=?_) (a':=?_) #[true,false,true,true,false,false,false,false,false] rfl rfl (take_ofW HT_.out HW_.out (by kernel_rfl)) (fun _ _ _ h=>h) (Or.inl ⟨by rfl,?_⟩) hHeld ?_ ?_
    rotate_left
    ·rintro w' ⟨s0,s1⟩
     go_simp
     with_reducible rfl
    rotate_left
    ·simp only[Act.put,List.setIfInBounds_toArray,List.set_cons_zero,List.set_cons_succ,i64_w,i32_w]
     rfl
    refine take_ (i:=1) (N:=some 22) (v:=?_) (a':=?_) #[true,true,true,true,false,false,false,false,false] rfl rfl (take_ofW HT_.out HW_.out (by kernel_rfl)) (fun _ _ _ h=>h) (Or.inl ⟨by rfl,?_⟩) hHeld ?_ ?_
    rotate_left
    ·rintro w' ⟨s0,s1⟩
     go_simp
     with_reducible rfl
    rotate_left
    ·simp only[Act.put,List.setIfInBounds_toArray,List.set_cons_zero,List.set_cons_succ,i64_w,i32_w]
     rfl
    refine take_ (i:=4) (N:=some 25) (v:=?_) (a':=?_) #[true,true,true,true,true,false,false,false,false] rfl rfl (take_ofW HT_.out HW_.out (by kernel_rfl)) (fun _ _ _ h=>h) (Or.inl ⟨by rfl,?_⟩) hHeld ?_ ?_
    rotate_left
    ·rintro w' ⟨s0,s1⟩
     go_simp
     with_reducible rfl
    rotate_left
    ·simp only[Act.put,List.setIfInBounds_toArray,List.set_cons_zero,List.set_cons_succ,i64_w,i32_w]
     rfl
    refine one_ (i:=5) (N:=some 26) #[true,true,true,true,true,true,false,false,false] rfl rfl (one_of HT_.out (by kernel_rfl)) (by decide) (fun K hK=>?_)
    refine goes_ Try.func36 (by kernel_rfl) rfl #[.pointer (some ⟨gb383,0,none⟩),.int .i64 t384] (by rfl) rfl rfl tl ?_
    with_reducible refine(spec_l1Cur_pick.calls gb383 l0 x384001_2 x384002_2 t384 t401 t402 t403 w _ ?side1 ?side2 A37.out).mono ?_
    (case side1=>repeat(first|(with_reducible first|exact HI383.out|apply IsS45.alloc|apply IsS45.drewN|apply IsS45.drew|apply IsS45.set_1|apply IsS45.set_2|refine IsS45.far ?_ NB383_381.out _|refine IsS45.far ?_ NB383_382.out _|refine IsS45.far ?_ NB383_390.out _)|exact HI383.out))
    (case side2=>repeat(first|(with_reducible first|exact HB.out|apply below_alloc|apply pw_below_drewN|apply below_drew1|refine below_set ?_ (IsS45.ge HI383.out)|refine below_set ?_ GE381.out|refine below_set ?_ GE382.out|refine below_set ?_ GE390.out)|exact HB.out))
    rintro e w40 ⟨rfl,hi,hb,hk⟩
    refine⟨_,rfl,?_⟩
    have n0_:=am (Kd.R_mono (Kd.R_keep (IsS45.apart (show IsS45 w _ gb383 l0 x384001_2 x384002_2 from by repeat(first|(with_reducible first|exact HI383.out|apply IsS45.alloc|apply IsS45.drewN|apply IsS45.drew|apply IsS45.set_1|apply IsS45.set_2|refine IsS45.far ?_ NB383_381.out _|refine IsS45.far ?_ NB383_382.out _|refine IsS45.far ?_ NB383_390.out _)|exact HI383.out)) (rup HO_391001.out) (by decide)) hk (fun _ h=>h.2)) (fun _ h=>h.1))
    have n1_:=am (KeepBut.blk hk (g':=gb381) (o := .cells #[.int .i64 0,.slice none 0 0] 26 (0,0)) (bup BK381.out) NB381_383.out (by simp))
    have n2_:=am (KeepBut.blk hk (g':=gb382) (o := .cells #[.int .i64 0,.slice none 0 0] 26 (0,0)) (bup BK382.out) NB382_383.out (by simp))
    have n3_:=am (KeepBut.blk hk (g':=gb390) (o := .cells #[.int .i64 t384,.slice Ao13 t385.length co13] 26 (0,0)) (bup BK390.out) NB390_383.out (by simp))
    have n4_:=am (hb)
    have n5_:=am (hi)
    clear HO_391001
    clear BK381
    clear BK382
    clear BK390
    clear HB
    clear HI383
    have HO_391001:=n0_
    have BK381:=n1_
    have BK382:=n2_
    have BK390:=n3_
    have HB:=n4_
    have HI383:=n5_
    clear n0_ n1_ n2_ n3_ n4_ n5_
    (try clear hb)
    (try clear hb2)
    (try clear hk)
    (try clear hi)
    refine hK.out _ _ ⟨(blk_cell BK390.out 0).trans rfl,(blk_cell BK390.out 1).trans rfl⟩ (fun hHeld=>?_)
    clear hK K
    refine norm_ (a':=?_) ?_ ?_
    rotate_left
    ·show Act.put _ (some 26) _=_
     simp only[Act.put,List.setIfInBounds_toArray,List.set_cons_zero,List.set_cons_succ,i64_w,i32_w]
     rfl
    refine one_ (i:=6) (N:=some 27) #[true,true,true,true,true,true,true,false,false] rfl rfl (one_of HT_.out (by kernel_rfl)) (by decide) (fun K hK=>?_)
    refine goes_ Try.func26 (by kernel_rfl) rfl #[.agg #[.int .i64 t384,.slice Ao13 t385.length co13],.int .i64 t401] (by rfl) rfl rfl tl ?_
    with_reducible refine(spec_drTurn.calls kj2 t384 _ _ t385 t401 t404 t405 _ ?side1 ?side2 A38.out).mono ?_
    (case side1=>repeat(first|exact(Kd.R_reads' HO_391001.out).2.2|(with_reducible refine Kd.C_alloc ?_ _)|(with_reducible refine Kd.C_drewN ?_ _)|(with_reducible refine Kd.C_drew ?_)))
    (case side2=>exact(Kd.R_reads' HO_391001.out).2.1)
    rintro e w41 ⟨v406,rfl,ho0,hb⟩
    refine⟨_,rfl,?_⟩
    have n0_:=am (Kd.R_elder' (rup HO_391001.out) (Kd.R_base ho0) hb)
    have n1_:=am (Kd.R_lower (Kd.R_new' ho0 (Kd.R_lt (rup HO_391001.out))) (below_size (by repeat(first|(with_reducible first|exact HB.out|apply below_alloc|apply pw_below_drewN|apply below_drew1|refine below_set ?_ (IsS45.ge HI383.out)|refine below_set ?_ GE381.out|refine below_set ?_ GE382.out|refine below_set ?_ GE390.out)|exact HB.out))))
    have n2_:=am (blk_below (bup BK381.out) hb)
    have n3_:=am (blk_below (bup BK382.out) hb)
    have n4_:=am (blk_below (bup BK390.out) hb)
    have n5_:=am (IsS45.below (by repeat(first|(with_reducible first|exact HI383.out|apply IsS45.alloc|apply IsS45.drewN|apply IsS45.drew|apply IsS45.set_1|apply IsS45.set_2|refine IsS45.far ?_ NB383_381.out _|refine IsS45.far ?_ NB383_382.out _|refine IsS45.far ?_ NB383_390.out _)|exact HI383.out)) hb)
    have n6_:=am (below_step (by repeat(first|(with_reducible first|exact HB.out|apply below_alloc|apply pw_below_drewN|apply below_drew1|refine below_set ?_ (IsS45.ge HI383.out)|refine below_set ?_ GE381.out|refine below_set ?_ GE382.out|refine below_set ?_ GE390.out)|exact HB.out)) hb)
    clear HO_391001
    clear BK381
    clear BK382
    clear BK390
    clear HI383
    clear HB
    have HO_391001:=n0_
    have HO407:=n1_
    have BK381:=n2_
    have BK382:=n3_
    have BK390:=n4_
    have HI383:=n5_
    have HB:=n6_
    clear n0_ n1_ n2_ n3_ n4_ n5_ n6_
    (try clear hb)
    (try clear hb2)
    (try clear hk)
    (try clear hi)
    (try clear ho0)
    obtain⟨Ao45,co45,eo45⟩:=Kd.R_slice HO407.out
    (first|subst eo45|(injection eo45 with f1_ f2_ f3_;have f4_:=f1_.symm;have f5_:=f3_.symm;clear f1_ f2_ f3_;subst f4_;subst f5_))
    refine hK.out _ _ ⟨(blk_cell BK390.out 0).trans rfl,(blk_cell BK390.out 1).trans rfl⟩ (fun hHeld=>?_)
    clear hK K
    refine norm_ (a':=?_) ?_ ?_
    rotate_left
    ·show Act.put _ (some 27) _=_
     simp only[Act.put,List.setIfInBounds_toArray,List.set_cons_zero,List.set_cons_succ,i64_w,i32_w]
     rfl
    refine one_ (i:=7) (N:=none) #[true,true,true,true,true,true,true,true,false] rfl rfl (one_of HT_.out (by kernel_rfl)) (by decide) (fun K hK=>?_)
    have hs42:w41.cell? ⟨gb381,0,none⟩=some (.int .i64 0):=(blk_cell BK381.out 0).trans rfl
    have hfs42:=blk_frozen BK381.out 0
    have hns42_1:=NB382_381.out
    have hns42_2:=NB390_381.out
    have hms42_1:=NB381_382.out
    have hms42_2:=NB381_390.out
    have hs43:w41.cell? ⟨gb381,1,none⟩=some (.slice none 0 0):=(blk_cell BK381.out 1).trans rfl
    have hfs43:=blk_frozen BK381.out 1
    have hns43_1:=NB382_381.out
    have hns43_2:=NB390_381.out
    have hms43_1:=NB381_382.out
    have hms43_2:=NB381_390.out
    refine skip_ (w1:=?_) (by rfl) rfl ?_ ?_
    rotate_left
    ·go_simp
     rfl
    refine hK.out _ _ ⟨((cell_far (p:=⟨gb381,_,none⟩) NB390_381.out _).trans (((cell_far (p:=⟨gb381,_,none⟩) NB390_381.out _).trans (hHeld.1)))),((cell_far (p:=⟨gb381,_,none⟩) NB390_381.out _).trans (((cell_far (p:=⟨gb381,_,none⟩) NB390_381.out _).trans (hHeld.2))))⟩ (fun hHeld=>?_)
    clear hK K
    refine one_ (i:=8) (N:=none) #[true,true,true,true,true,true,true,true,true] rfl rfl (one_of HT_.out (by kernel_rfl)) (by decide) (fun K hK=>?_)
    have hs44:w41.cell? ⟨gb382,0,none⟩=some (.int .i64 0):=(blk_cell BK382.out 0).trans rfl
    have hfs44:=blk_frozen BK382.out 0
    have hns44_0:=NB381_382.out
    have hns44_2:=NB390_382.out
    have hms44_0:=NB382_381.out
    have hms44_2:=NB382_390.out
    have hs46:w41.cell? ⟨gb382,1,none⟩=some (.slice none 0 0):=(blk_cell BK382.out 1).trans rfl
    have hfs46:=blk_frozen BK382.out 1
    have hns46_0:=NB381_382.out
    have hns46_2:=NB390_382.out
    have hms46_0:=NB382_381.out
    have hms46_2:=NB382_390.out
    refine skip_ (w1:=?_) (by rfl) rfl ?_ ?_
    rotate_left
    ·go_simp
     rfl
    refine hK.out _ _ ⟨((cell_far (p:=⟨gb382,_,none⟩) NB390_382.out _).trans (((cell_far (p:=⟨gb382,_,none⟩) NB390_382.out _).trans (hHeld.1)))),((cell_far (p:=⟨gb382,_,none⟩) NB390_382.out _).trans (((cell_far (p:=⟨gb382,_,none⟩) NB390_382.out _).trans (hHeld.2))))⟩ (fun hHeld=>?_)
    clear hK K
    refine done_ (done_of HT_.out (by kernel_rfl)) ?_
    try go_wp2
    refine bodyPost_ret (results_cc rfl _ _ gb381 gb382 26 26 #[.int .i64 t384,.slice Ao13 t385.length co13] #[.int .i64 t404,.slice Ao45 t405.length co45] (0,0) (0,0) _ _ rfl (by(with_reducible repeat(first|refine bN_ ?_ _|refine bD_ ?_|refine bA_ ?_ _));refine blk_far ?_ NB381_382.out _;(with_reducible repeat(first|refine bN_ ?_ _|refine bD_ ?_|refine bA_ ?_ _));refine blk_far ?_ NB381_382.out _;(with_reducible repeat(first|refine bN_ ?_ _|refine bD_ ?_|refine bA_ ?_ _));refine blk_put (cs := #[.int .i64 t384,.slice none 0 0]) ?_ 1 _ rfl;(with_reducible repeat(first|refine bN_ ?_ _|refine bD_ ?_|refine bA_ ?_ _));refine blk_put (cs := #[.int .i64 0,.slice none 0 0]) ?_ 0 _ rfl;exact bup BK381.out) Try.underlying26 rfl (by kernel_rfl) rfl (by(with_reducible repeat(first|refine bN_ ?_ _|refine bD_ ?_|refine bA_ ?_ _));refine blk_put (cs := #[.int .i64 t404,.slice none 0 0]) ?_ 1 _ rfl;(with_reducible repeat(first|refine bN_ ?_ _|refine bD_ ?_|refine bA_ ?_ _));refine blk_put (cs := #[.int .i64 0,.slice none 0 0]) ?_ 0 _ rfl;(with_reducible repeat(first|refine bN_ ?_ _|refine bD_ ?_|refine bA_ ?_ _));refine blk_far ?_ NB382_381.out _;(with_reducible repeat(first|refine bN_ ?_ _|refine bD_ ?_|refine bA_ ?_ _));refine blk_far ?_ NB382_381.out _;exact bup BK382.out) Try.underlying26 rfl (by kernel_rfl)) rfl ?_
    exact⟨_,_,fin1,rup (Kd.R_mono (Kd.R_far (p:=⟨gb382,1,none⟩) (Kd.R_far (p:=⟨gb382,0,none⟩) (Kd.R_far (p:=⟨gb381,1,none⟩) (Kd.R_far (p:=⟨gb381,0,none⟩) (Kd.R_types (Kd.R_types HO_391001.out BK381.out (by decide)) BK382.out (by decide)) (fun _ hk=>hk.1.2) (.int .i64 t384)) (fun _ hk=>hk.1.2) (.slice Ao13 t385.length co13)) (fun _ hk=>hk.2) (.int .i64 t404)) (fun _ hk=>hk.2) (.slice Ao45 t405.length co45)) (fun _ hk=>hk.1.1.2)),rup (Kd.R_mono (Kd.R_far (p:=⟨gb382,1,none⟩) (Kd.R_far (p:=⟨gb382,0,none⟩) (Kd.R_far (p:=⟨gb381,1,none⟩) (Kd.R_far (p:=⟨gb381,0,none⟩) (Kd.R_types (Kd.R_types HO407.out BK381.out (by decide)) BK382.out (by decide)) (fun _ hk=>hk.1.2) (.int .i64 t384)) (fun _ hk=>hk.1.2) (.slice Ao13 t385.length co13)) (fun _ hk=>hk.2) (.int .i64 t404)) (fun _ hk=>hk.2) (.slice Ao45 t405.length co45)) (fun _ hk=>hk.1.1.2)),by repeat(first|(with_reducible first|exact HB.out|apply below_alloc|apply pw_below_drewN|apply below_drew1|refine below_set ?_ (IsS45.ge HI383.out)|refine below_set ?_ GE381.out|refine below_set ?_ GE382.out|refine below_set ?_ GE390.out)|exact HB.out)⟩

end Go.Proofs.Ytlhjjpdlfddflac.PFnDrums
