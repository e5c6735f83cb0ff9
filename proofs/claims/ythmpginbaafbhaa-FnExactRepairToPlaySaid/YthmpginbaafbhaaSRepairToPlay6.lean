/- The walks of functions that FnExactRepairToPlay reaches: what they return is what the plain functions of the same names say. Laid by a program of this session after the kit's print. No conditions beyond the arguments' being read. -/
import Derived.Test.YthmpginbaafbhaaSRepairToPlay0
import Derived.Test.YthmpginbaafbhaaSRepairToPlay1
import Derived.Test.YthmpginbaafbhaaSRepairToPlay5
namespace Go.Proofs.Ythmpginbaafbhaa.PFnExactRepairToPlay
open Go.RowKit Go.Proofs.YthmpginbaafbhaaW.PrintWords Go.Proofs.YthmpginbaafbhaaW.PrintLast Go.Proofs.YthmpginbaafbhaaW.PrintMore
attribute [local go_sem] max2_int min2_int max_two min_two max_three min_three max_four min_four   -- for this text's walks alone
set_option linter.unusedVariables false
set_option linter.unusedSimpArgs false

def spec_inPlays.f (k:Nat) (l0_0:List Int) (a0_1:Int) (l1:List (S55)):Option (Bool):=(spec_inMissing.f k l0_0 a0_1 l1).bind fun t217=>(if(t217.length:Int)=0 then((spec_inFast.f k l1 a0_1).bind fun t220=>(some ((t220.length:Int) == 0))) else(some false))
set_option maxHeartbeats 8000000 in
set_option maxRecDepth 100000 in
theorem spec_inPlays.calls (k:Nat) (A0_0:Option Addr) (c0_0:Nat) (l0_0:List Int) (a0_1:Int) (A1:Option Addr) (c1:Nat) (l1:List (S55)) (r:Bool) (w:World) (hr0_0:Kd.C (Kd.int .i64) w A0_0 l0_0.length l0_0) (hc0_0:l0_0.length≤c0_0) (hr1:Kd.C k55 w A1 l1.length l1) (hc1:l1.length≤c1) (h:spec_inPlays.f k l0_0 a0_1 l1=some r) :
  Calls Try.prog 38 #[.agg #[.slice A0_0 l0_0.length c0_0,.int .i64 a0_1],.slice A1 l1.length c1] w fun e w'=>e = .returned (.bool r)∧Below w.heap.size w w':=by
 have hu32:=Try.underlying32
 have HR0_0:=am hr0_0
 have HC0_0:=am hc0_0
 clear hr0_0 hc0_0
 have HR1:=am hr1
 have HC1:=am hc1
 clear hr1 hc1
 have HB:=am (Below.refl w.heap.size w)
 have H:((spec_inMissing.f k l0_0 a0_1 l1).bind fun t217=>(if(t217.length:Int)=0 then((spec_inFast.f k l1 a0_1).bind fun t220=>(some ((t220.length:Int) == 0))) else(some false)))=some r:=h
 clear h
 obtain⟨t217,A3,H⟩:=bnd H
 rcases itc H with⟨c4,H⟩|⟨c4,H⟩
 ·have c4b0:((t217.length:Int) == 0)=true:=beq_iff_eq.mpr c4
  have c4b1:((t217.length:Int) != 0)=false:=bne_eq_false_iff_eq.mpr c4
  clear c4
  obtain⟨t220,A5,H⟩:=bnd H
  obtain rfl:=Option.some.inj H
  go_enter Try.func38,Try.ntmps38
  go_wp2_with (first|((with_reducible refine gate_dst (N:=2) rfl ?_);(try(refine gate_guard (by rfl) ?_;dsimp only));refine box_event ?hg (N:=2) ?hd (cs := #[.slice A0_0 l0_0.length c0_0,.int .i64 a0_1]) (t:=32) ?hr ?_;(case hd=>rfl);(case hg=>rfl);(case hr=>first|(go_simp;done)|(go_simp;rfl));intro gb216 hg w6 hbox hb;have BK216:=am (hbox);have GW216:=am (ge_ bl hg);have GE216:=am (ge_ bl hg);replace HB:=am (below_step bl hb);clear hb hbox hg;have hcz7_0:w6.cell? ⟨gb216,0,none⟩=some (.slice A0_0 l0_0.length c0_0):=(blk_cell BK216.out 0).trans rfl;have hcz7_1:w6.cell? ⟨gb216,1,none⟩=some (.int .i64 a0_1):=(blk_cell BK216.out 1).trans rfl;have hfz7_0:=blk_frozen BK216.out 0;have hfz7_1:=blk_frozen BK216.out 1)|((with_reducible refine gate_callee (f:=58) rfl ?_);refine goesL_ (some 7) rfl rfl Try.func58 (by kernel_rfl) rfl #[.agg #[.slice A0_0 l0_0.length c0_0,.int .i64 a0_1],.slice A1 l1.length c1] rfl tl ?_;(with_reducible refine(spec_inMissing.calls k _ _ l0_0 a0_1 _ _ l1 t217 _ ?side1 ?side2 ?side3 ?side4 A3.out).mono ?_);(case side1=>exact cup (Kd.C_below HR0_0.out HB.out));(case side2=>exact HC0_0.out);(case side3=>exact cup (Kd.C_below HR1.out HB.out));(case side4=>exact HC1.out);rintro e w8 ⟨v218,rfl,ho0,hb⟩;refine⟨_,rfl,?_⟩;have HO219:=am (Kd.R_lower ho0 (below_size bl));replace BK216:=am (blk_below (bup BK216.out) hb);replace HB:=am (below_step bl hb);(try clear hb);(try clear ho0);obtain⟨Ao9,co9,eo9⟩:=Kd.R_slice HO219.out;subst eo9;have hcz10_0:w8.cell? ⟨gb216,0,none⟩=some (.slice A0_0 l0_0.length c0_0):=(blk_cell BK216.out 0).trans rfl;have hcz10_1:w8.cell? ⟨gb216,1,none⟩=some (.int .i64 a0_1):=(blk_cell BK216.out 1).trans rfl;have hfz10_0:=blk_frozen BK216.out 0;have hfz10_1:=blk_frozen BK216.out 1)|(go_at_call 59;(with_reducible refine(spec_inFast.calls k _ _ l1 a0_1 t220 _ ?side1 ?side2 A5.out).mono ?_);(case side1=>exact cup (Kd.C_below HR1.out HB.out));(case side2=>exact HC1.out);rintro e w11 ⟨v221,rfl,ho0,hb⟩;have HO222:=am (Kd.S_lower (Kd.S_new' ho0 (Kd.R_lt (rup HO219.out))) (below_size bl));replace HO219:=am (Kd.R_below (rup HO219.out) hb);replace BK216:=am (blk_below (bup BK216.out) hb);replace HB:=am (below_step bl hb);(try clear hb);(try clear ho0);obtain⟨Ao12,co12,eo12⟩:=Kd.S_slice HO222.out;subst eo12))
  go_ret
  exact⟨fin1,bl⟩
 ·have c4b0:((t217.length:Int) == 0)=false:=beq_eq_false_iff_ne.mpr c4
  have c4b1:((t217.length:Int) != 0)=true:=bne_iff_ne.mpr c4
  have c4b2:¬ (t217=[]):=fun h_=>c4 (by rw[h_];rfl)
  obtain rfl:=Option.some.inj H
  go_enter Try.func38,Try.ntmps38
  go_wp2_with (first|((with_reducible refine gate_dst (N:=2) rfl ?_);(try(refine gate_guard (by rfl) ?_;dsimp only));refine box_event ?hg (N:=2) ?hd (cs := #[.slice A0_0 l0_0.length c0_0,.int .i64 a0_1]) (t:=32) ?hr ?_;(case hd=>rfl);(case hg=>rfl);(case hr=>first|(go_simp;done)|(go_simp;rfl));intro gb216 hg w13 hbox hb;have BK216:=am (hbox);have GW216:=am (ge_ bl hg);have GE216:=am (ge_ bl hg);replace HB:=am (below_step bl hb);clear hb hbox hg;have hcz14_0:w13.cell? ⟨gb216,0,none⟩=some (.slice A0_0 l0_0.length c0_0):=(blk_cell BK216.out 0).trans rfl;have hcz14_1:w13.cell? ⟨gb216,1,none⟩=some (.int .i64 a0_1):=(blk_cell BK216.out 1).trans rfl;have hfz14_0:=blk_frozen BK216.out 0;have hfz14_1:=blk_frozen BK216.out 1)|((with_reducible refine gate_callee (f:=58) rfl ?_);refine goesL_ (some 7) rfl rfl Try.func58 (by kernel_rfl) rfl #[.agg #[.slice A0_0 l0_0.length c0_0,.int .i64 a0_1],.slice A1 l1.length c1] rfl tl ?_;(with_reducible refine(spec_inMissing.calls k _ _ l0_0 a0_1 _ _ l1 t217 _ ?side1 ?side2 ?side3 ?side4 A3.out).mono ?_);(case side1=>exact cup (Kd.C_below HR0_0.out HB.out));(case side2=>exact HC0_0.out);(case side3=>exact cup (Kd.C_below HR1.out HB.out));(case side4=>exact HC1.out);rintro e w15 ⟨v218,rfl,ho0,hb⟩;refine⟨_,rfl,?_⟩;have HO219:=am (Kd.R_lower ho0 (below_size bl));replace BK216:=am (blk_below (bup BK216.out) hb);replace HB:=am (below_step bl hb);(try clear hb);(try clear ho0);obtain⟨Ao16,co16,eo16⟩:=Kd.R_slice HO219.out;subst eo16))
  go_ret
  exact⟨fin1,bl⟩

def spec_laHole.f (k:Nat) (l0_0:List Int) (a0_1:Int) (a1_0:Int) (a1_1:Int) (a1_2:Int):Option (Int×Int×Int×Bool):=(spec_inTrack.f k l0_0 a0_1 a1_0).bind fun t226=>((spec_shHole.f t226 (wrap64 (2*a1_1)) (wrap64 ((wrap64 (2*(wrap64 (a1_1+a1_2)))) - 1))).bind fun t228=>(if t228=true then(some (t226,wrap64 (2*a1_1),wrap64 ((wrap64 (2*(wrap64 (a1_1+a1_2)))) - 1),true)) else(some (0,0,0,false))))
def spec_laHole.T1:Bool×List (List Nat×List Nat):=(true,[([],[]),([],[]),([1],[1]),([0,2],[0,2]),([],[]),([4],[4]),([5],[5]),([],[]),([7],[7]),([],[]),([9],[9]),([8,10],[8,10]),([11],[11]),([12],[12]),([3,6,13],[3,6,13]),([],[]),([15,14,3,0,1,2,3,4,5,6,7,8,9,10,11,12,13,14,15],[14,15])])
def spec_laHole.B1:List Nat:=[0,0,2,7,0,16,48,0,128,0,512,1920,3968,8064,16383,0,65535]
theorem spec_laHole.tab1:rtab .any (opsOf Try.f39 1)=spec_laHole.T1:=by kernel_rfl
theorem spec_laHole.bits1:waitsOk spec_laHole.T1.2 spec_laHole.B1=true:=by kernel_rfl
set_option maxHeartbeats 8000000 in
set_option maxRecDepth 100000 in
theorem spec_laHole.calls (k:Nat) (A0_0:Option Addr) (c0_0:Nat) (l0_0:List Int) (a0_1:Int) (a1_0:Int) (a1_1:Int) (a1_2:Int) (r1:Int) (r2:Int) (r3:Int) (r4:Bool) (w:World) (hr0_0:Kd.C (Kd.int .i64) w A0_0 l0_0.length l0_0) (hc0_0:l0_0.length≤c0_0) (h:spec_laHole.f k l0_0 a0_1 a1_0 a1_1 a1_2=some (r1,r2,r3,r4)) :
  Calls Try.prog 39 #[.agg #[.slice A0_0 l0_0.length c0_0,.int .i64 a0_1],.agg #[.int .i64 a1_0,.int .i64 a1_1,.int .i64 a1_2]] w fun e w'=>e = .returned (.tuple #[.agg #[.int .i64 r1,.int .i64 r2,.int .i64 r3],.bool r4])∧Below w.heap.size w w':=by
 have hu32:=Try.underlying32
 have hu55:=Try.underlying55
 have hu51:=Try.underlying51
 have HR0_0:=am hr0_0
 have HC0_0:=am hc0_0
 clear hr0_0 hc0_0
 have HB:=am (Below.refl w.heap.size w)
 have H:((spec_inTrack.f k l0_0 a0_1 a1_0).bind fun t226=>((spec_shHole.f t226 (wrap64 (2*a1_1)) (wrap64 ((wrap64 (2*(wrap64 (a1_1+a1_2)))) - 1))).bind fun t228=>(if t228=true then(some (t226,wrap64 (2*a1_1),wrap64 ((wrap64 (2*(wrap64 (a1_1+a1_2)))) - 1),true)) else(some (0,0,0,false)))))=some (r1,r2,r3,r4):=h
 clear h
 replace H:=Option.bind_eq_some_iff.mp H
 obtain⟨t226,A30,H⟩:=H
 replace H:((spec_shHole.f t226 (wrap64 (2*a1_1)) (wrap64 ((wrap64 (2*(wrap64 (a1_1+a1_2)))) - 1))).bind fun t228=>(if t228=true then(some (t226,wrap64 (2*a1_1),wrap64 ((wrap64 (2*(wrap64 (a1_1+a1_2)))) - 1),true)) else(some (0,0,0,false))))=some (r1,r2,r3,r4):=H
 have A3:=am A30
 clear A30
 replace H:=Option.bind_eq_some_iff.mp H
 obtain⟨t228,A40,H⟩:=H
 replace H:(if t228=true then(some (t226,wrap64 (2*a1_1),wrap64 ((wrap64 (2*(wrap64 (a1_1+a1_2)))) - 1),true)) else(some (0,0,0,false)))=some (r1,r2,r3,r4):=H
 have A4:=am A40
 clear A40
 by_cases c5:t228=true
 ·subst c5
  replace H:=(if_pos rfl).symm.trans H
  simp only[Option.some.injEq,Prod.mk.injEq] at H
  obtain⟨rfl,rfl,rfl,rfl⟩:=H
  go_enter Try.func39,Try.ntmps39
  try go_wp2_with (first|((with_reducible refine gate_dst (N:=2) rfl ?_);refine box_event ?hg (N:=2) ?hd (cs := #[.slice A0_0 l0_0.length c0_0,.int .i64 a0_1]) (t:=32) ?hr ?_;(case hd=>rfl);(case hg=>rfl);(case hr=>first|(go_simp;done)|(go_simp;rfl));intro gb223 hg w6 hbox hb;have BK223:=am (hbox);have GW223:=am (ge_ bl hg);have GE223:=am (ge_ bl hg);replace HB:=am (below_step bl hb);clear hb hbox hg)|((with_reducible refine gate_dst (N:=3) rfl ?_);refine box_event ?hg (N:=3) ?hd (cs := #[.int .i64 a1_0,.int .i64 a1_1,.int .i64 a1_2]) (t:=55) ?hr ?_;(case hd=>rfl);(case hg=>rfl);(case hr=>first|(go_simp;done)|(go_simp;rfl));intro gb224 hg w7 hbox hb;have BK224:=am (hbox);have GW224:=am (ge_ bl hg);have GE224:=am (ge_ bl hg);replace HB:=am (below_step bl hb);have NB223_224:=am (nl (bup BK223.out) hg);have NB224_223:=am (ng (bup BK223.out) hg);replace BK223:=am (blk_below (bup BK223.out) hb);clear hb hbox hg)|((with_reducible refine gate_dst (N:=4) rfl ?_);refine box_event ?hg (N:=4) ?hd (cs := #[.int .i64 0,.int .i64 0,.int .i64 0]) (t:=51) ?hr ?_;(case hd=>rfl);(case hg=>rfl);(case hr=>first|(go_simp;done)|(go_simp;rfl));intro gb225 hg w8 hbox hb;have BK225:=am (hbox);have GW225:=am (ge_ bl hg);have GE225:=am (ge_ bl hg);replace HB:=am (below_step bl hb);have NB223_225:=am (nl (bup BK223.out) hg);have NB225_223:=am (ng (bup BK223.out) hg);replace BK223:=am (blk_below (bup BK223.out) hb);have NB224_225:=am (nl (bup BK224.out) hg);have NB225_224:=am (ng (bup BK224.out) hg);replace BK224:=am (blk_below (bup BK224.out) hb);clear hb hbox hg))
  replace BK223:=am (bD_ BK223.out)
  replace BK224:=am (bD_ BK224.out)
  replace BK225:=am (bD_ BK225.out)
  replace HB:=am (below_drew1 HB.out)
  refine start_ (n:=17) (S:=fun w'=>w'.cell? ⟨gb223,0,none⟩=some (.slice A0_0 l0_0.length c0_0)∧w'.cell? ⟨gb223,1,none⟩=some (.int .i64 a0_1)∧w'.cell? ⟨gb224,0,none⟩=some (.int .i64 a1_0)∧w'.cell? ⟨gb224,1,none⟩=some (.int .i64 a1_1)∧w'.cell? ⟨gb224,2,none⟩=some (.int .i64 a1_2)) (ds:=[]) (fl 0 17) (by kernel_rfl) rfl rfl ⟨(blk_cell BK223.out 0).trans rfl,(blk_cell BK223.out 1).trans rfl,(blk_cell BK224.out 0).trans rfl,(blk_cell BK224.out 1).trans rfl,(blk_cell BK224.out 2).trans rfl⟩ (fun hHeld=>?_);refine with_tabW spec_laHole.tab1 spec_laHole.bits1 (fun HT_ HW_=>?_)
  generalize w8.drew=w9 at BK223 BK224 BK225 HB hHeld ⊢
  refine pu HT_.out 1 (some 8) #[false,true,false,false,false,false,false,false,false,false,false,false,false,false,false,false,false] (h:=?_)
  refine pu HT_.out 4 (some 11) #[false,true,false,false,true,false,false,false,false,false,false,false,false,false,false,false,false] (h:=?_)
  refine pu HT_.out 7 (some 14) #[false,true,false,false,true,false,false,true,false,false,false,false,false,false,false,false,false] (h:=?_)
  refine pu HT_.out 9 (some 16) #[false,true,false,false,true,false,false,true,false,true,false,false,false,false,false,false,false] (h:=?_)
  refine ta HT_.out HW_.out 0 (some 7) #[true,true,false,false,true,false,false,true,false,true,false,false,false,false,false,false,false] hHeld rfl (by rintro w' ⟨s0,s1,s2,s3,s4⟩;go_simp;with_reducible rfl) (h:=?_)
  refine ta HT_.out HW_.out 2 (some 9) #[true,true,true,false,true,false,false,true,false,true,false,false,false,false,false,false,false] hHeld rfl (by rintro w' ⟨s0,s1,s2,s3,s4⟩;go_simp;with_reducible rfl) (h:=?_)
  refine ta HT_.out HW_.out 5 (some 12) #[true,true,true,false,true,true,false,true,false,true,false,false,false,false,false,false,false] hHeld rfl (by rintro w' ⟨s0,s1,s2,s3,s4⟩;go_simp;with_reducible rfl) (h:=?_)
  refine pu HT_.out 6 (some 13) #[true,true,true,false,true,true,true,true,false,true,false,false,false,false,false,false,false] (h:=?_)
  refine ta HT_.out HW_.out 8 (some 15) #[true,true,true,false,true,true,true,true,true,true,false,false,false,false,false,false,false] hHeld rfl (by rintro w' ⟨s0,s1,s2,s3,s4⟩;go_simp;with_reducible rfl) (h:=?_)
  refine ta HT_.out HW_.out 10 (some 17) #[true,true,true,false,true,true,true,true,true,true,true,false,false,false,false,false,false] hHeld rfl (by rintro w' ⟨s0,s1,s2,s3,s4⟩;go_simp;with_reducible rfl) (h:=?_)
  refine pu HT_.out 11 (some 18) #[true,true,true,false,true,true,true,true,true,true,true,true,false,false,false,false,false] (h:=?_)
  refine pu HT_.out 12 (some 19) #[true,true,true,false,true,true,true,true,true,true,true,true,true,false,false,false,false] (h:=?_)
  refine pu HT_.out 13 (some 20) #[true,true,true,false,true,true,true,true,true,true,true,true,true,true,false,false,false] (h:=?_)
  refine join_ (σ:=Nat) 1 (fl 16 17) (fun s_=>[(10,.int .i64 t226),(6,.pointer (some ⟨s_,0,none⟩)),(21,.agg #[.int .i64 t226,.int .i64 (wrap64 (2*a1_1)),.int .i64 (wrap64 ((wrap64 (2*(wrap64 (a1_1+a1_2)))) - 1))])]) (fun s_ w'=>(w'.cell? ⟨gb223,0,none⟩=some (.slice A0_0 l0_0.length c0_0)∧w'.cell? ⟨gb223,1,none⟩=some (.int .i64 a0_1)∧w'.cell? ⟨gb224,0,none⟩=some (.int .i64 a1_0)∧w'.cell? ⟨gb224,1,none⟩=some (.int .i64 a1_1)∧w'.cell? ⟨gb224,2,none⟩=some (.int .i64 a1_2))∧(w'.heap[gb223]?=some (.cells #[.slice A0_0 l0_0.length c0_0,.int .i64 a0_1] 32 (0,0)))∧(w'.heap[gb224]?=some (.cells #[.int .i64 a1_0,.int .i64 a1_1,.int .i64 a1_2] 55 (0,0)))∧(w'.heap[gb225]?=some (.cells #[.int .i64 0,.int .i64 0,.int .i64 0] 51 (0,0)))∧(w'.heap[s_]?=some (.cells #[.int .i64 0,.int .i64 0,.int .i64 0] 51 (0,0)))∧(w.heap.size≤s_)∧(w.heap.size≤s_)∧(gb223≠s_)∧(s_≠gb223)∧(gb224≠s_)∧(s_≠gb224)∧(gb225≠s_)∧(s_≠gb225)∧(Below w.heap.size w w')) ?_ ?_
  rotate_left
  ·intro hCont
   refine two_ (i:=3) (j:=15) (Ni:=some 10) (Nj:=some 6) (fl 14 17) #[true,true,true,false,true,true,true,true,true,true,true,true,true,true,false,true,false] rfl rfl rfl rfl (two_of HT_.out (by kernel_rfl)) (by decide) (by decide) (fun K hK=>?_) (fun K hK=>?_)
   ·skip
    refine goes_ Try.func60 (by kernel_rfl) rfl #[.agg #[.slice A0_0 l0_0.length c0_0,.int .i64 a0_1],.int .i64 a1_0] (by rfl) rfl rfl tl ?_
    with_reducible refine(spec_inTrack.calls k _ _ l0_0 a0_1 a1_0 t226 _ ?side1 ?side2 A3.out).mono ?_
    (case side1=>exact cup (Kd.C_below HR0_0.out HB.out))
    (case side2=>exact HC0_0.out)
    rintro e w10 ⟨rfl,hb⟩
    refine⟨_,rfl,?_⟩
    replace BK223:=am (blk_below (bup BK223.out) hb)
    replace BK224:=am (blk_below (bup BK224.out) hb)
    replace BK225:=am (blk_below (bup BK225.out) hb)
    replace HB:=am (below_step bl hb)
    (try clear hb)
    refine hK.out _ _ ⟨(blk_cell BK223.out 0).trans rfl,(blk_cell BK223.out 1).trans rfl,(blk_cell BK224.out 0).trans rfl,(blk_cell BK224.out 1).trans rfl,(blk_cell BK224.out 2).trans rfl⟩ (fun hHeld=>?_)
    clear hK K
    refine norm_ (a':=?_) ?_ ?_
    rotate_left
    ·show Act.put _ (some 10) _=_
     simp only[Act.put,List.setIfInBounds_toArray,List.set_cons_zero,List.set_cons_succ,i64_w,i32_w]
     rfl
    refine pu HT_.out 14 (some 21) (fl 15 17) (h:=?_)
    refine one_ (i:=15) (N:=some 6) (fl 16 17) rfl rfl (one_of HT_.out (by kernel_rfl)) (by decide) (fun K hK=>?_)
    refine box_step ?hg (N:=6) ?hd (cs := #[.int .i64 0,.int .i64 0,.int .i64 0]) (t:=51) ?hr ?_;(case hd=>rfl);(case hg=>rfl);(case hr=>first|(go_simp;done)|(go_simp;rfl))
    intro gb227 hg w11 hbox hb
    have BK227:=am (hbox)
    have GW227:=am (ge_ bl hg)
    have GE227:=am (ge_ bl hg)
    replace HB:=am (below_step bl hb)
    have NB223_227:=am (nl (bup BK223.out) hg)
    have NB227_223:=am (ng (bup BK223.out) hg)
    replace BK223:=am (blk_below (bup BK223.out) hb)
    have NB224_227:=am (nl (bup BK224.out) hg)
    have NB227_224:=am (ng (bup BK224.out) hg)
    replace BK224:=am (blk_below (bup BK224.out) hb)
    have NB225_227:=am (nl (bup BK225.out) hg)
    have NB227_225:=am (ng (bup BK225.out) hg)
    replace BK225:=am (blk_below (bup BK225.out) hb)
    clear hb hbox hg
    refine hK.out _ _ ⟨(blk_cell BK223.out 0).trans rfl,(blk_cell BK223.out 1).trans rfl,(blk_cell BK224.out 0).trans rfl,(blk_cell BK224.out 1).trans rfl,(blk_cell BK224.out 2).trans rfl⟩ (fun hHeld=>?_)
    clear hK K
    refine norm_ (a':=?_) ?_ ?_
    rotate_left
    ·show Act.put _ (some 6) _=_
     simp only[Act.put,List.setIfInBounds_toArray,List.set_cons_zero,List.set_cons_succ,i64_w,i32_w]
     rfl
    exact norm_ (by simp only[putAll,Act.put,List.setIfInBounds_toArray,List.set_cons_zero,List.set_cons_succ]) (hCont (gb227) _ ⟨hHeld,(bup BK223.out),(bup BK224.out),(bup BK225.out),(bup BK227.out),GW227.out,GE227.out,NB223_227.out,NB227_223.out,NB224_227.out,NB227_224.out,NB225_227.out,NB227_225.out,bl⟩)
   ·skip
    refine box_step ?hg (N:=6) ?hd (cs := #[.int .i64 0,.int .i64 0,.int .i64 0]) (t:=51) ?hr ?_;(case hd=>rfl);(case hg=>rfl);(case hr=>first|(go_simp;done)|(go_simp;rfl))
    intro gb227 hg w10 hbox hb
    have BK227:=am (hbox)
    have GW227:=am (ge_ bl hg)
    have GE227:=am (ge_ bl hg)
    replace HB:=am (below_step bl hb)
    have NB223_227:=am (nl (bup BK223.out) hg)
    have NB227_223:=am (ng (bup BK223.out) hg)
    replace BK223:=am (blk_below (bup BK223.out) hb)
    have NB224_227:=am (nl (bup BK224.out) hg)
    have NB227_224:=am (ng (bup BK224.out) hg)
    replace BK224:=am (blk_below (bup BK224.out) hb)
    have NB225_227:=am (nl (bup BK225.out) hg)
    have NB227_225:=am (ng (bup BK225.out) hg)
    replace BK225:=am (blk_below (bup BK225.out) hb)
    clear hb hbox hg
    refine hK.out _ _ ⟨(blk_cell BK223.out 0).trans rfl,(blk_cell BK223.out 1).trans rfl,(blk_cell BK224.out 0).trans rfl,(blk_cell BK224.out 1).trans rfl,(blk_cell BK224.out 2).trans rfl⟩ (fun hHeld=>?_)
    clear hK K
    refine norm_ (a':=?_) ?_ ?_
    rotate_left
    ·show Act.put _ (some 6) _=_
     simp only[Act.put,List.setIfInBounds_toArray,List.set_cons_zero,List.set_cons_succ,i64_w,i32_w]
     rfl
    refine one_ (i:=3) (N:=some 10) #[true,true,true,true,true,true,true,true,true,true,true,true,true,true,false,true,false] rfl rfl (one_of HT_.out (by kernel_rfl)) (by decide) (fun K hK=>?_)
    refine goes_ Try.func60 (by kernel_rfl) rfl #[.agg #[.slice A0_0 l0_0.length c0_0,.int .i64 a0_1],.int .i64 a1_0] (by rfl) rfl rfl tl ?_
    with_reducible refine(spec_inTrack.calls k _ _ l0_0 a0_1 a1_0 t226 _ ?side1 ?side2 A3.out).mono ?_
    (case side1=>exact cup (Kd.C_below HR0_0.out HB.out))
    (case side2=>exact HC0_0.out)
    rintro e w11 ⟨rfl,hb⟩
    refine⟨_,rfl,?_⟩
    replace BK223:=am (blk_below (bup BK223.out) hb)
    replace BK224:=am (blk_below (bup BK224.out) hb)
    replace BK225:=am (blk_below (bup BK225.out) hb)
    replace BK227:=am (blk_below (bup BK227.out) hb)
    replace HB:=am (below_step bl hb)
    (try clear hb)
    refine hK.out _ _ ⟨(blk_cell BK223.out 0).trans rfl,(blk_cell BK223.out 1).trans rfl,(blk_cell BK224.out 0).trans rfl,(blk_cell BK224.out 1).trans rfl,(blk_cell BK224.out 2).trans rfl⟩ (fun hHeld=>?_)
    clear hK K
    refine norm_ (a':=?_) ?_ ?_
    rotate_left
    ·show Act.put _ (some 10) _=_
     simp only[Act.put,List.setIfInBounds_toArray,List.set_cons_zero,List.set_cons_succ,i64_w,i32_w]
     rfl
    refine pu HT_.out 14 (some 21) (fl 16 17) (h:=?_)
    exact norm_ (by simp only[putAll,Act.put,List.setIfInBounds_toArray,List.set_cons_zero,List.set_cons_succ]) (hCont (gb227) _ ⟨hHeld,(bup BK223.out),(bup BK224.out),(bup BK225.out),(bup BK227.out),GW227.out,GE227.out,NB223_227.out,NB227_223.out,NB224_227.out,NB227_224.out,NB225_227.out,NB227_225.out,bl⟩)
  rintro gb227 w12 ⟨hS_,h0_,h1_,h2_,h3_,h4_,h5_,h6_,h7_,h8_,h9_,h10_,h11_,h12_⟩
  have n0_:Aside0 (w12.heap[gb223]?=some (.cells #[.slice A0_0 l0_0.length c0_0,.int .i64 a0_1] 32 (0,0))):=⟨h0_⟩
  have n1_:Aside0 (w12.heap[gb224]?=some (.cells #[.int .i64 a1_0,.int .i64 a1_1,.int .i64 a1_2] 55 (0,0))):=⟨h1_⟩
  have n2_:Aside0 (w12.heap[gb225]?=some (.cells #[.int .i64 0,.int .i64 0,.int .i64 0] 51 (0,0))):=⟨h2_⟩
  have n3_:Aside0 (w12.heap[gb227]?=some (.cells #[.int .i64 0,.int .i64 0,.int .i64 0] 51 (0,0))):=⟨h3_⟩
  have n4_:Aside0 (w.heap.size≤gb227):=⟨h4_⟩
  have n5_:Aside0 (w.heap.size≤gb227):=⟨h5_⟩
  have n6_:Aside0 (gb223≠gb227):=⟨h6_⟩
  have n7_:Aside0 (gb227≠gb223):=⟨h7_⟩
  have n8_:Aside0 (gb224≠gb227):=⟨h8_⟩
  have n9_:Aside0 (gb227≠gb224):=⟨h9_⟩
  have n10_:Aside0 (gb225≠gb227):=⟨h10_⟩
  have n11_:Aside0 (gb227≠gb225):=⟨h11_⟩
  have n12_:Aside0 (Below w.heap.size w w12):=⟨h12_⟩
  clear BK223
  clear BK224
  clear BK225
  clear HB
  clear h0_ h1_ h2_ h3_ h4_ h5_ h6_ h7_ h8_ h9_ h10_ h11_ h12_
  have BK223:=n0_
  have BK224:=n1_
  have BK225:=n2_
  have BK227:=n3_
  have GW227:=n4_
  have GE227:=n5_
  have NB223_227:=n6_
  have NB227_223:=n7_
  have NB224_227:=n8_
  have NB227_224:=n9_
  have NB225_227:=n10_
  have NB227_225:=n11_
  have HB:=n12_
  clear n0_ n1_ n2_ n3_ n4_ n5_ n6_ n7_ n8_ n9_ n10_ n11_ n12_
  have hHeld:w12.cell? ⟨gb223,0,none⟩=some (.slice A0_0 l0_0.length c0_0)∧w12.cell? ⟨gb223,1,none⟩=some (.int .i64 a0_1)∧w12.cell? ⟨gb224,0,none⟩=some (.int .i64 a1_0)∧w12.cell? ⟨gb224,1,none⟩=some (.int .i64 a1_1)∧w12.cell? ⟨gb224,2,none⟩=some (.int .i64 a1_2):=hS_
  refine norm_ (a':=?_) ?_ ?_
  rotate_left
  ·simp only[putAll,Act.put,List.setIfInBounds_toArray,List.set_cons_zero,List.set_cons_succ]
   rfl
  refine one_ (i:=16) (N:=none) (fl 17 17) rfl rfl (one_of HT_.out (by kernel_rfl)) (by decide) (fun K hK=>?_)
  have hs13:w12.cell? ⟨gb227,0,none⟩=some (.int .i64 0):=(blk_cell BK227.out 0).trans rfl
  have hfs13:=blk_frozen BK227.out 0
  have hns13_0:=NB223_227.out
  have hns13_1:=NB224_227.out
  have hns13_2:=NB225_227.out
  have hms13_0:=NB227_223.out
  have hms13_1:=NB227_224.out
  have hms13_2:=NB227_225.out
  have hs14:w12.cell? ⟨gb227,1,none⟩=some (.int .i64 0):=(blk_cell BK227.out 1).trans rfl
  have hfs14:=blk_frozen BK227.out 1
  have hns14_0:=NB223_227.out
  have hns14_1:=NB224_227.out
  have hns14_2:=NB225_227.out
  have hms14_0:=NB227_223.out
  have hms14_1:=NB227_224.out
  have hms14_2:=NB227_225.out
  have hs15:w12.cell? ⟨gb227,2,none⟩=some (.int .i64 0):=(blk_cell BK227.out 2).trans rfl
  have hfs15:=blk_frozen BK227.out 2
  have hns15_0:=NB223_227.out
  have hns15_1:=NB224_227.out
  have hns15_2:=NB225_227.out
  have hms15_0:=NB227_223.out
  have hms15_1:=NB227_224.out
  have hms15_2:=NB227_225.out
  refine skip_ (w1:=?_) (by rfl) rfl ?_ ?_
  rotate_left
  ·go_simp
   rfl
  refine hK.out _ _ ⟨((cell_far (p:=⟨gb227,_,none⟩) NB223_227.out _).trans (((cell_far (p:=⟨gb227,_,none⟩) NB223_227.out _).trans (((cell_far (p:=⟨gb227,_,none⟩) NB223_227.out _).trans (hHeld.1)))))),((cell_far (p:=⟨gb227,_,none⟩) NB223_227.out _).trans (((cell_far (p:=⟨gb227,_,none⟩) NB223_227.out _).trans (((cell_far (p:=⟨gb227,_,none⟩) NB223_227.out _).trans (hHeld.2.1)))))),((cell_far (p:=⟨gb227,_,none⟩) NB224_227.out _).trans (((cell_far (p:=⟨gb227,_,none⟩) NB224_227.out _).trans (((cell_far (p:=⟨gb227,_,none⟩) NB224_227.out _).trans (hHeld.2.2.1)))))),((cell_far (p:=⟨gb227,_,none⟩) NB224_227.out _).trans (((cell_far (p:=⟨gb227,_,none⟩) NB224_227.out _).trans (((cell_far (p:=⟨gb227,_,none⟩) NB224_227.out _).trans (hHeld.2.2.2.1)))))),((cell_far (p:=⟨gb227,_,none⟩) NB224_227.out _).trans (((cell_far (p:=⟨gb227,_,none⟩) NB224_227.out _).trans (((cell_far (p:=⟨gb227,_,none⟩) NB224_227.out _).trans (hHeld.2.2.2.2))))))⟩ (fun hHeld=>?_)
  clear hK K
  refine done_ (done_of HT_.out (by kernel_rfl)) ?_
  have hnb16:=NB227_223.out
  have hnc16:=NB223_227.out
  have hnb17:=NB227_224.out
  have hnc17:=NB224_227.out
  have hnb18:=NB227_225.out
  have hnc18:=NB225_227.out
  have hcz19_0:w12.cell? ⟨gb227,0,none⟩=some (.int .i64 0):=(blk_cell BK227.out 0).trans rfl
  have hcz19_1:w12.cell? ⟨gb227,1,none⟩=some (.int .i64 0):=(blk_cell BK227.out 1).trans rfl
  have hcz19_2:w12.cell? ⟨gb227,2,none⟩=some (.int .i64 0):=(blk_cell BK227.out 2).trans rfl
  have hfz19_0:=blk_frozen BK227.out 0
  have hfz19_1:=blk_frozen BK227.out 1
  have hfz19_2:=blk_frozen BK227.out 2
  try go_wp2_with (first|((with_reducible refine gate_callee (f:=55) rfl ?_);refine goesL_ (some 23) rfl rfl Try.func55 (by kernel_rfl) rfl #[.agg #[.int .i64 t226,.int .i64 (wrap64 (2*a1_1)),.int .i64 (wrap64 ((wrap64 (2*(wrap64 (a1_1+a1_2)))) - 1))]] rfl tl ?_;(with_reducible refine(spec_shHole.calls t226 (wrap64 (2*a1_1)) (wrap64 ((wrap64 (2*(wrap64 (a1_1+a1_2)))) - 1)) true _ A4.out).mono ?_);rintro e w20 ⟨rfl,hb⟩;refine⟨_,rfl,?_⟩;replace BK223:=am (blk_below (g:=gb223) (o := .cells #[.slice A0_0 l0_0.length c0_0,.int .i64 a0_1] 32 (0,0)) (by(with_reducible repeat(first|refine bN_ ?_ _|refine bD_ ?_|refine bA_ ?_ _));refine blk_far ?_ NB223_227.out _;(with_reducible repeat(first|refine bN_ ?_ _|refine bD_ ?_|refine bA_ ?_ _));refine blk_far ?_ NB223_227.out _;(with_reducible repeat(first|refine bN_ ?_ _|refine bD_ ?_|refine bA_ ?_ _));refine blk_far ?_ NB223_227.out _;exact bup BK223.out) hb);replace BK224:=am (blk_below (g:=gb224) (o := .cells #[.int .i64 a1_0,.int .i64 a1_1,.int .i64 a1_2] 55 (0,0)) (by(with_reducible repeat(first|refine bN_ ?_ _|refine bD_ ?_|refine bA_ ?_ _));refine blk_far ?_ NB224_227.out _;(with_reducible repeat(first|refine bN_ ?_ _|refine bD_ ?_|refine bA_ ?_ _));refine blk_far ?_ NB224_227.out _;(with_reducible repeat(first|refine bN_ ?_ _|refine bD_ ?_|refine bA_ ?_ _));refine blk_far ?_ NB224_227.out _;exact bup BK224.out) hb);replace BK225:=am (blk_below (g:=gb225) (o := .cells #[.int .i64 0,.int .i64 0,.int .i64 0] 51 (0,0)) (by(with_reducible repeat(first|refine bN_ ?_ _|refine bD_ ?_|refine bA_ ?_ _));refine blk_far ?_ NB225_227.out _;(with_reducible repeat(first|refine bN_ ?_ _|refine bD_ ?_|refine bA_ ?_ _));refine blk_far ?_ NB225_227.out _;(with_reducible repeat(first|refine bN_ ?_ _|refine bD_ ?_|refine bA_ ?_ _));refine blk_far ?_ NB225_227.out _;exact bup BK225.out) hb);replace BK227:=am (blk_below (g:=gb227) (o := .cells #[.int .i64 t226,.int .i64 (wrap64 (2*a1_1)),.int .i64 (wrap64 ((wrap64 (2*(wrap64 (a1_1+a1_2)))) - 1))] 51 (0,0)) (by(with_reducible repeat(first|refine bN_ ?_ _|refine bD_ ?_|refine bA_ ?_ _));refine blk_put (cs := #[.int .i64 t226,.int .i64 (wrap64 (2*a1_1)),.int .i64 0]) ?_ 2 _ rfl;(with_reducible repeat(first|refine bN_ ?_ _|refine bD_ ?_|refine bA_ ?_ _));refine blk_put (cs := #[.int .i64 t226,.int .i64 0,.int .i64 0]) ?_ 1 _ rfl;(with_reducible repeat(first|refine bN_ ?_ _|refine bD_ ?_|refine bA_ ?_ _));refine blk_put (cs := #[.int .i64 0,.int .i64 0,.int .i64 0]) ?_ 0 _ rfl;exact bup BK227.out) hb);replace HB:=am (below_step bl hb);(try clear hb);have hcz21_0:w20.cell? ⟨gb227,0,none⟩=some (.int .i64 t226):=(blk_cell BK227.out 0).trans rfl;have hcz21_1:w20.cell? ⟨gb227,1,none⟩=some (.int .i64 (wrap64 (2*a1_1))):=(blk_cell BK227.out 1).trans rfl;have hcz21_2:w20.cell? ⟨gb227,2,none⟩=some (.int .i64 (wrap64 ((wrap64 (2*(wrap64 (a1_1+a1_2)))) - 1))):=(blk_cell BK227.out 2).trans rfl;have hfz21_0:=blk_frozen BK227.out 0;have hfz21_1:=blk_frozen BK227.out 1;have hfz21_2:=blk_frozen BK227.out 2;have hnb22:=NB225_223.out;have hnc22:=NB223_225.out;have hnb23:=NB225_224.out;have hnc23:=NB224_225.out;have hcz24_0:w20.cell? ⟨gb225,0,none⟩=some (.int .i64 0):=(blk_cell BK225.out 0).trans rfl;have hcz24_1:w20.cell? ⟨gb225,1,none⟩=some (.int .i64 0):=(blk_cell BK225.out 1).trans rfl;have hcz24_2:w20.cell? ⟨gb225,2,none⟩=some (.int .i64 0):=(blk_cell BK225.out 2).trans rfl;have hfz24_0:=blk_frozen BK225.out 0;have hfz24_1:=blk_frozen BK225.out 1;have hfz24_2:=blk_frozen BK225.out 2))
  refine bodyPost_ret (results_ct rfl _ _ gb225 51 #[.int .i64 t226,.int .i64 (wrap64 (2*a1_1)),.int .i64 (wrap64 ((wrap64 (2*(wrap64 (a1_1+a1_2)))) - 1))] (0,0) _ rfl (by(with_reducible repeat(first|refine bN_ ?_ _|refine bD_ ?_|refine bA_ ?_ _));refine blk_put (cs := #[.int .i64 t226,.int .i64 (wrap64 (2*a1_1)),.int .i64 0]) ?_ 2 _ rfl;(with_reducible repeat(first|refine bN_ ?_ _|refine bD_ ?_|refine bA_ ?_ _));refine blk_put (cs := #[.int .i64 t226,.int .i64 0,.int .i64 0]) ?_ 1 _ rfl;(with_reducible repeat(first|refine bN_ ?_ _|refine bD_ ?_|refine bA_ ?_ _));refine blk_put (cs := #[.int .i64 0,.int .i64 0,.int .i64 0]) ?_ 0 _ rfl;exact bup BK225.out) Try.underlying51 rfl (by kernel_rfl)) rfl ?_
  exact⟨fin1,bl⟩
 ·replace c5:=Bool.eq_false_iff.mpr c5
  subst c5
  replace H:=(if_neg Bool.false_ne_true).symm.trans H
  simp only[Option.some.injEq,Prod.mk.injEq] at H
  obtain⟨rfl,rfl,rfl,rfl⟩:=H
  go_enter Try.func39,Try.ntmps39
  try go_wp2_with (first|((with_reducible refine gate_dst (N:=2) rfl ?_);refine box_event ?hg (N:=2) ?hd (cs := #[.slice A0_0 l0_0.length c0_0,.int .i64 a0_1]) (t:=32) ?hr ?_;(case hd=>rfl);(case hg=>rfl);(case hr=>first|(go_simp;done)|(go_simp;rfl));intro gb223 hg w25 hbox hb;have BK223:=am (hbox);have GW223:=am (ge_ bl hg);have GE223:=am (ge_ bl hg);replace HB:=am (below_step bl hb);clear hb hbox hg)|((with_reducible refine gate_dst (N:=3) rfl ?_);refine box_event ?hg (N:=3) ?hd (cs := #[.int .i64 a1_0,.int .i64 a1_1,.int .i64 a1_2]) (t:=55) ?hr ?_;(case hd=>rfl);(case hg=>rfl);(case hr=>first|(go_simp;done)|(go_simp;rfl));intro gb224 hg w26 hbox hb;have BK224:=am (hbox);have GW224:=am (ge_ bl hg);have GE224:=am (ge_ bl hg);replace HB:=am (below_step bl hb);have NB223_224:=am (nl (bup BK223.out) hg);have NB224_223:=am (ng (bup BK223.out) hg);replace BK223:=am (blk_below (bup BK223.out) hb);clear hb hbox hg)|((with_reducible refine gate_dst (N:=4) rfl ?_);refine box_event ?hg (N:=4) ?hd (cs := #[.int .i64 0,.int .i64 0,.int .i64 0]) (t:=51) ?hr ?_;(case hd=>rfl);(case hg=>rfl);(case hr=>first|(go_simp;done)|(go_simp;rfl));intro gb225 hg w27 hbox hb;have BK225:=am (hbox);have GW225:=am (ge_ bl hg);have GE225:=am (ge_ bl hg);replace HB:=am (below_step bl hb);have NB223_225:=am (nl (bup BK223.out) hg);have NB225_223:=am (ng (bup BK223.out) hg);replace BK223:=am (blk_below (bup BK223.out) hb);have NB224_225:=am (nl (bup BK224.out) hg);have NB225_224:=am (ng (bup BK224.out) hg);replace BK224:=am (blk_below (bup BK224.out) hb);clear hb hbox hg))
  replace BK223:=am (bD_ BK223.out)
  replace BK224:=am (bD_ BK224.out)
  replace BK225:=am (bD_ BK225.out)
  replace HB:=am (below_drew1 HB.out)
  refine start_ (n:=17) (S:=fun w'=>w'.cell? ⟨gb223,0,none⟩=some (.slice A0_0 l0_0.length c0_0)∧w'.cell? ⟨gb223,1,none⟩=some (.int .i64 a0_1)∧w'.cell? ⟨gb224,0,none⟩=some (.int .i64 a1_0)∧w'.cell? ⟨gb224,1,none⟩=some (.int .i64 a1_1)∧w'.cell? ⟨gb224,2,none⟩=some (.int .i64 a1_2)) (ds:=[]) (fl 0 17) (by kernel_rfl) rfl rfl ⟨(blk_cell BK223.out 0).trans rfl,(blk_cell BK223.out 1).trans rfl,(blk_cell BK224.out 0).trans rfl,(blk_cell BK224.out 1).trans rfl,(blk_cell BK224.out 2).trans rfl⟩ (fun hHeld=>?_);refine with_tabW spec_laHole.tab1 spec_laHole.bits1 (fun HT_ HW_=>?_)
  generalize w27.drew=w28 at BK223 BK224 BK225 HB hHeld ⊢
  refine pu HT_.out 1 (some 8) #[false,true,false,false,false,false,false,false,false,false,false,false,false,false,false,false,false] (h:=?_)
  refine pu HT_.out 4 (some 11) #[false,true,false,false,true,false,false,false,false,false,false,false,false,false,false,false,false] (h:=?_)
  refine pu HT_.out 7 (some 14) #[false,true,false,false,true,false,false,true,false,false,false,false,false,false,false,false,false] (h:=?_)
  refine pu HT_.out 9 (some 16) #[false,true,false,false,true,false,false,true,false,true,false,false,false,false,false,false,false] (h:=?_)
  refine ta HT_.out HW_.out 0 (some 7) #[true,true,false,false,true,false,false,true,false,true,false,false,false,false,false,false,false] hHeld rfl (by rintro w' ⟨s0,s1,s2,s3,s4⟩;go_simp;with_reducible rfl) (h:=?_)
  refine ta HT_.out HW_.out 2 (some 9) #[true,true,true,false,true,false,false,true,false,true,false,false,false,false,false,false,false] hHeld rfl (by rintro w' ⟨s0,s1,s2,s3,s4⟩;go_simp;with_reducible rfl) (h:=?_)
  refine ta HT_.out HW_.out 5 (some 12) #[true,true,true,false,true,true,false,true,false,true,false,false,false,false,false,false,false] hHeld rfl (by rintro w' ⟨s0,s1,s2,s3,s4⟩;go_simp;with_reducible rfl) (h:=?_)
  refine pu HT_.out 6 (some 13) #[true,true,true,false,true,true,true,true,false,true,false,false,false,false,false,false,false] (h:=?_)
  refine ta HT_.out HW_.out 8 (some 15) #[true,true,true,false,true,true,true,true,true,true,false,false,false,false,false,false,false] hHeld rfl (by rintro w' ⟨s0,s1,s2,s3,s4⟩;go_simp;with_reducible rfl) (h:=?_)
  refine ta HT_.out HW_.out 10 (some 17) #[true,true,true,false,true,true,true,true,true,true,true,false,false,false,false,false,false] hHeld rfl (by rintro w' ⟨s0,s1,s2,s3,s4⟩;go_simp;with_reducible rfl) (h:=?_)
  refine pu HT_.out 11 (some 18) #[true,true,true,false,true,true,true,true,true,true,true,true,false,false,false,false,false] (h:=?_)
  refine pu HT_.out 12 (some 19) #[true,true,true,false,true,true,true,true,true,true,true,true,true,false,false,false,false] (h:=?_)
  refine pu HT_.out 13 (some 20) #[true,true,true,false,true,true,true,true,true,true,true,true,true,true,false,false,false] (h:=?_)
  refine join_ (σ:=Nat) 1 (fl 16 17) (fun s_=>[(10,.int .i64 t226),(6,.pointer (some ⟨s_,0,none⟩)),(21,.agg #[.int .i64 t226,.int .i64 (wrap64 (2*a1_1)),.int .i64 (wrap64 ((wrap64 (2*(wrap64 (a1_1+a1_2)))) - 1))])]) (fun s_ w'=>(w'.cell? ⟨gb223,0,none⟩=some (.slice A0_0 l0_0.length c0_0)∧w'.cell? ⟨gb223,1,none⟩=some (.int .i64 a0_1)∧w'.cell? ⟨gb224,0,none⟩=some (.int .i64 a1_0)∧w'.cell? ⟨gb224,1,none⟩=some (.int .i64 a1_1)∧w'.cell? ⟨gb224,2,none⟩=some (.int .i64 a1_2))∧(w'.heap[gb223]?=some (.cells #[.slice A0_0 l0_0.length c0_0,.int .i64 a0_1] 32 (0,0)))∧(w'.heap[gb224]?=some (.cells #[.int .i64 a1_0,.int .i64 a1_1,.int .i64 a1_2] 55 (0,0)))∧(w'.heap[gb225]?=some (.cells #[.int .i64 0,.int .i64 0,.int .i64 0] 51 (0,0)))∧(w'.heap[s_]?=some (.cells #[.int .i64 0,.int .i64 0,.int .i64 0] 51 (0,0)))∧(w.heap.size≤s_)∧(w.heap.size≤s_)∧(gb223≠s_)∧(s_≠gb223)∧(gb224≠s_)∧(s_≠gb224)∧(gb225≠s_)∧(s_≠gb225)∧(Below w.heap.size w w')) ?_ ?_
  rotate_left
  ·intro hCont
   refine two_ (i:=3) (j:=15) (Ni:=some 10) (Nj:=some 6) (fl 14 17) #[true,true,true,false,true,true,true,true,true,true,true,true,true,true,false,true,false] rfl rfl rfl rfl (two_of HT_.out (by kernel_rfl)) (by decide) (by decide) (fun K hK=>?_) (fun K hK=>?_)
   ·skip
    refine goes_ Try.func60 (by kernel_rfl) rfl #[.agg #[.slice A0_0 l0_0.length c0_0,.int .i64 a0_1],.int .i64 a1_0] (by rfl) rfl rfl tl ?_
    with_reducible refine(spec_inTrack.calls k _ _ l0_0 a0_1 a1_0 t226 _ ?side1 ?side2 A3.out).mono ?_
    (case side1=>exact cup (Kd.C_below HR0_0.out HB.out))
    (case side2=>exact HC0_0.out)
    rintro e w29 ⟨rfl,hb⟩
    refine⟨_,rfl,?_⟩
    replace BK223:=am (blk_below (bup BK223.out) hb)
    replace BK224:=am (blk_below (bup BK224.out) hb)
    replace BK225:=am (blk_below (bup BK225.out) hb)
    replace HB:=am (below_step bl hb)
    (try clear hb)
    refine hK.out _ _ ⟨(blk_cell BK223.out 0).trans rfl,(blk_cell BK223.out 1).trans rfl,(blk_cell BK224.out 0).trans rfl,(blk_cell BK224.out 1).trans rfl,(blk_cell BK224.out 2).trans rfl⟩ (fun hHeld=>?_)
    clear hK K
    refine norm_ (a':=?_) ?_ ?_
    rotate_left
    ·show Act.put _ (some 10) _=_
     simp only[Act.put,List.setIfInBounds_toArray,List.set_cons_zero,List.set_cons_succ,i64_w,i32_w]
     rfl
    refine pu HT_.out 14 (some 21) (fl 15 17) (h:=?_)
    refine one_ (i:=15) (N:=some 6) (fl 16 17) rfl rfl (one_of HT_.out (by kernel_rfl)) (by decide) (fun K hK=>?_)
    refine box_step ?hg (N:=6) ?hd (cs := #[.int .i64 0,.int .i64 0,.int .i64 0]) (t:=51) ?hr ?_;(case hd=>rfl);(case hg=>rfl);(case hr=>first|(go_simp;done)|(go_simp;rfl))
    intro gb227 hg w30 hbox hb
    have BK227:=am (hbox)
    have GW227:=am (ge_ bl hg)
    have GE227:=am (ge_ bl hg)
    replace HB:=am (below_step bl hb)
    have NB223_227:=am (nl (bup BK223.out) hg)
    have NB227_223:=am (ng (bup BK223.out) hg)
    replace BK223:=am (blk_below (bup BK223.out) hb)
    have NB224_227:=am (nl (bup BK224.out) hg)
    have NB227_224:=am (ng (bup BK224.out) hg)
    replace BK224:=am (blk_below (bup BK224.out) hb)
    have NB225_227:=am (nl (bup BK225.out) hg)
    have NB227_225:=am (ng (bup BK225.out) hg)
    replace BK225:=am (blk_below (bup BK225.out) hb)
    clear hb hbox hg
    refine hK.out _ _ ⟨(blk_cell BK223.out 0).trans rfl,(blk_cell BK223.out 1).trans rfl,(blk_cell BK224.out 0).trans rfl,(blk_cell BK224.out 1).trans rfl,(blk_cell BK224.out 2).trans rfl⟩ (fun hHeld=>?_)
    clear hK K
    refine norm_ (a':=?_) ?_ ?_
    rotate_left
    ·show Act.put _ (some 6) _=_
     simp only[Act.put,List.setIfInBounds_toArray,List.set_cons_zero,List.set_cons_succ,i64_w,i32_w]
     rfl
    exact norm_ (by simp only[putAll,Act.put,List.setIfInBounds_toArray,List.set_cons_zero,List.set_cons_succ]) (hCont (gb227) _ ⟨hHeld,(bup BK223.out),(bup BK224.out),(bup BK225.out),(bup BK227.out),GW227.out,GE227.out,NB223_227.out,NB227_223.out,NB224_227.out,NB227_224.out,NB225_227.out,NB227_225.out,bl⟩)
   ·skip
    refine box_step ?hg (N:=6) ?hd (cs := #[.int .i64 0,.int .i64 0,.int .i64 0]) (t:=51) ?hr ?_;(case hd=>rfl);(case hg=>rfl);(case hr=>first|(go_simp;done)|(go_simp;rfl))
    intro gb227 hg w29 hbox hb
    have BK227:=am (hbox)
    have GW227:=am (ge_ bl hg)
    have GE227:=am (ge_ bl hg)
    replace HB:=am (below_step bl hb)
    have NB223_227:=am (nl (bup BK223.out) hg)
    have NB227_223:=am (ng (bup BK223.out) hg)
    replace BK223:=am (blk_below (bup BK223.out) hb)
    have NB224_227:=am (nl (bup BK224.out) hg)
    have NB227_224:=am (ng (bup BK224.out) hg)
    replace BK224:=am (blk_below (bup BK224.out) hb)
    have NB225_227:=am (nl (bup BK225.out) hg)
    have NB227_225:=am (ng (bup BK225.out) hg)
    replace BK225:=am (blk_below (bup BK225.out) hb)
    clear hb hbox hg
    refine hK.out _ _ ⟨(blk_cell BK223.out 0).trans rfl,(blk_cell BK223.out 1).trans rfl,(blk_cell BK224.out 0).trans rfl,(blk_cell BK224.out 1).trans rfl,(blk_cell BK224.out 2).trans rfl⟩ (fun hHeld=>?_)
    clear hK K
    refine norm_ (a':=?_) ?_ ?_
    rotate_left
    ·show Act.put _ (some 6) _=_
     simp only[Act.put,List.setIfInBounds_toArray,List.set_cons_zero,List.set_cons_succ,i64_w,i32_w]
     rfl
    refine one_ (i:=3) (N:=some 10) #[true,true,true,true,true,true,true,true,true,true,true,true,true,true,false,true,false] rfl rfl (one_of HT_.out (by kernel_rfl)) (by decide) (fun K hK=>?_)
    refine goes_ Try.func60 (by kernel_rfl) rfl #[.agg #[.slice A0_0 l0_0.length c0_0,.int .i64 a0_1],.int .i64 a1_0] (by rfl) rfl rfl tl ?_
    with_reducible refine(spec_inTrack.calls k _ _ l0_0 a0_1 a1_0 t226 _ ?side1 ?side2 A3.out).mono ?_
    (case side1=>exact cup (Kd.C_below HR0_0.out HB.out))
    (case side2=>exact HC0_0.out)
    rintro e w30 ⟨rfl,hb⟩
    refine⟨_,rfl,?_⟩
    replace BK223:=am (blk_below (bup BK223.out) hb)
    replace BK224:=am (blk_below (bup BK224.out) hb)
    replace BK225:=am (blk_below (bup BK225.out) hb)
    replace BK227:=am (blk_below (bup BK227.out) hb)
    replace HB:=am (below_step bl hb)
    (try clear hb)
    refine hK.out _ _ ⟨(blk_cell BK223.out 0).trans rfl,(blk_cell BK223.out 1).trans rfl,(blk_cell BK224.out 0).trans rfl,(blk_cell BK224.out 1).trans rfl,(blk_cell BK224.out 2).trans rfl⟩ (fun hHeld=>?_)
    clear hK K
    refine norm_ (a':=?_) ?_ ?_
    rotate_left
    ·show Act.put _ (some 10) _=_
     simp only[Act.put,List.setIfInBounds_toArray,List.set_cons_zero,List.set_cons_succ,i64_w,i32_w]
     rfl
    refine pu HT_.out 14 (some 21) (fl 16 17) (h:=?_)
    exact norm_ (by simp only[putAll,Act.put,List.setIfInBounds_toArray,List.set_cons_zero,List.set_cons_succ]) (hCont (gb227) _ ⟨hHeld,(bup BK223.out),(bup BK224.out),(bup BK225.out),(bup BK227.out),GW227.out,GE227.out,NB223_227.out,NB227_223.out,NB224_227.out,NB227_224.out,NB225_227.out,NB227_225.out,bl⟩)
  rintro gb227 w31 ⟨hS_,h0_,h1_,h2_,h3_,h4_,h5_,h6_,h7_,h8_,h9_,h10_,h11_,h12_⟩
  have n0_:Aside0 (w31.heap[gb223]?=some (.cells #[.slice A0_0 l0_0.length c0_0,.int .i64 a0_1] 32 (0,0))):=⟨h0_⟩
  have n1_:Aside0 (w31.heap[gb224]?=some (.cells #[.int .i64 a1_0,.int .i64 a1_1,.int .i64 a1_2] 55 (0,0))):=⟨h1_⟩
  have n2_:Aside0 (w31.heap[gb225]?=some (.cells #[.int .i64 0,.int .i64 0,.int .i64 0] 51 (0,0))):=⟨h2_⟩
  have n3_:Aside0 (w31.heap[gb227]?=some (.cells #[.int .i64 0,.int .i64 0,.int .i64 0] 51 (0,0))):=⟨h3_⟩
  have n4_:Aside0 (w.heap.size≤gb227):=⟨h4_⟩
  have n5_:Aside0 (w.heap.size≤gb227):=⟨h5_⟩
  have n6_:Aside0 (gb223≠gb227):=⟨h6_⟩
  have n7_:Aside0 (gb227≠gb223):=⟨h7_⟩
  have n8_:Aside0 (gb224≠gb227):=⟨h8_⟩
  have n9_:Aside0 (gb227≠gb224):=⟨h9_⟩
  have n10_:Aside0 (gb225≠gb227):=⟨h10_⟩
  have n11_:Aside0 (gb227≠gb225):=⟨h11_⟩
  have n12_:Aside0 (Below w.heap.size w w31):=⟨h12_⟩
  clear BK223
  clear BK224
  clear BK225
  clear HB
  clear h0_ h1_ h2_ h3_ h4_ h5_ h6_ h7_ h8_ h9_ h10_ h11_ h12_
  have BK223:=n0_
  have BK224:=n1_
  have BK225:=n2_
  have BK227:=n3_
  have GW227:=n4_
  have GE227:=n5_
  have NB223_227:=n6_
  have NB227_223:=n7_
  have NB224_227:=n8_
  have NB227_224:=n9_
  have NB225_227:=n10_
  have NB227_225:=n11_
  have HB:=n12_
  clear n0_ n1_ n2_ n3_ n4_ n5_ n6_ n7_ n8_ n9_ n10_ n11_ n12_
  have hHeld:w31.cell? ⟨gb223,0,none⟩=some (.slice A0_0 l0_0.length c0_0)∧w31.cell? ⟨gb223,1,none⟩=some (.int .i64 a0_1)∧w31.cell? ⟨gb224,0,none⟩=some (.int .i64 a1_0)∧w31.cell? ⟨gb224,1,none⟩=some (.int .i64 a1_1)∧w31.cell? ⟨gb224,2,none⟩=some (.int .i64 a1_2):=hS_
  refine norm_ (a':=?_) ?_ ?_
  rotate_left
  ·simp only[putAll,Act.put,List.setIfInBounds_toArray,List.set_cons_zero,List.set_cons_succ]
   rfl
  refine one_ (i:=16) (N:=none) (fl 17 17) rfl rfl (one_of HT_.out (by kernel_rfl)) (by decide) (fun K hK=>?_)
  have hs32:w31.cell? ⟨gb227,0,none⟩=some (.int .i64 0):=(blk_cell BK227.out 0).trans rfl
  have hfs32:=blk_frozen BK227.out 0
  have hns32_0:=NB223_227.out
  have hns32_1:=NB224_227.out
  have hns32_2:=NB225_227.out
  have hms32_0:=NB227_223.out
  have hms32_1:=NB227_224.out
  have hms32_2:=NB227_225.out
  have hs33:w31.cell? ⟨gb227,1,none⟩=some (.int .i64 0):=(blk_cell BK227.out 1).trans rfl
  have hfs33:=blk_frozen BK227.out 1
  have hns33_0:=NB223_227.out
  have hns33_1:=NB224_227.out
  have hns33_2:=NB225_227.out
  have hms33_0:=NB227_223.out
  have hms33_1:=NB227_224.out
  have hms33_2:=NB227_225.out
  have hs34:w31.cell? ⟨gb227,2,none⟩=some (.int .i64 0):=(blk_cell BK227.out 2).trans rfl
  have hfs34:=blk_frozen BK227.out 2
  have hns34_0:=NB223_227.out
  have hns34_1:=NB224_227.out
  have hns34_2:=NB225_227.out
  have hms34_0:=NB227_223.out
  have hms34_1:=NB227_224.out
  have hms34_2:=NB227_225.out
  refine skip_ (w1:=?_) (by rfl) rfl ?_ ?_
  rotate_left
  ·go_simp
   rfl
  refine hK.out _ _ ⟨((cell_far (p:=⟨gb227,_,none⟩) NB223_227.out _).trans (((cell_far (p:=⟨gb227,_,none⟩) NB223_227.out _).trans (((cell_far (p:=⟨gb227,_,none⟩) NB223_227.out _).trans (hHeld.1)))))),((cell_far (p:=⟨gb227,_,none⟩) NB223_227.out _).trans (((cell_far (p:=⟨gb227,_,none⟩) NB223_227.out _).trans (((cell_far (p:=⟨gb227,_,none⟩) NB223_227.out _).trans (hHeld.2.1)))))),((cell_far (p:=⟨gb227,_,none⟩) NB224_227.out _).trans (((cell_far (p:=⟨gb227,_,none⟩) NB224_227.out _).trans (((cell_far (p:=⟨gb227,_,none⟩) NB224_227.out _).trans (hHeld.2.2.1)))))),((cell_far (p:=⟨gb227,_,none⟩) NB224_227.out _).trans (((cell_far (p:=⟨gb227,_,none⟩) NB224_227.out _).trans (((cell_far (p:=⟨gb227,_,none⟩) NB224_227.out _).trans (hHeld.2.2.2.1)))))),((cell_far (p:=⟨gb227,_,none⟩) NB224_227.out _).trans (((cell_far (p:=⟨gb227,_,none⟩) NB224_227.out _).trans (((cell_far (p:=⟨gb227,_,none⟩) NB224_227.out _).trans (hHeld.2.2.2.2))))))⟩ (fun hHeld=>?_)
  clear hK K
  refine done_ (done_of HT_.out (by kernel_rfl)) ?_
  have hnb35:=NB227_223.out
  have hnc35:=NB223_227.out
  have hnb36:=NB227_224.out
  have hnc36:=NB224_227.out
  have hnb37:=NB227_225.out
  have hnc37:=NB225_227.out
  have hcz38_0:w31.cell? ⟨gb227,0,none⟩=some (.int .i64 0):=(blk_cell BK227.out 0).trans rfl
  have hcz38_1:w31.cell? ⟨gb227,1,none⟩=some (.int .i64 0):=(blk_cell BK227.out 1).trans rfl
  have hcz38_2:w31.cell? ⟨gb227,2,none⟩=some (.int .i64 0):=(blk_cell BK227.out 2).trans rfl
  have hfz38_0:=blk_frozen BK227.out 0
  have hfz38_1:=blk_frozen BK227.out 1
  have hfz38_2:=blk_frozen BK227.out 2
  try go_wp2_with (first|((with_reducible refine gate_callee (f:=55) rfl ?_);refine goesL_ (some 23) rfl rfl Try.func55 (by kernel_rfl) rfl #[.agg #[.int .i64 t226,.int .i64 (wrap64 (2*a1_1)),.int .i64 (wrap64 ((wrap64 (2*(wrap64 (a1_1+a1_2)))) - 1))]] rfl tl ?_;(with_reducible refine(spec_shHole.calls t226 (wrap64 (2*a1_1)) (wrap64 ((wrap64 (2*(wrap64 (a1_1+a1_2)))) - 1)) false _ A4.out).mono ?_);rintro e w39 ⟨rfl,hb⟩;refine⟨_,rfl,?_⟩;replace BK223:=am (blk_below (g:=gb223) (o := .cells #[.slice A0_0 l0_0.length c0_0,.int .i64 a0_1] 32 (0,0)) (by(with_reducible repeat(first|refine bN_ ?_ _|refine bD_ ?_|refine bA_ ?_ _));refine blk_far ?_ NB223_227.out _;(with_reducible repeat(first|refine bN_ ?_ _|refine bD_ ?_|refine bA_ ?_ _));refine blk_far ?_ NB223_227.out _;(with_reducible repeat(first|refine bN_ ?_ _|refine bD_ ?_|refine bA_ ?_ _));refine blk_far ?_ NB223_227.out _;exact bup BK223.out) hb);replace BK224:=am (blk_below (g:=gb224) (o := .cells #[.int .i64 a1_0,.int .i64 a1_1,.int .i64 a1_2] 55 (0,0)) (by(with_reducible repeat(first|refine bN_ ?_ _|refine bD_ ?_|refine bA_ ?_ _));refine blk_far ?_ NB224_227.out _;(with_reducible repeat(first|refine bN_ ?_ _|refine bD_ ?_|refine bA_ ?_ _));refine blk_far ?_ NB224_227.out _;(with_reducible repeat(first|refine bN_ ?_ _|refine bD_ ?_|refine bA_ ?_ _));refine blk_far ?_ NB224_227.out _;exact bup BK224.out) hb);replace BK225:=am (blk_below (g:=gb225) (o := .cells #[.int .i64 0,.int .i64 0,.int .i64 0] 51 (0,0)) (by(with_reducible repeat(first|refine bN_ ?_ _|refine bD_ ?_|refine bA_ ?_ _));refine blk_far ?_ NB225_227.out _;(with_reducible repeat(first|refine bN_ ?_ _|refine bD_ ?_|refine bA_ ?_ _));refine blk_far ?_ NB225_227.out _;(with_reducible repeat(first|refine bN_ ?_ _|refine bD_ ?_|refine bA_ ?_ _));refine blk_far ?_ NB225_227.out _;exact bup BK225.out) hb);replace BK227:=am (blk_below (g:=gb227) (o := .cells #[.int .i64 t226,.int .i64 (wrap64 (2*a1_1)),.int .i64 (wrap64 ((wrap64 (2*(wrap64 (a1_1+a1_2)))) - 1))] 51 (0,0)) (by(with_reducible repeat(first|refine bN_ ?_ _|refine bD_ ?_|refine bA_ ?_ _));refine blk_put (cs := #[.int .i64 t226,.int .i64 (wrap64 (2*a1_1)),.int .i64 0]) ?_ 2 _ rfl;(with_reducible repeat(first|refine bN_ ?_ _|refine bD_ ?_|refine bA_ ?_ _));refine blk_put (cs := #[.int .i64 t226,.int .i64 0,.int .i64 0]) ?_ 1 _ rfl;(with_reducible repeat(first|refine bN_ ?_ _|refine bD_ ?_|refine bA_ ?_ _));refine blk_put (cs := #[.int .i64 0,.int .i64 0,.int .i64 0]) ?_ 0 _ rfl;exact bup BK227.out) hb);replace HB:=am (below_step bl hb);(try clear hb);have hnb40:=NB225_223.out;have hnc40:=NB223_225.out;have hnb41:=NB225_224.out;have hnc41:=NB224_225.out;have hcz42_0:w39.cell? ⟨gb225,0,none⟩=some (.int .i64 0):=(blk_cell BK225.out 0).trans rfl;have hcz42_1:w39.cell? ⟨gb225,1,none⟩=some (.int .i64 0):=(blk_cell BK225.out 1).trans rfl;have hcz42_2:w39.cell? ⟨gb225,2,none⟩=some (.int .i64 0):=(blk_cell BK225.out 2).trans rfl;have hfz42_0:=blk_frozen BK225.out 0;have hfz42_1:=blk_frozen BK225.out 1;have hfz42_2:=blk_frozen BK225.out 2))
  refine bodyPost_ret (results_ct rfl _ _ gb225 51 #[.int .i64 0,.int .i64 0,.int .i64 0] (0,0) _ rfl (by(with_reducible repeat(first|refine bN_ ?_ _|refine bD_ ?_|refine bA_ ?_ _));refine blk_put (cs := #[.int .i64 0,.int .i64 0,.int .i64 0]) ?_ 2 _ rfl;(with_reducible repeat(first|refine bN_ ?_ _|refine bD_ ?_|refine bA_ ?_ _));refine blk_put (cs := #[.int .i64 0,.int .i64 0,.int .i64 0]) ?_ 1 _ rfl;(with_reducible repeat(first|refine bN_ ?_ _|refine bD_ ?_|refine bA_ ?_ _));refine blk_put (cs := #[.int .i64 0,.int .i64 0,.int .i64 0]) ?_ 0 _ rfl;exact bup BK225.out) Try.underlying51 rfl (by kernel_rfl)) rfl ?_
  exact⟨fin1,bl⟩

end Go.Proofs.Ythmpginbaafbhaa.PFnExactRepairToPlay
