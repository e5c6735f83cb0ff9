/- The walks of functions that FnExactRepairToPlay reaches: what they return is what the plain functions of the same names say. Laid by a program of this session after the kit's print. No conditions beyond the arguments' being read. -/
import Derived.Test.YthmpginbaafbhaaSRepairToPlay0
import Derived.Test.YthmpginbaafbhaaSRepairToPlay12
import Derived.Test.YthmpginbaafbhaaSRepairToPlay14
import Derived.Test.YthmpginbaafbhaaSRepairToPlay16
namespace Go.Proofs.Ythmpginbaafbhaa.PFnExactRepairToPlay
open Go.RowKit Go.Proofs.YthmpginbaafbhaaW.PrintWords Go.Proofs.YthmpginbaafbhaaW.PrintLast Go.Proofs.YthmpginbaafbhaaW.PrintMore
attribute [local go_sem] max2_int min2_int max_two min_two max_three min_three max_four min_four   -- for this text's walks alone
set_option linter.unusedVariables false
set_option linter.unusedSimpArgs false

def impl_holeFor.f (k:Nat) (l0_0:List Int) (a0_1:Int) (a1_0:Int) (a1_1:Int) (a1_2:Int):Option (Int×Int×Int×Bool):=(slices_Index_int_int.f k l0_0 a1_0).bind fun t426=>((impl_noteEnd.f a1_0 a1_1 a1_2).bind fun t427=>(if t426<0 then(some (0,0,0,false)) else((impl_IsHole.f t426 (wrap64 (2*a1_1)) (wrap64 ((wrap64 (2*t427)) - 1))).bind fun t429=>(if t429=true then(some (t426,wrap64 (2*a1_1),wrap64 ((wrap64 (2*t427)) - 1),true)) else(some (0,0,0,false))))))
def impl_holeFor.T2:Bool×List (List Nat×List Nat):=(true,[([],[]),([],[]),([1],[1]),([2],[2]),([],[]),([4],[4]),([5],[5]),([6],[6]),([0,3,7],[0,3,7]),([],[]),([9,8,5,0,1,2,3,4,5,6,7,8,9],[8,9])])
def impl_holeFor.B2:List Nat:=[0,0,2,6,0,16,48,112,255,0,1023]
theorem impl_holeFor.tab2:rtab .any (opsOf Try.f50 2)=impl_holeFor.T2:=by kernel_rfl
theorem impl_holeFor.bits2:waitsOk impl_holeFor.T2.2 impl_holeFor.B2=true:=by kernel_rfl
set_option maxHeartbeats 8000000 in
set_option maxRecDepth 100000 in
theorem impl_holeFor.calls (k:Nat) (A0_0:Option Addr) (c0_0:Nat) (l0_0:List Int) (a0_1:Int) (a1_0:Int) (a1_1:Int) (a1_2:Int) (r1:Int) (r2:Int) (r3:Int) (r4:Bool) (w:World) (hr0_0:Kd.C (Kd.int .i64) w A0_0 l0_0.length l0_0) (hc0_0:l0_0.length≤c0_0) (h:impl_holeFor.f k l0_0 a0_1 a1_0 a1_1 a1_2=some (r1,r2,r3,r4)) :
  Calls Try.prog 50 #[.agg #[.slice A0_0 l0_0.length c0_0,.int .i64 a0_1],.agg #[.int .i64 a1_0,.int .i64 a1_1,.int .i64 a1_2]] w fun e w'=>e = .returned (.tuple #[.agg #[.int .i64 r1,.int .i64 r2,.int .i64 r3],.bool r4])∧Below w.heap.size w w':=by
 have hu32:=Try.underlying32
 have hu55:=Try.underlying55
 have hu51:=Try.underlying51
 have HR0_0:=am hr0_0
 have HC0_0:=am hc0_0
 clear hr0_0 hc0_0
 have HB:=am (Below.refl w.heap.size w)
 have H:((slices_Index_int_int.f k l0_0 a1_0).bind fun t426=>((impl_noteEnd.f a1_0 a1_1 a1_2).bind fun t427=>(if t426<0 then(some (0,0,0,false)) else((impl_IsHole.f t426 (wrap64 (2*a1_1)) (wrap64 ((wrap64 (2*t427)) - 1))).bind fun t429=>(if t429=true then(some (t426,wrap64 (2*a1_1),wrap64 ((wrap64 (2*t427)) - 1),true)) else(some (0,0,0,false)))))))=some (r1,r2,r3,r4):=h
 clear h
 replace H:=Option.bind_eq_some_iff.mp H
 obtain⟨t426,A30,H⟩:=H
 replace H:((impl_noteEnd.f a1_0 a1_1 a1_2).bind fun t427=>(if t426<0 then(some (0,0,0,false)) else((impl_IsHole.f t426 (wrap64 (2*a1_1)) (wrap64 ((wrap64 (2*t427)) - 1))).bind fun t429=>(if t429=true then(some (t426,wrap64 (2*a1_1),wrap64 ((wrap64 (2*t427)) - 1),true)) else(some (0,0,0,false))))))=some (r1,r2,r3,r4):=H
 have A3:=am A30
 clear A30
 replace H:=Option.bind_eq_some_iff.mp H
 obtain⟨t427,A40,H⟩:=H
 replace H:(if t426<0 then(some (0,0,0,false)) else((impl_IsHole.f t426 (wrap64 (2*a1_1)) (wrap64 ((wrap64 (2*t427)) - 1))).bind fun t429=>(if t429=true then(some (t426,wrap64 (2*a1_1),wrap64 ((wrap64 (2*t427)) - 1),true)) else(some (0,0,0,false)))))=some (r1,r2,r3,r4):=H
 have A4:=am A40
 clear A40
 rcases itc H with⟨c5,H⟩|⟨c5,H⟩
 ·have c5b0:=decide_eq_true c5
  clear c5
  simp only[Option.some.injEq,Prod.mk.injEq] at H
  obtain⟨rfl,rfl,rfl,rfl⟩:=H
  go_enter Try.func50,Try.ntmps50
  try go_wp2_with (first|((with_reducible refine gate_dst (N:=2) rfl ?_);refine box_event ?hg (N:=2) ?hd (cs := #[.slice A0_0 l0_0.length c0_0,.int .i64 a0_1]) (t:=32) ?hr ?_;(case hd=>rfl);(case hg=>rfl);(case hr=>first|(go_simp;done)|(go_simp;rfl));intro gb423 hg w6 hbox hb;have BK423:=am (hbox);have GW423:=am (ge_ bl hg);have GE423:=am (ge_ bl hg);replace HB:=am (below_step bl hb);clear hb hbox hg)|((with_reducible refine gate_dst (N:=3) rfl ?_);refine box_event ?hg (N:=3) ?hd (cs := #[.int .i64 a1_0,.int .i64 a1_1,.int .i64 a1_2]) (t:=55) ?hr ?_;(case hd=>rfl);(case hg=>rfl);(case hr=>first|(go_simp;done)|(go_simp;rfl));intro gb424 hg w7 hbox hb;have BK424:=am (hbox);have GW424:=am (ge_ bl hg);have GE424:=am (ge_ bl hg);replace HB:=am (below_step bl hb);have NB423_424:=am (nl (bup BK423.out) hg);have NB424_423:=am (ng (bup BK423.out) hg);replace BK423:=am (blk_below (bup BK423.out) hb);clear hb hbox hg)|((with_reducible refine gate_dst (N:=4) rfl ?_);refine box_event ?hg (N:=4) ?hd (cs := #[.int .i64 0,.int .i64 0,.int .i64 0]) (t:=51) ?hr ?_;(case hd=>rfl);(case hg=>rfl);(case hr=>first|(go_simp;done)|(go_simp;rfl));intro gb425 hg w8 hbox hb;have BK425:=am (hbox);have GW425:=am (ge_ bl hg);have GE425:=am (ge_ bl hg);replace HB:=am (below_step bl hb);have NB423_425:=am (nl (bup BK423.out) hg);have NB425_423:=am (ng (bup BK423.out) hg);replace BK423:=am (blk_below (bup BK423.out) hb);have NB424_425:=am (nl (bup BK424.out) hg);have NB425_424:=am (ng (bup BK424.out) hg);replace BK424:=am (blk_below (bup BK424.out) hb);clear hb hbox hg;have hnb9:=NB423_424.out;have hnc9:=NB424_423.out;have hnb10:=NB423_425.out;have hnc10:=NB425_423.out;have hcz11_0:w8.cell? ⟨gb423,0,none⟩=some (.slice A0_0 l0_0.length c0_0):=(blk_cell BK423.out 0).trans rfl;have hcz11_1:w8.cell? ⟨gb423,1,none⟩=some (.int .i64 a0_1):=(blk_cell BK423.out 1).trans rfl;have hfz11_0:=blk_frozen BK423.out 0;have hfz11_1:=blk_frozen BK423.out 1;have hnb12:=NB424_425.out;have hnc12:=NB425_424.out;have hcz13_0:w8.cell? ⟨gb424,0,none⟩=some (.int .i64 a1_0):=(blk_cell BK424.out 0).trans rfl;have hcz13_1:w8.cell? ⟨gb424,1,none⟩=some (.int .i64 a1_1):=(blk_cell BK424.out 1).trans rfl;have hcz13_2:w8.cell? ⟨gb424,2,none⟩=some (.int .i64 a1_2):=(blk_cell BK424.out 2).trans rfl;have hfz13_0:=blk_frozen BK424.out 0;have hfz13_1:=blk_frozen BK424.out 1;have hfz13_2:=blk_frozen BK424.out 2)|((with_reducible refine gate_callee (f:=68) rfl ?_);refine goesL_ (some 12) rfl rfl Try.func68 (by kernel_rfl) rfl #[.slice A0_0 l0_0.length c0_0,.int .i64 a1_0] rfl tl ?_;(with_reducible refine(slices_Index_int_int.calls k _ _ l0_0 a1_0 t426 _ ?side1 ?side2 A3.out).mono ?_);(case side1=>exact cup (Kd.C_below HR0_0.out HB.out));(case side2=>exact HC0_0.out);rintro e w' ⟨rfl,⟨nd,rfl⟩⟩;refine⟨_,rfl,?_⟩;(try(rw[drewN_self w8];generalize hq_:World.drewN w8 _=w8;have n0_:Aside0 (w8.heap[gb423]?=some (.cells #[.slice A0_0 l0_0.length c0_0,.int .i64 a0_1] 32 (0,0))):=⟨by rw[← hq_];exact(bup BK423.out)⟩;have n1_:Aside0 (w8.heap[gb424]?=some (.cells #[.int .i64 a1_0,.int .i64 a1_1,.int .i64 a1_2] 55 (0,0))):=⟨by rw[← hq_];exact(bup BK424.out)⟩;have n2_:Aside0 (w8.heap[gb425]?=some (.cells #[.int .i64 0,.int .i64 0,.int .i64 0] 51 (0,0))):=⟨by rw[← hq_];exact(bup BK425.out)⟩;have n3_:Aside0 (Below w.heap.size w w8):=⟨by rw[← hq_];exact bl⟩;clear BK423 BK424 BK425 HB hq_;have BK423:=n0_;have BK424:=n1_;have BK425:=n2_;have HB:=n3_;clear n0_ n1_ n2_ n3_))))
  replace BK423:=am (bD_ BK423.out)
  replace BK424:=am (bD_ BK424.out)
  replace BK425:=am (bD_ BK425.out)
  replace HB:=am (below_drew1 HB.out)
  refine start_ (n:=11) (S:=fun w'=>w'.cell? ⟨gb424,0,none⟩=some (.int .i64 a1_0)∧w'.cell? ⟨gb424,1,none⟩=some (.int .i64 a1_1)∧w'.cell? ⟨gb424,2,none⟩=some (.int .i64 a1_2)) (ds:=[]) (fl 0 11) (by kernel_rfl) rfl rfl ⟨(blk_cell BK424.out 0).trans rfl,(blk_cell BK424.out 1).trans rfl,(blk_cell BK424.out 2).trans rfl⟩ (fun hHeld=>?_);refine with_tabW impl_holeFor.tab2 impl_holeFor.bits2 (fun HT_ HW_=>?_)
  generalize w8.drew=w14 at BK423 BK424 BK425 HB hHeld ⊢
  refine pu HT_.out 0 (some 13) (fl 1 11) (h:=?_)
  refine pu HT_.out 1 (some 14) (fl 2 11) (h:=?_)
  refine ta HT_.out HW_.out 2 (some 15) (fl 3 11) hHeld rfl (by rintro w' ⟨s0,s1,s2⟩;go_simp;with_reducible rfl) (h:=?_)
  refine pu HT_.out 3 (some 16) (fl 4 11) (h:=?_)
  refine ta HT_.out HW_.out 4 (some 17) (fl 5 11) hHeld rfl (by rintro w' ⟨s0,s1,s2⟩;go_simp;with_reducible rfl) (h:=?_)
  refine join_ (σ:=Nat) 1 (fl 10 11) (fun s_=>[(18,.int .i64 t427),(7,.pointer (some ⟨s_,0,none⟩)),(19,.int .i64 (wrap64 (2*t427))),(20,.int .i64 (wrap64 ((wrap64 (2*t427)) - 1))),(21,.agg #[.int .i64 t426,.int .i64 (wrap64 (2*a1_1)),.int .i64 (wrap64 ((wrap64 (2*t427)) - 1))])]) (fun s_ w'=>(w'.cell? ⟨gb424,0,none⟩=some (.int .i64 a1_0)∧w'.cell? ⟨gb424,1,none⟩=some (.int .i64 a1_1)∧w'.cell? ⟨gb424,2,none⟩=some (.int .i64 a1_2))∧(w'.heap[gb423]?=some (.cells #[.slice A0_0 l0_0.length c0_0,.int .i64 a0_1] 32 (0,0)))∧(w'.heap[gb424]?=some (.cells #[.int .i64 a1_0,.int .i64 a1_1,.int .i64 a1_2] 55 (0,0)))∧(w'.heap[gb425]?=some (.cells #[.int .i64 0,.int .i64 0,.int .i64 0] 51 (0,0)))∧(w'.heap[s_]?=some (.cells #[.int .i64 0,.int .i64 0,.int .i64 0] 51 (0,0)))∧(w.heap.size≤s_)∧(w.heap.size≤s_)∧(gb423≠s_)∧(s_≠gb423)∧(gb424≠s_)∧(s_≠gb424)∧(gb425≠s_)∧(s_≠gb425)∧(Below w.heap.size w w')) ?_ ?_
  rotate_left
  ·intro hCont
   refine two_ (i:=5) (j:=9) (Ni:=some 18) (Nj:=some 7) (fl 6 11) #[true,true,true,true,true,false,false,false,false,true,false] rfl rfl rfl rfl (two_of HT_.out (by kernel_rfl)) (by decide) (by decide) (fun K hK=>?_) (fun K hK=>?_)
   ·skip
    refine goes_ Try.func46 (by kernel_rfl) rfl #[.agg #[.int .i64 a1_0,.int .i64 a1_1,.int .i64 a1_2]] (by rfl) rfl rfl tl ?_
    with_reducible refine(impl_noteEnd.calls a1_0 a1_1 a1_2 t427 _ A4.out).mono ?_
    rintro e w15 ⟨rfl,hb⟩
    refine⟨_,rfl,?_⟩
    replace BK423:=am (blk_below (bup BK423.out) hb)
    replace BK424:=am (blk_below (bup BK424.out) hb)
    replace BK425:=am (blk_below (bup BK425.out) hb)
    replace HB:=am (below_step bl hb)
    (try clear hb)
    refine hK.out _ _ ⟨(blk_cell BK424.out 0).trans rfl,(blk_cell BK424.out 1).trans rfl,(blk_cell BK424.out 2).trans rfl⟩ (fun hHeld=>?_)
    clear hK K
    refine norm_ (a':=?_) ?_ ?_
    rotate_left
    ·show Act.put _ (some 18) _=_
     simp only[Act.put,List.setIfInBounds_toArray,List.set_cons_zero,List.set_cons_succ,i64_w,i32_w]
     rfl
    refine pu HT_.out 6 (some 19) (fl 7 11) (h:=?_)
    refine pu HT_.out 7 (some 20) (fl 8 11) (h:=?_)
    refine pu HT_.out 8 (some 21) (fl 9 11) (h:=?_)
    refine one_ (i:=9) (N:=some 7) (fl 10 11) rfl rfl (one_of HT_.out (by kernel_rfl)) (by decide) (fun K hK=>?_)
    refine box_step ?hg (N:=7) ?hd (cs := #[.int .i64 0,.int .i64 0,.int .i64 0]) (t:=51) ?hr ?_;(case hd=>rfl);(case hg=>rfl);(case hr=>first|(go_simp;done)|(go_simp;rfl))
    intro gb428 hg w16 hbox hb
    have BK428:=am (hbox)
    have GW428:=am (ge_ bl hg)
    have GE428:=am (ge_ bl hg)
    replace HB:=am (below_step bl hb)
    have NB423_428:=am (nl (bup BK423.out) hg)
    have NB428_423:=am (ng (bup BK423.out) hg)
    replace BK423:=am (blk_below (bup BK423.out) hb)
    have NB424_428:=am (nl (bup BK424.out) hg)
    have NB428_424:=am (ng (bup BK424.out) hg)
    replace BK424:=am (blk_below (bup BK424.out) hb)
    have NB425_428:=am (nl (bup BK425.out) hg)
    have NB428_425:=am (ng (bup BK425.out) hg)
    replace BK425:=am (blk_below (bup BK425.out) hb)
    clear hb hbox hg
    refine hK.out _ _ ⟨(blk_cell BK424.out 0).trans rfl,(blk_cell BK424.out 1).trans rfl,(blk_cell BK424.out 2).trans rfl⟩ (fun hHeld=>?_)
    clear hK K
    refine norm_ (a':=?_) ?_ ?_
    rotate_left
    ·show Act.put _ (some 7) _=_
     simp only[Act.put,List.setIfInBounds_toArray,List.set_cons_zero,List.set_cons_succ,i64_w,i32_w]
     rfl
    exact norm_ (by simp only[putAll,Act.put,List.setIfInBounds_toArray,List.set_cons_zero,List.set_cons_succ]) (hCont (gb428) _ ⟨hHeld,(bup BK423.out),(bup BK424.out),(bup BK425.out),(bup BK428.out),GW428.out,GE428.out,NB423_428.out,NB428_423.out,NB424_428.out,NB428_424.out,NB425_428.out,NB428_425.out,bl⟩)
   ·skip
    refine box_step ?hg (N:=7) ?hd (cs := #[.int .i64 0,.int .i64 0,.int .i64 0]) (t:=51) ?hr ?_;(case hd=>rfl);(case hg=>rfl);(case hr=>first|(go_simp;done)|(go_simp;rfl))
    intro gb428 hg w15 hbox hb
    have BK428:=am (hbox)
    have GW428:=am (ge_ bl hg)
    have GE428:=am (ge_ bl hg)
    replace HB:=am (below_step bl hb)
    have NB423_428:=am (nl (bup BK423.out) hg)
    have NB428_423:=am (ng (bup BK423.out) hg)
    replace BK423:=am (blk_below (bup BK423.out) hb)
    have NB424_428:=am (nl (bup BK424.out) hg)
    have NB428_424:=am (ng (bup BK424.out) hg)
    replace BK424:=am (blk_below (bup BK424.out) hb)
    have NB425_428:=am (nl (bup BK425.out) hg)
    have NB428_425:=am (ng (bup BK425.out) hg)
    replace BK425:=am (blk_below (bup BK425.out) hb)
    clear hb hbox hg
    refine hK.out _ _ ⟨(blk_cell BK424.out 0).trans rfl,(blk_cell BK424.out 1).trans rfl,(blk_cell BK424.out 2).trans rfl⟩ (fun hHeld=>?_)
    clear hK K
    refine norm_ (a':=?_) ?_ ?_
    rotate_left
    ·show Act.put _ (some 7) _=_
     simp only[Act.put,List.setIfInBounds_toArray,List.set_cons_zero,List.set_cons_succ,i64_w,i32_w]
     rfl
    refine one_ (i:=5) (N:=some 18) #[true,true,true,true,true,true,false,false,false,true,false] rfl rfl (one_of HT_.out (by kernel_rfl)) (by decide) (fun K hK=>?_)
    refine goes_ Try.func46 (by kernel_rfl) rfl #[.agg #[.int .i64 a1_0,.int .i64 a1_1,.int .i64 a1_2]] (by rfl) rfl rfl tl ?_
    with_reducible refine(impl_noteEnd.calls a1_0 a1_1 a1_2 t427 _ A4.out).mono ?_
    rintro e w16 ⟨rfl,hb⟩
    refine⟨_,rfl,?_⟩
    replace BK423:=am (blk_below (bup BK423.out) hb)
    replace BK424:=am (blk_below (bup BK424.out) hb)
    replace BK425:=am (blk_below (bup BK425.out) hb)
    replace BK428:=am (blk_below (bup BK428.out) hb)
    replace HB:=am (below_step bl hb)
    (try clear hb)
    refine hK.out _ _ ⟨(blk_cell BK424.out 0).trans rfl,(blk_cell BK424.out 1).trans rfl,(blk_cell BK424.out 2).trans rfl⟩ (fun hHeld=>?_)
    clear hK K
    refine norm_ (a':=?_) ?_ ?_
    rotate_left
    ·show Act.put _ (some 18) _=_
     simp only[Act.put,List.setIfInBounds_toArray,List.set_cons_zero,List.set_cons_succ,i64_w,i32_w]
     rfl
    refine pu HT_.out 6 (some 19) #[true,true,true,true,true,true,true,false,false,true,false] (h:=?_)
    refine pu HT_.out 7 (some 20) #[true,true,true,true,true,true,true,true,false,true,false] (h:=?_)
    refine pu HT_.out 8 (some 21) (fl 10 11) (h:=?_)
    exact norm_ (by simp only[putAll,Act.put,List.setIfInBounds_toArray,List.set_cons_zero,List.set_cons_succ]) (hCont (gb428) _ ⟨hHeld,(bup BK423.out),(bup BK424.out),(bup BK425.out),(bup BK428.out),GW428.out,GE428.out,NB423_428.out,NB428_423.out,NB424_428.out,NB428_424.out,NB425_428.out,NB428_425.out,bl⟩)
  rintro gb428 w17 ⟨hS_,h0_,h1_,h2_,h3_,h4_,h5_,h6_,h7_,h8_,h9_,h10_,h11_,h12_⟩
  have n0_:Aside0 (w17.heap[gb423]?=some (.cells #[.slice A0_0 l0_0.length c0_0,.int .i64 a0_1] 32 (0,0))):=⟨h0_⟩
  have n1_:Aside0 (w17.heap[gb424]?=some (.cells #[.int .i64 a1_0,.int .i64 a1_1,.int .i64 a1_2] 55 (0,0))):=⟨h1_⟩
  have n2_:Aside0 (w17.heap[gb425]?=some (.cells #[.int .i64 0,.int .i64 0,.int .i64 0] 51 (0,0))):=⟨h2_⟩
  have n3_:Aside0 (w17.heap[gb428]?=some (.cells #[.int .i64 0,.int .i64 0,.int .i64 0] 51 (0,0))):=⟨h3_⟩
  have n4_:Aside0 (w.heap.size≤gb428):=⟨h4_⟩
  have n5_:Aside0 (w.heap.size≤gb428):=⟨h5_⟩
  have n6_:Aside0 (gb423≠gb428):=⟨h6_⟩
  have n7_:Aside0 (gb428≠gb423):=⟨h7_⟩
  have n8_:Aside0 (gb424≠gb428):=⟨h8_⟩
  have n9_:Aside0 (gb428≠gb424):=⟨h9_⟩
  have n10_:Aside0 (gb425≠gb428):=⟨h10_⟩
  have n11_:Aside0 (gb428≠gb425):=⟨h11_⟩
  have n12_:Aside0 (Below w.heap.size w w17):=⟨h12_⟩
  clear BK423
  clear BK424
  clear BK425
  clear HB
  clear h0_ h1_ h2_ h3_ h4_ h5_ h6_ h7_ h8_ h9_ h10_ h11_ h12_
  have BK423:=n0_
  have BK424:=n1_
  have BK425:=n2_
  have BK428:=n3_
  have GW428:=n4_
  have GE428:=n5_
  have NB423_428:=n6_
  have NB428_423:=n7_
  have NB424_428:=n8_
  have NB428_424:=n9_
  have NB425_428:=n10_
  have NB428_425:=n11_
  have HB:=n12_
  clear n0_ n1_ n2_ n3_ n4_ n5_ n6_ n7_ n8_ n9_ n10_ n11_ n12_
  have hHeld:w17.cell? ⟨gb424,0,none⟩=some (.int .i64 a1_0)∧w17.cell? ⟨gb424,1,none⟩=some (.int .i64 a1_1)∧w17.cell? ⟨gb424,2,none⟩=some (.int .i64 a1_2):=hS_
  refine norm_ (a':=?_) ?_ ?_
  rotate_left
  ·simp only[putAll,Act.put,List.setIfInBounds_toArray,List.set_cons_zero,List.set_cons_succ]
   rfl
  refine one_ (i:=10) (N:=none) (fl 11 11) rfl rfl (one_of HT_.out (by kernel_rfl)) (by decide) (fun K hK=>?_)
  have hs18:w17.cell? ⟨gb428,0,none⟩=some (.int .i64 0):=(blk_cell BK428.out 0).trans rfl
  have hfs18:=blk_frozen BK428.out 0
  have hns18_0:=NB423_428.out
  have hns18_1:=NB424_428.out
  have hns18_2:=NB425_428.out
  have hms18_0:=NB428_423.out
  have hms18_1:=NB428_424.out
  have hms18_2:=NB428_425.out
  have hs19:w17.cell? ⟨gb428,1,none⟩=some (.int .i64 0):=(blk_cell BK428.out 1).trans rfl
  have hfs19:=blk_frozen BK428.out 1
  have hns19_0:=NB423_428.out
  have hns19_1:=NB424_428.out
  have hns19_2:=NB425_428.out
  have hms19_0:=NB428_423.out
  have hms19_1:=NB428_424.out
  have hms19_2:=NB428_425.out
  have hs20:w17.cell? ⟨gb428,2,none⟩=some (.int .i64 0):=(blk_cell BK428.out 2).trans rfl
  have hfs20:=blk_frozen BK428.out 2
  have hns20_0:=NB423_428.out
  have hns20_1:=NB424_428.out
  have hns20_2:=NB425_428.out
  have hms20_0:=NB428_423.out
  have hms20_1:=NB428_424.out
  have hms20_2:=NB428_425.out
  refine skip_ (w1:=?_) (by rfl) rfl ?_ ?_
  rotate_left
  ·go_simp
   rfl
  refine hK.out _ _ ⟨((cell_far (p:=⟨gb428,_,none⟩) NB424_428.out _).trans (((cell_far (p:=⟨gb428,_,none⟩) NB424_428.out _).trans (((cell_far (p:=⟨gb428,_,none⟩) NB424_428.out _).trans (hHeld.1)))))),((cell_far (p:=⟨gb428,_,none⟩) NB424_428.out _).trans (((cell_far (p:=⟨gb428,_,none⟩) NB424_428.out _).trans (((cell_far (p:=⟨gb428,_,none⟩) NB424_428.out _).trans (hHeld.2.1)))))),((cell_far (p:=⟨gb428,_,none⟩) NB424_428.out _).trans (((cell_far (p:=⟨gb428,_,none⟩) NB424_428.out _).trans (((cell_far (p:=⟨gb428,_,none⟩) NB424_428.out _).trans (hHeld.2.2))))))⟩ (fun hHeld=>?_)
  clear hK K
  refine done_ (done_of HT_.out (by kernel_rfl)) ?_
  have hnb21:=NB425_428.out
  have hnc21:=NB428_425.out
  have hcz22_0:w17.cell? ⟨gb425,0,none⟩=some (.int .i64 0):=(blk_cell BK425.out 0).trans rfl
  have hcz22_1:w17.cell? ⟨gb425,1,none⟩=some (.int .i64 0):=(blk_cell BK425.out 1).trans rfl
  have hcz22_2:w17.cell? ⟨gb425,2,none⟩=some (.int .i64 0):=(blk_cell BK425.out 2).trans rfl
  have hfz22_0:=blk_frozen BK425.out 0
  have hfz22_1:=blk_frozen BK425.out 1
  have hfz22_2:=blk_frozen BK425.out 2
  try go_wp2
  refine bodyPost_ret (results_ct rfl _ _ gb425 51 #[.int .i64 0,.int .i64 0,.int .i64 0] (0,0) _ rfl (by(with_reducible repeat(first|refine bN_ ?_ _|refine bD_ ?_|refine bA_ ?_ _));refine blk_put (cs := #[.int .i64 0,.int .i64 0,.int .i64 0]) ?_ 2 _ rfl;(with_reducible repeat(first|refine bN_ ?_ _|refine bD_ ?_|refine bA_ ?_ _));refine blk_put (cs := #[.int .i64 0,.int .i64 0,.int .i64 0]) ?_ 1 _ rfl;(with_reducible repeat(first|refine bN_ ?_ _|refine bD_ ?_|refine bA_ ?_ _));refine blk_put (cs := #[.int .i64 0,.int .i64 0,.int .i64 0]) ?_ 0 _ rfl;(with_reducible repeat(first|refine bN_ ?_ _|refine bD_ ?_|refine bA_ ?_ _));refine blk_far ?_ NB425_428.out _;(with_reducible repeat(first|refine bN_ ?_ _|refine bD_ ?_|refine bA_ ?_ _));refine blk_far ?_ NB425_428.out _;(with_reducible repeat(first|refine bN_ ?_ _|refine bD_ ?_|refine bA_ ?_ _));refine blk_far ?_ NB425_428.out _;exact bup BK425.out) Try.underlying51 rfl (by kernel_rfl)) rfl ?_
  exact⟨fin1,bl⟩
 ·have c5b0:=decide_eq_false c5
  clear c5
  replace H:=Option.bind_eq_some_iff.mp H
  obtain⟨t429,A230,H⟩:=H
  replace H:(if t429=true then(some (t426,wrap64 (2*a1_1),wrap64 ((wrap64 (2*t427)) - 1),true)) else(some (0,0,0,false)))=some (r1,r2,r3,r4):=H
  have A23:=am A230
  clear A230
  by_cases c24:t429=true
  ·subst c24
   replace H:=(if_pos rfl).symm.trans H
   simp only[Option.some.injEq,Prod.mk.injEq] at H
   obtain⟨rfl,rfl,rfl,rfl⟩:=H
   go_enter Try.func50,Try.ntmps50
   try go_wp2_with (first|((with_reducible refine gate_dst (N:=2) rfl ?_);refine box_event ?hg (N:=2) ?hd (cs := #[.slice A0_0 l0_0.length c0_0,.int .i64 a0_1]) (t:=32) ?hr ?_;(case hd=>rfl);(case hg=>rfl);(case hr=>first|(go_simp;done)|(go_simp;rfl));intro gb423 hg w25 hbox hb;have BK423:=am (hbox);have GW423:=am (ge_ bl hg);have GE423:=am (ge_ bl hg);replace HB:=am (below_step bl hb);clear hb hbox hg)|((with_reducible refine gate_dst (N:=3) rfl ?_);refine box_event ?hg (N:=3) ?hd (cs := #[.int .i64 a1_0,.int .i64 a1_1,.int .i64 a1_2]) (t:=55) ?hr ?_;(case hd=>rfl);(case hg=>rfl);(case hr=>first|(go_simp;done)|(go_simp;rfl));intro gb424 hg w26 hbox hb;have BK424:=am (hbox);have GW424:=am (ge_ bl hg);have GE424:=am (ge_ bl hg);replace HB:=am (below_step bl hb);have NB423_424:=am (nl (bup BK423.out) hg);have NB424_423:=am (ng (bup BK423.out) hg);replace BK423:=am (blk_below (bup BK423.out) hb);clear hb hbox hg)|((with_reducible refine gate_dst (N:=4) rfl ?_);refine box_event ?hg (N:=4) ?hd (cs := #[.int .i64 0,.int .i64 0,.int .i64 0]) (t:=51) ?hr ?_;(case hd=>rfl);(case hg=>rfl);(case hr=>first|(go_simp;done)|(go_simp;rfl));intro gb425 hg w27 hbox hb;have BK425:=am (hbox);have GW425:=am (ge_ bl hg);have GE425:=am (ge_ bl hg);replace HB:=am (below_step bl hb);have NB423_425:=am (nl (bup BK423.out) hg);have NB425_423:=am (ng (bup BK423.out) hg);replace BK423:=am (blk_below (bup BK423.out) hb);have NB424_425:=am (nl (bup BK424.out) hg);have NB425_424:=am (ng (bup BK424.out) hg);replace BK424:=am (blk_below (bup BK424.out) hb);clear hb hbox hg;have hnb28:=NB423_424.out;have hnc28:=NB424_423.out;have hnb29:=NB423_425.out;have hnc29:=NB425_423.out;have hcz30_0:w27.cell? ⟨gb423,0,none⟩=some (.slice A0_0 l0_0.length c0_0):=(blk_cell BK423.out 0).trans rfl;have hcz30_1:w27.cell? ⟨gb423,1,none⟩=some (.int .i64 a0_1):=(blk_cell BK423.out 1).trans rfl;have hfz30_0:=blk_frozen BK423.out 0;have hfz30_1:=blk_frozen BK423.out 1;have hnb31:=NB424_425.out;have hnc31:=NB425_424.out;have hcz32_0:w27.cell? ⟨gb424,0,none⟩=some (.int .i64 a1_0):=(blk_cell BK424.out 0).trans rfl;have hcz32_1:w27.cell? ⟨gb424,1,none⟩=some (.int .i64 a1_1):=(blk_cell BK424.out 1).trans rfl;have hcz32_2:w27.cell? ⟨gb424,2,none⟩=some (.int .i64 a1_2):=(blk_cell BK424.out 2).trans rfl;have hfz32_0:=blk_frozen BK424.out 0;have hfz32_1:=blk_frozen BK424.out 1;have hfz32_2:=blk_frozen BK424.out 2)|((with_reducible refine gate_callee (f:=68) rfl ?_);refine goesL_ (some 12) rfl rfl Try.func68 (by kernel_rfl) rfl #[.slice A0_0 l0_0.length c0_0,.int .i64 a1_0] rfl tl ?_;(with_reducible refine(slices_Index_int_int.calls k _ _ l0_0 a1_0 t426 _ ?side1 ?side2 A3.out).mono ?_);(case side1=>exact cup (Kd.C_below HR0_0.out HB.out));(case side2=>exact HC0_0.out);rintro e w' ⟨rfl,⟨nd,rfl⟩⟩;refine⟨_,rfl,?_⟩;(try(rw[drewN_self w27];generalize hq_:World.drewN w27 _=w27;have n0_:Aside0 (w27.heap[gb423]?=some (.cells #[.slice A0_0 l0_0.length c0_0,.int .i64 a0_1] 32 (0,0))):=⟨by rw[← hq_];exact(bup BK423.out)⟩;have n1_:Aside0 (w27.heap[gb424]?=some (.cells #[.int .i64 a1_0,.int .i64 a1_1,.int .i64 a1_2] 55 (0,0))):=⟨by rw[← hq_];exact(bup BK424.out)⟩;have n2_:Aside0 (w27.heap[gb425]?=some (.cells #[.int .i64 0,.int .i64 0,.int .i64 0] 51 (0,0))):=⟨by rw[← hq_];exact(bup BK425.out)⟩;have n3_:Aside0 (Below w.heap.size w w27):=⟨by rw[← hq_];exact bl⟩;clear BK423 BK424 BK425 HB hq_;have BK423:=n0_;have BK424:=n1_;have BK425:=n2_;have HB:=n3_;clear n0_ n1_ n2_ n3_))))
   replace BK423:=am (bD_ BK423.out)
   replace BK424:=am (bD_ BK424.out)
   replace BK425:=am (bD_ BK425.out)
   replace HB:=am (below_drew1 HB.out)
   refine start_ (n:=11) (S:=fun w'=>w'.cell? ⟨gb424,0,none⟩=some (.int .i64 a1_0)∧w'.cell? ⟨gb424,1,none⟩=some (.int .i64 a1_1)∧w'.cell? ⟨gb424,2,none⟩=some (.int .i64 a1_2)) (ds:=[]) (fl 0 11) (by kernel_rfl) rfl rfl ⟨(blk_cell BK424.out 0).trans rfl,(blk_cell BK424.out 1).trans rfl,(blk_cell BK424.out 2).trans rfl⟩ (fun hHeld=>?_);refine with_tabW impl_holeFor.tab2 impl_holeFor.bits2 (fun HT_ HW_=>?_)
   generalize w27.drew=w33 at BK423 BK424 BK425 HB hHeld ⊢
   refine pu HT_.out 0 (some 13) (fl 1 11) (h:=?_)
   refine pu HT_.out 1 (some 14) (fl 2 11) (h:=?_)
   refine ta HT_.out HW_.out 2 (some 15) (fl 3 11) hHeld rfl (by rintro w' ⟨s0,s1,s2⟩;go_simp;with_reducible rfl) (h:=?_)
   refine pu HT_.out 3 (some 16) (fl 4 11) (h:=?_)
   refine ta HT_.out HW_.out 4 (some 17) (fl 5 11) hHeld rfl (by rintro w' ⟨s0,s1,s2⟩;go_simp;with_reducible rfl) (h:=?_)
   refine join_ (σ:=Nat) 1 (fl 10 11) (fun s_=>[(18,.int .i64 t427),(7,.pointer (some ⟨s_,0,none⟩)),(19,.int .i64 (wrap64 (2*t427))),(20,.int .i64 (wrap64 ((wrap64 (2*t427)) - 1))),(21,.agg #[.int .i64 t426,.int .i64 (wrap64 (2*a1_1)),.int .i64 (wrap64 ((wrap64 (2*t427)) - 1))])]) (fun s_ w'=>(w'.cell? ⟨gb424,0,none⟩=some (.int .i64 a1_0)∧w'.cell? ⟨gb424,1,none⟩=some (.int .i64 a1_1)∧w'.cell? ⟨gb424,2,none⟩=some (.int .i64 a1_2))∧(w'.heap[gb423]?=some (.cells #[.slice A0_0 l0_0.length c0_0,.int .i64 a0_1] 32 (0,0)))∧(w'.heap[gb424]?=some (.cells #[.int .i64 a1_0,.int .i64 a1_1,.int .i64 a1_2] 55 (0,0)))∧(w'.heap[gb425]?=some (.cells #[.int .i64 0,.int .i64 0,.int .i64 0] 51 (0,0)))∧(w'.heap[s_]?=some (.cells #[.int .i64 0,.int .i64 0,.int .i64 0] 51 (0,0)))∧(w.heap.size≤s_)∧(w.heap.size≤s_)∧(gb423≠s_)∧(s_≠gb423)∧(gb424≠s_)∧(s_≠gb424)∧(gb425≠s_)∧(s_≠gb425)∧(Below w.heap.size w w')) ?_ ?_
   rotate_left
   ·intro hCont
    refine two_ (i:=5) (j:=9) (Ni:=some 18) (Nj:=some 7) (fl 6 11) #[true,true,true,true,true,false,false,false,false,true,false] rfl rfl rfl rfl (two_of HT_.out (by kernel_rfl)) (by decide) (by decide) (fun K hK=>?_) (fun K hK=>?_)
    ·skip
     refine goes_ Try.func46 (by kernel_rfl) rfl #[.agg #[.int .i64 a1_0,.int .i64 a1_1,.int .i64 a1_2]] (by rfl) rfl rfl tl ?_
     with_reducible refine(impl_noteEnd.calls a1_0 a1_1 a1_2 t427 _ A4.out).mono ?_
     rintro e w34 ⟨rfl,hb⟩
     refine⟨_,rfl,?_⟩
     replace BK423:=am (blk_below (bup BK423.out) hb)
     replace BK424:=am (blk_below (bup BK424.out) hb)
     replace BK425:=am (blk_below (bup BK425.out) hb)
     replace HB:=am (below_step bl hb)
     (try clear hb)
     refine hK.out _ _ ⟨(blk_cell BK424.out 0).trans rfl,(blk_cell BK424.out 1).trans rfl,(blk_cell BK424.out 2).trans rfl⟩ (fun hHeld=>?_)
     clear hK K
     refine norm_ (a':=?_) ?_ ?_
     rotate_left
     ·show Act.put _ (some 18) _=_
      simp only[Act.put,List.setIfInBounds_toArray,List.set_cons_zero,List.set_cons_succ,i64_w,i32_w]
      rfl
     refine pu HT_.out 6 (some 19) (fl 7 11) (h:=?_)
     refine pu HT_.out 7 (some 20) (fl 8 11) (h:=?_)
     refine pu HT_.out 8 (some 21) (fl 9 11) (h:=?_)
     refine one_ (i:=9) (N:=some 7) (fl 10 11) rfl rfl (one_of HT_.out (by kernel_rfl)) (by decide) (fun K hK=>?_)
     refine box_step ?hg (N:=7) ?hd (cs := #[.int .i64 0,.int .i64 0,.int .i64 0]) (t:=51) ?hr ?_;(case hd=>rfl);(case hg=>rfl);(case hr=>first|(go_simp;done)|(go_simp;rfl))
     intro gb428 hg w35 hbox hb
     have BK428:=am (hbox)
     have GW428:=am (ge_ bl hg)
     have GE428:=am (ge_ bl hg)
     replace HB:=am (below_step bl hb)
     have NB423_428:=am (nl (bup BK423.out) hg)
     have NB428_423:=am (ng (bup BK423.out) hg)
     replace BK423:=am (blk_below (bup BK423.out) hb)
     have NB424_428:=am (nl (bup BK424.out) hg)
     have NB428_424:=am (ng (bup BK424.out) hg)
     replace BK424:=am (blk_below (bup BK424.out) hb)
     have NB425_428:=am (nl (bup BK425.out) hg)
     have NB428_425:=am (ng (bup BK425.out) hg)
     replace BK425:=am (blk_below (bup BK425.out) hb)
     clear hb hbox hg
     refine hK.out _ _ ⟨(blk_cell BK424.out 0).trans rfl,(blk_cell BK424.out 1).trans rfl,(blk_cell BK424.out 2).trans rfl⟩ (fun hHeld=>?_)
     clear hK K
     refine norm_ (a':=?_) ?_ ?_
     rotate_left
     ·show Act.put _ (some 7) _=_
      simp only[Act.put,List.setIfInBounds_toArray,List.set_cons_zero,List.set_cons_succ,i64_w,i32_w]
      rfl
     exact norm_ (by simp only[putAll,Act.put,List.setIfInBounds_toArray,List.set_cons_zero,List.set_cons_succ]) (hCont (gb428) _ ⟨hHeld,(bup BK423.out),(bup BK424.out),(bup BK425.out),(bup BK428.out),GW428.out,GE428.out,NB423_428.out,NB428_423.out,NB424_428.out,NB428_424.out,NB425_428.out,NB428_425.out,bl⟩)
    ·skip
     refine box_step ?hg (N:=7) ?hd (cs := #[.int .i64 0,.int .i64 0,.int .i64 0]) (t:=51) ?hr ?_;(case hd=>rfl);(case hg=>rfl);(case hr=>first|(go_simp;done)|(go_simp;rfl))
     intro gb428 hg w34 hbox hb
     have BK428:=am (hbox)
     have GW428:=am (ge_ bl hg)
     have GE428:=am (ge_ bl hg)
     replace HB:=am (below_step bl hb)
     have NB423_428:=am (nl (bup BK423.out) hg)
     have NB428_423:=am (ng (bup BK423.out) hg)
     replace BK423:=am (blk_below (bup BK423.out) hb)
     have NB424_428:=am (nl (bup BK424.out) hg)
     have NB428_424:=am (ng (bup BK424.out) hg)
     replace BK424:=am (blk_below (bup BK424.out) hb)
     have NB425_428:=am (nl (bup BK425.out) hg)
     have NB428_425:=am (ng (bup BK425.out) hg)
     replace BK425:=am (blk_below (bup BK425.out) hb)
     clear hb hbox hg
     refine hK.out _ _ ⟨(blk_cell BK424.out 0).trans rfl,(blk_cell BK424.out 1).trans rfl,(blk_cell BK424.out 2).trans rfl⟩ (fun hHeld=>?_)
     clear hK K
     refine norm_ (a':=?_) ?_ ?_
     rotate_left
     ·show Act.put _ (some 7) _=_
      simp only[Act.put,List.setIfInBounds_toArray,List.set_cons_zero,List.set_cons_succ,i64_w,i32_w]
      rfl
     refine one_ (i:=5) (N:=some 18) #[true,true,true,true,true,true,false,false,false,true,false] rfl rfl (one_of HT_.out (by kernel_rfl)) (by decide) (fun K hK=>?_)
     refine goes_ Try.func46 (by kernel_rfl) rfl #[.agg #[.int .i64 a1_0,.int .i64 a1_1,.int .i64 a1_2]] (by rfl) rfl rfl tl ?_
     with_reducible refine(impl_noteEnd.calls a1_0 a1_1 a1_2 t427 _ A4.out).mono ?_
     rintro e w35 ⟨rfl,hb⟩
     refine⟨_,rfl,?_⟩
     replace BK423:=am (blk_below (bup BK423.out) hb)
     replace BK424:=am (blk_below (bup BK424.out) hb)
     replace BK425:=am (blk_below (bup BK425.out) hb)
     replace BK428:=am (blk_below (bup BK428.out) hb)
     replace HB:=am (below_step bl hb)
     (try clear hb)
     refine hK.out _ _ ⟨(blk_cell BK424.out 0).trans rfl,(blk_cell BK424.out 1).trans rfl,(blk_cell BK424.out 2).trans rfl⟩ (fun hHeld=>?_)
     clear hK K
     refine norm_ (a':=?_) ?_ ?_
     rotate_left
     ·show Act.put _ (some 18) _=_
      simp only[Act.put,List.setIfInBounds_toArray,List.set_cons_zero,List.set_cons_succ,i64_w,i32_w]
      rfl
     refine pu HT_.out 6 (some 19) #[true,true,true,true,true,true,true,false,false,true,false] (h:=?_)
     refine pu HT_.out 7 (some 20) #[true,true,true,true,true,true,true,true,false,true,false] (h:=?_)
     refine pu HT_.out 8 (some 21) (fl 10 11) (h:=?_)
     exact norm_ (by simp only[putAll,Act.put,List.setIfInBounds_toArray,List.set_cons_zero,List.set_cons_succ]) (hCont (gb428) _ ⟨hHeld,(bup BK423.out),(bup BK424.out),(bup BK425.out),(bup BK428.out),GW428.out,GE428.out,NB423_428.out,NB428_423.out,NB424_428.out,NB428_424.out,NB425_428.out,NB428_425.out,bl⟩)
   rintro gb428 w36 ⟨hS_,h0_,h1_,h2_,h3_,h4_,h5_,h6_,h7_,h8_,h9_,h10_,h11_,h12_⟩
   have n0_:Aside0 (w36.heap[gb423]?=some (.cells #[.slice A0_0 l0_0.length c0_0,.int .i64 a0_1] 32 (0,0))):=⟨h0_⟩
   have n1_:Aside0 (w36.heap[gb424]?=some (.cells #[.int .i64 a1_0,.int .i64 a1_1,.int .i64 a1_2] 55 (0,0))):=⟨h1_⟩
   have n2_:Aside0 (w36.heap[gb425]?=some (.cells #[.int .i64 0,.int .i64 0,.int .i64 0] 51 (0,0))):=⟨h2_⟩
   have n3_:Aside0 (w36.heap[gb428]?=some (.cells #[.int .i64 0,.int .i64 0,.int .i64 0] 51 (0,0))):=⟨h3_⟩
   have n4_:Aside0 (w.heap.size≤gb428):=⟨h4_⟩
   have n5_:Aside0 (w.heap.size≤gb428):=⟨h5_⟩
   have n6_:Aside0 (gb423≠gb428):=⟨h6_⟩
   have n7_:Aside0 (gb428≠gb423):=⟨h7_⟩
   have n8_:Aside0 (gb424≠gb428):=⟨h8_⟩
   have n9_:Aside0 (gb428≠gb424):=⟨h9_⟩
   have n10_:Aside0 (gb425≠gb428):=⟨h10_⟩
   have n11_:Aside0 (gb428≠gb425):=⟨h11_⟩
   have n12_:Aside0 (Below w.heap.size w w36):=⟨h12_⟩
   clear BK423
   clear BK424
   clear BK425
   clear HB
   clear h0_ h1_ h2_ h3_ h4_ h5_ h6_ h7_ h8_ h9_ h10_ h11_ h12_
   have BK423:=n0_
   have BK424:=n1_
   have BK425:=n2_
   have BK428:=n3_
   have GW428:=n4_
   have GE428:=n5_
   have NB423_428:=n6_
   have NB428_423:=n7_
   have NB424_428:=n8_
   have NB428_424:=n9_
   have NB425_428:=n10_
   have NB428_425:=n11_
   have HB:=n12_
   clear n0_ n1_ n2_ n3_ n4_ n5_ n6_ n7_ n8_ n9_ n10_ n11_ n12_
   have hHeld:w36.cell? ⟨gb424,0,none⟩=some (.int .i64 a1_0)∧w36.cell? ⟨gb424,1,none⟩=some (.int .i64 a1_1)∧w36.cell? ⟨gb424,2,none⟩=some (.int .i64 a1_2):=hS_
   refine norm_ (a':=?_) ?_ ?_
   rotate_left
   ·simp only[putAll,Act.put,List.setIfInBounds_toArray,List.set_cons_zero,List.set_cons_succ]
    rfl
   refine one_ (i:=10) (N:=none) (fl 11 11) rfl rfl (one_of HT_.out (by kernel_rfl)) (by decide) (fun K hK=>?_)
   have hs37:w36.cell? ⟨gb428,0,none⟩=some (.int .i64 0):=(blk_cell BK428.out 0).trans rfl
   have hfs37:=blk_frozen BK428.out 0
   have hns37_0:=NB423_428.out
   have hns37_1:=NB424_428.out
   have hns37_2:=NB425_428.out
   have hms37_0:=NB428_423.out
   have hms37_1:=NB428_424.out
   have hms37_2:=NB428_425.out
   have hs38:w36.cell? ⟨gb428,1,none⟩=some (.int .i64 0):=(blk_cell BK428.out 1).trans rfl
   have hfs38:=blk_frozen BK428.out 1
   have hns38_0:=NB423_428.out
   have hns38_1:=NB424_428.out
   have hns38_2:=NB425_428.out
   have hms38_0:=NB428_423.out
   have hms38_1:=NB428_424.out
   have hms38_2:=NB428_425.out
   have hs39:w36.cell? ⟨gb428,2,none⟩=some (.int .i64 0):=(blk_cell BK428.out 2).trans rfl
   have hfs39:=blk_frozen BK428.out 2
   have hns39_0:=NB423_428.out
   have hns39_1:=NB424_428.out
   have hns39_2:=NB425_428.out
   have hms39_0:=NB428_423.out
   have hms39_1:=NB428_424.out
   have hms39_2:=NB428_425.out
   refine skip_ (w1:=?_) (by rfl) rfl ?_ ?_
   rotate_left
   ·go_simp
    rfl
   refine hK.out _ _ ⟨((cell_far (p:=⟨gb428,_,none⟩) NB424_428.out _).trans (((cell_far (p:=⟨gb428,_,none⟩) NB424_428.out _).trans (((cell_far (p:=⟨gb428,_,none⟩) NB424_428.out _).trans (hHeld.1)))))),((cell_far (p:=⟨gb428,_,none⟩) NB424_428.out _).trans (((cell_far (p:=⟨gb428,_,none⟩) NB424_428.out _).trans (((cell_far (p:=⟨gb428,_,none⟩) NB424_428.out _).trans (hHeld.2.1)))))),((cell_far (p:=⟨gb428,_,none⟩) NB424_428.out _).trans (((cell_far (p:=⟨gb428,_,none⟩) NB424_428.out _).trans (((cell_far (p:=⟨gb428,_,none⟩) NB424_428.out _).trans (hHeld.2.2))))))⟩ (fun hHeld=>?_)
   clear hK K
   refine done_ (done_of HT_.out (by kernel_rfl)) ?_
   have hnb40:=NB428_423.out
   have hnc40:=NB423_428.out
   have hnb41:=NB428_424.out
   have hnc41:=NB424_428.out
   have hnb42:=NB428_425.out
   have hnc42:=NB425_428.out
   have hcz43_0:w36.cell? ⟨gb428,0,none⟩=some (.int .i64 0):=(blk_cell BK428.out 0).trans rfl
   have hcz43_1:w36.cell? ⟨gb428,1,none⟩=some (.int .i64 0):=(blk_cell BK428.out 1).trans rfl
   have hcz43_2:w36.cell? ⟨gb428,2,none⟩=some (.int .i64 0):=(blk_cell BK428.out 2).trans rfl
   have hfz43_0:=blk_frozen BK428.out 0
   have hfz43_1:=blk_frozen BK428.out 1
   have hfz43_2:=blk_frozen BK428.out 2
   try go_wp2_with (first|(go_at_call 64;(with_reducible refine(impl_IsHole.calls t426 (wrap64 (2*a1_1)) (wrap64 ((wrap64 (2*t427)) - 1)) true _ A23.out).mono ?_);rintro e w44 ⟨rfl,hb⟩;replace BK423:=am (blk_below (g:=gb423) (o := .cells #[.slice A0_0 l0_0.length c0_0,.int .i64 a0_1] 32 (0,0)) (by(with_reducible repeat(first|refine bN_ ?_ _|refine bD_ ?_|refine bA_ ?_ _));refine blk_far ?_ NB423_428.out _;(with_reducible repeat(first|refine bN_ ?_ _|refine bD_ ?_|refine bA_ ?_ _));refine blk_far ?_ NB423_428.out _;(with_reducible repeat(first|refine bN_ ?_ _|refine bD_ ?_|refine bA_ ?_ _));refine blk_far ?_ NB423_428.out _;exact bup BK423.out) hb);replace BK424:=am (blk_below (g:=gb424) (o := .cells #[.int .i64 a1_0,.int .i64 a1_1,.int .i64 a1_2] 55 (0,0)) (by(with_reducible repeat(first|refine bN_ ?_ _|refine bD_ ?_|refine bA_ ?_ _));refine blk_far ?_ NB424_428.out _;(with_reducible repeat(first|refine bN_ ?_ _|refine bD_ ?_|refine bA_ ?_ _));refine blk_far ?_ NB424_428.out _;(with_reducible repeat(first|refine bN_ ?_ _|refine bD_ ?_|refine bA_ ?_ _));refine blk_far ?_ NB424_428.out _;exact bup BK424.out) hb);replace BK425:=am (blk_below (g:=gb425) (o := .cells #[.int .i64 0,.int .i64 0,.int .i64 0] 51 (0,0)) (by(with_reducible repeat(first|refine bN_ ?_ _|refine bD_ ?_|refine bA_ ?_ _));refine blk_far ?_ NB425_428.out _;(with_reducible repeat(first|refine bN_ ?_ _|refine bD_ ?_|refine bA_ ?_ _));refine blk_far ?_ NB425_428.out _;(with_reducible repeat(first|refine bN_ ?_ _|refine bD_ ?_|refine bA_ ?_ _));refine blk_far ?_ NB425_428.out _;exact bup BK425.out) hb);replace BK428:=am (blk_below (g:=gb428) (o := .cells #[.int .i64 t426,.int .i64 (wrap64 (2*a1_1)),.int .i64 (wrap64 ((wrap64 (2*t427)) - 1))] 51 (0,0)) (by(with_reducible repeat(first|refine bN_ ?_ _|refine bD_ ?_|refine bA_ ?_ _));refine blk_put (cs := #[.int .i64 t426,.int .i64 (wrap64 (2*a1_1)),.int .i64 0]) ?_ 2 _ rfl;(with_reducible repeat(first|refine bN_ ?_ _|refine bD_ ?_|refine bA_ ?_ _));refine blk_put (cs := #[.int .i64 t426,.int .i64 0,.int .i64 0]) ?_ 1 _ rfl;(with_reducible repeat(first|refine bN_ ?_ _|refine bD_ ?_|refine bA_ ?_ _));refine blk_put (cs := #[.int .i64 0,.int .i64 0,.int .i64 0]) ?_ 0 _ rfl;exact bup BK428.out) hb);replace HB:=am (below_step bl hb);(try clear hb);have hcz45_0:w44.cell? ⟨gb428,0,none⟩=some (.int .i64 t426):=(blk_cell BK428.out 0).trans rfl;have hcz45_1:w44.cell? ⟨gb428,1,none⟩=some (.int .i64 (wrap64 (2*a1_1))):=(blk_cell BK428.out 1).trans rfl;have hcz45_2:w44.cell? ⟨gb428,2,none⟩=some (.int .i64 (wrap64 ((wrap64 (2*t427)) - 1))):=(blk_cell BK428.out 2).trans rfl;have hfz45_0:=blk_frozen BK428.out 0;have hfz45_1:=blk_frozen BK428.out 1;have hfz45_2:=blk_frozen BK428.out 2;have hcz46_0:w44.cell? ⟨gb425,0,none⟩=some (.int .i64 0):=(blk_cell BK425.out 0).trans rfl;have hcz46_1:w44.cell? ⟨gb425,1,none⟩=some (.int .i64 0):=(blk_cell BK425.out 1).trans rfl;have hcz46_2:w44.cell? ⟨gb425,2,none⟩=some (.int .i64 0):=(blk_cell BK425.out 2).trans rfl;have hfz46_0:=blk_frozen BK425.out 0;have hfz46_1:=blk_frozen BK425.out 1;have hfz46_2:=blk_frozen BK425.out 2))
   refine bodyPost_ret (results_ct rfl _ _ gb425 51 #[.int .i64 t426,.int .i64 (wrap64 (2*a1_1)),.int .i64 (wrap64 ((wrap64 (2*t427)) - 1))] (0,0) _ rfl (by(with_reducible repeat(first|refine bN_ ?_ _|refine bD_ ?_|refine bA_ ?_ _));refine blk_put (cs := #[.int .i64 t426,.int .i64 (wrap64 (2*a1_1)),.int .i64 0]) ?_ 2 _ rfl;(with_reducible repeat(first|refine bN_ ?_ _|refine bD_ ?_|refine bA_ ?_ _));refine blk_put (cs := #[.int .i64 t426,.int .i64 0,.int .i64 0]) ?_ 1 _ rfl;(with_reducible repeat(first|refine bN_ ?_ _|refine bD_ ?_|refine bA_ ?_ _));refine blk_put (cs := #[.int .i64 0,.int .i64 0,.int .i64 0]) ?_ 0 _ rfl;exact bup BK425.out) Try.underlying51 rfl (by kernel_rfl)) rfl ?_
   exact⟨fin1,bl⟩
  ·replace c24:=Bool.eq_false_iff.mpr c24
   subst c24
   replace H:=(if_neg Bool.false_ne_true).symm.trans H
   simp only[Option.some.injEq,Prod.mk.injEq] at H
   obtain⟨rfl,rfl,rfl,rfl⟩:=H
   go_enter Try.func50,Try.ntmps50
   try go_wp2_with (first|((with_reducible refine gate_dst (N:=2) rfl ?_);refine box_event ?hg (N:=2) ?hd (cs := #[.slice A0_0 l0_0.length c0_0,.int .i64 a0_1]) (t:=32) ?hr ?_;(case hd=>rfl);(case hg=>rfl);(case hr=>first|(go_simp;done)|(go_simp;rfl));intro gb423 hg w47 hbox hb;have BK423:=am (hbox);have GW423:=am (ge_ bl hg);have GE423:=am (ge_ bl hg);replace HB:=am (below_step bl hb);clear hb hbox hg)|((with_reducible refine gate_dst (N:=3) rfl ?_);refine box_event ?hg (N:=3) ?hd (cs := #[.int .i64 a1_0,.int .i64 a1_1,.int .i64 a1_2]) (t:=55) ?hr ?_;(case hd=>rfl);(case hg=>rfl);(case hr=>first|(go_simp;done)|(go_simp;rfl));intro gb424 hg w48 hbox hb;have BK424:=am (hbox);have GW424:=am (ge_ bl hg);have GE424:=am (ge_ bl hg);replace HB:=am (below_step bl hb);have NB423_424:=am (nl (bup BK423.out) hg);have NB424_423:=am (ng (bup BK423.out) hg);replace BK423:=am (blk_below (bup BK423.out) hb);clear hb hbox hg)|((with_reducible refine gate_dst (N:=4) rfl ?_);refine box_event ?hg (N:=4) ?hd (cs := #[.int .i64 0,.int .i64 0,.int .i64 0]) (t:=51) ?hr ?_;(case hd=>rfl);(case hg=>rfl);(case hr=>first|(go_simp;done)|(go_simp;rfl));intro gb425 hg w49 hbox hb;have BK425:=am (hbox);have GW425:=am (ge_ bl hg);have GE425:=am (ge_ bl hg);replace HB:=am (below_step bl hb);have NB423_425:=am (nl (bup BK423.out) hg);have NB425_423:=am (ng (bup BK423.out) hg);replace BK423:=am (blk_below (bup BK423.out) hb);have NB424_425:=am (nl (bup BK424.out) hg);have NB425_424:=am (ng (bup BK424.out) hg);replace BK424:=am (blk_below (bup BK424.out) hb);clear hb hbox hg;have hnb50:=NB423_424.out;have hnc50:=NB424_423.out;have hnb51:=NB423_425.out;have hnc51:=NB425_423.out;have hcz52_0:w49.cell? ⟨gb423,0,none⟩=some (.slice A0_0 l0_0.length c0_0):=(blk_cell BK423.out 0).trans rfl;have hcz52_1:w49.cell? ⟨gb423,1,none⟩=some (.int .i64 a0_1):=(blk_cell BK423.out 1).trans rfl;have hfz52_0:=blk_frozen BK423.out 0;have hfz52_1:=blk_frozen BK423.out 1;have hnb53:=NB424_425.out;have hnc53:=NB425_424.out;have hcz54_0:w49.cell? ⟨gb424,0,none⟩=some (.int .i64 a1_0):=(blk_cell BK424.out 0).trans rfl;have hcz54_1:w49.cell? ⟨gb424,1,none⟩=some (.int .i64 a1_1):=(blk_cell BK424.out 1).trans rfl;have hcz54_2:w49.cell? ⟨gb424,2,none⟩=some (.int .i64 a1_2):=(blk_cell BK424.out 2).trans rfl;have hfz54_0:=blk_frozen BK424.out 0;have hfz54_1:=blk_frozen BK424.out 1;have hfz54_2:=blk_frozen BK424.out 2)|((with_reducible refine gate_callee (f:=68) rfl ?_);refine goesL_ (some 12) rfl rfl Try.func68 (by kernel_rfl) rfl #[.slice A0_0 l0_0.length c0_0,.int .i64 a1_0] rfl tl ?_;(with_reducible refine(slices_Index_int_int.calls k _ _ l0_0 a1_0 t426 _ ?side1 ?side2 A3.out).mono ?_);(case side1=>exact cup (Kd.C_below HR0_0.out HB.out));(case side2=>exact HC0_0.out);rintro e w' ⟨rfl,⟨nd,rfl⟩⟩;refine⟨_,rfl,?_⟩;(try(rw[drewN_self w49];generalize hq_:World.drewN w49 _=w49;have n0_:Aside0 (w49.heap[gb423]?=some (.cells #[.slice A0_0 l0_0.length c0_0,.int .i64 a0_1] 32 (0,0))):=⟨by rw[← hq_];exact(bup BK423.out)⟩;have n1_:Aside0 (w49.heap[gb424]?=some (.cells #[.int .i64 a1_0,.int .i64 a1_1,.int .i64 a1_2] 55 (0,0))):=⟨by rw[← hq_];exact(bup BK424.out)⟩;have n2_:Aside0 (w49.heap[gb425]?=some (.cells #[.int .i64 0,.int .i64 0,.int .i64 0] 51 (0,0))):=⟨by rw[← hq_];exact(bup BK425.out)⟩;have n3_:Aside0 (Below w.heap.size w w49):=⟨by rw[← hq_];exact bl⟩;clear BK423 BK424 BK425 HB hq_;have BK423:=n0_;have BK424:=n1_;have BK425:=n2_;have HB:=n3_;clear n0_ n1_ n2_ n3_))))
   replace BK423:=am (bD_ BK423.out)
   replace BK424:=am (bD_ BK424.out)
   replace BK425:=am (bD_ BK425.out)
   replace HB:=am (below_drew1 HB.out)
   refine start_ (n:=11) (S:=fun w'=>w'.cell? ⟨gb424,0,none⟩=some (.int .i64 a1_0)∧w'.cell? ⟨gb424,1,none⟩=some (.int .i64 a1_1)∧w'.cell? ⟨gb424,2,none⟩=some (.int .i64 a1_2)) (ds:=[]) (fl 0 11) (by kernel_rfl) rfl rfl ⟨(blk_cell BK424.out 0).trans rfl,(blk_cell BK424.out 1).trans rfl,(blk_cell BK424.out 2).trans rfl⟩ (fun hHeld=>?_);refine with_tabW impl_holeFor.tab2 impl_holeFor.bits2 (fun HT_ HW_=>?_)
   generalize w49.drew=w55 at BK423 BK424 BK425 HB hHeld ⊢
   refine pu HT_.out 0 (some 13) (fl 1 11) (h:=?_)
   refine pu HT_.out 1 (some 14) (fl 2 11) (h:=?_)
   refine ta HT_.out HW_.out 2 (some 15) (fl 3 11) hHeld rfl (by rintro w' ⟨s0,s1,s2⟩;go_simp;with_reducible rfl) (h:=?_)
   refine pu HT_.out 3 (some 16) (fl 4 11) (h:=?_)
   refine ta HT_.out HW_.out 4 (some 17) (fl 5 11) hHeld rfl (by rintro w' ⟨s0,s1,s2⟩;go_simp;with_reducible rfl) (h:=?_)
   refine join_ (σ:=Nat) 1 (fl 10 11) (fun s_=>[(18,.int .i64 t427),(7,.pointer (some ⟨s_,0,none⟩)),(19,.int .i64 (wrap64 (2*t427))),(20,.int .i64 (wrap64 ((wrap64 (2*t427)) - 1))),(21,.agg #[.int .i64 t426,.int .i64 (wrap64 (2*a1_1)),.int .i64 (wrap64 ((wrap64 (2*t427)) - 1))])]) (fun s_ w'=>(w'.cell? ⟨gb424,0,none⟩=some (.int .i64 a1_0)∧w'.cell? ⟨gb424,1,none⟩=some (.int .i64 a1_1)∧w'.cell? ⟨gb424,2,none⟩=some (.int .i64 a1_2))∧(w'.heap[gb423]?=some (.cells #[.slice A0_0 l0_0.length c0_0,.int .i64 a0_1] 32 (0,0)))∧(w'.heap[gb424]?=some (.cells #[.int .i64 a1_0,.int .i64 a1_1,.int .i64 a1_2] 55 (0,0)))∧(w'.heap[gb425]?=some (.cells #[.int .i64 0,.int .i64 0,.int .i64 0] 51 (0,0)))∧(w'.heap[s_]?=some (.cells #[.int .i64 0,.int .i64 0,.int .i64 0] 51 (0,0)))∧(w.heap.size≤s_)∧(w.heap.size≤s_)∧(gb423≠s_)∧(s_≠gb423)∧(gb424≠s_)∧(s_≠gb424)∧(gb425≠s_)∧(s_≠gb425)∧(Below w.heap.size w w')) ?_ ?_
   rotate_left
   ·intro hCont
    refine two_ (i:=5) (j:=9) (Ni:=some 18) (Nj:=some 7) (fl 6 11) #[true,true,true,true,true,false,false,false,false,true,false] rfl rfl rfl rfl (two_of HT_.out (by kernel_rfl)) (by decide) (by decide) (fun K hK=>?_) (fun K hK=>?_)
    ·skip
     refine goes_ Try.func46 (by kernel_rfl) rfl #[.agg #[.int .i64 a1_0,.int .i64 a1_1,.int .i64 a1_2]] (by rfl) rfl rfl tl ?_
     with_reducible refine(impl_noteEnd.calls a1_0 a1_1 a1_2 t427 _ A4.out).mono ?_
     rintro e w56 ⟨rfl,hb⟩
     refine⟨_,rfl,?_⟩
     replace BK423:=am (blk_below (bup BK423.out) hb)
     replace BK424:=am (blk_below (bup BK424.out) hb)
     replace BK425:=am (blk_below (bup BK425.out) hb)
     replace HB:=am (below_step bl hb)
     (try clear hb)
     refine hK.out _ _ ⟨(blk_cell BK424.out 0).trans rfl,(blk_cell BK424.out 1).trans rfl,(blk_cell BK424.out 2).trans rfl⟩ (fun hHeld=>?_)
     clear hK K
     refine norm_ (a':=?_) ?_ ?_
     rotate_left
     ·show Act.put _ (some 18) _=_
      simp only[Act.put,List.setIfInBounds_toArray,List.set_cons_zero,List.set_cons_succ,i64_w,i32_w]
      rfl
     refine pu HT_.out 6 (some 19) (fl 7 11) (h:=?_)
     refine pu HT_.out 7 (some 20) (fl 8 11) (h:=?_)
     refine pu HT_.out 8 (some 21) (fl 9 11) (h:=?_)
     refine one_ (i:=9) (N:=some 7) (fl 10 11) rfl rfl (one_of HT_.out (by kernel_rfl)) (by decide) (fun K hK=>?_)
     refine box_step ?hg (N:=7) ?hd (cs := #[.int .i64 0,.int .i64 0,.int .i64 0]) (t:=51) ?hr ?_;(case hd=>rfl);(case hg=>rfl);(case hr=>first|(go_simp;done)|(go_simp;rfl))
     intro gb428 hg w57 hbox hb
     have BK428:=am (hbox)
     have GW428:=am (ge_ bl hg)
     have GE428:=am (ge_ bl hg)
     replace HB:=am (below_step bl hb)
     have NB423_428:=am (nl (bup BK423.out) hg)
     have NB428_423:=am (ng (bup BK423.out) hg)
     replace BK423:=am (blk_below (bup BK423.out) hb)
     have NB424_428:=am (nl (bup BK424.out) hg)
     have NB428_424:=am (ng (bup BK424.out) hg)
     replace BK424:=am (blk_below (bup BK424.out) hb)
     have NB425_428:=am (nl (bup BK425.out) hg)
     have NB428_425:=am (ng (bup BK425.out) hg)
     replace BK425:=am (blk_below (bup BK425.out) hb)
     clear hb hbox hg
     refine hK.out _ _ ⟨(blk_cell BK424.out 0).trans rfl,(blk_cell BK424.out 1).trans rfl,(blk_cell BK424.out 2).trans rfl⟩ (fun hHeld=>?_)
     clear hK K
     refine norm_ (a':=?_) ?_ ?_
     rotate_left
     ·show Act.put _ (some 7) _=_
      simp only[Act.put,List.setIfInBounds_toArray,List.set_cons_zero,List.set_cons_succ,i64_w,i32_w]
      rfl
     exact norm_ (by simp only[putAll,Act.put,List.setIfInBounds_toArray,List.set_cons_zero,List.set_cons_succ]) (hCont (gb428) _ ⟨hHeld,(bup BK423.out),(bup BK424.out),(bup BK425.out),(bup BK428.out),GW428.out,GE428.out,NB423_428.out,NB428_423.out,NB424_428.out,NB428_424.out,NB425_428.out,NB428_425.out,bl⟩)
    ·skip
     refine box_step ?hg (N:=7) ?hd (cs := #[.int .i64 0,.int .i64 0,.int .i64 0]) (t:=51) ?hr ?_;(case hd=>rfl);(case hg=>rfl);(case hr=>first|(go_simp;done)|(go_simp;rfl))
     intro gb428 hg w56 hbox hb
     have BK428:=am (hbox)
     have GW428:=am (ge_ bl hg)
     have GE428:=am (ge_ bl hg)
     replace HB:=am (below_step bl hb)
     have NB423_428:=am (nl (bup BK423.out) hg)
     have NB428_423:=am (ng (bup BK423.out) hg)
     replace BK423:=am (blk_below (bup BK423.out) hb)
     have NB424_428:=am (nl (bup BK424.out) hg)
     have NB428_424:=am (ng (bup BK424.out) hg)
     replace BK424:=am (blk_below (bup BK424.out) hb)
     have NB425_428:=am (nl (bup BK425.out) hg)
     have NB428_425:=am (ng (bup BK425.out) hg)
     replace BK425:=am (blk_below (bup BK425.out) hb)
     clear hb hbox hg
     refine hK.out _ _ ⟨(blk_cell BK424.out 0).trans rfl,(blk_cell BK424.out 1).trans rfl,(blk_cell BK424.out 2).trans rfl⟩ (fun hHeld=>?_)
     clear hK K
     refine norm_ (a':=?_) ?_ ?_
     rotate_left
     ·show Act.put _ (some 7) _=_
      simp only[Act.put,List.setIfInBounds_toArray,List.set_cons_zero,List.set_cons_succ,i64_w,i32_w]
      rfl
     refine one_ (i:=5) (N:=some 18) #[true,true,true,true,true,true,false,false,false,true,false] rfl rfl (one_of HT_.out (by kernel_rfl)) (by decide) (fun K hK=>?_)
     refine goes_ Try.func46 (by kernel_rfl) rfl #[.agg #[.int .i64 a1_0,.int .i64 a1_1,.int .i64 a1_2]] (by rfl) rfl rfl tl ?_
     with_reducible refine(impl_noteEnd.calls a1_0 a1_1 a1_2 t427 _ A4.out).mono ?_
     rintro e w57 ⟨rfl,hb⟩
     refine⟨_,rfl,?_⟩
     replace BK423:=am (blk_below (bup BK423.out) hb)
     replace BK424:=am (blk_below (bup BK424.out) hb)
     replace BK425:=am (blk_below (bup BK425.out) hb)
     replace BK428:=am (blk_below (bup BK428.out) hb)
     replace HB:=am (below_step bl hb)
     (try clear hb)
     refine hK.out _ _ ⟨(blk_cell BK424.out 0).trans rfl,(blk_cell BK424.out 1).trans rfl,(blk_cell BK424.out 2).trans rfl⟩ (fun hHeld=>?_)
     clear hK K
     refine norm_ (a':=?_) ?_ ?_
     rotate_left
     ·show Act.put _ (some 18) _=_
      simp only[Act.put,List.setIfInBounds_toArray,List.set_cons_zero,List.set_cons_succ,i64_w,i32_w]
      rfl
     refine pu HT_.out 6 (some 19) #[true,true,true,true,true,true,true,false,false,true,false] (h:=?_)
     refine pu HT_.out 7 (some 20) #[true,true,true,true,true,true,true,true,false,true,false] (h:=?_)
     refine pu HT_.out 8 (some 21) (fl 10 11) (h:=?_)
     exact norm_ (by simp only[putAll,Act.put,List.setIfInBounds_toArray,List.set_cons_zero,List.set_cons_succ]) (hCont (gb428) _ ⟨hHeld,(bup BK423.out),(bup BK424.out),(bup BK425.out),(bup BK428.out),GW428.out,GE428.out,NB423_428.out,NB428_423.out,NB424_428.out,NB428_424.out,NB425_428.out,NB428_425.out,bl⟩)
   rintro gb428 w58 ⟨hS_,h0_,h1_,h2_,h3_,h4_,h5_,h6_,h7_,h8_,h9_,h10_,h11_,h12_⟩
   have n0_:Aside0 (w58.heap[gb423]?=some (.cells #[.slice A0_0 l0_0.length c0_0,.int .i64 a0_1] 32 (0,0))):=⟨h0_⟩
   have n1_:Aside0 (w58.heap[gb424]?=some (.cells #[.int .i64 a1_0,.int .i64 a1_1,.int .i64 a1_2] 55 (0,0))):=⟨h1_⟩
   have n2_:Aside0 (w58.heap[gb425]?=some (.cells #[.int .i64 0,.int .i64 0,.int .i64 0] 51 (0,0))):=⟨h2_⟩
   have n3_:Aside0 (w58.heap[gb428]?=some (.cells #[.int .i64 0,.int .i64 0,.int .i64 0] 51 (0,0))):=⟨h3_⟩
   have n4_:Aside0 (w.heap.size≤gb428):=⟨h4_⟩
   have n5_:Aside0 (w.heap.size≤gb428):=⟨h5_⟩
   have n6_:Aside0 (gb423≠gb428):=⟨h6_⟩
   have n7_:Aside0 (gb428≠gb423):=⟨h7_⟩
   have n8_:Aside0 (gb424≠gb428):=⟨h8_⟩
   have n9_:Aside0 (gb428≠gb424):=⟨h9_⟩
   have n10_:Aside0 (gb425≠gb428):=⟨h10_⟩
   have n11_:Aside0 (gb428≠gb425):=⟨h11_⟩
   have n12_:Aside0 (Below w.heap.size w w58):=⟨h12_⟩
   clear BK423
   clear BK424
   clear BK425
   clear HB
   clear h0_ h1_ h2_ h3_ h4_ h5_ h6_ h7_ h8_ h9_ h10_ h11_ h12_
   have BK423:=n0_
   have BK424:=n1_
   have BK425:=n2_
   have BK428:=n3_
   have GW428:=n4_
   have GE428:=n5_
   have NB423_428:=n6_
   have NB428_423:=n7_
   have NB424_428:=n8_
   have NB428_424:=n9_
   have NB425_428:=n10_
   have NB428_425:=n11_
   have HB:=n12_
   clear n0_ n1_ n2_ n3_ n4_ n5_ n6_ n7_ n8_ n9_ n10_ n11_ n12_
   have hHeld:w58.cell? ⟨gb424,0,none⟩=some (.int .i64 a1_0)∧w58.cell? ⟨gb424,1,none⟩=some (.int .i64 a1_1)∧w58.cell? ⟨gb424,2,none⟩=some (.int .i64 a1_2):=hS_
   refine norm_ (a':=?_) ?_ ?_
   rotate_left
   ·simp only[putAll,Act.put,List.setIfInBounds_toArray,List.set_cons_zero,List.set_cons_succ]
    rfl
   refine one_ (i:=10) (N:=none) (fl 11 11) rfl rfl (one_of HT_.out (by kernel_rfl)) (by decide) (fun K hK=>?_)
   have hs59:w58.cell? ⟨gb428,0,none⟩=some (.int .i64 0):=(blk_cell BK428.out 0).trans rfl
   have hfs59:=blk_frozen BK428.out 0
   have hns59_0:=NB423_428.out
   have hns59_1:=NB424_428.out
   have hns59_2:=NB425_428.out
   have hms59_0:=NB428_423.out
   have hms59_1:=NB428_424.out
   have hms59_2:=NB428_425.out
   have hs60:w58.cell? ⟨gb428,1,none⟩=some (.int .i64 0):=(blk_cell BK428.out 1).trans rfl
   have hfs60:=blk_frozen BK428.out 1
   have hns60_0:=NB423_428.out
   have hns60_1:=NB424_428.out
   have hns60_2:=NB425_428.out
   have hms60_0:=NB428_423.out
   have hms60_1:=NB428_424.out
   have hms60_2:=NB428_425.out
   have hs61:w58.cell? ⟨gb428,2,none⟩=some (.int .i64 0):=(blk_cell BK428.out 2).trans rfl
   have hfs61:=blk_frozen BK428.out 2
   have hns61_0:=NB423_428.out
   have hns61_1:=NB424_428.out
   have hns61_2:=NB425_428.out
   have hms61_0:=NB428_423.out
   have hms61_1:=NB428_424.out
   have hms61_2:=NB428_425.out
   refine skip_ (w1:=?_) (by rfl) rfl ?_ ?_
   rotate_left
   ·go_simp
    rfl
   refine hK.out _ _ ⟨((cell_far (p:=⟨gb428,_,none⟩) NB424_428.out _).trans (((cell_far (p:=⟨gb428,_,none⟩) NB424_428.out _).trans (((cell_far (p:=⟨gb428,_,none⟩) NB424_428.out _).trans (hHeld.1)))))),((cell_far (p:=⟨gb428,_,none⟩) NB424_428.out _).trans (((cell_far (p:=⟨gb428,_,none⟩) NB424_428.out _).trans (((cell_far (p:=⟨gb428,_,none⟩) NB424_428.out _).trans (hHeld.2.1)))))),((cell_far (p:=⟨gb428,_,none⟩) NB424_428.out _).trans (((cell_far (p:=⟨gb428,_,none⟩) NB424_428.out _).trans (((cell_far (p:=⟨gb428,_,none⟩) NB424_428.out _).trans (hHeld.2.2))))))⟩ (fun hHeld=>?_)
   clear hK K
   refine done_ (done_of HT_.out (by kernel_rfl)) ?_
   have hnb62:=NB428_423.out
   have hnc62:=NB423_428.out
   have hnb63:=NB428_424.out
   have hnc63:=NB424_428.out
   have hnb64:=NB428_425.out
   have hnc64:=NB425_428.out
   have hcz65_0:w58.cell? ⟨gb428,0,none⟩=some (.int .i64 0):=(blk_cell BK428.out 0).trans rfl
   have hcz65_1:w58.cell? ⟨gb428,1,none⟩=some (.int .i64 0):=(blk_cell BK428.out 1).trans rfl
   have hcz65_2:w58.cell? ⟨gb428,2,none⟩=some (.int .i64 0):=(blk_cell BK428.out 2).trans rfl
   have hfz65_0:=blk_frozen BK428.out 0
   have hfz65_1:=blk_frozen BK428.out 1
   have hfz65_2:=blk_frozen BK428.out 2
   try go_wp2_with (first|(go_at_call 64;(with_reducible refine(impl_IsHole.calls t426 (wrap64 (2*a1_1)) (wrap64 ((wrap64 (2*t427)) - 1)) false _ A23.out).mono ?_);rintro e w66 ⟨rfl,hb⟩;replace BK423:=am (blk_below (g:=gb423) (o := .cells #[.slice A0_0 l0_0.length c0_0,.int .i64 a0_1] 32 (0,0)) (by(with_reducible repeat(first|refine bN_ ?_ _|refine bD_ ?_|refine bA_ ?_ _));refine blk_far ?_ NB423_428.out _;(with_reducible repeat(first|refine bN_ ?_ _|refine bD_ ?_|refine bA_ ?_ _));refine blk_far ?_ NB423_428.out _;(with_reducible repeat(first|refine bN_ ?_ _|refine bD_ ?_|refine bA_ ?_ _));refine blk_far ?_ NB423_428.out _;exact bup BK423.out) hb);replace BK424:=am (blk_below (g:=gb424) (o := .cells #[.int .i64 a1_0,.int .i64 a1_1,.int .i64 a1_2] 55 (0,0)) (by(with_reducible repeat(first|refine bN_ ?_ _|refine bD_ ?_|refine bA_ ?_ _));refine blk_far ?_ NB424_428.out _;(with_reducible repeat(first|refine bN_ ?_ _|refine bD_ ?_|refine bA_ ?_ _));refine blk_far ?_ NB424_428.out _;(with_reducible repeat(first|refine bN_ ?_ _|refine bD_ ?_|refine bA_ ?_ _));refine blk_far ?_ NB424_428.out _;exact bup BK424.out) hb);replace BK425:=am (blk_below (g:=gb425) (o := .cells #[.int .i64 0,.int .i64 0,.int .i64 0] 51 (0,0)) (by(with_reducible repeat(first|refine bN_ ?_ _|refine bD_ ?_|refine bA_ ?_ _));refine blk_far ?_ NB425_428.out _;(with_reducible repeat(first|refine bN_ ?_ _|refine bD_ ?_|refine bA_ ?_ _));refine blk_far ?_ NB425_428.out _;(with_reducible repeat(first|refine bN_ ?_ _|refine bD_ ?_|refine bA_ ?_ _));refine blk_far ?_ NB425_428.out _;exact bup BK425.out) hb);replace BK428:=am (blk_below (g:=gb428) (o := .cells #[.int .i64 t426,.int .i64 (wrap64 (2*a1_1)),.int .i64 (wrap64 ((wrap64 (2*t427)) - 1))] 51 (0,0)) (by(with_reducible repeat(first|refine bN_ ?_ _|refine bD_ ?_|refine bA_ ?_ _));refine blk_put (cs := #[.int .i64 t426,.int .i64 (wrap64 (2*a1_1)),.int .i64 0]) ?_ 2 _ rfl;(with_reducible repeat(first|refine bN_ ?_ _|refine bD_ ?_|refine bA_ ?_ _));refine blk_put (cs := #[.int .i64 t426,.int .i64 0,.int .i64 0]) ?_ 1 _ rfl;(with_reducible repeat(first|refine bN_ ?_ _|refine bD_ ?_|refine bA_ ?_ _));refine blk_put (cs := #[.int .i64 0,.int .i64 0,.int .i64 0]) ?_ 0 _ rfl;exact bup BK428.out) hb);replace HB:=am (below_step bl hb);(try clear hb);have hcz67_0:w66.cell? ⟨gb425,0,none⟩=some (.int .i64 0):=(blk_cell BK425.out 0).trans rfl;have hcz67_1:w66.cell? ⟨gb425,1,none⟩=some (.int .i64 0):=(blk_cell BK425.out 1).trans rfl;have hcz67_2:w66.cell? ⟨gb425,2,none⟩=some (.int .i64 0):=(blk_cell BK425.out 2).trans rfl;have hfz67_0:=blk_frozen BK425.out 0;have hfz67_1:=blk_frozen BK425.out 1;have hfz67_2:=blk_frozen BK425.out 2))
   refine bodyPost_ret (results_ct rfl _ _ gb425 51 #[.int .i64 0,.int .i64 0,.int .i64 0] (0,0) _ rfl (by(with_reducible repeat(first|refine bN_ ?_ _|refine bD_ ?_|refine bA_ ?_ _));refine blk_put (cs := #[.int .i64 0,.int .i64 0,.int .i64 0]) ?_ 2 _ rfl;(with_reducible repeat(first|refine bN_ ?_ _|refine bD_ ?_|refine bA_ ?_ _));refine blk_put (cs := #[.int .i64 0,.int .i64 0,.int .i64 0]) ?_ 1 _ rfl;(with_reducible repeat(first|refine bN_ ?_ _|refine bD_ ?_|refine bA_ ?_ _));refine blk_put (cs := #[.int .i64 0,.int .i64 0,.int .i64 0]) ?_ 0 _ rfl;exact bup BK425.out) Try.underlying51 rfl (by kernel_rfl)) rfl ?_
   exact⟨fin1,bl⟩

end Go.Proofs.Ythmpginbaafbhaa.PFnExactRepairToPlay
