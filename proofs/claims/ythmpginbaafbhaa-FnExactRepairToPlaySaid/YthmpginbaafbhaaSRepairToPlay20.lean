/- The walks of functions that FnExactRepairToPlay reaches: what they return is what the plain functions of the same names say. Laid by a program of this session after the kit's print. No conditions beyond the arguments' being read. -/
import Derived.Test.YthmpginbaafbhaaSRepairToPlay0
import Derived.Test.YthmpginbaafbhaaSRepairToPlay12
import Derived.Test.YthmpginbaafbhaaSRepairToPlay13
import Derived.Test.YthmpginbaafbhaaSRepairToPlay16
import Derived.Test.YthmpginbaafbhaaSRepairToPlay18
import Derived.Test.YthmpginbaafbhaaSRepairToPlay19
namespace Go.Proofs.Ythmpginbaafbhaa.PFnExactRepairToPlay
open Go.RowKit Go.Proofs.YthmpginbaafbhaaW.PrintWords Go.Proofs.YthmpginbaafbhaaW.PrintLast Go.Proofs.YthmpginbaafbhaaW.PrintMore
attribute [local go_sem] max2_int min2_int max_two min_two max_three min_three max_four min_four   -- for this text's walks alone
set_option linter.unusedVariables false
set_option linter.unusedSimpArgs false

def impl_CutsFor.f (k:Nat) (l0:List (S51)) (l1:List (S51)) (a2:Int) (a3:Int):Option (List (List Int)×Int×Bool):=(impl_canRepair.f k l0 l1 a2 a3).bind fun q=>if q=true then((impl_mustChange.f l1 l0).bind fun xs=>if xs.length≤100000∧l1.all grid.okHB=true then some (grid.jr (grid.openAt l1) true a2 a3 xs,grid.jrCost a2 a3 (grid.jr (grid.openAt l1) true a2 a3 xs),true) else none) else some ([],0,false)
set_option maxHeartbeats 8000000 in
set_option maxRecDepth 100000 in
theorem impl_CutsFor.calls (k:Nat) (A0:Option Addr) (c0:Nat) (l0:List (S51)) (A1:Option Addr) (c1:Nat) (l1:List (S51)) (a2:Int) (a3:Int) (r1:List (List Int)) (r2:Int) (r3:Bool) (w:World) (hr0:Kd.C k51 w A0 l0.length l0) (hc0:l0.length≤c0) (hr1:Kd.C k51 w A1 l1.length l1) (hc1:l1.length≤c1) (h:impl_CutsFor.f k l0 l1 a2 a3=some (r1,r2,r3)) :
  Calls Try.prog 53 #[.slice A0 l0.length c0,.slice A1 l1.length c1,.int .i64 a2,.int .i64 a3] w fun e w'=>∃ v0_:Value,e = .returned (.tuple #[v0_,.int .i64 r2,.bool r3])∧Kd.S (Kd.slice 3 (Kd.int .i64)) 22 w' w.heap.size (fun _=>True) v0_ r1∧Below w.heap.size w w':=by
 unfold impl_CutsFor.f at h
 obtain⟨q,hq,h⟩:=Option.bind_eq_some_iff.1 h
 have HR0:=am hr0
 have HR1:=am hr1
 have HC0:=am hc0
 have HC1:=am hc1
 have HQ:=am hq
 clear hr0 hr1 hc0 hc1 hq
 cases q with
 | false =>
  rw[if_neg (by decide)] at h
  cases h
  go_enter Try.func53,Try.ntmps53
  go_wp2_with (first|(go_at_call 26;(with_reducible refine(impl_canRepair.calls k _ _ l0 _ _ l1 a2 a3 false _ ?s1 ?s2 ?s3 ?s4 HQ.out).mono ?_);(case s1=>exact HR0.out);(case s2=>exact HC0.out);(case s3=>exact HR1.out);(case s4=>exact HC1.out);rintro e w1 ⟨rfl,hb⟩;have HB:=am hb;clear hb))
  go_ret3
  exact⟨_,rfl,Kd.S_nil _ _ _ _ _,HB.out⟩
 | true =>
  rw[if_pos rfl] at h
  obtain⟨xs,hxs,h⟩:=Option.bind_eq_some_iff.1 h
  by_cases hv:xs.length≤100000∧l1.all grid.okHB=true
  ·rw[if_pos hv] at h
   cases h
   have HXS:=am hxs
   have HXL:=am hv.1
   have HV:=am (grid.okHB_all hv.2)
   have HOK:=am (show ∀ x∈xs,grid.okR x from by
    have h2:=hxs
    unfold impl_mustChange.f at h2
    split at h2
    ·cases h2;exact grid.gr_okR _
    ·cases h2)
   clear hxs hv
   go_enter Try.func53,Try.ntmps53
   go_wp2_with (first|(go_at_call 26;(with_reducible refine(impl_canRepair.calls k _ _ l0 _ _ l1 a2 a3 true _ ?s1 ?s2 ?s3 ?s4 HQ.out).mono ?_);(case s1=>exact HR0.out);(case s2=>exact HC0.out);(case s3=>exact HR1.out);(case s4=>exact HC1.out);rintro e w1 ⟨rfl,hb⟩;have HB:=am hb;clear hb)|((with_reducible refine gate_callee (f:=73) rfl ?_);refine goesL_ (some 22) rfl rfl Try.func73 (by kernel_rfl) rfl #[.slice A1 l1.length c1,.slice A0 l0.length c0] rfl (by(try simp only[List.map_toArray,List.map_cons,List.map_nil]);first|done|rfl) ?_;(with_reducible refine(impl_mustChange.calls _ _ l1 _ _ l0 xs _ ?s1 ?s2 ?s3 ?s4 HXS.out).mono ?_);(case s1=>exact Kd.C_below HR1.out HB.out);(case s2=>exact HC1.out);(case s3=>exact Kd.C_below HR0.out HB.out);(case s4=>exact HC0.out);rintro e w2 ⟨v2,rfl,ho,hb⟩;refine⟨_,rfl,?_⟩;have HO:=am (Kd.S_lower ho (below_size HB.out));replace HB:=am (below_step HB.out hb);clear hb ho)|((with_reducible refine gate_callee (f:=74) rfl ?_);refine goesL_ (some 24) rfl rfl Try.func74 (by kernel_rfl) rfl #[.slice A1 l1.length c1] rfl (by(try simp only[List.map_toArray,List.map_cons,List.map_nil]);first|done|rfl) ?_;(with_reducible refine(grid.gridOf.calls _ _ l1 _ ?s1 ?s2 HV.out).mono ?_);(case s1=>exact Kd.C_below HR1.out HB.out);(case s2=>exact HC1.out);rintro e w3 ⟨gb,rfl,hg,hge,hb⟩;refine⟨_,rfl,?_⟩;have HG:=am hg;have HO3:=am (Kd.S_below HO.out hb);replace HB:=am (below_step HB.out hb);clear hb hg hge HO)|((with_reducible refine gate_callee (f:=72) rfl ?_);refine goesL_ (some 27) rfl rfl Try.func72 (by kernel_rfl) rfl #[v2,.pointer (some ⟨gb,0,none⟩),.bool true,.int .i64 a2,.int .i64 a3] rfl (by(try simp only[List.map_toArray,List.map_cons,List.map_nil]);first|done|rfl) ?_;(with_reducible refine(grid.joined.calls gb (grid.openAt l1) true a2 a3 v2 xs w _ ?s1 HG.out HOK.out HXL.out ?s2).mono ?_);(case s1=>exact HO3.out);(case s2=>exact HB.out);rintro e w4 ⟨v4,rfl,ho,hb⟩;refine⟨_,rfl,?_⟩;have HO4:=am ho;have HB4:=am hb;clear ho hb))
   go_ret3
   exact⟨_,rfl,HO4.out,HB4.out⟩
  ·rw[if_neg hv] at h;cases h

def impl_repairCost.f (k:Nat) (l0:List (S51)) (l1:List (S51)) (a2:Int) (a3:Int):Option (Int):=(impl_PatchesFor.f k l0 l1 a2 a3).bind fun bt449=>((impl_CutsFor.f k l0 l1 a2 a3).bind fun bt454=>(some (wrap64 (bt449.2.1+bt454.2.1))))
set_option maxHeartbeats 8000000 in
set_option maxRecDepth 100000 in
theorem impl_repairCost.calls (k:Nat) (A0:Option Addr) (c0:Nat) (l0:List (S51)) (A1:Option Addr) (c1:Nat) (l1:List (S51)) (a2:Int) (a3:Int) (r:Int) (w:World) (hr0:Kd.C k51 w A0 l0.length l0) (hc0:l0.length≤c0) (hr1:Kd.C k51 w A1 l1.length l1) (hc1:l1.length≤c1) (h:impl_repairCost.f k l0 l1 a2 a3=some r) :
  Calls Try.prog 28 #[.slice A0 l0.length c0,.slice A1 l1.length c1,.int .i64 a2,.int .i64 a3] w fun e w'=>e = .returned (.int .i64 r)∧Below w.heap.size w w':=by
 have HR0:=am hr0
 have HC0:=am hc0
 clear hr0 hc0
 have HR1:=am hr1
 have HC1:=am hc1
 clear hr1 hc1
 have HB:=am (Below.refl w.heap.size w)
 have H:((impl_PatchesFor.f k l0 l1 a2 a3).bind fun bt449=>((impl_CutsFor.f k l0 l1 a2 a3).bind fun bt454=>(some (wrap64 (bt449.2.1+bt454.2.1)))))=some r:=h
 clear h
 obtain⟨⟨t449,t450,t451⟩,A5,H⟩:=bnd H;dsimp only at H
 obtain⟨⟨t454,t455,t456⟩,A6,H⟩:=bnd H;dsimp only at H
 obtain rfl:=Option.some.inj H
 go_enter Try.func28,Try.ntmps28
 go_wp2_with (first|((with_reducible refine gate_callee (f:=52) rfl ?_);refine goesL_ (some 20) rfl rfl Try.func52 (by kernel_rfl) rfl #[.slice A0 l0.length c0,.slice A1 l1.length c1,.int .i64 a2,.int .i64 a3] rfl tl ?_;(with_reducible refine(impl_PatchesFor.calls k _ _ l0 _ _ l1 a2 a3 t449 t450 t451 _ ?side1 ?side2 ?side3 ?side4 A5.out).mono ?_);(case side1=>repeat(first|exact HR0.out|(with_reducible refine Kd.C_alloc ?_ _)|(with_reducible refine Kd.C_drewN ?_ _)|(with_reducible refine Kd.C_drew ?_)));(case side2=>exact HC0.out);(case side3=>repeat(first|exact HR1.out|(with_reducible refine Kd.C_alloc ?_ _)|(with_reducible refine Kd.C_drewN ?_ _)|(with_reducible refine Kd.C_drew ?_)));(case side4=>exact HC1.out);rintro e w7 ⟨v452,rfl,ho0,hb⟩;refine⟨_,rfl,?_⟩;have HO453:=am (Kd.S_lower ho0 (below_size bl));replace HB:=am (below_step bl hb);(try clear hb);(try clear ho0))|((with_reducible refine gate_callee (f:=53) rfl ?_);refine goesL_ (some 29) rfl rfl Try.func53 (by kernel_rfl) rfl #[.slice A0 l0.length c0,.slice A1 l1.length c1,.int .i64 a2,.int .i64 a3] rfl tl ?_;(with_reducible refine(impl_CutsFor.calls k _ _ l0 _ _ l1 a2 a3 t454 t455 t456 _ ?side1 ?side2 ?side3 ?side4 A6.out).mono ?_);(case side1=>exact cup (Kd.C_below HR0.out HB.out));(case side2=>exact HC0.out);(case side3=>exact cup (Kd.C_below HR1.out HB.out));(case side4=>exact HC1.out);rintro e w8 ⟨v457,rfl,ho0,hb⟩;refine⟨_,rfl,?_⟩;have HO458:=am (Kd.S_lower (Kd.S_new' ho0 (Kd.S_lt (by(with_reducible repeat(first|apply Kd.S_alloc|apply Kd.S_drewN|apply Kd.S_drew));exact HO453.out))) (below_size bl));replace HO453:=am (Kd.S_elder' (by(with_reducible repeat(first|apply Kd.S_alloc|apply Kd.S_drewN|apply Kd.S_drew));exact HO453.out) (Kd.S_base ho0) hb);replace HB:=am (below_step bl hb);(try clear hb);(try clear ho0)))
 go_ret
 exact⟨fin1,bl⟩

def impl_RepairToPlay.j0:Nat→List (S51)→List (S55)→Int→Int→Bool→List Int→Int→Option (Int×Bool)
 | 0,_,_,_,_,_,_,_=>none
 | k+1,x1,x2,x3,x4,x28,x460000,x460001=>if x28=true then(some (0,false)) else((impl_layOut.f k x460000 x460001 x2).bind fun bt463=>(if bt463.2=true then((impl_repairCost.f k x1 bt463.1 x3 x4).bind fun t467=>(some (t467,true))) else(some (0,false))))
def impl_RepairToPlay.f (k:Nat) (l0_0:List Int) (a0_1:Int) (l1:List (S51)) (l2:List (S55)) (a3:Int) (a4:Int):Option (Int×Bool):=(impl_IsInstrument.f k l0_0 a0_1).bind fun t460=>(if t460=true then((impl_IsScore.f k l2).bind fun t461=>(if t461=true then((impl_canRepair.f k l1 ([]:List (S51)) a3 a4).bind fun t462=>(impl_RepairToPlay.j0 k l1 l2 a3 a4 (!t462) l0_0 a0_1)) else(impl_RepairToPlay.j0 k l1 l2 a3 a4 true l0_0 a0_1))) else(impl_RepairToPlay.j0 k l1 l2 a3 a4 true l0_0 a0_1))
set_option maxHeartbeats 8000000 in
set_option maxRecDepth 100000 in
theorem impl_RepairToPlay.calls (k:Nat) (A0_0:Option Addr) (c0_0:Nat) (l0_0:List Int) (a0_1:Int) (A1:Option Addr) (c1:Nat) (l1:List (S51)) (A2:Option Addr) (c2:Nat) (l2:List (S55)) (a3:Int) (a4:Int) (r1:Int) (r2:Bool) (w:World) (hr0_0:Kd.C (Kd.int .i64) w A0_0 l0_0.length l0_0) (hc0_0:l0_0.length≤c0_0) (hr1:Kd.C k51 w A1 l1.length l1) (hc1:l1.length≤c1) (hr2:Kd.C k55 w A2 l2.length l2) (hc2:l2.length≤c2) (h:impl_RepairToPlay.f k l0_0 a0_1 l1 l2 a3 a4=some (r1,r2)) :
  Calls Try.prog 11 #[.agg #[.slice A0_0 l0_0.length c0_0,.int .i64 a0_1],.slice A1 l1.length c1,.slice A2 l2.length c2,.int .i64 a3,.int .i64 a4] w fun e w'=>e = .returned (.tuple #[.int .i64 r1,.bool r2])∧Below w.heap.size w w':=by
 have hu32:=Try.underlying32
 have HR0_0:=am hr0_0
 have HC0_0:=am hc0_0
 clear hr0_0 hc0_0
 have HR1:=am hr1
 have HC1:=am hc1
 clear hr1 hc1
 have HR2:=am hr2
 have HC2:=am hc2
 clear hr2 hc2
 have HB:=am (Below.refl w.heap.size w)
 have H:((impl_IsInstrument.f k l0_0 a0_1).bind fun t460=>(if t460=true then((impl_IsScore.f k l2).bind fun t461=>(if t461=true then((impl_canRepair.f k l1 ([]:List (S51)) a3 a4).bind fun t462=>(impl_RepairToPlay.j0 k l1 l2 a3 a4 (!t462) l0_0 a0_1)) else(impl_RepairToPlay.j0 k l1 l2 a3 a4 true l0_0 a0_1))) else(impl_RepairToPlay.j0 k l1 l2 a3 a4 true l0_0 a0_1)))=some (r1,r2):=h
 clear h
 have HC6:=am H
 clear H
 go_enter Try.func11,Try.ntmps11
 go_upto_region 1 with(first|((with_reducible refine gate_dst (N:=5) rfl ?_);refine box_event ?hg (N:=5) ?hd (cs := #[.slice A0_0 l0_0.length c0_0,.int .i64 a0_1]) (t:=32) ?hr ?_;(case hd=>rfl);(case hg=>rfl);(case hr=>first|(go_simp;done)|(go_simp;rfl));intro gb459 hg w7 hbox hb;have BK459:=am (hbox);have GW459:=am (ge_ bl hg);have GE459:=am (ge_ bl hg);replace HB:=am (below_step bl hb);clear hb hbox hg))
 (try simp only[Act.put,List.setIfInBounds_toArray,List.set_cons_zero,List.set_cons_succ])
 go_cut [28] (fun v28 wc=>∃(kq:Nat) (x28_5:Bool),v28 = .bool x28_5∧Aside0 (impl_RepairToPlay.j0 kq l1 l2 a3 a4 x28_5 l0_0 a0_1=some (r1,r2))∧Aside0 (kq≤k)∧Aside0 (wc.heap[gb459]?=some (.cells #[(.slice A0_0 l0_0.length c0_0),.int .i64 a0_1] 32 (0,0)))∧Aside0 (Below w.heap.size w wc))
 case first =>
  have H:=HC6.out
  clear HC6
  replace H:=Option.bind_eq_some_iff.mp H
  obtain⟨t460,A80,H⟩:=H
  replace H:(if t460=true then((impl_IsScore.f k l2).bind fun t461=>(if t461=true then((impl_canRepair.f k l1 ([]:List (S51)) a3 a4).bind fun t462=>(impl_RepairToPlay.j0 k l1 l2 a3 a4 (!t462) l0_0 a0_1)) else(impl_RepairToPlay.j0 k l1 l2 a3 a4 true l0_0 a0_1))) else(impl_RepairToPlay.j0 k l1 l2 a3 a4 true l0_0 a0_1))=some (r1,r2):=H
  have A8:=am A80
  clear A80
  by_cases c9:t460=true
  ·subst c9
   replace H:=(if_pos rfl).symm.trans H
   replace H:=Option.bind_eq_some_iff.mp H
   obtain⟨t461,A100,H⟩:=H
   replace H:(if t461=true then((impl_canRepair.f k l1 ([]:List (S51)) a3 a4).bind fun t462=>(impl_RepairToPlay.j0 k l1 l2 a3 a4 (!t462) l0_0 a0_1)) else(impl_RepairToPlay.j0 k l1 l2 a3 a4 true l0_0 a0_1))=some (r1,r2):=H
   have A10:=am A100
   clear A100
   by_cases c11:t461=true
   ·subst c11
    replace H:=(if_pos rfl).symm.trans H
    replace H:=Option.bind_eq_some_iff.mp H
    obtain⟨t462,A120,H⟩:=H
    replace H:(impl_RepairToPlay.j0 k l1 l2 a3 a4 (!t462) l0_0 a0_1)=some (r1,r2):=H
    have A12:=am A120
    clear A120
    have H':=am H
    clear H
    have hcz13_0:w7.cell? ⟨gb459,0,none⟩=some (.slice A0_0 l0_0.length c0_0):=(blk_cell BK459.out 0).trans rfl
    have hcz13_1:w7.cell? ⟨gb459,1,none⟩=some (.int .i64 a0_1):=(blk_cell BK459.out 1).trans rfl
    have hfz13_0:=blk_frozen BK459.out 0
    have hfz13_1:=blk_frozen BK459.out 1
    go_wp2_with (first|((with_reducible refine gate_callee (f:=24) rfl ?_);refine goesL_ (some 15) rfl rfl Try.func24 (by kernel_rfl) rfl #[.agg #[.slice A0_0 l0_0.length c0_0,.int .i64 a0_1]] rfl tl ?_;(with_reducible refine(impl_IsInstrument.calls k _ _ l0_0 a0_1 true _ ?side1 ?side2 A8.out).mono ?_);(case side1=>exact cup (Kd.C_below HR0_0.out HB.out));(case side2=>exact HC0_0.out);rintro e w14 ⟨rfl,hb⟩;refine⟨_,rfl,?_⟩;replace BK459:=am (blk_below (bup BK459.out) hb);replace HB:=am (below_step bl hb);(try clear hb))|(go_at_call 25;(with_reducible refine(impl_IsScore.calls k _ _ l2 true _ ?side1 ?side2 A10.out).mono ?_);(case side1=>exact cup (Kd.C_below HR2.out HB.out));(case side2=>exact HC2.out);rintro e w15 ⟨rfl,hb⟩;replace BK459:=am (blk_below (bup BK459.out) hb);replace HB:=am (below_step bl hb);(try clear hb))|(go_at_call 26;(refine(impl_canRepair.calls k _ _ l1 _ _ ([]:List (S51)) a3 a4 t462 _ ?side1 ?side2 ?side3 ?side4 A12.out).mono ?_);(case side1=>exact cup (Kd.C_below HR1.out HB.out));(case side2=>exact HC1.out);(case side3=>exact Kd.C_nil _ _);(case side4=>exact Nat.le_refl _);rintro e w16 ⟨rfl,hb⟩;replace BK459:=am (blk_below (bup BK459.out) hb);replace HB:=am (below_step bl hb);(try clear hb)))
    go_meet
    case rel=>exact⟨_,(!t462),fin2,H',⟨by first|omega|exact Nat.le_refl _⟩,⟨bup BK459.out⟩,⟨bl⟩⟩
   ·replace c11:=Bool.eq_false_iff.mpr c11
    subst c11
    replace H:=(if_neg Bool.false_ne_true).symm.trans H
    have H':=am H
    clear H
    have hcz17_0:w7.cell? ⟨gb459,0,none⟩=some (.slice A0_0 l0_0.length c0_0):=(blk_cell BK459.out 0).trans rfl
    have hcz17_1:w7.cell? ⟨gb459,1,none⟩=some (.int .i64 a0_1):=(blk_cell BK459.out 1).trans rfl
    have hfz17_0:=blk_frozen BK459.out 0
    have hfz17_1:=blk_frozen BK459.out 1
    go_wp2_with (first|((with_reducible refine gate_callee (f:=24) rfl ?_);refine goesL_ (some 15) rfl rfl Try.func24 (by kernel_rfl) rfl #[.agg #[.slice A0_0 l0_0.length c0_0,.int .i64 a0_1]] rfl tl ?_;(with_reducible refine(impl_IsInstrument.calls k _ _ l0_0 a0_1 true _ ?side1 ?side2 A8.out).mono ?_);(case side1=>exact cup (Kd.C_below HR0_0.out HB.out));(case side2=>exact HC0_0.out);rintro e w18 ⟨rfl,hb⟩;refine⟨_,rfl,?_⟩;replace BK459:=am (blk_below (bup BK459.out) hb);replace HB:=am (below_step bl hb);(try clear hb))|(go_at_call 25;(with_reducible refine(impl_IsScore.calls k _ _ l2 false _ ?side1 ?side2 A10.out).mono ?_);(case side1=>exact cup (Kd.C_below HR2.out HB.out));(case side2=>exact HC2.out);rintro e w19 ⟨rfl,hb⟩;replace BK459:=am (blk_below (bup BK459.out) hb);replace HB:=am (below_step bl hb);(try clear hb)))
    go_meet
    case rel=>exact⟨_,(true),fin2,H',⟨by first|omega|exact Nat.le_refl _⟩,⟨bup BK459.out⟩,⟨bl⟩⟩
  ·replace c9:=Bool.eq_false_iff.mpr c9
   subst c9
   replace H:=(if_neg Bool.false_ne_true).symm.trans H
   have H':=am H
   clear H
   have hcz20_0:w7.cell? ⟨gb459,0,none⟩=some (.slice A0_0 l0_0.length c0_0):=(blk_cell BK459.out 0).trans rfl
   have hcz20_1:w7.cell? ⟨gb459,1,none⟩=some (.int .i64 a0_1):=(blk_cell BK459.out 1).trans rfl
   have hfz20_0:=blk_frozen BK459.out 0
   have hfz20_1:=blk_frozen BK459.out 1
   go_wp2_with (first|((with_reducible refine gate_callee (f:=24) rfl ?_);refine goesL_ (some 15) rfl rfl Try.func24 (by kernel_rfl) rfl #[.agg #[.slice A0_0 l0_0.length c0_0,.int .i64 a0_1]] rfl tl ?_;(with_reducible refine(impl_IsInstrument.calls k _ _ l0_0 a0_1 false _ ?side1 ?side2 A8.out).mono ?_);(case side1=>exact cup (Kd.C_below HR0_0.out HB.out));(case side2=>exact HC0_0.out);rintro e w21 ⟨rfl,hb⟩;refine⟨_,rfl,?_⟩;replace BK459:=am (blk_below (bup BK459.out) hb);replace HB:=am (below_step bl hb);(try clear hb)))
   go_meet
   case rel=>exact⟨_,(true),fin2,H',⟨by first|omega|exact Nat.le_refl _⟩,⟨bup BK459.out⟩,⟨bl⟩⟩
 case rest =>
  clear HC6
  try clear c1
  try clear c2
  try clear p2
  try clear c9
  try clear c11
  try clear hcz13_0
  try clear hcz13_1
  try clear hcz17_0
  try clear hcz17_1
  try clear hcz20_0
  try clear hcz20_1
  try clear hfz13_0
  try clear hfz13_1
  try clear hfz17_0
  try clear hfz17_1
  try clear hfz20_0
  try clear hfz20_1
  obtain⟨kq,x28_5,rfl,HA,HJ5,BK459,HB⟩:=hcut
  cases kq with
  | zero=>exact absurd HA.out (by simp [impl_RepairToPlay.j0])
  | succ kj5 =>
   have H:=HA.out
   clear HA
   simp only[impl_RepairToPlay.j0] at H
   by_cases c22:x28_5=true
   ·subst c22
    replace H:=(if_pos rfl).symm.trans H
    simp only[Option.some.injEq,Prod.mk.injEq] at H
    obtain⟨rfl,rfl⟩:=H
    go_wp2
    go_ret2
    exact⟨fin1,bl⟩
   ·replace c22:=Bool.eq_false_iff.mpr c22
    subst c22
    replace H:=(if_neg Bool.false_ne_true).symm.trans H
    replace H:=Option.bind_eq_some_iff.mp H
    obtain⟨⟨t463,t466⟩,A230,H⟩:=H
    replace H:(if t466=true then((impl_repairCost.f kj5 l1 t463 a3 a4).bind fun t467=>(some (t467,true))) else(some (0,false)))=some (r1,r2):=H
    have A23:=am A230
    clear A230
    by_cases c24:t466=true
    ·subst c24
     replace H:=(if_pos rfl).symm.trans H
     replace H:=Option.bind_eq_some_iff.mp H
     obtain⟨t467,A250,H⟩:=H
     replace H:(some (t467,true))=some (r1,r2):=H
     have A25:=am A250
     clear A250
     simp only[Option.some.injEq,Prod.mk.injEq] at H
     obtain⟨rfl,rfl⟩:=H
     have hcz26_0:wc.cell? ⟨gb459,0,none⟩=some (.slice A0_0 l0_0.length c0_0):=(blk_cell BK459.out 0).trans rfl
     have hcz26_1:wc.cell? ⟨gb459,1,none⟩=some (.int .i64 a0_1):=(blk_cell BK459.out 1).trans rfl
     have hfz26_0:=blk_frozen BK459.out 0
     have hfz26_1:=blk_frozen BK459.out 1
     go_wp2_with (first|((with_reducible refine gate_callee (f:=27) rfl ?_);refine goesL_ (some 32) rfl rfl Try.func27 (by kernel_rfl) rfl #[.agg #[.slice A0_0 l0_0.length c0_0,.int .i64 a0_1],.slice A2 l2.length c2] rfl tl ?_;(with_reducible refine(impl_layOut.calls kj5 _ _ l0_0 a0_1 _ _ l2 t463 true _ ?side1 ?side2 ?side3 ?side4 A23.out).mono ?_);(case side1=>exact cup (Kd.C_below HR0_0.out HB.out));(case side2=>exact HC0_0.out);(case side3=>exact cup (Kd.C_below HR2.out HB.out));(case side4=>exact HC2.out);rintro e w27 ⟨v464,rfl,ho0,hb⟩;refine⟨_,rfl,?_⟩;have HO465:=am (Kd.R_lower ho0 (below_size bl));replace BK459:=am (blk_below (bup BK459.out) hb);replace HB:=am (below_step bl hb);(try clear hb);(try clear ho0);obtain⟨Ao28,co28,eo28⟩:=Kd.R_slice HO465.out;subst eo28)|((with_reducible refine gate_callee (f:=28) rfl ?_);refine goesL_ (some 41) rfl rfl Try.func28 (by kernel_rfl) rfl #[.slice A1 l1.length c1,.slice Ao28 t463.length co28,.int .i64 a3,.int .i64 a4] rfl tl ?_;(with_reducible refine(impl_repairCost.calls kj5 _ _ l1 _ _ t463 a3 a4 t467 _ ?side1 ?side2 ?side3 ?side4 A25.out).mono ?_);(case side1=>exact cup (Kd.C_below HR1.out HB.out));(case side2=>exact HC1.out);(case side3=>repeat(first|exact(Kd.R_reads' HO465.out).2.2|(with_reducible refine Kd.C_alloc ?_ _)|(with_reducible refine Kd.C_drewN ?_ _)|(with_reducible refine Kd.C_drew ?_)));(case side4=>exact(Kd.R_reads' HO465.out).2.1);rintro e w29 ⟨rfl,hb⟩;refine⟨_,rfl,?_⟩;replace HO465:=am (Kd.R_below (rup HO465.out) hb);replace BK459:=am (blk_below (bup BK459.out) hb);replace HB:=am (below_step bl hb);(try clear hb)))
     go_ret2
     exact⟨fin1,bl⟩
    ·replace c24:=Bool.eq_false_iff.mpr c24
     subst c24
     replace H:=(if_neg Bool.false_ne_true).symm.trans H
     simp only[Option.some.injEq,Prod.mk.injEq] at H
     obtain⟨rfl,rfl⟩:=H
     have hcz30_0:wc.cell? ⟨gb459,0,none⟩=some (.slice A0_0 l0_0.length c0_0):=(blk_cell BK459.out 0).trans rfl
     have hcz30_1:wc.cell? ⟨gb459,1,none⟩=some (.int .i64 a0_1):=(blk_cell BK459.out 1).trans rfl
     have hfz30_0:=blk_frozen BK459.out 0
     have hfz30_1:=blk_frozen BK459.out 1
     go_wp2_with (first|((with_reducible refine gate_callee (f:=27) rfl ?_);refine goesL_ (some 32) rfl rfl Try.func27 (by kernel_rfl) rfl #[.agg #[.slice A0_0 l0_0.length c0_0,.int .i64 a0_1],.slice A2 l2.length c2] rfl tl ?_;(with_reducible refine(impl_layOut.calls kj5 _ _ l0_0 a0_1 _ _ l2 t463 false _ ?side1 ?side2 ?side3 ?side4 A23.out).mono ?_);(case side1=>exact cup (Kd.C_below HR0_0.out HB.out));(case side2=>exact HC0_0.out);(case side3=>exact cup (Kd.C_below HR2.out HB.out));(case side4=>exact HC2.out);rintro e w31 ⟨v464,rfl,ho0,hb⟩;refine⟨_,rfl,?_⟩;have HO465:=am (Kd.R_lower ho0 (below_size bl));replace BK459:=am (blk_below (bup BK459.out) hb);replace HB:=am (below_step bl hb);(try clear hb);(try clear ho0)))
     go_ret2
     exact⟨fin1,bl⟩

def laws_eqIntS.l0:Nat→List Int→List Int→Int→Option (Bool)
 | 0,_,_,_=>none
 | k+1,x0,x1,x5=>if x5<(x0.length:Int) then(if 0≤x5 then(if x5<(x1.length:Int) then(if(rd x0 x5)=(rd x1 x5) then(laws_eqIntS.l0 k x0 x1 (wrap64 (x5+1))) else(some false)) else(none)) else(none)) else(some true)
def laws_eqIntS.f (k:Nat) (l0:List Int) (l1:List Int):Option (Bool):=if(l0.length:Int)=(l1.length:Int) then(laws_eqIntS.l0 k l0 l1 0) else(some false)
set_option maxHeartbeats 8000000 in
set_option maxRecDepth 100000 in
theorem laws_eqIntS.calls (k:Nat) (A0:Option Addr) (c0:Nat) (l0:List Int) (A1:Option Addr) (c1:Nat) (l1:List Int) (r:Bool) (w:World) (hr0:Kd.C (Kd.int .i64) w A0 l0.length l0) (hc0:l0.length≤c0) (hr1:Kd.C (Kd.int .i64) w A1 l1.length l1) (hc1:l1.length≤c1) (h:laws_eqIntS.f k l0 l1=some r) :
  Calls Try.prog 29 #[.slice A0 l0.length c0,.slice A1 l1.length c1] w fun e w'=>e = .returned (.bool r)∧Drawn0 w w':=by
 have HR0:=am hr0
 have HC0:=am hc0
 clear hr0 hc0
 have HR1:=am hr1
 have HC1:=am hc1
 clear hr1 hc1
 have H:(if(l0.length:Int)=(l1.length:Int) then(laws_eqIntS.l0 k l0 l1 0) else(some false))=some r:=h
 clear h
 rcases itc H with⟨c3,H⟩|⟨c3,H⟩
 ·have c3b0:((l0.length:Int) == (l1.length:Int))=true:=beq_iff_eq.mpr c3
  have c3b1:((l0.length:Int) != (l1.length:Int))=false:=bne_eq_false_iff_eq.mpr c3
  have c3b2:(l0.length == l1.length)=true:=by first|simpa using c3|(simp at c3 ⊢;omega)
  clear c3
  have H':=am H
  clear H
  go_enter Try.func29,Try.ntmps29
  go_wp2
  repeat(go_quiet (fail);try go_wp2)
  go_loopg [5] k (fun kq v5 w'=>∃(x5_1:Int),v5 = .int .i64 x5_1∧Aside0 (laws_eqIntS.l0 kq l0 l1 x5_1=some r)∧Aside0 (kq≤k)∧Drawn0 w w')
  case atStart=>exact⟨(0),fin2,H',⟨Nat.le_refl _⟩,by repeat(first|exact Drawn0.refl _|apply Drawn0.step)⟩
  case round =>
   clear H'
   try clear c1
   try clear c2
   try clear p2
   try clear c3
   try clear c3b0
   try clear c3b1
   try clear c3b2
   obtain⟨x5_1,rfl,HA,HK1,⟨m1,rfl⟩⟩:=hrel
   cases gk with
   | zero=>exact absurd HA.out (by simp [laws_eqIntS.l0])
   | succ k1 =>
    have H:=HA.out
    clear HA
    simp only[laws_eqIntS.l0] at H
    rcases itc H with⟨c4,H⟩|⟨c4,H⟩
    ·have c4b0:=decide_eq_true c4
     clear c4
     obtain⟨c5b0,H⟩:=ifb H
     obtain⟨c6b0,H⟩:=ifb H
     rcases itc H with⟨c7,H⟩|⟨c7,H⟩
     ·have c7b0:((rd l0 x5_1) == (rd l1 x5_1))=true:=beq_iff_eq.mpr c7
      have c7b1:((rd l0 x5_1) != (rd l1 x5_1))=false:=bne_eq_false_iff_eq.mpr c7
      clear c7
      have H':=am H
      clear H
      have p468:0≤(x5_1:Int):=od
      have q468:x5_1<(l0.length:Int):=od
      obtain⟨ad468,e468,hx468_0⟩:=Kd.at_int HR0.out x5_1 p468 q468
      cases e468
      replace p468:=eq_true p468
      replace q468:=eq_true q468
      have p469:0≤(x5_1:Int):=od
      have q469:x5_1<(l1.length:Int):=od
      obtain⟨ad469,e469,hx469_0⟩:=Kd.at_int HR1.out x5_1 p469 q469
      cases e469
      replace p469:=eq_true p469
      replace q469:=eq_true q469
      go_wp2
      repeat(go_quiet (fail);try go_wp2)
      go_roundg k1
      case measure=>have:=HK1.out;omega
      case rel=>exact⟨(wrap64 (x5_1+1)),fin2,H',⟨by have:=HK1.out;omega⟩,by repeat(first|exact Drawn0.refl _|apply Drawn0.step)⟩
     ·have c7b0:((rd l0 x5_1) == (rd l1 x5_1))=false:=beq_eq_false_iff_ne.mpr c7
      have c7b1:((rd l0 x5_1) != (rd l1 x5_1))=true:=bne_iff_ne.mpr c7
      obtain rfl:=Option.some.inj H
      have p468:0≤(x5_1:Int):=od
      have q468:x5_1<(l0.length:Int):=od
      obtain⟨ad468,e468,hx468_0⟩:=Kd.at_int HR0.out x5_1 p468 q468
      cases e468
      replace p468:=eq_true p468
      replace q468:=eq_true q468
      have p469:0≤(x5_1:Int):=od
      have q469:x5_1<(l1.length:Int):=od
      obtain⟨ad469,e469,hx469_0⟩:=Kd.at_int HR1.out x5_1 p469 q469
      cases e469
      replace p469:=eq_true p469
      replace q469:=eq_true q469
      go_wp2
      repeat(go_quiet (fail);try go_wp2)
      go_ret
      exact⟨by first|rfl|(simp;done)|(simp [*];done),by repeat(first|exact Drawn0.refl _|apply Drawn0.step)⟩
    ·have c4b0:=decide_eq_false c4
     clear c4
     obtain rfl:=Option.some.inj H
     go_wp2
     repeat(go_quiet (fail);try go_wp2)
     go_ret
     exact⟨by first|rfl|(simp;done)|(simp [*];done),by repeat(first|exact Drawn0.refl _|apply Drawn0.step)⟩
 ·have c3b0:((l0.length:Int) == (l1.length:Int))=false:=beq_eq_false_iff_ne.mpr c3
  have c3b1:((l0.length:Int) != (l1.length:Int))=true:=bne_iff_ne.mpr c3
  have c3b2:(l0.length == l1.length)=false:=by first|simpa using c3|(simp at c3 ⊢;omega)
  obtain rfl:=Option.some.inj H
  go_enter Try.func29,Try.ntmps29
  go_wp2
  repeat(go_quiet (fail);try go_wp2)
  go_ret
  exact⟨by first|rfl|(simp;done)|(simp [*];done),by repeat(first|exact Drawn0.refl _|apply Drawn0.step)⟩

def laws_eqInstrument.f (k:Nat) (l0_0:List Int) (a0_1:Int) (l1_0:List Int) (a1_1:Int):Option (Bool):=(laws_eqIntS.f k l0_0 l1_0).bind fun t472=>(if t472=true then(if a0_1=a1_1 then(some true) else(some false)) else(some false))
set_option maxHeartbeats 8000000 in
set_option maxRecDepth 100000 in
theorem laws_eqInstrument.calls (k:Nat) (A0_0:Option Addr) (c0_0:Nat) (l0_0:List Int) (a0_1:Int) (A1_0:Option Addr) (c1_0:Nat) (l1_0:List Int) (a1_1:Int) (r:Bool) (w:World) (hr0_0:Kd.C (Kd.int .i64) w A0_0 l0_0.length l0_0) (hc0_0:l0_0.length≤c0_0) (hr1_0:Kd.C (Kd.int .i64) w A1_0 l1_0.length l1_0) (hc1_0:l1_0.length≤c1_0) (h:laws_eqInstrument.f k l0_0 a0_1 l1_0 a1_1=some r) :
  Calls Try.prog 12 #[.agg #[.slice A0_0 l0_0.length c0_0,.int .i64 a0_1],.agg #[.slice A1_0 l1_0.length c1_0,.int .i64 a1_1]] w fun e w'=>e = .returned (.bool r)∧Below w.heap.size w w':=by
 have hu32:=Try.underlying32
 have HR0_0:=am hr0_0
 have HC0_0:=am hc0_0
 clear hr0_0 hc0_0
 have HR1_0:=am hr1_0
 have HC1_0:=am hc1_0
 clear hr1_0 hc1_0
 have HB:=am (Below.refl w.heap.size w)
 have H:((laws_eqIntS.f k l0_0 l1_0).bind fun t472=>(if t472=true then(if a0_1=a1_1 then(some true) else(some false)) else(some false)))=some r:=h
 clear h
 obtain⟨t472,A3,H⟩:=bnd H
 by_cases c4:t472=true
 ·subst c4
  replace H:=(if_pos rfl).symm.trans H
  rcases itc H with⟨c5,H⟩|⟨c5,H⟩
  ·have c5b0:(a0_1 == a1_1)=true:=beq_iff_eq.mpr c5
   have c5b1:(a0_1 != a1_1)=false:=bne_eq_false_iff_eq.mpr c5
   clear c5
   obtain rfl:=Option.some.inj H
   go_enter Try.func12,Try.ntmps12
   go_wp2_with (first|((with_reducible refine gate_dst (N:=2) rfl ?_);refine box_event ?hg (N:=2) ?hd (cs := #[.slice A0_0 l0_0.length c0_0,.int .i64 a0_1]) (t:=32) ?hr ?_;(case hd=>rfl);(case hg=>rfl);(case hr=>first|(go_simp;done)|(go_simp;rfl));intro gb470 hg w6 hbox hb;have BK470:=am (hbox);have GW470:=am (ge_ bl hg);have GE470:=am (ge_ bl hg);replace HB:=am (below_step bl hb);clear hb hbox hg)|((with_reducible refine gate_dst (N:=3) rfl ?_);refine box_event ?hg (N:=3) ?hd (cs := #[.slice A1_0 l1_0.length c1_0,.int .i64 a1_1]) (t:=32) ?hr ?_;(case hd=>rfl);(case hg=>rfl);(case hr=>first|(go_simp;done)|(go_simp;rfl));intro gb471 hg w7 hbox hb;have BK471:=am (hbox);have GW471:=am (ge_ bl hg);have GE471:=am (ge_ bl hg);replace HB:=am (below_step bl hb);have NB470_471:=am (nl (bup BK470.out) hg);have NB471_470:=am (ng (bup BK470.out) hg);replace BK470:=am (blk_below (bup BK470.out) hb);clear hb hbox hg;have hnb8:=NB470_471.out;have hnc8:=NB471_470.out;have hcz9_0:w7.cell? ⟨gb470,0,none⟩=some (.slice A0_0 l0_0.length c0_0):=(blk_cell BK470.out 0).trans rfl;have hcz9_1:w7.cell? ⟨gb470,1,none⟩=some (.int .i64 a0_1):=(blk_cell BK470.out 1).trans rfl;have hfz9_0:=blk_frozen BK470.out 0;have hfz9_1:=blk_frozen BK470.out 1;have hcz10_0:w7.cell? ⟨gb471,0,none⟩=some (.slice A1_0 l1_0.length c1_0):=(blk_cell BK471.out 0).trans rfl;have hcz10_1:w7.cell? ⟨gb471,1,none⟩=some (.int .i64 a1_1):=(blk_cell BK471.out 1).trans rfl;have hfz10_0:=blk_frozen BK471.out 0;have hfz10_1:=blk_frozen BK471.out 1)|((with_reducible refine gate_callee (f:=29) rfl ?_);refine goesL_ (some 9) rfl rfl Try.func29 (by kernel_rfl) rfl #[.slice A0_0 l0_0.length c0_0,.slice A1_0 l1_0.length c1_0] rfl tl ?_;(with_reducible refine(laws_eqIntS.calls k _ _ l0_0 _ _ l1_0 true _ ?side1 ?side2 ?side3 ?side4 A3.out).mono ?_);(case side1=>exact cup (Kd.C_below HR0_0.out HB.out));(case side2=>exact HC0_0.out);(case side3=>exact cup (Kd.C_below HR1_0.out HB.out));(case side4=>exact HC1_0.out);rintro e w' ⟨rfl,⟨nd,rfl⟩⟩;refine⟨_,rfl,?_⟩))
   go_ret
   exact⟨fin1,bl⟩
  ·have c5b0:(a0_1 == a1_1)=false:=beq_eq_false_iff_ne.mpr c5
   have c5b1:(a0_1 != a1_1)=true:=bne_iff_ne.mpr c5
   obtain rfl:=Option.some.inj H
   go_enter Try.func12,Try.ntmps12
   go_wp2_with (first|((with_reducible refine gate_dst (N:=2) rfl ?_);refine box_event ?hg (N:=2) ?hd (cs := #[.slice A0_0 l0_0.length c0_0,.int .i64 a0_1]) (t:=32) ?hr ?_;(case hd=>rfl);(case hg=>rfl);(case hr=>first|(go_simp;done)|(go_simp;rfl));intro gb470 hg w11 hbox hb;have BK470:=am (hbox);have GW470:=am (ge_ bl hg);have GE470:=am (ge_ bl hg);replace HB:=am (below_step bl hb);clear hb hbox hg)|((with_reducible refine gate_dst (N:=3) rfl ?_);refine box_event ?hg (N:=3) ?hd (cs := #[.slice A1_0 l1_0.length c1_0,.int .i64 a1_1]) (t:=32) ?hr ?_;(case hd=>rfl);(case hg=>rfl);(case hr=>first|(go_simp;done)|(go_simp;rfl));intro gb471 hg w12 hbox hb;have BK471:=am (hbox);have GW471:=am (ge_ bl hg);have GE471:=am (ge_ bl hg);replace HB:=am (below_step bl hb);have NB470_471:=am (nl (bup BK470.out) hg);have NB471_470:=am (ng (bup BK470.out) hg);replace BK470:=am (blk_below (bup BK470.out) hb);clear hb hbox hg;have hnb13:=NB470_471.out;have hnc13:=NB471_470.out;have hcz14_0:w12.cell? ⟨gb470,0,none⟩=some (.slice A0_0 l0_0.length c0_0):=(blk_cell BK470.out 0).trans rfl;have hcz14_1:w12.cell? ⟨gb470,1,none⟩=some (.int .i64 a0_1):=(blk_cell BK470.out 1).trans rfl;have hfz14_0:=blk_frozen BK470.out 0;have hfz14_1:=blk_frozen BK470.out 1;have hcz15_0:w12.cell? ⟨gb471,0,none⟩=some (.slice A1_0 l1_0.length c1_0):=(blk_cell BK471.out 0).trans rfl;have hcz15_1:w12.cell? ⟨gb471,1,none⟩=some (.int .i64 a1_1):=(blk_cell BK471.out 1).trans rfl;have hfz15_0:=blk_frozen BK471.out 0;have hfz15_1:=blk_frozen BK471.out 1)|((with_reducible refine gate_callee (f:=29) rfl ?_);refine goesL_ (some 9) rfl rfl Try.func29 (by kernel_rfl) rfl #[.slice A0_0 l0_0.length c0_0,.slice A1_0 l1_0.length c1_0] rfl tl ?_;(with_reducible refine(laws_eqIntS.calls k _ _ l0_0 _ _ l1_0 true _ ?side1 ?side2 ?side3 ?side4 A3.out).mono ?_);(case side1=>exact cup (Kd.C_below HR0_0.out HB.out));(case side2=>exact HC0_0.out);(case side3=>exact cup (Kd.C_below HR1_0.out HB.out));(case side4=>exact HC1_0.out);rintro e w' ⟨rfl,⟨nd,rfl⟩⟩;refine⟨_,rfl,?_⟩))
   go_ret
   exact⟨fin1,bl⟩
 ·replace c4:=Bool.eq_false_iff.mpr c4
  subst c4
  replace H:=(if_neg Bool.false_ne_true).symm.trans H
  obtain rfl:=Option.some.inj H
  go_enter Try.func12,Try.ntmps12
  go_wp2_with (first|((with_reducible refine gate_dst (N:=2) rfl ?_);refine box_event ?hg (N:=2) ?hd (cs := #[.slice A0_0 l0_0.length c0_0,.int .i64 a0_1]) (t:=32) ?hr ?_;(case hd=>rfl);(case hg=>rfl);(case hr=>first|(go_simp;done)|(go_simp;rfl));intro gb470 hg w16 hbox hb;have BK470:=am (hbox);have GW470:=am (ge_ bl hg);have GE470:=am (ge_ bl hg);replace HB:=am (below_step bl hb);clear hb hbox hg)|((with_reducible refine gate_dst (N:=3) rfl ?_);refine box_event ?hg (N:=3) ?hd (cs := #[.slice A1_0 l1_0.length c1_0,.int .i64 a1_1]) (t:=32) ?hr ?_;(case hd=>rfl);(case hg=>rfl);(case hr=>first|(go_simp;done)|(go_simp;rfl));intro gb471 hg w17 hbox hb;have BK471:=am (hbox);have GW471:=am (ge_ bl hg);have GE471:=am (ge_ bl hg);replace HB:=am (below_step bl hb);have NB470_471:=am (nl (bup BK470.out) hg);have NB471_470:=am (ng (bup BK470.out) hg);replace BK470:=am (blk_below (bup BK470.out) hb);clear hb hbox hg;have hnb18:=NB470_471.out;have hnc18:=NB471_470.out;have hcz19_0:w17.cell? ⟨gb470,0,none⟩=some (.slice A0_0 l0_0.length c0_0):=(blk_cell BK470.out 0).trans rfl;have hcz19_1:w17.cell? ⟨gb470,1,none⟩=some (.int .i64 a0_1):=(blk_cell BK470.out 1).trans rfl;have hfz19_0:=blk_frozen BK470.out 0;have hfz19_1:=blk_frozen BK470.out 1;have hcz20_0:w17.cell? ⟨gb471,0,none⟩=some (.slice A1_0 l1_0.length c1_0):=(blk_cell BK471.out 0).trans rfl;have hcz20_1:w17.cell? ⟨gb471,1,none⟩=some (.int .i64 a1_1):=(blk_cell BK471.out 1).trans rfl;have hfz20_0:=blk_frozen BK471.out 0;have hfz20_1:=blk_frozen BK471.out 1)|((with_reducible refine gate_callee (f:=29) rfl ?_);refine goesL_ (some 9) rfl rfl Try.func29 (by kernel_rfl) rfl #[.slice A0_0 l0_0.length c0_0,.slice A1_0 l1_0.length c1_0] rfl tl ?_;(with_reducible refine(laws_eqIntS.calls k _ _ l0_0 _ _ l1_0 false _ ?side1 ?side2 ?side3 ?side4 A3.out).mono ?_);(case side1=>exact cup (Kd.C_below HR0_0.out HB.out));(case side2=>exact HC0_0.out);(case side3=>exact cup (Kd.C_below HR1_0.out HB.out));(case side4=>exact HC1_0.out);rintro e w' ⟨rfl,⟨nd,rfl⟩⟩;refine⟨_,rfl,?_⟩))
  go_ret
  exact⟨fin1,bl⟩

def laws_eqHole.f (a0_0:Int) (a0_1:Int) (a0_2:Int) (a1_0:Int) (a1_1:Int) (a1_2:Int):Option (Bool):=if a0_0=a1_0 then(if a0_1=a1_1 then(if a0_2=a1_2 then(some true) else(some false)) else(some false)) else(some false)
set_option maxHeartbeats 8000000 in
set_option maxRecDepth 100000 in
theorem laws_eqHole.calls (a0_0:Int) (a0_1:Int) (a0_2:Int) (a1_0:Int) (a1_1:Int) (a1_2:Int) (r:Bool) (w:World) (h:laws_eqHole.f a0_0 a0_1 a0_2 a1_0 a1_1 a1_2=some r) :
  Calls Try.prog 30 #[.agg #[.int .i64 a0_0,.int .i64 a0_1,.int .i64 a0_2],.agg #[.int .i64 a1_0,.int .i64 a1_1,.int .i64 a1_2]] w fun e w'=>e = .returned (.bool r)∧Below w.heap.size w w':=by
 have hu51:=Try.underlying51
 have HB:=am (Below.refl w.heap.size w)
 have H:(if a0_0=a1_0 then(if a0_1=a1_1 then(if a0_2=a1_2 then(some true) else(some false)) else(some false)) else(some false))=some r:=h
 clear h
 rcases itc H with⟨c3,H⟩|⟨c3,H⟩
 ·have c3b0:(a0_0 == a1_0)=true:=beq_iff_eq.mpr c3
  have c3b1:(a0_0 != a1_0)=false:=bne_eq_false_iff_eq.mpr c3
  clear c3
  rcases itc H with⟨c4,H⟩|⟨c4,H⟩
  ·have c4b0:(a0_1 == a1_1)=true:=beq_iff_eq.mpr c4
   have c4b1:(a0_1 != a1_1)=false:=bne_eq_false_iff_eq.mpr c4
   clear c4
   rcases itc H with⟨c5,H⟩|⟨c5,H⟩
   ·have c5b0:(a0_2 == a1_2)=true:=beq_iff_eq.mpr c5
    have c5b1:(a0_2 != a1_2)=false:=bne_eq_false_iff_eq.mpr c5
    clear c5
    obtain rfl:=Option.some.inj H
    go_enter Try.func30,Try.ntmps30
    go_wp2_with (first|((with_reducible refine gate_dst (N:=2) rfl ?_);refine box_event ?hg (N:=2) ?hd (cs := #[.int .i64 a0_0,.int .i64 a0_1,.int .i64 a0_2]) (t:=51) ?hr ?_;(case hd=>rfl);(case hg=>rfl);(case hr=>first|(go_simp;done)|(go_simp;rfl));intro gb473 hg w6 hbox hb;have BK473:=am (hbox);have GW473:=am (ge_ bl hg);have GE473:=am (ge_ bl hg);replace HB:=am (below_step bl hb);clear hb hbox hg)|((with_reducible refine gate_dst (N:=3) rfl ?_);refine box_event ?hg (N:=3) ?hd (cs := #[.int .i64 a1_0,.int .i64 a1_1,.int .i64 a1_2]) (t:=51) ?hr ?_;(case hd=>rfl);(case hg=>rfl);(case hr=>first|(go_simp;done)|(go_simp;rfl));intro gb474 hg w7 hbox hb;have BK474:=am (hbox);have GW474:=am (ge_ bl hg);have GE474:=am (ge_ bl hg);replace HB:=am (below_step bl hb);have NB473_474:=am (nl (bup BK473.out) hg);have NB474_473:=am (ng (bup BK473.out) hg);replace BK473:=am (blk_below (bup BK473.out) hb);clear hb hbox hg;have hnb8:=NB473_474.out;have hnc8:=NB474_473.out;have hcz9_0:w7.cell? ⟨gb473,0,none⟩=some (.int .i64 a0_0):=(blk_cell BK473.out 0).trans rfl;have hcz9_1:w7.cell? ⟨gb473,1,none⟩=some (.int .i64 a0_1):=(blk_cell BK473.out 1).trans rfl;have hcz9_2:w7.cell? ⟨gb473,2,none⟩=some (.int .i64 a0_2):=(blk_cell BK473.out 2).trans rfl;have hfz9_0:=blk_frozen BK473.out 0;have hfz9_1:=blk_frozen BK473.out 1;have hfz9_2:=blk_frozen BK473.out 2;have hcz10_0:w7.cell? ⟨gb474,0,none⟩=some (.int .i64 a1_0):=(blk_cell BK474.out 0).trans rfl;have hcz10_1:w7.cell? ⟨gb474,1,none⟩=some (.int .i64 a1_1):=(blk_cell BK474.out 1).trans rfl;have hcz10_2:w7.cell? ⟨gb474,2,none⟩=some (.int .i64 a1_2):=(blk_cell BK474.out 2).trans rfl;have hfz10_0:=blk_frozen BK474.out 0;have hfz10_1:=blk_frozen BK474.out 1;have hfz10_2:=blk_frozen BK474.out 2))
    go_ret
    exact⟨fin1,bl⟩
   ·have c5b0:(a0_2 == a1_2)=false:=beq_eq_false_iff_ne.mpr c5
    have c5b1:(a0_2 != a1_2)=true:=bne_iff_ne.mpr c5
    obtain rfl:=Option.some.inj H
    go_enter Try.func30,Try.ntmps30
    go_wp2_with (first|((with_reducible refine gate_dst (N:=2) rfl ?_);refine box_event ?hg (N:=2) ?hd (cs := #[.int .i64 a0_0,.int .i64 a0_1,.int .i64 a0_2]) (t:=51) ?hr ?_;(case hd=>rfl);(case hg=>rfl);(case hr=>first|(go_simp;done)|(go_simp;rfl));intro gb473 hg w11 hbox hb;have BK473:=am (hbox);have GW473:=am (ge_ bl hg);have GE473:=am (ge_ bl hg);replace HB:=am (below_step bl hb);clear hb hbox hg)|((with_reducible refine gate_dst (N:=3) rfl ?_);refine box_event ?hg (N:=3) ?hd (cs := #[.int .i64 a1_0,.int .i64 a1_1,.int .i64 a1_2]) (t:=51) ?hr ?_;(case hd=>rfl);(case hg=>rfl);(case hr=>first|(go_simp;done)|(go_simp;rfl));intro gb474 hg w12 hbox hb;have BK474:=am (hbox);have GW474:=am (ge_ bl hg);have GE474:=am (ge_ bl hg);replace HB:=am (below_step bl hb);have NB473_474:=am (nl (bup BK473.out) hg);have NB474_473:=am (ng (bup BK473.out) hg);replace BK473:=am (blk_below (bup BK473.out) hb);clear hb hbox hg;have hnb13:=NB473_474.out;have hnc13:=NB474_473.out;have hcz14_0:w12.cell? ⟨gb473,0,none⟩=some (.int .i64 a0_0):=(blk_cell BK473.out 0).trans rfl;have hcz14_1:w12.cell? ⟨gb473,1,none⟩=some (.int .i64 a0_1):=(blk_cell BK473.out 1).trans rfl;have hcz14_2:w12.cell? ⟨gb473,2,none⟩=some (.int .i64 a0_2):=(blk_cell BK473.out 2).trans rfl;have hfz14_0:=blk_frozen BK473.out 0;have hfz14_1:=blk_frozen BK473.out 1;have hfz14_2:=blk_frozen BK473.out 2;have hcz15_0:w12.cell? ⟨gb474,0,none⟩=some (.int .i64 a1_0):=(blk_cell BK474.out 0).trans rfl;have hcz15_1:w12.cell? ⟨gb474,1,none⟩=some (.int .i64 a1_1):=(blk_cell BK474.out 1).trans rfl;have hcz15_2:w12.cell? ⟨gb474,2,none⟩=some (.int .i64 a1_2):=(blk_cell BK474.out 2).trans rfl;have hfz15_0:=blk_frozen BK474.out 0;have hfz15_1:=blk_frozen BK474.out 1;have hfz15_2:=blk_frozen BK474.out 2))
    go_ret
    exact⟨fin1,bl⟩
  ·have c4b0:(a0_1 == a1_1)=false:=beq_eq_false_iff_ne.mpr c4
   have c4b1:(a0_1 != a1_1)=true:=bne_iff_ne.mpr c4
   obtain rfl:=Option.some.inj H
   go_enter Try.func30,Try.ntmps30
   go_wp2_with (first|((with_reducible refine gate_dst (N:=2) rfl ?_);refine box_event ?hg (N:=2) ?hd (cs := #[.int .i64 a0_0,.int .i64 a0_1,.int .i64 a0_2]) (t:=51) ?hr ?_;(case hd=>rfl);(case hg=>rfl);(case hr=>first|(go_simp;done)|(go_simp;rfl));intro gb473 hg w16 hbox hb;have BK473:=am (hbox);have GW473:=am (ge_ bl hg);have GE473:=am (ge_ bl hg);replace HB:=am (below_step bl hb);clear hb hbox hg)|((with_reducible refine gate_dst (N:=3) rfl ?_);refine box_event ?hg (N:=3) ?hd (cs := #[.int .i64 a1_0,.int .i64 a1_1,.int .i64 a1_2]) (t:=51) ?hr ?_;(case hd=>rfl);(case hg=>rfl);(case hr=>first|(go_simp;done)|(go_simp;rfl));intro gb474 hg w17 hbox hb;have BK474:=am (hbox);have GW474:=am (ge_ bl hg);have GE474:=am (ge_ bl hg);replace HB:=am (below_step bl hb);have NB473_474:=am (nl (bup BK473.out) hg);have NB474_473:=am (ng (bup BK473.out) hg);replace BK473:=am (blk_below (bup BK473.out) hb);clear hb hbox hg;have hnb18:=NB473_474.out;have hnc18:=NB474_473.out;have hcz19_0:w17.cell? ⟨gb473,0,none⟩=some (.int .i64 a0_0):=(blk_cell BK473.out 0).trans rfl;have hcz19_1:w17.cell? ⟨gb473,1,none⟩=some (.int .i64 a0_1):=(blk_cell BK473.out 1).trans rfl;have hcz19_2:w17.cell? ⟨gb473,2,none⟩=some (.int .i64 a0_2):=(blk_cell BK473.out 2).trans rfl;have hfz19_0:=blk_frozen BK473.out 0;have hfz19_1:=blk_frozen BK473.out 1;have hfz19_2:=blk_frozen BK473.out 2;have hcz20_0:w17.cell? ⟨gb474,0,none⟩=some (.int .i64 a1_0):=(blk_cell BK474.out 0).trans rfl;have hcz20_1:w17.cell? ⟨gb474,1,none⟩=some (.int .i64 a1_1):=(blk_cell BK474.out 1).trans rfl;have hcz20_2:w17.cell? ⟨gb474,2,none⟩=some (.int .i64 a1_2):=(blk_cell BK474.out 2).trans rfl;have hfz20_0:=blk_frozen BK474.out 0;have hfz20_1:=blk_frozen BK474.out 1;have hfz20_2:=blk_frozen BK474.out 2))
   go_ret
   exact⟨fin1,bl⟩
 ·have c3b0:(a0_0 == a1_0)=false:=beq_eq_false_iff_ne.mpr c3
  have c3b1:(a0_0 != a1_0)=true:=bne_iff_ne.mpr c3
  obtain rfl:=Option.some.inj H
  go_enter Try.func30,Try.ntmps30
  go_wp2_with (first|((with_reducible refine gate_dst (N:=2) rfl ?_);refine box_event ?hg (N:=2) ?hd (cs := #[.int .i64 a0_0,.int .i64 a0_1,.int .i64 a0_2]) (t:=51) ?hr ?_;(case hd=>rfl);(case hg=>rfl);(case hr=>first|(go_simp;done)|(go_simp;rfl));intro gb473 hg w21 hbox hb;have BK473:=am (hbox);have GW473:=am (ge_ bl hg);have GE473:=am (ge_ bl hg);replace HB:=am (below_step bl hb);clear hb hbox hg)|((with_reducible refine gate_dst (N:=3) rfl ?_);refine box_event ?hg (N:=3) ?hd (cs := #[.int .i64 a1_0,.int .i64 a1_1,.int .i64 a1_2]) (t:=51) ?hr ?_;(case hd=>rfl);(case hg=>rfl);(case hr=>first|(go_simp;done)|(go_simp;rfl));intro gb474 hg w22 hbox hb;have BK474:=am (hbox);have GW474:=am (ge_ bl hg);have GE474:=am (ge_ bl hg);replace HB:=am (below_step bl hb);have NB473_474:=am (nl (bup BK473.out) hg);have NB474_473:=am (ng (bup BK473.out) hg);replace BK473:=am (blk_below (bup BK473.out) hb);clear hb hbox hg;have hnb23:=NB473_474.out;have hnc23:=NB474_473.out;have hcz24_0:w22.cell? ⟨gb473,0,none⟩=some (.int .i64 a0_0):=(blk_cell BK473.out 0).trans rfl;have hcz24_1:w22.cell? ⟨gb473,1,none⟩=some (.int .i64 a0_1):=(blk_cell BK473.out 1).trans rfl;have hcz24_2:w22.cell? ⟨gb473,2,none⟩=some (.int .i64 a0_2):=(blk_cell BK473.out 2).trans rfl;have hfz24_0:=blk_frozen BK473.out 0;have hfz24_1:=blk_frozen BK473.out 1;have hfz24_2:=blk_frozen BK473.out 2;have hcz25_0:w22.cell? ⟨gb474,0,none⟩=some (.int .i64 a1_0):=(blk_cell BK474.out 0).trans rfl;have hcz25_1:w22.cell? ⟨gb474,1,none⟩=some (.int .i64 a1_1):=(blk_cell BK474.out 1).trans rfl;have hcz25_2:w22.cell? ⟨gb474,2,none⟩=some (.int .i64 a1_2):=(blk_cell BK474.out 2).trans rfl;have hfz25_0:=blk_frozen BK474.out 0;have hfz25_1:=blk_frozen BK474.out 1;have hfz25_2:=blk_frozen BK474.out 2))
  go_ret
  exact⟨fin1,bl⟩

end Go.Proofs.Ythmpginbaafbhaa.PFnExactRepairToPlay
