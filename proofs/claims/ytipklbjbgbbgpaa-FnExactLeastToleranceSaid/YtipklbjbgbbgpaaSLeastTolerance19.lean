/- The walks of functions that FnExactLeastTolerance reaches: what they return is what the plain functions of the same names say. Laid by a program of this session after the kit's print. No conditions beyond the arguments' being read. -/
import Derived.Test.YtipklbjbgbbgpaaSLeastTolerance0
import Derived.Test.YtipklbjbgbbgpaaSLeastTolerance15
import Derived.Test.YtipklbjbgbbgpaaSLeastTolerance18
namespace Go.Proofs.Ytipklbjbgbbgpaa.PFnExactLeastTolerance
open Go.RowKit Go.Proofs.YtipklbjbgbbgpaaW.PrintWords Go.Proofs.YtipklbjbgbbgpaaW.PrintLast Go.Proofs.YtipklbjbgbbgpaaW.PrintMore
attribute [local go_sem] max2_int min2_int max_two min_two max_three min_three max_four min_four   -- for this text's walks alone
set_option linter.unusedVariables false
set_option linter.unusedSimpArgs false

mutual
def impl_LeastTolerance.j0:Nat→List (S62)→List (S66)→Bool→List Int→Int→Int→Int→Int→Option (Int×Bool)
 | 0,_,_,_,_,_,_,_,_=>none
 | k+1,x1,x2,x20,x439000,x439001,x440000,x440001,x440002=>if x20=true then(some (0,false)) else(impl_LeastTolerance.l0 k x1 x2 0 x439000 x439001 x440000 x440001 x440002)
def impl_LeastTolerance.l0:Nat→List (S62)→List (S66)→Int→List Int→Int→Int→Int→Int→Option (Int×Bool)
 | 0,_,_,_,_,_,_,_,_=>none
 | k+1,x1,x2,x10,x439000,x439001,x440000,x440001,x440002=>if x10≤50 then((impl_faultsOf.f k x439000 x439001 x1 x2 x440000 x440001 x440002 x10).bind fun t442=>(if(t442.length:Int)=0 then(some (x10,true)) else(impl_LeastTolerance.l0 k x1 x2 (wrap64 (x10+1)) x439000 x439001 x440000 x440001 x440002))) else(some (0,false))
end
def impl_LeastTolerance.f (k:Nat) (l0_0:List Int) (a0_1:Int) (l1:List (S62)) (l2:List (S66)) (a3_0:Int) (a3_1:Int) (a3_2:Int):Option (Int×Bool):=(impl_canMatch.f k l0_0 a0_1 l1 l2).bind fun t440=>(if t440=true then((impl_IsAction.f a3_0 a3_1 a3_2).bind fun t441=>(impl_LeastTolerance.j0 k l1 l2 (!t441) l0_0 a0_1 a3_0 a3_1 a3_2)) else(impl_LeastTolerance.j0 k l1 l2 true l0_0 a0_1 a3_0 a3_1 a3_2))
set_option maxHeartbeats 8000000 in
set_option maxRecDepth 100000 in
theorem impl_LeastTolerance.calls (k:Nat) (A0_0:Option Addr) (c0_0:Nat) (l0_0:List Int) (a0_1:Int) (A1:Option Addr) (c1:Nat) (l1:List (S62)) (A2:Option Addr) (c2:Nat) (l2:List (S66)) (a3_0:Int) (a3_1:Int) (a3_2:Int) (r1:Int) (r2:Bool) (w:World) (hr0_0:Kd.C (Kd.int .i64) w A0_0 l0_0.length l0_0) (hc0_0:l0_0.length≤c0_0) (hr1:Kd.C k62 w A1 l1.length l1) (hc1:l1.length≤c1) (hr2:Kd.C k66 w A2 l2.length l2) (hc2:l2.length≤c2) (h:impl_LeastTolerance.f k l0_0 a0_1 l1 l2 a3_0 a3_1 a3_2=some (r1,r2)) :
  Calls Try.prog 19 #[.agg #[.slice A0_0 l0_0.length c0_0,.int .i64 a0_1],.slice A1 l1.length c1,.slice A2 l2.length c2,.agg #[.int .i64 a3_0,.int .i64 a3_1,.int .i64 a3_2]] w fun e w'=>e = .returned (.tuple #[.int .i64 r1,.bool r2])∧Below w.heap.size w w':=by
 have hu34:=Try.underlying34
 have hu40:=Try.underlying40
 have HR0_0:=am hr0_0
 have HC0_0:=am hc0_0
 clear hr0_0 hc0_0
 have HR1:=am hr1
 have HC1:=am hc1
 clear hr1 hc1
 have HR2:=am hr2
 have HC2:=am hc2
 clear hr2 hc2
 have HB:=am (Below.refl w.heap.size w)
 have H:((impl_canMatch.f k l0_0 a0_1 l1 l2).bind fun t440=>(if t440=true then((impl_IsAction.f a3_0 a3_1 a3_2).bind fun t441=>(impl_LeastTolerance.j0 k l1 l2 (!t441) l0_0 a0_1 a3_0 a3_1 a3_2)) else(impl_LeastTolerance.j0 k l1 l2 true l0_0 a0_1 a3_0 a3_1 a3_2)))=some (r1,r2):=h
 clear h
 have HC5:=am H
 clear H
 go_enter Try.func19,Try.ntmps19
 go_upto_region 1 with(first|((with_reducible refine gate_dst (N:=4) rfl ?_);refine box_event ?hg (N:=4) ?hd (cs := #[.slice A0_0 l0_0.length c0_0,.int .i64 a0_1]) (t:=34) ?hr ?_;(case hd=>rfl);(case hg=>rfl);(case hr=>first|(go_simp;done)|(go_simp;rfl));intro gb438 hg w6 hbox hb;have BK438:=am (hbox);have GW438:=am (ge_ bl hg);have GE438:=am (ge_ bl hg);replace HB:=am (below_step bl hb);clear hb hbox hg)|((with_reducible refine gate_dst (N:=7) rfl ?_);refine box_event ?hg (N:=7) ?hd (cs := #[.int .i64 a3_0,.int .i64 a3_1,.int .i64 a3_2]) (t:=40) ?hr ?_;(case hd=>rfl);(case hg=>rfl);(case hr=>first|(go_simp;done)|(go_simp;rfl));intro gb439 hg w7 hbox hb;have BK439:=am (hbox);have GW439:=am (ge_ bl hg);have GE439:=am (ge_ bl hg);replace HB:=am (below_step bl hb);have NB438_439:=am (nl (bup BK438.out) hg);have NB439_438:=am (ng (bup BK438.out) hg);replace BK438:=am (blk_below (bup BK438.out) hb);clear hb hbox hg))
 (try simp only[Act.put,List.setIfInBounds_toArray,List.set_cons_zero,List.set_cons_succ])
 go_cut [20] (fun v20 wc=>∃(kq:Nat) (x20_4:Bool),v20 = .bool x20_4∧Aside0 (impl_LeastTolerance.j0 kq l1 l2 x20_4 l0_0 a0_1 a3_0 a3_1 a3_2=some (r1,r2))∧Aside0 (kq≤k)∧Aside0 (wc.heap[gb438]?=some (.cells #[(.slice A0_0 l0_0.length c0_0),.int .i64 a0_1] 34 (0,0)))∧Aside0 (wc.heap[gb439]?=some (.cells #[.int .i64 a3_0,.int .i64 a3_1,.int .i64 a3_2] 40 (0,0)))∧Aside0 (Below w.heap.size w wc))
 case first =>
  have H:=HC5.out
  clear HC5
  replace H:=Option.bind_eq_some_iff.mp H
  obtain⟨t440,A80,H⟩:=H
  replace H:(if t440=true then((impl_IsAction.f a3_0 a3_1 a3_2).bind fun t441=>(impl_LeastTolerance.j0 k l1 l2 (!t441) l0_0 a0_1 a3_0 a3_1 a3_2)) else(impl_LeastTolerance.j0 k l1 l2 true l0_0 a0_1 a3_0 a3_1 a3_2))=some (r1,r2):=H
  have A8:=am A80
  clear A80
  by_cases c9:t440=true
  ·subst c9
   replace H:=(if_pos rfl).symm.trans H
   replace H:=Option.bind_eq_some_iff.mp H
   obtain⟨t441,A100,H⟩:=H
   replace H:(impl_LeastTolerance.j0 k l1 l2 (!t441) l0_0 a0_1 a3_0 a3_1 a3_2)=some (r1,r2):=H
   have A10:=am A100
   clear A100
   have H':=am H
   clear H
   have hnb11:=NB438_439.out
   have hnc11:=NB439_438.out
   have hcz12_0:=bc BK438.out 0
   have hcz12_1:=bc BK438.out 1
   have hfz12_0:=blk_frozen BK438.out 0
   have hfz12_1:=blk_frozen BK438.out 1
   go_wp2_with (first|((with_reducible refine gate_callee (f:=37) rfl ?_);refine goesL_ (some 14) rfl rfl Try.func37 (by kernel_rfl) rfl #[.agg #[.slice A0_0 l0_0.length c0_0,.int .i64 a0_1],.slice A1 l1.length c1,.slice A2 l2.length c2] rfl tl ?_;(with_reducible refine(impl_canMatch.calls k _ _ l0_0 a0_1 _ _ l1 _ _ l2 true _ ?side1 ?side2 ?side3 ?side4 ?side5 ?side6 A8.out).mono ?_);(case side1=>exact cup (Kd.C_below HR0_0.out HB.out));(case side2=>exact HC0_0.out);(case side3=>exact cup (Kd.C_below HR1.out HB.out));(case side4=>exact HC1.out);(case side5=>exact cup (Kd.C_below HR2.out HB.out));(case side6=>exact HC2.out);rintro e w13 ⟨rfl,hb⟩;refine⟨_,rfl,?_⟩;replace BK438:=am (blk_below (bup BK438.out) hb);replace BK439:=am (blk_below (bup BK439.out) hb);replace HB:=am (below_step bl hb);(try clear hb);have hcz14_0:=bc BK439.out 0;have hcz14_1:=bc BK439.out 1;have hcz14_2:=bc BK439.out 2;have hfz14_0:=blk_frozen BK439.out 0;have hfz14_1:=blk_frozen BK439.out 1;have hfz14_2:=blk_frozen BK439.out 2)|(go_at_call 38;(with_reducible refine(impl_IsAction.calls a3_0 a3_1 a3_2 t441 _ A10.out).mono ?_);rintro e w15 ⟨rfl,hb⟩;replace BK438:=am (blk_below (bup BK438.out) hb);replace BK439:=am (blk_below (bup BK439.out) hb);replace HB:=am (below_step bl hb);(try clear hb)))
   go_meet
   case rel=>exact⟨_,(!t441),fin2,H',⟨by first|omega|exact Nat.le_refl _⟩,⟨bup BK438.out⟩,⟨bup BK439.out⟩,⟨bl⟩⟩
  ·replace c9:=Bool.eq_false_iff.mpr c9
   subst c9
   replace H:=(if_neg Bool.false_ne_true).symm.trans H
   have H':=am H
   clear H
   have hnb16:=NB438_439.out
   have hnc16:=NB439_438.out
   have hcz17_0:=bc BK438.out 0
   have hcz17_1:=bc BK438.out 1
   have hfz17_0:=blk_frozen BK438.out 0
   have hfz17_1:=blk_frozen BK438.out 1
   go_wp2_with (first|((with_reducible refine gate_callee (f:=37) rfl ?_);refine goesL_ (some 14) rfl rfl Try.func37 (by kernel_rfl) rfl #[.agg #[.slice A0_0 l0_0.length c0_0,.int .i64 a0_1],.slice A1 l1.length c1,.slice A2 l2.length c2] rfl tl ?_;(with_reducible refine(impl_canMatch.calls k _ _ l0_0 a0_1 _ _ l1 _ _ l2 false _ ?side1 ?side2 ?side3 ?side4 ?side5 ?side6 A8.out).mono ?_);(case side1=>exact cup (Kd.C_below HR0_0.out HB.out));(case side2=>exact HC0_0.out);(case side3=>exact cup (Kd.C_below HR1.out HB.out));(case side4=>exact HC1.out);(case side5=>exact cup (Kd.C_below HR2.out HB.out));(case side6=>exact HC2.out);rintro e w18 ⟨rfl,hb⟩;refine⟨_,rfl,?_⟩;replace BK438:=am (blk_below (bup BK438.out) hb);replace BK439:=am (blk_below (bup BK439.out) hb);replace HB:=am (below_step bl hb);(try clear hb)))
   go_meet
   case rel=>exact⟨_,(true),fin2,H',⟨by first|omega|exact Nat.le_refl _⟩,⟨bup BK438.out⟩,⟨bup BK439.out⟩,⟨bl⟩⟩
 case rest =>
  clear HC5
  try clear c1
  try clear c2
  try clear p2
  try clear c3
  try clear c9
  try clear c11
  try clear c16
  try clear hcz12_0
  try clear hcz12_1
  try clear hcz14_0
  try clear hcz14_1
  try clear hcz14_2
  try clear hcz17_0
  try clear hcz17_1
  try clear hfz12_0
  try clear hfz12_1
  try clear hfz14_0
  try clear hfz14_1
  try clear hfz14_2
  try clear hfz17_0
  try clear hfz17_1
  obtain⟨kq,x20_4,rfl,HA,HJ4,BK438,BK439,HB⟩:=hcut
  cases kq with
  | zero=>exact absurd HA.out (by simp [impl_LeastTolerance.j0])
  | succ kj4 =>
   have H:=HA.out
   clear HA
   simp only[impl_LeastTolerance.j0] at H
   by_cases c19:x20_4=true
   ·subst c19
    replace H:=(if_pos rfl).symm.trans H
    simp only[Option.some.injEq,Prod.mk.injEq] at H
    obtain⟨rfl,rfl⟩:=H
    go_wp2
    go_ret2
    exact⟨fin1,bl⟩
   ·replace c19:=Bool.eq_false_iff.mpr c19
    subst c19
    replace H:=(if_neg Bool.false_ne_true).symm.trans H
    have H':=am H
    clear H
    go_wp2
    go_loopg [10] kj4 (fun kq v10 w'=>∃(x10_2:Int),v10 = .int .i64 x10_2∧Aside0 (impl_LeastTolerance.l0 kq l1 l2 x10_2 l0_0 a0_1 a3_0 a3_1 a3_2=some (r1,r2))∧Aside0 (kq≤kj4)∧Aside0 (w'.heap[gb438]?=some (.cells #[(.slice A0_0 l0_0.length c0_0),.int .i64 a0_1] 34 (0,0)))∧Aside0 (w'.heap[gb439]?=some (.cells #[.int .i64 a3_0,.int .i64 a3_1,.int .i64 a3_2] 40 (0,0)))∧Aside0 (Below w.heap.size w w'))
    case atStart=>exact⟨(0),fin2,H',⟨Nat.le_refl _⟩,⟨bup BK438.out⟩,⟨bup BK439.out⟩,⟨bl⟩⟩
    case round =>
     clear H'
     try clear c1
     try clear c2
     try clear p2
     try clear c3
     try clear c9
     try clear c11
     try clear c16
     try clear c19
     try clear hcz12_0
     try clear hcz12_1
     try clear hcz14_0
     try clear hcz14_1
     try clear hcz14_2
     try clear hcz17_0
     try clear hcz17_1
     try clear hfz12_0
     try clear hfz12_1
     try clear hfz14_0
     try clear hfz14_1
     try clear hfz14_2
     try clear hfz17_0
     try clear hfz17_1
     try clear p2
     obtain⟨x10_2,rfl,HA,HK2,BK438,BK439,HB⟩:=hrel
     cases gk with
     | zero=>exact absurd HA.out (by simp [impl_LeastTolerance.l0])
     | succ k2 =>
      have H:=HA.out
      clear HA
      simp only[impl_LeastTolerance.l0] at H
      rcases itc H with⟨c20,H⟩|⟨c20,H⟩
      ·have c20b0:=decide_eq_true c20
       clear c20
       replace H:=Option.bind_eq_some_iff.mp H
       obtain⟨t442,A210,H⟩:=H
       replace H:(if(t442.length:Int)=0 then(some (x10_2,true)) else(impl_LeastTolerance.l0 k2 l1 l2 (wrap64 (x10_2+1)) l0_0 a0_1 a3_0 a3_1 a3_2))=some (r1,r2):=H
       have A21:=am A210
       clear A210
       rcases itc H with⟨c22,H⟩|⟨c22,H⟩
       ·have c22b0:((t442.length:Int) == 0)=true:=beq_iff_eq.mpr c22
        have c22b1:((t442.length:Int) != 0)=false:=bne_eq_false_iff_eq.mpr c22
        clear c22
        simp only[Option.some.injEq,Prod.mk.injEq] at H
        obtain⟨rfl,rfl⟩:=H
        have hnb23:=NB438_439.out
        have hnc23:=NB439_438.out
        have hcz24_0:=bc BK438.out 0
        have hcz24_1:=bc BK438.out 1
        have hfz24_0:=blk_frozen BK438.out 0
        have hfz24_1:=blk_frozen BK438.out 1
        have hcz25_0:=bc BK439.out 0
        have hcz25_1:=bc BK439.out 1
        have hcz25_2:=bc BK439.out 2
        have hfz25_0:=blk_frozen BK439.out 0
        have hfz25_1:=blk_frozen BK439.out 1
        have hfz25_2:=blk_frozen BK439.out 2
        go_wp2_with (first|((with_reducible refine gate_callee (f:=39) rfl ?_);refine goesL_ (some 30) rfl rfl Try.func39 (by kernel_rfl) rfl #[.agg #[.slice A0_0 l0_0.length c0_0,.int .i64 a0_1],.slice A1 l1.length c1,.slice A2 l2.length c2,.agg #[.int .i64 a3_0,.int .i64 a3_1,.int .i64 a3_2],.int .i64 x10_2] rfl tl ?_;(with_reducible refine(impl_faultsOf.calls k2 _ _ l0_0 a0_1 _ _ l1 _ _ l2 a3_0 a3_1 a3_2 x10_2 t442 _ ?side1 ?side2 ?side3 ?side4 ?side5 ?side6 A21.out).mono ?_);(case side1=>exact cup (Kd.C_below HR0_0.out HB.out));(case side2=>exact HC0_0.out);(case side3=>exact cup (Kd.C_below HR1.out HB.out));(case side4=>exact HC1.out);(case side5=>exact cup (Kd.C_below HR2.out HB.out));(case side6=>exact HC2.out);rintro e w26 ⟨v443,rfl,ho0,hb⟩;refine⟨_,rfl,?_⟩;have HO444:=am (Kd.S_lower ho0 (below_size bl));replace BK438:=am (blk_below (bup BK438.out) hb);replace BK439:=am (blk_below (bup BK439.out) hb);replace HB:=am (below_step bl hb);(try clear hb);(try clear ho0);obtain⟨Ao27,co27,eo27⟩:=Kd.S_slice HO444.out;subst eo27))
        go_ret2
        exact⟨fin1,bl⟩
       ·have c22b0:((t442.length:Int) == 0)=false:=beq_eq_false_iff_ne.mpr c22
        have c22b1:((t442.length:Int) != 0)=true:=bne_iff_ne.mpr c22
        have c22b2:¬ (t442=[]):=fun h_=>c22 (by rw[h_];rfl)
        have H':=am H
        clear H
        have hnb28:=NB438_439.out
        have hnc28:=NB439_438.out
        have hcz29_0:=bc BK438.out 0
        have hcz29_1:=bc BK438.out 1
        have hfz29_0:=blk_frozen BK438.out 0
        have hfz29_1:=blk_frozen BK438.out 1
        have hcz30_0:=bc BK439.out 0
        have hcz30_1:=bc BK439.out 1
        have hcz30_2:=bc BK439.out 2
        have hfz30_0:=blk_frozen BK439.out 0
        have hfz30_1:=blk_frozen BK439.out 1
        have hfz30_2:=blk_frozen BK439.out 2
        go_wp2_with (first|((with_reducible refine gate_callee (f:=39) rfl ?_);refine goesL_ (some 30) rfl rfl Try.func39 (by kernel_rfl) rfl #[.agg #[.slice A0_0 l0_0.length c0_0,.int .i64 a0_1],.slice A1 l1.length c1,.slice A2 l2.length c2,.agg #[.int .i64 a3_0,.int .i64 a3_1,.int .i64 a3_2],.int .i64 x10_2] rfl tl ?_;(with_reducible refine(impl_faultsOf.calls k2 _ _ l0_0 a0_1 _ _ l1 _ _ l2 a3_0 a3_1 a3_2 x10_2 t442 _ ?side1 ?side2 ?side3 ?side4 ?side5 ?side6 A21.out).mono ?_);(case side1=>exact cup (Kd.C_below HR0_0.out HB.out));(case side2=>exact HC0_0.out);(case side3=>exact cup (Kd.C_below HR1.out HB.out));(case side4=>exact HC1.out);(case side5=>exact cup (Kd.C_below HR2.out HB.out));(case side6=>exact HC2.out);rintro e w31 ⟨v443,rfl,ho0,hb⟩;refine⟨_,rfl,?_⟩;have HO444:=am (Kd.S_lower ho0 (below_size bl));replace BK438:=am (blk_below (bup BK438.out) hb);replace BK439:=am (blk_below (bup BK439.out) hb);replace HB:=am (below_step bl hb);(try clear hb);(try clear ho0);obtain⟨Ao32,co32,eo32⟩:=Kd.S_slice HO444.out;subst eo32))
        go_roundg k2
        case measure=>have:=HJ4.out;have:=HK2.out;omega
        case rel=>exact⟨(wrap64 (x10_2+1)),fin2,H',⟨by have:=HJ4.out;have:=HK2.out;omega⟩,⟨bup BK438.out⟩,⟨bup BK439.out⟩,⟨bl⟩⟩
      ·have c20b0:=decide_eq_false c20
       clear c20
       simp only[Option.some.injEq,Prod.mk.injEq] at H
       obtain⟨rfl,rfl⟩:=H
       go_wp2
       go_ret2
       exact⟨fin1,bl⟩

end Go.Proofs.Ytipklbjbgbbgpaa.PFnExactLeastTolerance
