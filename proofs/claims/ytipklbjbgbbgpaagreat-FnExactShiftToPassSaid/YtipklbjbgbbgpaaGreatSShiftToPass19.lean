/- Walks of functions that FnExactShiftToPass reaches. No conditions beyond the arguments' being read. -/
import Derived.Test.YtipklbjbgbbgpaaGreatSShiftToPass0
import Derived.Test.YtipklbjbgbbgpaaGreatSShiftToPass14
import Derived.Test.YtipklbjbgbbgpaaGreatSShiftToPass18
namespace Go.Proofs.YtipklbjbgbbgpaaGreat.PFnExactShiftToPass
open Go.RowKit Go.Proofs.YtipklbjbgbbgpaaGreatW.PrintWords Go.Proofs.YtipklbjbgbbgpaaGreatW.PrintLast Go.Proofs.YtipklbjbgbbgpaaGreatW.PrintMore
attribute [local go_sem] max2_int min2_int max_two min_two max_three min_three max_four min_four
set_option linter.unusedVariables false
set_option linter.unusedSimpArgs false

mutual
def impl_ShiftToPass.j0:Nat→List (S55)→List (S59)→Int→Bool→List Int→Int→Int→Int→Int→Option (Int×Bool)
 | 0,_,_,_,_,_,_,_,_,_=>none
 | k+1,x1,x2,x4,x31,x460000,x460001,x461000,x461001,x461002=>if x31=true then(some (0,false)) else(impl_ShiftToPass.l0 k x1 x2 x4 0 x460000 x460001 x461000 x461001 x461002)
def impl_ShiftToPass.l0:Nat→List (S55)→List (S59)→Int→Int→List Int→Int→Int→Int→Int→Option (Int×Bool)
 | 0,_,_,_,_,_,_,_,_,_=>none
 | k+1,x1,x2,x4,x12,x460000,x460001,x461000,x461001,x461002=>if x12≤100 then((some (([wrap64 (-x12),x12]:List Int):List Int)).bind fun y464=>(impl_ShiftToPass.l1 k x1 x2 x4 x12 y464 (y464.length:Int) 0 x460000 x460001 x461000 x461001 x461002)) else(some (0,false))
def impl_ShiftToPass.l1:Nat→List (S55)→List (S59)→Int→Int→List Int→Int→Int→List Int→Int→Int→Int→Int→Option (Int×Bool)
 | 0,_,_,_,_,_,_,_,_,_,_,_,_=>none
 | k+1,x1,x2,x4,x12,x39,x40,x41,x460000,x460001,x461000,x461001,x461002=>if x41<x40 then(if 0≤x41 then(if x41<(x39.length:Int) then((impl_moveSheet.f k x2 (rd x39 x41)).bind fun bt468=>(if bt468.2=true then((impl_faultsOf.f k x460000 x460001 x1 bt468.1 x461000 x461001 x461002 x4).bind fun t472=>(if(t472.length:Int)=0 then(some (rd x39 x41,true)) else(impl_ShiftToPass.l1 k x1 x2 x4 x12 x39 x40 (wrap64 (x41+1)) x460000 x460001 x461000 x461001 x461002))) else(impl_ShiftToPass.l1 k x1 x2 x4 x12 x39 x40 (wrap64 (x41+1)) x460000 x460001 x461000 x461001 x461002))) else(none)) else(none)) else(impl_ShiftToPass.l0 k x1 x2 x4 (wrap64 (x12+1)) x460000 x460001 x461000 x461001 x461002)
end
def impl_ShiftToPass.f (k:Nat) (l0_0:List Int) (a0_1:Int) (l1:List (S55)) (l2:List (S59)) (a3_0:Int) (a3_1:Int) (a3_2:Int) (a4:Int):Option (Int×Bool):=(impl_canMatch.f k l0_0 a0_1 l1 l2).bind fun t461=>(if t461=true then((impl_IsAction.f a3_0 a3_1 a3_2).bind fun t462=>(if t462=true then((impl_isTolerance.f a4).bind fun t463=>(impl_ShiftToPass.j0 k l1 l2 a4 (!t463) l0_0 a0_1 a3_0 a3_1 a3_2)) else(impl_ShiftToPass.j0 k l1 l2 a4 true l0_0 a0_1 a3_0 a3_1 a3_2))) else(impl_ShiftToPass.j0 k l1 l2 a4 true l0_0 a0_1 a3_0 a3_1 a3_2))
set_option maxHeartbeats 8000000 in
set_option maxRecDepth 100000 in
theorem impl_ShiftToPass.calls (k:Nat) (A0_0:Option Addr) (c0_0:Nat) (l0_0:List Int) (a0_1:Int) (A1:Option Addr) (c1:Nat) (l1:List (S55)) (A2:Option Addr) (c2:Nat) (l2:List (S59)) (a3_0:Int) (a3_1:Int) (a3_2:Int) (a4:Int) (r1:Int) (r2:Bool) (w:World) (hr0_0:Kd.C (Kd.int .i64) w A0_0 l0_0.length l0_0) (hc0_0:l0_0.length≤c0_0) (hr1:Kd.C k55 w A1 l1.length l1) (hc1:l1.length≤c1) (hr2:Kd.C k59 w A2 l2.length l2) (hc2:l2.length≤c2) (h:impl_ShiftToPass.f k l0_0 a0_1 l1 l2 a3_0 a3_1 a3_2 a4=some (r1,r2)) :
  Calls Tryz.prog 12 #[.agg #[.slice A0_0 l0_0.length c0_0,.int .i64 a0_1],.slice A1 l1.length c1,.slice A2 l2.length c2,.agg #[.int .i64 a3_0,.int .i64 a3_1,.int .i64 a3_2],.int .i64 a4] w fun e w'=>e = .returned (.tuple #[.int .i64 r1,.bool r2])∧Below w.heap.size w w':=by
 have hu34:=Tryz.underlying34
 have hu40:=Tryz.underlying40
 have HR0_0:=am hr0_0
 have HC0_0:=am hc0_0
 clear hr0_0 hc0_0
 have HR1:=am hr1
 have HC1:=am hc1
 clear hr1 hc1
 have HR2:=am hr2
 have HC2:=am hc2
 clear hr2 hc2
 have HB:=am (Below.refl w.heap.size w)
 have H:((impl_canMatch.f k l0_0 a0_1 l1 l2).bind fun t461=>(if t461=true then((impl_IsAction.f a3_0 a3_1 a3_2).bind fun t462=>(if t462=true then((impl_isTolerance.f a4).bind fun t463=>(impl_ShiftToPass.j0 k l1 l2 a4 (!t463) l0_0 a0_1 a3_0 a3_1 a3_2)) else(impl_ShiftToPass.j0 k l1 l2 a4 true l0_0 a0_1 a3_0 a3_1 a3_2))) else(impl_ShiftToPass.j0 k l1 l2 a4 true l0_0 a0_1 a3_0 a3_1 a3_2)))=some (r1,r2):=h
 clear h
 have HC6:=am H
 clear H
 go_enter Tryz.func12,Tryz.ntmps12
 go_upto_region 1 with(first|((with_reducible refine gate_dst (N:=5) rfl ?_);(try(refine gate_guard (by rfl) ?_;dsimp only));refine box_event ?hg (N:=5) ?hd (cs := #[.slice A0_0 l0_0.length c0_0,.int .i64 a0_1]) (t:=34) ?hr ?_;(case hd=>rfl);(case hg=>rfl);(case hr=>first|(go_simp;done)|(go_simp;rfl));intro gb459 hg w7 hbox hb;have BK459:=am (hbox);have GW459:=am (ge_ bl hg);have GE459:=am (ge_ bl hg);replace HB:=am (below_step bl hb);clear hb hbox hg)|((with_reducible refine gate_dst (N:=8) rfl ?_);(try(refine gate_guard (by rfl) ?_;dsimp only));refine box_event ?hg (N:=8) ?hd (cs := #[.int .i64 a3_0,.int .i64 a3_1,.int .i64 a3_2]) (t:=40) ?hr ?_;(case hd=>rfl);(case hg=>rfl);(case hr=>first|(go_simp;done)|(go_simp;rfl));intro gb460 hg w8 hbox hb;have BK460:=am (hbox);have GW460:=am (ge_ bl hg);have GE460:=am (ge_ bl hg);replace HB:=am (below_step bl hb);have NB459_460:=am (nl (bup BK459.out) hg);have NB460_459:=am (ng (bup BK459.out) hg);replace BK459:=am (blk_below (bup BK459.out) hb);clear hb hbox hg))
 (try simp only[Act.put,List.setIfInBounds_toArray,List.set_cons_zero,List.set_cons_succ])
 go_cut [31] (fun v31 wc=>∃(kq:Nat) (x31_5:Bool),v31 = .bool x31_5∧Aside0 (impl_ShiftToPass.j0 kq l1 l2 a4 x31_5 l0_0 a0_1 a3_0 a3_1 a3_2=some (r1,r2))∧Aside0 (kq≤k)∧Aside0 (wc.heap[gb459]?=some (.cells #[(.slice A0_0 l0_0.length c0_0),.int .i64 a0_1] 34 (0,0)))∧Aside0 (wc.heap[gb460]?=some (.cells #[.int .i64 a3_0,.int .i64 a3_1,.int .i64 a3_2] 40 (0,0)))∧Aside0 (Below w.heap.size w wc))
 case first =>
  have H:=HC6.out
  clear HC6
  replace H:=Option.bind_eq_some_iff.mp H
  obtain⟨t461,A90,H⟩:=H
  replace H:(if t461=true then((impl_IsAction.f a3_0 a3_1 a3_2).bind fun t462=>(if t462=true then((impl_isTolerance.f a4).bind fun t463=>(impl_ShiftToPass.j0 k l1 l2 a4 (!t463) l0_0 a0_1 a3_0 a3_1 a3_2)) else(impl_ShiftToPass.j0 k l1 l2 a4 true l0_0 a0_1 a3_0 a3_1 a3_2))) else(impl_ShiftToPass.j0 k l1 l2 a4 true l0_0 a0_1 a3_0 a3_1 a3_2))=some (r1,r2):=H
  have A9:=am A90
  clear A90
  by_cases c10:t461=true
  ·subst c10
   replace H:=(if_pos rfl).symm.trans H
   replace H:=Option.bind_eq_some_iff.mp H
   obtain⟨t462,A110,H⟩:=H
   replace H:(if t462=true then((impl_isTolerance.f a4).bind fun t463=>(impl_ShiftToPass.j0 k l1 l2 a4 (!t463) l0_0 a0_1 a3_0 a3_1 a3_2)) else(impl_ShiftToPass.j0 k l1 l2 a4 true l0_0 a0_1 a3_0 a3_1 a3_2))=some (r1,r2):=H
   have A11:=am A110
   clear A110
   by_cases c12:t462=true
   ·subst c12
    replace H:=(if_pos rfl).symm.trans H
    replace H:=Option.bind_eq_some_iff.mp H
    obtain⟨t463,A130,H⟩:=H
    replace H:(impl_ShiftToPass.j0 k l1 l2 a4 (!t463) l0_0 a0_1 a3_0 a3_1 a3_2)=some (r1,r2):=H
    have A13:=am A130
    clear A130
    have H':=am H
    clear H
    have hnb14:=NB459_460.out
    have hnc14:=NB460_459.out
    have hcz15_0:=bc BK459.out 0
    have hcz15_1:=bc BK459.out 1
    have hfz15_0:=blk_frozen BK459.out 0
    have hfz15_1:=blk_frozen BK459.out 1
    go_wp2_with (first|((with_reducible refine gate_callee (f:=24) rfl ?_);refine goesL_ (some 20) rfl rfl Tryz.func24 (by kernel_rfl) rfl #[.agg #[.slice A0_0 l0_0.length c0_0,.int .i64 a0_1],.slice A1 l1.length c1,.slice A2 l2.length c2] rfl tl ?_;(with_reducible refine(impl_canMatch.calls k _ _ l0_0 a0_1 _ _ l1 _ _ l2 true _ ?side1 ?side2 ?side3 ?side4 ?side5 ?side6 A9.out).mono ?_);(case side1=>exact cup (Kd.C_below HR0_0.out HB.out));(case side2=>exact HC0_0.out);(case side3=>exact cup (Kd.C_below HR1.out HB.out));(case side4=>exact HC1.out);(case side5=>exact cup (Kd.C_below HR2.out HB.out));(case side6=>exact HC2.out);rintro e w16 ⟨rfl,hb⟩;refine⟨_,rfl,?_⟩;replace BK459:=am (blk_below (bup BK459.out) hb);replace BK460:=am (blk_below (bup BK460.out) hb);replace HB:=am (below_step bl hb);(try clear hb);have hcz17_0:=bc BK460.out 0;have hcz17_1:=bc BK460.out 1;have hcz17_2:=bc BK460.out 2;have hfz17_0:=blk_frozen BK460.out 0;have hfz17_1:=blk_frozen BK460.out 1;have hfz17_2:=blk_frozen BK460.out 2)|(go_at_call 25;(with_reducible refine(impl_IsAction.calls a3_0 a3_1 a3_2 true _ A11.out).mono ?_);rintro e w18 ⟨rfl,hb⟩;replace BK459:=am (blk_below (bup BK459.out) hb);replace BK460:=am (blk_below (bup BK460.out) hb);replace HB:=am (below_step bl hb);(try clear hb))|(go_at_call 26;(with_reducible refine(impl_isTolerance.calls a4 t463 _ A13.out).mono ?_);rintro e w' ⟨rfl,⟨nd,rfl⟩⟩))
    go_meet
    case rel=>exact⟨_,(!t463),fin2,H',⟨by first|omega|exact Nat.le_refl _⟩,⟨bup BK459.out⟩,⟨bup BK460.out⟩,⟨bl⟩⟩
   ·replace c12:=Bool.eq_false_iff.mpr c12
    subst c12
    replace H:=(if_neg Bool.false_ne_true).symm.trans H
    have H':=am H
    clear H
    have hnb19:=NB459_460.out
    have hnc19:=NB460_459.out
    have hcz20_0:=bc BK459.out 0
    have hcz20_1:=bc BK459.out 1
    have hfz20_0:=blk_frozen BK459.out 0
    have hfz20_1:=blk_frozen BK459.out 1
    go_wp2_with (first|((with_reducible refine gate_callee (f:=24) rfl ?_);refine goesL_ (some 20) rfl rfl Tryz.func24 (by kernel_rfl) rfl #[.agg #[.slice A0_0 l0_0.length c0_0,.int .i64 a0_1],.slice A1 l1.length c1,.slice A2 l2.length c2] rfl tl ?_;(with_reducible refine(impl_canMatch.calls k _ _ l0_0 a0_1 _ _ l1 _ _ l2 true _ ?side1 ?side2 ?side3 ?side4 ?side5 ?side6 A9.out).mono ?_);(case side1=>exact cup (Kd.C_below HR0_0.out HB.out));(case side2=>exact HC0_0.out);(case side3=>exact cup (Kd.C_below HR1.out HB.out));(case side4=>exact HC1.out);(case side5=>exact cup (Kd.C_below HR2.out HB.out));(case side6=>exact HC2.out);rintro e w21 ⟨rfl,hb⟩;refine⟨_,rfl,?_⟩;replace BK459:=am (blk_below (bup BK459.out) hb);replace BK460:=am (blk_below (bup BK460.out) hb);replace HB:=am (below_step bl hb);(try clear hb);have hcz22_0:=bc BK460.out 0;have hcz22_1:=bc BK460.out 1;have hcz22_2:=bc BK460.out 2;have hfz22_0:=blk_frozen BK460.out 0;have hfz22_1:=blk_frozen BK460.out 1;have hfz22_2:=blk_frozen BK460.out 2)|(go_at_call 25;(with_reducible refine(impl_IsAction.calls a3_0 a3_1 a3_2 false _ A11.out).mono ?_);rintro e w23 ⟨rfl,hb⟩;replace BK459:=am (blk_below (bup BK459.out) hb);replace BK460:=am (blk_below (bup BK460.out) hb);replace HB:=am (below_step bl hb);(try clear hb)))
    go_meet
    case rel=>exact⟨_,(true),fin2,H',⟨by first|omega|exact Nat.le_refl _⟩,⟨bup BK459.out⟩,⟨bup BK460.out⟩,⟨bl⟩⟩
  ·replace c10:=Bool.eq_false_iff.mpr c10
   subst c10
   replace H:=(if_neg Bool.false_ne_true).symm.trans H
   have H':=am H
   clear H
   have hnb24:=NB459_460.out
   have hnc24:=NB460_459.out
   have hcz25_0:=bc BK459.out 0
   have hcz25_1:=bc BK459.out 1
   have hfz25_0:=blk_frozen BK459.out 0
   have hfz25_1:=blk_frozen BK459.out 1
   go_wp2_with (first|((with_reducible refine gate_callee (f:=24) rfl ?_);refine goesL_ (some 20) rfl rfl Tryz.func24 (by kernel_rfl) rfl #[.agg #[.slice A0_0 l0_0.length c0_0,.int .i64 a0_1],.slice A1 l1.length c1,.slice A2 l2.length c2] rfl tl ?_;(with_reducible refine(impl_canMatch.calls k _ _ l0_0 a0_1 _ _ l1 _ _ l2 false _ ?side1 ?side2 ?side3 ?side4 ?side5 ?side6 A9.out).mono ?_);(case side1=>exact cup (Kd.C_below HR0_0.out HB.out));(case side2=>exact HC0_0.out);(case side3=>exact cup (Kd.C_below HR1.out HB.out));(case side4=>exact HC1.out);(case side5=>exact cup (Kd.C_below HR2.out HB.out));(case side6=>exact HC2.out);rintro e w26 ⟨rfl,hb⟩;refine⟨_,rfl,?_⟩;replace BK459:=am (blk_below (bup BK459.out) hb);replace BK460:=am (blk_below (bup BK460.out) hb);replace HB:=am (below_step bl hb);(try clear hb)))
   go_meet
   case rel=>exact⟨_,(true),fin2,H',⟨by first|omega|exact Nat.le_refl _⟩,⟨bup BK459.out⟩,⟨bup BK460.out⟩,⟨bl⟩⟩
 case rest =>
  clear HC6
  obtain⟨kq,x31_5,rfl,HA,HJ5,BK459,BK460,HB⟩:=hcut
  cases kq with
  | zero=>exact absurd HA.out (by simp [impl_ShiftToPass.j0])
  | succ kj5 =>
   have H:=HA.out
   clear HA
   simp only[impl_ShiftToPass.j0] at H
   by_cases c27:x31_5=true
   ·subst c27
    replace H:=(if_pos rfl).symm.trans H
    simp only[Option.some.injEq,Prod.mk.injEq] at H
    obtain⟨rfl,rfl⟩:=H
    go_wp2
    go_ret2
    exact⟨fin1,bl⟩
   ·replace c27:=Bool.eq_false_iff.mpr c27
    subst c27
    replace H:=(if_neg Bool.false_ne_true).symm.trans H
    have H':=am H
    clear H
    go_wp2
    go_loopg [12] kj5 (fun kq v12 w'=>∃(x12_2:Int),v12 = .int .i64 x12_2∧Aside0 (impl_ShiftToPass.l0 kq l1 l2 a4 x12_2 l0_0 a0_1 a3_0 a3_1 a3_2=some (r1,r2))∧Aside0 (kq≤kj5)∧Aside0 (w'.heap[gb459]?=some (.cells #[(.slice A0_0 l0_0.length c0_0),.int .i64 a0_1] 34 (0,0)))∧Aside0 (w'.heap[gb460]?=some (.cells #[.int .i64 a3_0,.int .i64 a3_1,.int .i64 a3_2] 40 (0,0)))∧Aside0 (Below w.heap.size w w'))
    case atStart=>exact⟨(0),fin2,H',⟨Nat.le_refl _⟩,⟨bup BK459.out⟩,⟨bup BK460.out⟩,⟨bl⟩⟩
    case round =>
     clear H'
     try clear c27
     obtain⟨x12_2,rfl,HA,HK2,BK459,BK460,HB⟩:=hrel
     cases gk with
     | zero=>exact absurd HA.out (by simp [impl_ShiftToPass.l0])
     | succ k2 =>
      have H:=HA.out
      clear HA
      simp only[impl_ShiftToPass.l0] at H
      rcases itc H with⟨c28,H⟩|⟨c28,H⟩
      ·have c28b0:=decide_eq_true c28
       clear c28
       obtain⟨y464,hy464⟩:∃ y_:List Int,y_=(([wrap64 (-x12_2),x12_2]:List Int)):=⟨_,rfl⟩
       replace H:(impl_ShiftToPass.l1 k2 l1 l2 a4 x12_2 y464 (y464.length:Int) 0 l0_0 a0_1 a3_0 a3_1 a3_2)=some (r1,r2):=by subst hy464;exact H
       have Ny464:=am hy464
       clear hy464
       have H':=am H
       clear H
       go_wp2_with (first|((with_reducible refine gate_dst (N:=39) rfl ?_);(try(refine gate_guard (by rfl) ?_;dsimp only));refine Kd.R_lit (Kd.int .i64) _ 3 ?hg (N:=39) ?hd (xs:=([wrap64 (-x12_2),x12_2]:List Int)) (inner:=[.int .i64 (wrap64 (-x12_2)),.int .i64 x12_2]) (ok:=fun _=>True) (okp:=fun _=>True) ?hr ?hp (fun _ hk=>hk) trivial (Below.refl _ _) (Nat.le_refl _) (by simp) ?_;(case hd=>rfl);(case hg=>rfl);(case hr=>first|(go_simp;done)|(go_simp;rfl));(case hp=>exact(Reps.one (show Kd.M (Kd.int .i64) _ _ _ (wrap64 (-x12_2)) [.int .i64 (wrap64 (-x12_2))] from rfl) (Reps.one (show Kd.M (Kd.int .i64) _ _ _ x12_2 [.int .i64 x12_2] from rfl) (Reps.none _ _))));intro v465 w29 ho30 hb hg_ hnew_;clear hg_ hnew_;(first|rw[← Ny464.out] at ho30|(simp only[Int.reduceToNat] at ho30;rw[← Ny464.out] at ho30));have HO466:=am (Kd.R_lower ho30 (below_size bl));replace BK459:=am (blk_below (bup BK459.out) hb);replace BK460:=am (blk_below (bup BK460.out) hb);replace HB:=am (below_step bl hb);clear hb ho30;obtain⟨Ao31,co31,eo31⟩:=Kd.R_slice HO466.out;subst eo31))
       go_loopg [41] k2 (fun kq v41 w'=>∃(x41_3:Int),v41 = .int .i64 x41_3∧Aside0 (impl_ShiftToPass.l1 kq l1 l2 a4 x12_2 y464 (y464.length:Int) x41_3 l0_0 a0_1 a3_0 a3_1 a3_2=some (r1,r2))∧Aside0 (kq≤k2)∧Aside0 (Kd.R (Kd.int .i64) 3 w' w.heap.size (fun _=>True) (.slice Ao31 y464.length co31) y464)∧Aside0 (w'.heap[gb459]?=some (.cells #[(.slice A0_0 l0_0.length c0_0),.int .i64 a0_1] 34 (0,0)))∧Aside0 (w'.heap[gb460]?=some (.cells #[.int .i64 a3_0,.int .i64 a3_1,.int .i64 a3_2] 40 (0,0)))∧Aside0 (Below w.heap.size w w'))
       case atStart=>exact⟨(0),fin2,H',⟨Nat.le_refl _⟩,⟨rup HO466.out⟩,⟨bup BK459.out⟩,⟨bup BK460.out⟩,⟨bl⟩⟩
       case round =>
        clear H'
        try clear c28b0
        obtain⟨x41_3,rfl,HA,HK3,HO_39,BK459,BK460,HB⟩:=hrel
        cases gk with
        | zero=>exact absurd HA.out (by simp [impl_ShiftToPass.l1])
        | succ k3 =>
         have H:=HA.out
         clear HA
         simp only[impl_ShiftToPass.l1] at H
         rcases itc H with⟨c32,H⟩|⟨c32,H⟩
         ·have c32b0:=decide_eq_true c32
          clear c32
          obtain⟨c33b0,H⟩:=ifb H
          obtain⟨c34b0,H⟩:=ifb H
          replace H:=Option.bind_eq_some_iff.mp H
          obtain⟨⟨t468,t469⟩,A350,H⟩:=H
          replace H:(if t469=true then((impl_faultsOf.f k3 l0_0 a0_1 l1 t468 a3_0 a3_1 a3_2 a4).bind fun t472=>(if(t472.length:Int)=0 then(some (rd y464 x41_3,true)) else(impl_ShiftToPass.l1 k3 l1 l2 a4 x12_2 y464 (y464.length:Int) (wrap64 (x41_3+1)) l0_0 a0_1 a3_0 a3_1 a3_2))) else(impl_ShiftToPass.l1 k3 l1 l2 a4 x12_2 y464 (y464.length:Int) (wrap64 (x41_3+1)) l0_0 a0_1 a3_0 a3_1 a3_2))=some (r1,r2):=H
          have A35:=am A350
          clear A350
          by_cases c36:t469=true
          ·subst c36
           replace H:=(if_pos rfl).symm.trans H
           replace H:=Option.bind_eq_some_iff.mp H
           obtain⟨t472,A370,H⟩:=H
           replace H:(if(t472.length:Int)=0 then(some (rd y464 x41_3,true)) else(impl_ShiftToPass.l1 k3 l1 l2 a4 x12_2 y464 (y464.length:Int) (wrap64 (x41_3+1)) l0_0 a0_1 a3_0 a3_1 a3_2))=some (r1,r2):=H
           have A37:=am A370
           clear A370
           rcases itc H with⟨c38,H⟩|⟨c38,H⟩
           ·have c38b0:((t472.length:Int) == 0)=true:=beq_iff_eq.mpr c38
            have c38b1:((t472.length:Int) != 0)=false:=bne_eq_false_iff_eq.mpr c38
            clear c38
            simp only[Option.some.injEq,Prod.mk.injEq] at H
            obtain⟨rfl,rfl⟩:=H
            have p467:0≤(x41_3:Int):=od
            have q467:x41_3<(y464.length:Int):=od
            obtain⟨ad467,e467,hx467_0⟩:=Kd.at_int (Kd.R_reads' HO_39.out).2.2 x41_3 p467 q467
            cases e467
            replace p467:=eq_true p467
            replace q467:=eq_true q467
            go_wp2_with (first|((with_reducible refine gate_callee (f:=27) rfl ?_);refine goesL_ (some 48) rfl rfl Tryz.func27 (by kernel_rfl) rfl #[.slice A2 l2.length c2,.int .i64 (rd y464 x41_3)] rfl tl ?_;(with_reducible refine(impl_moveSheet.calls k3 _ _ l2 (rd y464 x41_3) t468 true _ ?side1 ?side2 A35.out).mono ?_);(case side1=>exact cup (Kd.C_below HR2.out HB.out));(case side2=>exact HC2.out);rintro e w39 ⟨v470,rfl,ho0,hb⟩;refine⟨_,rfl,?_⟩;replace HO_39:=am (Kd.R_below (rup HO_39.out) hb);have HO471:=am (Kd.R_lower ho0 (below_size bl));replace BK459:=am (blk_below (bup BK459.out) hb);replace BK460:=am (blk_below (bup BK460.out) hb);replace HB:=am (below_step bl hb);(try clear hb);(try clear ho0);have hnb40:=NB459_460.out;have hnc40:=NB460_459.out;have hcz41_0:=bc BK459.out 0;have hcz41_1:=bc BK459.out 1;have hfz41_0:=blk_frozen BK459.out 0;have hfz41_1:=blk_frozen BK459.out 1;have hcz42_0:=bc BK460.out 0;have hcz42_1:=bc BK460.out 1;have hcz42_2:=bc BK460.out 2;have hfz42_0:=blk_frozen BK460.out 0;have hfz42_1:=blk_frozen BK460.out 1;have hfz42_2:=blk_frozen BK460.out 2;obtain⟨Ao43,co43,eo43⟩:=Kd.R_slice HO471.out;subst eo43)|(go_at_call 28;(with_reducible refine(impl_faultsOf.calls k3 _ _ l0_0 a0_1 _ _ l1 _ _ t468 a3_0 a3_1 a3_2 a4 t472 _ ?side1 ?side2 ?side3 ?side4 ?side5 ?side6 A37.out).mono ?_);(case side1=>exact cup (Kd.C_below HR0_0.out HB.out));(case side2=>exact HC0_0.out);(case side3=>exact cup (Kd.C_below HR1.out HB.out));(case side4=>exact HC1.out);(case side5=>repeat(first|exact(Kd.R_reads' HO471.out).2.2|(with_reducible refine Kd.C_alloc ?_ _)|(with_reducible refine Kd.C_drewN ?_ _)|(with_reducible refine Kd.C_drew ?_)));(case side6=>exact(Kd.R_reads' HO471.out).2.1);rintro e w44 ⟨v473,rfl,ho0,hb⟩;replace HO471:=am (Kd.R_below (rup HO471.out) hb);have HO474:=am (Kd.S_lower (Kd.S_new' ho0 (Kd.R_lt (rup HO_39.out))) (below_size bl));replace HO_39:=am (Kd.R_below (rup HO_39.out) hb);replace BK459:=am (blk_below (bup BK459.out) hb);replace BK460:=am (blk_below (bup BK460.out) hb);replace HB:=am (below_step bl hb);(try clear hb);(try clear ho0);obtain⟨Ao45,co45,eo45⟩:=Kd.S_slice HO474.out;subst eo45))
            go_ret2
            exact⟨fin1,bl⟩
           ·have c38b0:((t472.length:Int) == 0)=false:=beq_eq_false_iff_ne.mpr c38
            have c38b1:((t472.length:Int) != 0)=true:=bne_iff_ne.mpr c38
            have c38b2:¬ (t472=[]):=fun h_=>c38 (by rw[h_];rfl)
            have H':=am H
            clear H
            have p467:0≤(x41_3:Int):=od
            have q467:x41_3<(y464.length:Int):=od
            obtain⟨ad467,e467,hx467_0⟩:=Kd.at_int (Kd.R_reads' HO_39.out).2.2 x41_3 p467 q467
            cases e467
            replace p467:=eq_true p467
            replace q467:=eq_true q467
            go_wp2_with (first|((with_reducible refine gate_callee (f:=27) rfl ?_);refine goesL_ (some 48) rfl rfl Tryz.func27 (by kernel_rfl) rfl #[.slice A2 l2.length c2,.int .i64 (rd y464 x41_3)] rfl tl ?_;(with_reducible refine(impl_moveSheet.calls k3 _ _ l2 (rd y464 x41_3) t468 true _ ?side1 ?side2 A35.out).mono ?_);(case side1=>exact cup (Kd.C_below HR2.out HB.out));(case side2=>exact HC2.out);rintro e w46 ⟨v470,rfl,ho0,hb⟩;refine⟨_,rfl,?_⟩;replace HO_39:=am (Kd.R_below (rup HO_39.out) hb);have HO471:=am (Kd.R_lower ho0 (below_size bl));replace BK459:=am (blk_below (bup BK459.out) hb);replace BK460:=am (blk_below (bup BK460.out) hb);replace HB:=am (below_step bl hb);(try clear hb);(try clear ho0);have hnb47:=NB459_460.out;have hnc47:=NB460_459.out;have hcz48_0:=bc BK459.out 0;have hcz48_1:=bc BK459.out 1;have hfz48_0:=blk_frozen BK459.out 0;have hfz48_1:=blk_frozen BK459.out 1;have hcz49_0:=bc BK460.out 0;have hcz49_1:=bc BK460.out 1;have hcz49_2:=bc BK460.out 2;have hfz49_0:=blk_frozen BK460.out 0;have hfz49_1:=blk_frozen BK460.out 1;have hfz49_2:=blk_frozen BK460.out 2;obtain⟨Ao50,co50,eo50⟩:=Kd.R_slice HO471.out;subst eo50)|(go_at_call 28;(with_reducible refine(impl_faultsOf.calls k3 _ _ l0_0 a0_1 _ _ l1 _ _ t468 a3_0 a3_1 a3_2 a4 t472 _ ?side1 ?side2 ?side3 ?side4 ?side5 ?side6 A37.out).mono ?_);(case side1=>exact cup (Kd.C_below HR0_0.out HB.out));(case side2=>exact HC0_0.out);(case side3=>exact cup (Kd.C_below HR1.out HB.out));(case side4=>exact HC1.out);(case side5=>repeat(first|exact(Kd.R_reads' HO471.out).2.2|(with_reducible refine Kd.C_alloc ?_ _)|(with_reducible refine Kd.C_drewN ?_ _)|(with_reducible refine Kd.C_drew ?_)));(case side6=>exact(Kd.R_reads' HO471.out).2.1);rintro e w51 ⟨v473,rfl,ho0,hb⟩;replace HO471:=am (Kd.R_below (rup HO471.out) hb);have HO474:=am (Kd.S_lower (Kd.S_new' ho0 (Kd.R_lt (rup HO_39.out))) (below_size bl));replace HO_39:=am (Kd.R_below (rup HO_39.out) hb);replace BK459:=am (blk_below (bup BK459.out) hb);replace BK460:=am (blk_below (bup BK460.out) hb);replace HB:=am (below_step bl hb);(try clear hb);(try clear ho0);obtain⟨Ao52,co52,eo52⟩:=Kd.S_slice HO474.out;subst eo52))
            go_roundg k3
            case measure=>have:=HJ5.out;have:=HK2.out;have:=HK3.out;omega
            case rel=>exact⟨(wrap64 (x41_3+1)),fin2,H',⟨by have:=HJ5.out;have:=HK2.out;have:=HK3.out;omega⟩,⟨rup HO_39.out⟩,⟨bup BK459.out⟩,⟨bup BK460.out⟩,⟨bl⟩⟩
          ·replace c36:=Bool.eq_false_iff.mpr c36
           subst c36
           replace H:=(if_neg Bool.false_ne_true).symm.trans H
           have H':=am H
           clear H
           have p467:0≤(x41_3:Int):=od
           have q467:x41_3<(y464.length:Int):=od
           obtain⟨ad467,e467,hx467_0⟩:=Kd.at_int (Kd.R_reads' HO_39.out).2.2 x41_3 p467 q467
           cases e467
           replace p467:=eq_true p467
           replace q467:=eq_true q467
           go_wp2_with (first|((with_reducible refine gate_callee (f:=27) rfl ?_);refine goesL_ (some 48) rfl rfl Tryz.func27 (by kernel_rfl) rfl #[.slice A2 l2.length c2,.int .i64 (rd y464 x41_3)] rfl tl ?_;(with_reducible refine(impl_moveSheet.calls k3 _ _ l2 (rd y464 x41_3) t468 false _ ?side1 ?side2 A35.out).mono ?_);(case side1=>exact cup (Kd.C_below HR2.out HB.out));(case side2=>exact HC2.out);rintro e w53 ⟨v470,rfl,ho0,hb⟩;refine⟨_,rfl,?_⟩;replace HO_39:=am (Kd.R_below (rup HO_39.out) hb);have HO471:=am (Kd.R_lower ho0 (below_size bl));replace BK459:=am (blk_below (bup BK459.out) hb);replace BK460:=am (blk_below (bup BK460.out) hb);replace HB:=am (below_step bl hb);(try clear hb);(try clear ho0)))
           go_roundg k3
           case measure=>have:=HJ5.out;have:=HK2.out;have:=HK3.out;omega
           case rel=>exact⟨(wrap64 (x41_3+1)),fin2,H',⟨by have:=HJ5.out;have:=HK2.out;have:=HK3.out;omega⟩,⟨rup HO_39.out⟩,⟨bup BK459.out⟩,⟨bup BK460.out⟩,⟨bl⟩⟩
         ·have c32b0:=decide_eq_false c32
          clear c32
          have H':=am H
          clear H
          go_wp2
          go_roundg k3
          case measure=>have:=HJ5.out;have:=HK2.out;have:=HK3.out;omega
          case rel=>exact⟨(wrap64 (x12_2+1)),fin2,H',⟨by have:=HJ5.out;have:=HK2.out;have:=HK3.out;omega⟩,⟨bup BK459.out⟩,⟨bup BK460.out⟩,⟨bl⟩⟩
      ·have c28b0:=decide_eq_false c28
       clear c28
       simp only[Option.some.injEq,Prod.mk.injEq] at H
       obtain⟨rfl,rfl⟩:=H
       go_wp2
       go_ret2
       exact⟨fin1,bl⟩

def laws_eqIntS.l0:Nat→List Int→List Int→Int→Option (Bool)
 | 0,_,_,_=>none
 | k+1,x0,x1,x5=>if x5<(x0.length:Int) then(if 0≤x5 then(if x5<(x1.length:Int) then(if(rd x0 x5)=(rd x1 x5) then(laws_eqIntS.l0 k x0 x1 (wrap64 (x5+1))) else(some false)) else(none)) else(none)) else(some true)
def laws_eqIntS.f (k:Nat) (l0:List Int) (l1:List Int):Option (Bool):=if(l0.length:Int)=(l1.length:Int) then(laws_eqIntS.l0 k l0 l1 0) else(some false)
set_option maxHeartbeats 8000000 in
set_option maxRecDepth 100000 in
theorem laws_eqIntS.calls (k:Nat) (A0:Option Addr) (c0:Nat) (l0:List Int) (A1:Option Addr) (c1:Nat) (l1:List Int) (r:Bool) (w:World) (hr0:Kd.C (Kd.int .i64) w A0 l0.length l0) (hc0:l0.length≤c0) (hr1:Kd.C (Kd.int .i64) w A1 l1.length l1) (hc1:l1.length≤c1) (h:laws_eqIntS.f k l0 l1=some r) :
  Calls Tryz.prog 29 #[.slice A0 l0.length c0,.slice A1 l1.length c1] w fun e w'=>e = .returned (.bool r)∧Drawn0 w w':=by
 have HR0:=am hr0
 have HC0:=am hc0
 clear hr0 hc0
 have HR1:=am hr1
 have HC1:=am hc1
 clear hr1 hc1
 have H:(if(l0.length:Int)=(l1.length:Int) then(laws_eqIntS.l0 k l0 l1 0) else(some false))=some r:=h
 clear h
 rcases itc H with⟨c3,H⟩|⟨c3,H⟩
 ·have c3b0:((l0.length:Int) == (l1.length:Int))=true:=beq_iff_eq.mpr c3
  have c3b1:((l0.length:Int) != (l1.length:Int))=false:=bne_eq_false_iff_eq.mpr c3
  have c3b2:(l0.length == l1.length)=true:=by first|simpa using c3|(simp at c3 ⊢;omega)
  clear c3
  have H':=am H
  clear H
  go_enter Tryz.func29,Tryz.ntmps29
  go_wp2
  repeat(go_quiet (fail);try go_wp2)
  go_loopg [5] k (fun kq v5 w'=>∃(x5_1:Int),v5 = .int .i64 x5_1∧Aside0 (laws_eqIntS.l0 kq l0 l1 x5_1=some r)∧Aside0 (kq≤k)∧Drawn0 w w')
  case atStart=>exact⟨(0),fin2,H',⟨Nat.le_refl _⟩,by repeat(first|exact Drawn0.refl _|apply Drawn0.step)⟩
  case round =>
   clear H'
   try clear c3b0
   try clear c3b1
   try clear c3b2
   obtain⟨x5_1,rfl,HA,HK1,⟨m1,rfl⟩⟩:=hrel
   cases gk with
   | zero=>exact absurd HA.out (by simp [laws_eqIntS.l0])
   | succ k1 =>
    have H:=HA.out
    clear HA
    simp only[laws_eqIntS.l0] at H
    rcases itc H with⟨c4,H⟩|⟨c4,H⟩
    ·have c4b0:=decide_eq_true c4
     clear c4
     obtain⟨c5b0,H⟩:=ifb H
     obtain⟨c6b0,H⟩:=ifb H
     rcases itc H with⟨c7,H⟩|⟨c7,H⟩
     ·have c7b0:((rd l0 x5_1) == (rd l1 x5_1))=true:=beq_iff_eq.mpr c7
      have c7b1:((rd l0 x5_1) != (rd l1 x5_1))=false:=bne_eq_false_iff_eq.mpr c7
      clear c7
      have H':=am H
      clear H
      have p475:0≤(x5_1:Int):=od
      have q475:x5_1<(l0.length:Int):=od
      obtain⟨ad475,e475,hx475_0⟩:=Kd.at_int HR0.out x5_1 p475 q475
      cases e475
      replace p475:=eq_true p475
      replace q475:=eq_true q475
      have p476:0≤(x5_1:Int):=od
      have q476:x5_1<(l1.length:Int):=od
      obtain⟨ad476,e476,hx476_0⟩:=Kd.at_int HR1.out x5_1 p476 q476
      cases e476
      replace p476:=eq_true p476
      replace q476:=eq_true q476
      go_wp2
      repeat(go_quiet (fail);try go_wp2)
      go_roundg k1
      case measure=>have:=HK1.out;omega
      case rel=>exact⟨(wrap64 (x5_1+1)),fin2,H',⟨by have:=HK1.out;omega⟩,by repeat(first|exact Drawn0.refl _|apply Drawn0.step)⟩
     ·have c7b0:((rd l0 x5_1) == (rd l1 x5_1))=false:=beq_eq_false_iff_ne.mpr c7
      have c7b1:((rd l0 x5_1) != (rd l1 x5_1))=true:=bne_iff_ne.mpr c7
      obtain rfl:=Option.some.inj H
      have p475:0≤(x5_1:Int):=od
      have q475:x5_1<(l0.length:Int):=od
      obtain⟨ad475,e475,hx475_0⟩:=Kd.at_int HR0.out x5_1 p475 q475
      cases e475
      replace p475:=eq_true p475
      replace q475:=eq_true q475
      have p476:0≤(x5_1:Int):=od
      have q476:x5_1<(l1.length:Int):=od
      obtain⟨ad476,e476,hx476_0⟩:=Kd.at_int HR1.out x5_1 p476 q476
      cases e476
      replace p476:=eq_true p476
      replace q476:=eq_true q476
      go_wp2
      repeat(go_quiet (fail);try go_wp2)
      go_ret
      exact⟨by first|rfl|(simp;done)|(simp [*];done),by repeat(first|exact Drawn0.refl _|apply Drawn0.step)⟩
    ·have c4b0:=decide_eq_false c4
     clear c4
     obtain rfl:=Option.some.inj H
     go_wp2
     repeat(go_quiet (fail);try go_wp2)
     go_ret
     exact⟨by first|rfl|(simp;done)|(simp [*];done),by repeat(first|exact Drawn0.refl _|apply Drawn0.step)⟩
 ·have c3b0:((l0.length:Int) == (l1.length:Int))=false:=beq_eq_false_iff_ne.mpr c3
  have c3b1:((l0.length:Int) != (l1.length:Int))=true:=bne_iff_ne.mpr c3
  have c3b2:(l0.length == l1.length)=false:=by first|simpa using c3|(simp at c3 ⊢;omega)
  obtain rfl:=Option.some.inj H
  go_enter Tryz.func29,Tryz.ntmps29
  go_wp2
  repeat(go_quiet (fail);try go_wp2)
  go_ret
  exact⟨by first|rfl|(simp;done)|(simp [*];done),by repeat(first|exact Drawn0.refl _|apply Drawn0.step)⟩

def laws_eqInstrument.f (k:Nat) (l0_0:List Int) (a0_1:Int) (l1_0:List Int) (a1_1:Int):Option (Bool):=(laws_eqIntS.f k l0_0 l1_0).bind fun t479=>(if t479=true then(if a0_1=a1_1 then(some true) else(some false)) else(some false))
set_option maxHeartbeats 8000000 in
set_option maxRecDepth 100000 in
theorem laws_eqInstrument.calls (k:Nat) (A0_0:Option Addr) (c0_0:Nat) (l0_0:List Int) (a0_1:Int) (A1_0:Option Addr) (c1_0:Nat) (l1_0:List Int) (a1_1:Int) (r:Bool) (w:World) (hr0_0:Kd.C (Kd.int .i64) w A0_0 l0_0.length l0_0) (hc0_0:l0_0.length≤c0_0) (hr1_0:Kd.C (Kd.int .i64) w A1_0 l1_0.length l1_0) (hc1_0:l1_0.length≤c1_0) (h:laws_eqInstrument.f k l0_0 a0_1 l1_0 a1_1=some r) :
  Calls Tryz.prog 13 #[.agg #[.slice A0_0 l0_0.length c0_0,.int .i64 a0_1],.agg #[.slice A1_0 l1_0.length c1_0,.int .i64 a1_1]] w fun e w'=>e = .returned (.bool r)∧Below w.heap.size w w':=by
 have hu34:=Tryz.underlying34
 have HR0_0:=am hr0_0
 have HC0_0:=am hc0_0
 clear hr0_0 hc0_0
 have HR1_0:=am hr1_0
 have HC1_0:=am hc1_0
 clear hr1_0 hc1_0
 have HB:=am (Below.refl w.heap.size w)
 have H:((laws_eqIntS.f k l0_0 l1_0).bind fun t479=>(if t479=true then(if a0_1=a1_1 then(some true) else(some false)) else(some false)))=some r:=h
 clear h
 obtain⟨t479,A3,H⟩:=bnd H
 by_cases c4:t479=true
 ·subst c4
  replace H:=(if_pos rfl).symm.trans H
  rcases itc H with⟨c5,H⟩|⟨c5,H⟩
  ·have c5b0:(a0_1 == a1_1)=true:=beq_iff_eq.mpr c5
   have c5b1:(a0_1 != a1_1)=false:=bne_eq_false_iff_eq.mpr c5
   clear c5
   obtain rfl:=Option.some.inj H
   go_enter Tryz.func13,Tryz.ntmps13
   go_wp2_with (first|((with_reducible refine gate_dst (N:=2) rfl ?_);refine box_event ?hg (N:=2) ?hd (cs := #[.slice A0_0 l0_0.length c0_0,.int .i64 a0_1]) (t:=34) ?hr ?_;(case hd=>rfl);(case hg=>rfl);(case hr=>first|(go_simp;done)|(go_simp;rfl));intro gb477 hg w6 hbox hb;have BK477:=am (hbox);have GW477:=am (ge_ bl hg);have GE477:=am (ge_ bl hg);replace HB:=am (below_step bl hb);clear hb hbox hg)|((with_reducible refine gate_dst (N:=3) rfl ?_);refine box_event ?hg (N:=3) ?hd (cs := #[.slice A1_0 l1_0.length c1_0,.int .i64 a1_1]) (t:=34) ?hr ?_;(case hd=>rfl);(case hg=>rfl);(case hr=>first|(go_simp;done)|(go_simp;rfl));intro gb478 hg w7 hbox hb;have BK478:=am (hbox);have GW478:=am (ge_ bl hg);have GE478:=am (ge_ bl hg);replace HB:=am (below_step bl hb);have NB477_478:=am (nl (bup BK477.out) hg);have NB478_477:=am (ng (bup BK477.out) hg);replace BK477:=am (blk_below (bup BK477.out) hb);clear hb hbox hg;have hnb8:=NB477_478.out;have hnc8:=NB478_477.out;have hcz9_0:=bc BK477.out 0;have hcz9_1:=bc BK477.out 1;have hfz9_0:=blk_frozen BK477.out 0;have hfz9_1:=blk_frozen BK477.out 1;have hcz10_0:=bc BK478.out 0;have hcz10_1:=bc BK478.out 1;have hfz10_0:=blk_frozen BK478.out 0;have hfz10_1:=blk_frozen BK478.out 1)|((with_reducible refine gate_callee (f:=29) rfl ?_);refine goesL_ (some 9) rfl rfl Tryz.func29 (by kernel_rfl) rfl #[.slice A0_0 l0_0.length c0_0,.slice A1_0 l1_0.length c1_0] rfl tl ?_;(with_reducible refine(laws_eqIntS.calls k _ _ l0_0 _ _ l1_0 true _ ?side1 ?side2 ?side3 ?side4 A3.out).mono ?_);(case side1=>exact cup (Kd.C_below HR0_0.out HB.out));(case side2=>exact HC0_0.out);(case side3=>exact cup (Kd.C_below HR1_0.out HB.out));(case side4=>exact HC1_0.out);rintro e w' ⟨rfl,⟨nd,rfl⟩⟩;refine⟨_,rfl,?_⟩))
   go_ret
   exact⟨fin1,bl⟩
  ·have c5b0:(a0_1 == a1_1)=false:=beq_eq_false_iff_ne.mpr c5
   have c5b1:(a0_1 != a1_1)=true:=bne_iff_ne.mpr c5
   obtain rfl:=Option.some.inj H
   go_enter Tryz.func13,Tryz.ntmps13
   go_wp2_with (first|((with_reducible refine gate_dst (N:=2) rfl ?_);refine box_event ?hg (N:=2) ?hd (cs := #[.slice A0_0 l0_0.length c0_0,.int .i64 a0_1]) (t:=34) ?hr ?_;(case hd=>rfl);(case hg=>rfl);(case hr=>first|(go_simp;done)|(go_simp;rfl));intro gb477 hg w11 hbox hb;have BK477:=am (hbox);have GW477:=am (ge_ bl hg);have GE477:=am (ge_ bl hg);replace HB:=am (below_step bl hb);clear hb hbox hg)|((with_reducible refine gate_dst (N:=3) rfl ?_);refine box_event ?hg (N:=3) ?hd (cs := #[.slice A1_0 l1_0.length c1_0,.int .i64 a1_1]) (t:=34) ?hr ?_;(case hd=>rfl);(case hg=>rfl);(case hr=>first|(go_simp;done)|(go_simp;rfl));intro gb478 hg w12 hbox hb;have BK478:=am (hbox);have GW478:=am (ge_ bl hg);have GE478:=am (ge_ bl hg);replace HB:=am (below_step bl hb);have NB477_478:=am (nl (bup BK477.out) hg);have NB478_477:=am (ng (bup BK477.out) hg);replace BK477:=am (blk_below (bup BK477.out) hb);clear hb hbox hg;have hnb13:=NB477_478.out;have hnc13:=NB478_477.out;have hcz14_0:=bc BK477.out 0;have hcz14_1:=bc BK477.out 1;have hfz14_0:=blk_frozen BK477.out 0;have hfz14_1:=blk_frozen BK477.out 1;have hcz15_0:=bc BK478.out 0;have hcz15_1:=bc BK478.out 1;have hfz15_0:=blk_frozen BK478.out 0;have hfz15_1:=blk_frozen BK478.out 1)|((with_reducible refine gate_callee (f:=29) rfl ?_);refine goesL_ (some 9) rfl rfl Tryz.func29 (by kernel_rfl) rfl #[.slice A0_0 l0_0.length c0_0,.slice A1_0 l1_0.length c1_0] rfl tl ?_;(with_reducible refine(laws_eqIntS.calls k _ _ l0_0 _ _ l1_0 true _ ?side1 ?side2 ?side3 ?side4 A3.out).mono ?_);(case side1=>exact cup (Kd.C_below HR0_0.out HB.out));(case side2=>exact HC0_0.out);(case side3=>exact cup (Kd.C_below HR1_0.out HB.out));(case side4=>exact HC1_0.out);rintro e w' ⟨rfl,⟨nd,rfl⟩⟩;refine⟨_,rfl,?_⟩))
   go_ret
   exact⟨fin1,bl⟩
 ·replace c4:=Bool.eq_false_iff.mpr c4
  subst c4
  replace H:=(if_neg Bool.false_ne_true).symm.trans H
  obtain rfl:=Option.some.inj H
  go_enter Tryz.func13,Tryz.ntmps13
  go_wp2_with (first|((with_reducible refine gate_dst (N:=2) rfl ?_);refine box_event ?hg (N:=2) ?hd (cs := #[.slice A0_0 l0_0.length c0_0,.int .i64 a0_1]) (t:=34) ?hr ?_;(case hd=>rfl);(case hg=>rfl);(case hr=>first|(go_simp;done)|(go_simp;rfl));intro gb477 hg w16 hbox hb;have BK477:=am (hbox);have GW477:=am (ge_ bl hg);have GE477:=am (ge_ bl hg);replace HB:=am (below_step bl hb);clear hb hbox hg)|((with_reducible refine gate_dst (N:=3) rfl ?_);refine box_event ?hg (N:=3) ?hd (cs := #[.slice A1_0 l1_0.length c1_0,.int .i64 a1_1]) (t:=34) ?hr ?_;(case hd=>rfl);(case hg=>rfl);(case hr=>first|(go_simp;done)|(go_simp;rfl));intro gb478 hg w17 hbox hb;have BK478:=am (hbox);have GW478:=am (ge_ bl hg);have GE478:=am (ge_ bl hg);replace HB:=am (below_step bl hb);have NB477_478:=am (nl (bup BK477.out) hg);have NB478_477:=am (ng (bup BK477.out) hg);replace BK477:=am (blk_below (bup BK477.out) hb);clear hb hbox hg;have hnb18:=NB477_478.out;have hnc18:=NB478_477.out;have hcz19_0:=bc BK477.out 0;have hcz19_1:=bc BK477.out 1;have hfz19_0:=blk_frozen BK477.out 0;have hfz19_1:=blk_frozen BK477.out 1;have hcz20_0:=bc BK478.out 0;have hcz20_1:=bc BK478.out 1;have hfz20_0:=blk_frozen BK478.out 0;have hfz20_1:=blk_frozen BK478.out 1)|((with_reducible refine gate_callee (f:=29) rfl ?_);refine goesL_ (some 9) rfl rfl Tryz.func29 (by kernel_rfl) rfl #[.slice A0_0 l0_0.length c0_0,.slice A1_0 l1_0.length c1_0] rfl tl ?_;(with_reducible refine(laws_eqIntS.calls k _ _ l0_0 _ _ l1_0 false _ ?side1 ?side2 ?side3 ?side4 A3.out).mono ?_);(case side1=>exact cup (Kd.C_below HR0_0.out HB.out));(case side2=>exact HC0_0.out);(case side3=>exact cup (Kd.C_below HR1_0.out HB.out));(case side4=>exact HC1_0.out);rintro e w' ⟨rfl,⟨nd,rfl⟩⟩;refine⟨_,rfl,?_⟩))
  go_ret
  exact⟨fin1,bl⟩

def laws_eqNote.f (a0_0:Int) (a0_1:Int) (a0_2:Int) (a1_0:Int) (a1_1:Int) (a1_2:Int):Option (Bool):=if a0_0=a1_0 then(if a0_1=a1_1 then(if a0_2=a1_2 then(some true) else(some false)) else(some false)) else(some false)
set_option maxHeartbeats 8000000 in
set_option maxRecDepth 100000 in
theorem laws_eqNote.calls (a0_0:Int) (a0_1:Int) (a0_2:Int) (a1_0:Int) (a1_1:Int) (a1_2:Int) (r:Bool) (w:World) (h:laws_eqNote.f a0_0 a0_1 a0_2 a1_0 a1_1 a1_2=some r) :
  Calls Tryz.prog 30 #[.agg #[.int .i64 a0_0,.int .i64 a0_1,.int .i64 a0_2],.agg #[.int .i64 a1_0,.int .i64 a1_1,.int .i64 a1_2]] w fun e w'=>e = .returned (.bool r)∧Below w.heap.size w w':=by
 have hu55:=Tryz.underlying55
 have HB:=am (Below.refl w.heap.size w)
 have H:(if a0_0=a1_0 then(if a0_1=a1_1 then(if a0_2=a1_2 then(some true) else(some false)) else(some false)) else(some false))=some r:=h
 clear h
 rcases itc H with⟨c3,H⟩|⟨c3,H⟩
 ·have c3b0:(a0_0 == a1_0)=true:=beq_iff_eq.mpr c3
  have c3b1:(a0_0 != a1_0)=false:=bne_eq_false_iff_eq.mpr c3
  clear c3
  rcases itc H with⟨c4,H⟩|⟨c4,H⟩
  ·have c4b0:(a0_1 == a1_1)=true:=beq_iff_eq.mpr c4
   have c4b1:(a0_1 != a1_1)=false:=bne_eq_false_iff_eq.mpr c4
   clear c4
   rcases itc H with⟨c5,H⟩|⟨c5,H⟩
   ·have c5b0:(a0_2 == a1_2)=true:=beq_iff_eq.mpr c5
    have c5b1:(a0_2 != a1_2)=false:=bne_eq_false_iff_eq.mpr c5
    clear c5
    obtain rfl:=Option.some.inj H
    go_enter Tryz.func30,Tryz.ntmps30
    go_wp2_with (first|((with_reducible refine gate_dst (N:=2) rfl ?_);refine box_event ?hg (N:=2) ?hd (cs := #[.int .i64 a0_0,.int .i64 a0_1,.int .i64 a0_2]) (t:=55) ?hr ?_;(case hd=>rfl);(case hg=>rfl);(case hr=>first|(go_simp;done)|(go_simp;rfl));intro gb480 hg w6 hbox hb;have BK480:=am (hbox);have GW480:=am (ge_ bl hg);have GE480:=am (ge_ bl hg);replace HB:=am (below_step bl hb);clear hb hbox hg)|((with_reducible refine gate_dst (N:=3) rfl ?_);refine box_event ?hg (N:=3) ?hd (cs := #[.int .i64 a1_0,.int .i64 a1_1,.int .i64 a1_2]) (t:=55) ?hr ?_;(case hd=>rfl);(case hg=>rfl);(case hr=>first|(go_simp;done)|(go_simp;rfl));intro gb481 hg w7 hbox hb;have BK481:=am (hbox);have GW481:=am (ge_ bl hg);have GE481:=am (ge_ bl hg);replace HB:=am (below_step bl hb);have NB480_481:=am (nl (bup BK480.out) hg);have NB481_480:=am (ng (bup BK480.out) hg);replace BK480:=am (blk_below (bup BK480.out) hb);clear hb hbox hg;have hnb8:=NB480_481.out;have hnc8:=NB481_480.out;have hcz9_0:=bc BK480.out 0;have hcz9_1:=bc BK480.out 1;have hcz9_2:=bc BK480.out 2;have hfz9_0:=blk_frozen BK480.out 0;have hfz9_1:=blk_frozen BK480.out 1;have hfz9_2:=blk_frozen BK480.out 2;have hcz10_0:=bc BK481.out 0;have hcz10_1:=bc BK481.out 1;have hcz10_2:=bc BK481.out 2;have hfz10_0:=blk_frozen BK481.out 0;have hfz10_1:=blk_frozen BK481.out 1;have hfz10_2:=blk_frozen BK481.out 2))
    go_ret
    exact⟨fin1,bl⟩
   ·have c5b0:(a0_2 == a1_2)=false:=beq_eq_false_iff_ne.mpr c5
    have c5b1:(a0_2 != a1_2)=true:=bne_iff_ne.mpr c5
    obtain rfl:=Option.some.inj H
    go_enter Tryz.func30,Tryz.ntmps30
    go_wp2_with (first|((with_reducible refine gate_dst (N:=2) rfl ?_);refine box_event ?hg (N:=2) ?hd (cs := #[.int .i64 a0_0,.int .i64 a0_1,.int .i64 a0_2]) (t:=55) ?hr ?_;(case hd=>rfl);(case hg=>rfl);(case hr=>first|(go_simp;done)|(go_simp;rfl));intro gb480 hg w11 hbox hb;have BK480:=am (hbox);have GW480:=am (ge_ bl hg);have GE480:=am (ge_ bl hg);replace HB:=am (below_step bl hb);clear hb hbox hg)|((with_reducible refine gate_dst (N:=3) rfl ?_);refine box_event ?hg (N:=3) ?hd (cs := #[.int .i64 a1_0,.int .i64 a1_1,.int .i64 a1_2]) (t:=55) ?hr ?_;(case hd=>rfl);(case hg=>rfl);(case hr=>first|(go_simp;done)|(go_simp;rfl));intro gb481 hg w12 hbox hb;have BK481:=am (hbox);have GW481:=am (ge_ bl hg);have GE481:=am (ge_ bl hg);replace HB:=am (below_step bl hb);have NB480_481:=am (nl (bup BK480.out) hg);have NB481_480:=am (ng (bup BK480.out) hg);replace BK480:=am (blk_below (bup BK480.out) hb);clear hb hbox hg;have hnb13:=NB480_481.out;have hnc13:=NB481_480.out;have hcz14_0:=bc BK480.out 0;have hcz14_1:=bc BK480.out 1;have hcz14_2:=bc BK480.out 2;have hfz14_0:=blk_frozen BK480.out 0;have hfz14_1:=blk_frozen BK480.out 1;have hfz14_2:=blk_frozen BK480.out 2;have hcz15_0:=bc BK481.out 0;have hcz15_1:=bc BK481.out 1;have hcz15_2:=bc BK481.out 2;have hfz15_0:=blk_frozen BK481.out 0;have hfz15_1:=blk_frozen BK481.out 1;have hfz15_2:=blk_frozen BK481.out 2))
    go_ret
    exact⟨fin1,bl⟩
  ·have c4b0:(a0_1 == a1_1)=false:=beq_eq_false_iff_ne.mpr c4
   have c4b1:(a0_1 != a1_1)=true:=bne_iff_ne.mpr c4
   obtain rfl:=Option.some.inj H
   go_enter Tryz.func30,Tryz.ntmps30
   go_wp2_with (first|((with_reducible refine gate_dst (N:=2) rfl ?_);refine box_event ?hg (N:=2) ?hd (cs := #[.int .i64 a0_0,.int .i64 a0_1,.int .i64 a0_2]) (t:=55) ?hr ?_;(case hd=>rfl);(case hg=>rfl);(case hr=>first|(go_simp;done)|(go_simp;rfl));intro gb480 hg w16 hbox hb;have BK480:=am (hbox);have GW480:=am (ge_ bl hg);have GE480:=am (ge_ bl hg);replace HB:=am (below_step bl hb);clear hb hbox hg)|((with_reducible refine gate_dst (N:=3) rfl ?_);refine box_event ?hg (N:=3) ?hd (cs := #[.int .i64 a1_0,.int .i64 a1_1,.int .i64 a1_2]) (t:=55) ?hr ?_;(case hd=>rfl);(case hg=>rfl);(case hr=>first|(go_simp;done)|(go_simp;rfl));intro gb481 hg w17 hbox hb;have BK481:=am (hbox);have GW481:=am (ge_ bl hg);have GE481:=am (ge_ bl hg);replace HB:=am (below_step bl hb);have NB480_481:=am (nl (bup BK480.out) hg);have NB481_480:=am (ng (bup BK480.out) hg);replace BK480:=am (blk_below (bup BK480.out) hb);clear hb hbox hg;have hnb18:=NB480_481.out;have hnc18:=NB481_480.out;have hcz19_0:=bc BK480.out 0;have hcz19_1:=bc BK480.out 1;have hcz19_2:=bc BK480.out 2;have hfz19_0:=blk_frozen BK480.out 0;have hfz19_1:=blk_frozen BK480.out 1;have hfz19_2:=blk_frozen BK480.out 2;have hcz20_0:=bc BK481.out 0;have hcz20_1:=bc BK481.out 1;have hcz20_2:=bc BK481.out 2;have hfz20_0:=blk_frozen BK481.out 0;have hfz20_1:=blk_frozen BK481.out 1;have hfz20_2:=blk_frozen BK481.out 2))
   go_ret
   exact⟨fin1,bl⟩
 ·have c3b0:(a0_0 == a1_0)=false:=beq_eq_false_iff_ne.mpr c3
  have c3b1:(a0_0 != a1_0)=true:=bne_iff_ne.mpr c3
  obtain rfl:=Option.some.inj H
  go_enter Tryz.func30,Tryz.ntmps30
  go_wp2_with (first|((with_reducible refine gate_dst (N:=2) rfl ?_);refine box_event ?hg (N:=2) ?hd (cs := #[.int .i64 a0_0,.int .i64 a0_1,.int .i64 a0_2]) (t:=55) ?hr ?_;(case hd=>rfl);(case hg=>rfl);(case hr=>first|(go_simp;done)|(go_simp;rfl));intro gb480 hg w21 hbox hb;have BK480:=am (hbox);have GW480:=am (ge_ bl hg);have GE480:=am (ge_ bl hg);replace HB:=am (below_step bl hb);clear hb hbox hg)|((with_reducible refine gate_dst (N:=3) rfl ?_);refine box_event ?hg (N:=3) ?hd (cs := #[.int .i64 a1_0,.int .i64 a1_1,.int .i64 a1_2]) (t:=55) ?hr ?_;(case hd=>rfl);(case hg=>rfl);(case hr=>first|(go_simp;done)|(go_simp;rfl));intro gb481 hg w22 hbox hb;have BK481:=am (hbox);have GW481:=am (ge_ bl hg);have GE481:=am (ge_ bl hg);replace HB:=am (below_step bl hb);have NB480_481:=am (nl (bup BK480.out) hg);have NB481_480:=am (ng (bup BK480.out) hg);replace BK480:=am (blk_below (bup BK480.out) hb);clear hb hbox hg;have hnb23:=NB480_481.out;have hnc23:=NB481_480.out;have hcz24_0:=bc BK480.out 0;have hcz24_1:=bc BK480.out 1;have hcz24_2:=bc BK480.out 2;have hfz24_0:=blk_frozen BK480.out 0;have hfz24_1:=blk_frozen BK480.out 1;have hfz24_2:=blk_frozen BK480.out 2;have hcz25_0:=bc BK481.out 0;have hcz25_1:=bc BK481.out 1;have hcz25_2:=bc BK481.out 2;have hfz25_0:=blk_frozen BK481.out 0;have hfz25_1:=blk_frozen BK481.out 1;have hfz25_2:=blk_frozen BK481.out 2))
  go_ret
  exact⟨fin1,bl⟩

end Go.Proofs.YtipklbjbgbbgpaaGreat.PFnExactShiftToPass
