/- The walks of functions that FnDrums reaches: what they return is what the plain functions of the same names say. Made by a program of this session after the kit's print. No conditions beyond the arguments' being read. -/
import Derived.Test.YtlhjjpdlfddflacSFnDrums0
import Derived.Test.YtlhjjpdlfddflacSFnDrums3
import Derived.Test.YtlhjjpdlfddflacSFnDrums5
namespace Go.Proofs.Ytlhjjpdlfddflac.PFnDrums
open Go.RowKit Go.Proofs.YtlhjjpdlfddflacW.PrintWords Go.Proofs.YtlhjjpdlfddflacW.PrintLast Go.Proofs.YtlhjjpdlfddflacW.PrintMore
attribute [local go_sem] max2_int min2_int max_two min_two max_three min_three max_four min_four   -- for this text's walks alone
set_option linter.unusedVariables false
set_option linter.unusedSimpArgs false

theorem fld_YtlhjjpdlfddflacSFnDrums6_26_0 (w' : World) (a0_ a1_ : Value) : Sem.run Try.prog (Instr.field 26 (.agg #[a0_, a1_]) 0) w' = .ok a0_ w' := by
  simp [Instr.field, Try.underlying26, asAgg, part, Try.isAgg3]
theorem fld_YtlhjjpdlfddflacSFnDrums6_26_1 (w' : World) (a0_ a1_ : Value) : Sem.run Try.prog (Instr.field 26 (.agg #[a0_, a1_]) 1) w' = .ok a1_ w' := by
  simp [Instr.field, Try.underlying26, asAgg, part, Try.isAgg24]
attribute [local go_sem] fld_YtlhjjpdlfddflacSFnDrums6_26_0 fld_YtlhjjpdlfddflacSFnDrums6_26_1
/-! ### spec_LeastTurn: function 10 -/
mutual
def spec_LeastTurn.j0:Nat→Bool→Int→List Int→Int→List Int→Option (Int×Bool)
 | 0,_,_,_,_,_=>none
 | k+1,x21,x273000,x273001,x274000,x274001=>if x21=true then(some (0,false)) else(spec_LeastTurn.l0 k 0 x273000 x273001 x274000 x274001)
def spec_LeastTurn.l0:Nat→Int→Int→List Int→Int→List Int→Option (Int×Bool)
 | 0,_,_,_,_,_=>none
 | k+1,x6,x273000,x273001,x274000,x274001=>if x6<x273000 then((spec_drTurn.f k x273000 x273001 x6).bind fun bt276=>((spec_l1Same.f k bt276.2 x274001).bind fun t280=>(if t280=true then(some (x6,true)) else(spec_LeastTurn.l0 k (wrap64 (x6+1)) x273000 x273001 x274000 x274001)))) else(some (0,false))
end
def spec_LeastTurn.f (k:Nat) (a0_0:Int) (l0_1:List Int) (a1_0:Int) (l1_1:List Int):Option (Int×Bool):=(spec_drGood.f k a0_0 l0_1).bind fun t274=>(if t274=true then((spec_drGood.f k a1_0 l1_1).bind fun t275=>(if t275=true then(spec_LeastTurn.j0 k (a0_0 != a1_0) a0_0 l0_1 a1_0 l1_1) else(spec_LeastTurn.j0 k true a0_0 l0_1 a1_0 l1_1))) else(spec_LeastTurn.j0 k true a0_0 l0_1 a1_0 l1_1))
set_option maxHeartbeats 8000000 in
set_option maxRecDepth 100000 in
theorem spec_LeastTurn.calls (k:Nat) (a0_0:Int) (A0_1:Option Addr) (c0_1:Nat) (l0_1:List Int) (a1_0:Int) (A1_1:Option Addr) (c1_1:Nat) (l1_1:List Int) (r1:Int) (r2:Bool) (w:World) (hr0_1:Kd.C (Kd.int .i64) w A0_1 l0_1.length l0_1) (hc0_1:l0_1.length≤c0_1) (hr1_1:Kd.C (Kd.int .i64) w A1_1 l1_1.length l1_1) (hc1_1:l1_1.length≤c1_1) (h:spec_LeastTurn.f k a0_0 l0_1 a1_0 l1_1=some (r1,r2)) :
  Calls Try.prog 10 #[.agg #[.int .i64 a0_0,.slice A0_1 l0_1.length c0_1],.agg #[.int .i64 a1_0,.slice A1_1 l1_1.length c1_1]] w fun e w'=>e = .returned (.tuple #[.int .i64 r1,.bool r2])∧Below w.heap.size w w':=by
 have hu26:=Try.underlying26
 have HR0_1:=am hr0_1
 have HC0_1:=am hc0_1
 clear hr0_1 hc0_1
 have HR1_1:=am hr1_1
 have HC1_1:=am hc1_1
 clear hr1_1 hc1_1
 have HB:=am (Below.refl w.heap.size w)
 have H:((spec_drGood.f k a0_0 l0_1).bind fun t274=>(if t274=true then((spec_drGood.f k a1_0 l1_1).bind fun t275=>(if t275=true then(spec_LeastTurn.j0 k (a0_0 != a1_0) a0_0 l0_1 a1_0 l1_1) else(spec_LeastTurn.j0 k true a0_0 l0_1 a1_0 l1_1))) else(spec_LeastTurn.j0 k true a0_0 l0_1 a1_0 l1_1)))=some (r1,r2):=h
 clear h
 have HC3:=am H
 clear H
 go_enter Try.func10,Try.ntmps10
 go_upto_region 1 with(first|((with_reducible refine gate_dst (N:=2) rfl ?_);refine box_event ?hg (N:=2) ?hd (cs := #[.int .i64 a0_0,.slice A0_1 l0_1.length c0_1]) (t:=26) ?hr ?_;(case hd=>rfl);(case hg=>rfl);(case hr=>first|(go_simp;done)|(go_simp;rfl));intro gb272 hg w4 hbox hb;have n0_:=am (below_step bl hb);have n1_:=am (hbox);have n2_:=am (ge_ bl hg);have n3_:=am (ge_ bl hg);clear HB;have HB:=n0_;have BK272:=n1_;have GW272:=n2_;have GE272:=n3_;clear n0_ n1_ n2_ n3_ hb hbox hg)|((with_reducible refine gate_dst (N:=3) rfl ?_);refine box_event ?hg (N:=3) ?hd (cs := #[.int .i64 a1_0,.slice A1_1 l1_1.length c1_1]) (t:=26) ?hr ?_;(case hd=>rfl);(case hg=>rfl);(case hr=>first|(go_simp;done)|(go_simp;rfl));intro gb273 hg w5 hbox hb;have n0_:=am (blk_below (bup BK272.out) hb);have n1_:=am (below_step bl hb);have n2_:=am (hbox);have n3_:=am (ge_ bl hg);have n4_:=am (ge_ bl hg);have n5_:=am (nl (bup BK272.out) hg);have n6_:=am (ng (bup BK272.out) hg);clear BK272 HB;have BK272:=n0_;have HB:=n1_;have BK273:=n2_;have GW273:=n3_;have GE273:=n4_;have NB272_273:=n5_;have NB273_272:=n6_;clear n0_ n1_ n2_ n3_ n4_ n5_ n6_ hb hbox hg))
 (try simp only[Act.put,List.setIfInBounds_toArray,List.set_cons_zero,List.set_cons_succ])
 go_cut [21] (fun v21 wc=>∃(kq:Nat) (x21_2:Bool),v21 = .bool x21_2∧Aside0 (spec_LeastTurn.j0 kq x21_2 a0_0 l0_1 a1_0 l1_1=some (r1,r2))∧Aside0 (kq≤k)∧Aside0 (wc.heap[gb272]?=some (.cells #[.int .i64 a0_0,(.slice A0_1 l0_1.length c0_1)] 26 (0,0)))∧Aside0 (wc.heap[gb273]?=some (.cells #[.int .i64 a1_0,(.slice A1_1 l1_1.length c1_1)] 26 (0,0)))∧Aside0 (Below w.heap.size w wc))
 case first =>
  have H:=HC3.out
  clear HC3
  replace H:=Option.bind_eq_some_iff.mp H
  obtain⟨t274,A60,H⟩:=H
  replace H:(if t274=true then((spec_drGood.f k a1_0 l1_1).bind fun t275=>(if t275=true then(spec_LeastTurn.j0 k (a0_0 != a1_0) a0_0 l0_1 a1_0 l1_1) else(spec_LeastTurn.j0 k true a0_0 l0_1 a1_0 l1_1))) else(spec_LeastTurn.j0 k true a0_0 l0_1 a1_0 l1_1))=some (r1,r2):=H
  have A6:=am A60
  clear A60
  by_cases c7:t274=true
  ·subst c7
   have H1:((spec_drGood.f k a1_0 l1_1).bind fun t275=>(if t275=true then(spec_LeastTurn.j0 k (a0_0 != a1_0) a0_0 l0_1 a1_0 l1_1) else(spec_LeastTurn.j0 k true a0_0 l0_1 a1_0 l1_1)))=some (r1,r2):=by rw[if_pos rfl] at H;exact H
   clear H
   have H:=H1
   clear H1
   replace H:=Option.bind_eq_some_iff.mp H
   obtain⟨t275,A80,H⟩:=H
   replace H:(if t275=true then(spec_LeastTurn.j0 k (a0_0 != a1_0) a0_0 l0_1 a1_0 l1_1) else(spec_LeastTurn.j0 k true a0_0 l0_1 a1_0 l1_1))=some (r1,r2):=H
   have A8:=am A80
   clear A80
   by_cases c9:t275=true
   ·subst c9
    have H1:(spec_LeastTurn.j0 k (a0_0 != a1_0) a0_0 l0_1 a1_0 l1_1)=some (r1,r2):=by rw[if_pos rfl] at H;exact H
    clear H
    have H:=H1
    clear H1
    have H':=am H
    clear H
    have hnb10:=NB272_273.out
    have hnc10:=NB273_272.out
    have hcz11_0:w5.cell? ⟨gb272,0,none⟩=some (.int .i64 a0_0):=(blk_cell BK272.out 0).trans rfl
    have hcz11_1:w5.cell? ⟨gb272,1,none⟩=some (.slice A0_1 l0_1.length c0_1):=(blk_cell BK272.out 1).trans rfl
    have hfz11_0:=blk_frozen BK272.out 0
    have hfz11_1:=blk_frozen BK272.out 1
    go_wp2_with (first|((with_reducible refine gate_callee (f:=24) rfl ?_);refine goesL_ (some 8) rfl rfl Try.func24 (by kernel_rfl) rfl #[.agg #[.int .i64 a0_0,.slice A0_1 l0_1.length c0_1]] rfl tl ?_;(with_reducible refine(spec_drGood.calls k a0_0 _ _ l0_1 true _ ?side1 ?side2 A6.out).mono ?_);(case side1=>exact cup (Kd.C_below HR0_1.out HB.out));(case side2=>exact HC0_1.out);rintro e w12 ⟨rfl,hb⟩;refine⟨_,rfl,?_⟩;have n0_:=am (blk_below (bup BK272.out) hb);have n1_:=am (blk_below (bup BK273.out) hb);have n2_:=am (below_step bl hb);clear BK272 BK273 HB;have BK272:=n0_;have BK273:=n1_;have HB:=n2_;clear n0_ n1_ n2_;(try clear hb);(try clear hb2);(try clear hk);(try clear hi);have hcz13_0:w12.cell? ⟨gb273,0,none⟩=some (.int .i64 a1_0):=(blk_cell BK273.out 0).trans rfl;have hcz13_1:w12.cell? ⟨gb273,1,none⟩=some (.slice A1_1 l1_1.length c1_1):=(blk_cell BK273.out 1).trans rfl;have hfz13_0:=blk_frozen BK273.out 0;have hfz13_1:=blk_frozen BK273.out 1)|(go_at_call 24;(with_reducible refine(spec_drGood.calls k a1_0 _ _ l1_1 true _ ?side1 ?side2 A8.out).mono ?_);(case side1=>exact cup (Kd.C_below HR1_1.out HB.out));(case side2=>exact HC1_1.out);rintro e w14 ⟨rfl,hb⟩;have n0_:=am (blk_below (bup BK272.out) hb);have n1_:=am (blk_below (bup BK273.out) hb);have n2_:=am (below_step bl hb);clear BK272 BK273 HB;have BK272:=n0_;have BK273:=n1_;have HB:=n2_;clear n0_ n1_ n2_;(try clear hb);(try clear hb2);(try clear hk);(try clear hi);have hcz15_0:w14.cell? ⟨gb272,0,none⟩=some (.int .i64 a0_0):=(blk_cell BK272.out 0).trans rfl;have hcz15_1:w14.cell? ⟨gb272,1,none⟩=some (.slice A0_1 l0_1.length c0_1):=(blk_cell BK272.out 1).trans rfl;have hfz15_0:=blk_frozen BK272.out 0;have hfz15_1:=blk_frozen BK272.out 1;have hcz16_0:w14.cell? ⟨gb273,0,none⟩=some (.int .i64 a1_0):=(blk_cell BK273.out 0).trans rfl;have hcz16_1:w14.cell? ⟨gb273,1,none⟩=some (.slice A1_1 l1_1.length c1_1):=(blk_cell BK273.out 1).trans rfl;have hfz16_0:=blk_frozen BK273.out 0;have hfz16_1:=blk_frozen BK273.out 1))
    go_meet
    case rel=>exact⟨_,((a0_0 != a1_0)),fin2,H',⟨by first|omega|exact Nat.le_refl _⟩,⟨bup BK272.out⟩,⟨bup BK273.out⟩,⟨bl⟩⟩
   ·replace c9:=Bool.eq_false_iff.mpr c9
    subst c9
    have H1:(spec_LeastTurn.j0 k true a0_0 l0_1 a1_0 l1_1)=some (r1,r2):=by rw[if_neg (show ¬ (false=true) by decide)] at H;exact H
    clear H
    have H:=H1
    clear H1
    have H':=am H
    clear H
    have hnb17:=NB272_273.out
    have hnc17:=NB273_272.out
    have hcz18_0:w5.cell? ⟨gb272,0,none⟩=some (.int .i64 a0_0):=(blk_cell BK272.out 0).trans rfl
    have hcz18_1:w5.cell? ⟨gb272,1,none⟩=some (.slice A0_1 l0_1.length c0_1):=(blk_cell BK272.out 1).trans rfl
    have hfz18_0:=blk_frozen BK272.out 0
    have hfz18_1:=blk_frozen BK272.out 1
    go_wp2_with (first|((with_reducible refine gate_callee (f:=24) rfl ?_);refine goesL_ (some 8) rfl rfl Try.func24 (by kernel_rfl) rfl #[.agg #[.int .i64 a0_0,.slice A0_1 l0_1.length c0_1]] rfl tl ?_;(with_reducible refine(spec_drGood.calls k a0_0 _ _ l0_1 true _ ?side1 ?side2 A6.out).mono ?_);(case side1=>exact cup (Kd.C_below HR0_1.out HB.out));(case side2=>exact HC0_1.out);rintro e w19 ⟨rfl,hb⟩;refine⟨_,rfl,?_⟩;have n0_:=am (blk_below (bup BK272.out) hb);have n1_:=am (blk_below (bup BK273.out) hb);have n2_:=am (below_step bl hb);clear BK272 BK273 HB;have BK272:=n0_;have BK273:=n1_;have HB:=n2_;clear n0_ n1_ n2_;(try clear hb);(try clear hb2);(try clear hk);(try clear hi);have hcz20_0:w19.cell? ⟨gb273,0,none⟩=some (.int .i64 a1_0):=(blk_cell BK273.out 0).trans rfl;have hcz20_1:w19.cell? ⟨gb273,1,none⟩=some (.slice A1_1 l1_1.length c1_1):=(blk_cell BK273.out 1).trans rfl;have hfz20_0:=blk_frozen BK273.out 0;have hfz20_1:=blk_frozen BK273.out 1)|(go_at_call 24;(with_reducible refine(spec_drGood.calls k a1_0 _ _ l1_1 false _ ?side1 ?side2 A8.out).mono ?_);(case side1=>exact cup (Kd.C_below HR1_1.out HB.out));(case side2=>exact HC1_1.out);rintro e w21 ⟨rfl,hb⟩;have n0_:=am (blk_below (bup BK272.out) hb);have n1_:=am (blk_below (bup BK273.out) hb);have n2_:=am (below_step bl hb);clear BK272 BK273 HB;have BK272:=n0_;have BK273:=n1_;have HB:=n2_;clear n0_ n1_ n2_;(try clear hb);(try clear hb2);(try clear hk);(try clear hi)))
    go_meet
    case rel=>exact⟨_,(true),fin2,H',⟨by first|omega|exact Nat.le_refl _⟩,⟨bup BK272.out⟩,⟨bup BK273.out⟩,⟨bl⟩⟩
  ·replace c7:=Bool.eq_false_iff.mpr c7
   subst c7
   have H1:(spec_LeastTurn.j0 k true a0_0 l0_1 a1_0 l1_1)=some (r1,r2):=by rw[if_neg (show ¬ (false=true) by decide)] at H;exact H
   clear H
   have H:=H1
   clear H1
   have H':=am H
   clear H
   have hnb22:=NB272_273.out
   have hnc22:=NB273_272.out
   have hcz23_0:w5.cell? ⟨gb272,0,none⟩=some (.int .i64 a0_0):=(blk_cell BK272.out 0).trans rfl
   have hcz23_1:w5.cell? ⟨gb272,1,none⟩=some (.slice A0_1 l0_1.length c0_1):=(blk_cell BK272.out 1).trans rfl
   have hfz23_0:=blk_frozen BK272.out 0
   have hfz23_1:=blk_frozen BK272.out 1
   go_wp2_with (first|((with_reducible refine gate_callee (f:=24) rfl ?_);refine goesL_ (some 8) rfl rfl Try.func24 (by kernel_rfl) rfl #[.agg #[.int .i64 a0_0,.slice A0_1 l0_1.length c0_1]] rfl tl ?_;(with_reducible refine(spec_drGood.calls k a0_0 _ _ l0_1 false _ ?side1 ?side2 A6.out).mono ?_);(case side1=>exact cup (Kd.C_below HR0_1.out HB.out));(case side2=>exact HC0_1.out);rintro e w24 ⟨rfl,hb⟩;refine⟨_,rfl,?_⟩;have n0_:=am (blk_below (bup BK272.out) hb);have n1_:=am (blk_below (bup BK273.out) hb);have n2_:=am (below_step bl hb);clear BK272 BK273 HB;have BK272:=n0_;have BK273:=n1_;have HB:=n2_;clear n0_ n1_ n2_;(try clear hb);(try clear hb2);(try clear hk);(try clear hi)))
   go_meet
   case rel=>exact⟨_,(true),fin2,H',⟨by first|omega|exact Nat.le_refl _⟩,⟨bup BK272.out⟩,⟨bup BK273.out⟩,⟨bl⟩⟩
 case rest =>
  clear HC3
  try clear c1
  try clear c2
  try clear p2
  try clear c7
  try clear c9
  try clear c10
  try clear c17
  try clear c22
  try clear c24
  try clear hcz11_0
  try clear hcz11_1
  try clear hcz13_0
  try clear hcz13_1
  try clear hcz15_0
  try clear hcz15_1
  try clear hcz16_0
  try clear hcz16_1
  try clear hcz18_0
  try clear hcz18_1
  try clear hcz20_0
  try clear hcz20_1
  try clear hcz23_0
  try clear hcz23_1
  try clear hfz11_0
  try clear hfz11_1
  try clear hfz13_0
  try clear hfz13_1
  try clear hfz15_0
  try clear hfz15_1
  try clear hfz16_0
  try clear hfz16_1
  try clear hfz18_0
  try clear hfz18_1
  try clear hfz20_0
  try clear hfz20_1
  try clear hfz23_0
  try clear hfz23_1
  obtain⟨kq,x21_2,rfl,HA,HJ2,BK272,BK273,HB⟩:=hcut
  cases kq with
  | zero=>exact absurd HA.out (by simp [spec_LeastTurn.j0])
  | succ kj2 =>
   have H:=HA.out
   clear HA
   simp only[spec_LeastTurn.j0] at H
   by_cases c25:x21_2=true
   ·subst c25
    have H1:(some (0,false))=some (r1,r2):=by rw[if_pos rfl] at H;exact H
    clear H
    have H:=H1
    clear H1
    simp only[Option.some.injEq,Prod.mk.injEq] at H
    obtain⟨rfl,rfl⟩:=H
    go_wp2
    go_ret2
    exact⟨fin1,bl⟩
   ·replace c25:=Bool.eq_false_iff.mpr c25
    subst c25
    have H1:(spec_LeastTurn.l0 kj2 0 a0_0 l0_1 a1_0 l1_1)=some (r1,r2):=by rw[if_neg (show ¬ (false=true) by decide)] at H;exact H
    clear H
    have H:=H1
    clear H1
    have H':=am H
    clear H
    go_wp2
    go_loopg [6] kj2 (fun kq v6 w'=>∃(x6_2:Int),v6 = .int .i64 x6_2∧Aside0 (spec_LeastTurn.l0 kq x6_2 a0_0 l0_1 a1_0 l1_1=some (r1,r2))∧Aside0 (kq≤kj2)∧Aside0 (w'.heap[gb272]?=some (.cells #[.int .i64 a0_0,(.slice A0_1 l0_1.length c0_1)] 26 (0,0)))∧Aside0 (w'.heap[gb273]?=some (.cells #[.int .i64 a1_0,(.slice A1_1 l1_1.length c1_1)] 26 (0,0)))∧Aside0 (Below w.heap.size w w'))
    case atStart=>exact⟨(0),fin2,H',⟨Nat.le_refl _⟩,⟨bup BK272.out⟩,⟨bup BK273.out⟩,⟨bl⟩⟩
    case round =>
     clear H'
     try clear c1
     try clear c2
     try clear p2
     try clear c7
     try clear c9
     try clear c10
     try clear c17
     try clear c22
     try clear c24
     try clear c25
     try clear hcz11_0
     try clear hcz11_1
     try clear hcz13_0
     try clear hcz13_1
     try clear hcz15_0
     try clear hcz15_1
     try clear hcz16_0
     try clear hcz16_1
     try clear hcz18_0
     try clear hcz18_1
     try clear hcz20_0
     try clear hcz20_1
     try clear hcz23_0
     try clear hcz23_1
     try clear hfz11_0
     try clear hfz11_1
     try clear hfz13_0
     try clear hfz13_1
     try clear hfz15_0
     try clear hfz15_1
     try clear hfz16_0
     try clear hfz16_1
     try clear hfz18_0
     try clear hfz18_1
     try clear hfz20_0
     try clear hfz20_1
     try clear hfz23_0
     try clear hfz23_1
     try clear p2
     obtain⟨x6_2,rfl,HA,HK2,BK272,BK273,HB⟩:=hrel
     cases gk with
     | zero=>exact absurd HA.out (by simp [spec_LeastTurn.l0])
     | succ k2 =>
      have H:=HA.out
      clear HA
      simp only[spec_LeastTurn.l0] at H
      by_cases c26:x6_2<a0_0
      ·rw[if_pos c26] at H
       have c26b0:decide (x6_2<a0_0)=true:=decide_eq_true c26
       clear c26
       replace H:=Option.bind_eq_some_iff.mp H
       obtain⟨⟨t276,t277⟩,A270,H⟩:=H
       replace H:((spec_l1Same.f k2 t277 l1_1).bind fun t280=>(if t280=true then(some (x6_2,true)) else(spec_LeastTurn.l0 k2 (wrap64 (x6_2+1)) a0_0 l0_1 a1_0 l1_1)))=some (r1,r2):=H
       have A27:=am A270
       clear A270
       replace H:=Option.bind_eq_some_iff.mp H
       obtain⟨t280,A280,H⟩:=H
       replace H:(if t280=true then(some (x6_2,true)) else(spec_LeastTurn.l0 k2 (wrap64 (x6_2+1)) a0_0 l0_1 a1_0 l1_1))=some (r1,r2):=H
       have A28:=am A280
       clear A280
       by_cases c29:t280=true
       ·subst c29
        have H1:(some (x6_2,true))=some (r1,r2):=by rw[if_pos rfl] at H;exact H
        clear H
        have H:=H1
        clear H1
        simp only[Option.some.injEq,Prod.mk.injEq] at H
        obtain⟨rfl,rfl⟩:=H
        have hnb30:=NB272_273.out
        have hnc30:=NB273_272.out
        have hcz31_0:wr.cell? ⟨gb272,0,none⟩=some (.int .i64 a0_0):=(blk_cell BK272.out 0).trans rfl
        have hcz31_1:wr.cell? ⟨gb272,1,none⟩=some (.slice A0_1 l0_1.length c0_1):=(blk_cell BK272.out 1).trans rfl
        have hfz31_0:=blk_frozen BK272.out 0
        have hfz31_1:=blk_frozen BK272.out 1
        try go_wp2
        have n0_:=am (bD_ BK272.out)
        have n1_:=am (bD_ BK273.out)
        have n2_:=am (below_drew1 HB.out)
        clear BK272
        clear BK273
        clear HB
        have BK272:=n0_
        have BK273:=n1_
        have HB:=n2_
        clear n0_ n1_ n2_
        refine start_ (n:=7) (S:=fun w'=>w'.cell? ⟨gb272,0,none⟩=some (.int .i64 a0_0)∧w'.cell? ⟨gb272,1,none⟩=some (.slice A0_1 l0_1.length c0_1)∧w'.cell? ⟨gb273,0,none⟩=some (.int .i64 a1_0)∧w'.cell? ⟨gb273,1,none⟩=some (.slice A1_1 l1_1.length c1_1)) (ds:=[]) #[false,false,false,false,false,false,false] (by kernel_rfl) rfl rfl ⟨(blk_cell BK272.out 0).trans rfl,(blk_cell BK272.out 1).trans rfl,(blk_cell BK273.out 0).trans rfl,(blk_cell BK273.out 1).trans rfl⟩ (fun hHeld=>?_)
        generalize wr.drew=w32 at BK272 BK273 HB hHeld ⊢
        refine pure_ (i:=1) (N:=some 29) (v:=?_) (a':=?_) #[false,true,false,false,false,false,false] rfl rfl (by kernel_rfl) (fun _ _ _ h=>h) (Or.inl ⟨by rfl,?_⟩) ?_ ?_
        rotate_left
        ·intro w'
         go_simp
         with_reducible rfl
        rotate_left
        ·simp only[Act.put,List.setIfInBounds_toArray,List.set_cons_zero,List.set_cons_succ,i64_w,i32_w]
         rfl
        refine pure_ (i:=4) (N:=some 32) (v:=?_) (a':=?_) #[false,true,false,false,true,false,false] rfl rfl (by kernel_rfl) (fun _ _ _ h=>h) (Or.inl ⟨by rfl,?_⟩) ?_ ?_
        rotate_left
        ·intro w'
         go_simp
         with_reducible rfl
        rotate_left
        ·simp only[Act.put,List.setIfInBounds_toArray,List.set_cons_zero,List.set_cons_succ,i64_w,i32_w]
         rfl
        refine take_ (i:=0) (N:=some 28) (v:=?_) (a':=?_) #[true,true,false,false,true,false,false] rfl rfl (by kernel_rfl) (fun _ _ _ h=>h) (Or.inl ⟨by rfl,?_⟩) hHeld ?_ ?_
        rotate_left
        ·rintro w' ⟨s0,s1,s2,s3⟩
         go_simp
         with_reducible rfl
        rotate_left
        ·simp only[Act.put,List.setIfInBounds_toArray,List.set_cons_zero,List.set_cons_succ,i64_w,i32_w]
         rfl
        refine take_ (i:=5) (N:=some 33) (v:=?_) (a':=?_) #[true,true,false,false,true,true,false] rfl rfl (by kernel_rfl) (fun _ _ _ h=>h) (Or.inl ⟨by rfl,?_⟩) hHeld ?_ ?_
        rotate_left
        ·rintro w' ⟨s0,s1,s2,s3⟩
         go_simp
         with_reducible rfl
        rotate_left
        ·simp only[Act.put,List.setIfInBounds_toArray,List.set_cons_zero,List.set_cons_succ,i64_w,i32_w]
         rfl
        refine one_ (i:=2) (N:=some 30) #[true,true,true,false,true,true,false] rfl rfl (by kernel_rfl) (by decide) (fun K hK=>?_)
        refine goes_ Try.func26 (by kernel_rfl) rfl #[.agg #[.int .i64 a0_0,.slice A0_1 l0_1.length c0_1],.int .i64 x6_2] (by rfl) rfl rfl tl ?_
        with_reducible refine(spec_drTurn.calls k2 a0_0 _ _ l0_1 x6_2 t276 t277 _ ?side1 ?side2 A27.out).mono ?_
        (case side1=>exact cup (Kd.C_below HR0_1.out HB.out))
        (case side2=>exact HC0_1.out)
        rintro e w33 ⟨v278,rfl,ho0,hb⟩
        refine⟨_,rfl,?_⟩
        have n0_:=am (Kd.R_lower ho0 (below_size bl))
        have n1_:=am (blk_below (bup BK272.out) hb)
        have n2_:=am (blk_below (bup BK273.out) hb)
        have n3_:=am (below_step bl hb)
        clear BK272
        clear BK273
        clear HB
        have HO279:=n0_
        have BK272:=n1_
        have BK273:=n2_
        have HB:=n3_
        clear n0_ n1_ n2_ n3_
        (try clear hb)
        (try clear hb2)
        (try clear hk)
        (try clear hi)
        (try clear ho0)
        obtain⟨Ao34,co34,eo34⟩:=Kd.R_slice HO279.out
        (first|subst eo34|(injection eo34 with f1_ f2_ f3_;have f4_:=f1_.symm;have f5_:=f3_.symm;clear f1_ f2_ f3_;subst f4_;subst f5_))
        refine hK.out _ _ ⟨(blk_cell BK272.out 0).trans rfl,(blk_cell BK272.out 1).trans rfl,(blk_cell BK273.out 0).trans rfl,(blk_cell BK273.out 1).trans rfl⟩ (fun hHeld=>?_)
        clear hK K
        refine norm_ (a':=?_) ?_ ?_
        rotate_left
        ·show Act.put _ (some 30) _=_
         simp only[Act.put,List.setIfInBounds_toArray,List.set_cons_zero,List.set_cons_succ,i64_w,i32_w]
         rfl
        refine pure_ (i:=3) (N:=some 31) (v:=?_) (a':=?_) #[true,true,true,true,true,true,false] rfl rfl (by kernel_rfl) (fun _ _ _ h=>h) (Or.inl ⟨by rfl,?_⟩) ?_ ?_
        rotate_left
        ·intro w'
         go_simp
         with_reducible rfl
        rotate_left
        ·simp only[Act.put,List.setIfInBounds_toArray,List.set_cons_zero,List.set_cons_succ,i64_w,i32_w]
         rfl
        refine one_ (i:=6) (N:=some 34) #[true,true,true,true,true,true,true] rfl rfl (by kernel_rfl) (by decide) (fun K hK=>?_)
        refine goes_ Try.func29 (by kernel_rfl) rfl #[.slice Ao34 t277.length co34,.slice A1_1 l1_1.length c1_1] (by rfl) rfl rfl tl ?_
        with_reducible refine(spec_l1Same.calls k2 _ _ t277 _ _ l1_1 true _ ?side1 ?side2 ?side3 ?side4 A28.out).mono ?_
        (case side1=>repeat(first|exact(Kd.R_reads' HO279.out).2.2|(with_reducible refine Kd.C_alloc ?_ _)|(with_reducible refine Kd.C_drewN ?_ _)|(with_reducible refine Kd.C_drew ?_)))
        (case side2=>exact(Kd.R_reads' HO279.out).2.1)
        (case side3=>exact cup (Kd.C_below HR1_1.out HB.out))
        (case side4=>exact HC1_1.out)
        rintro e w' ⟨rfl,⟨nd,rfl⟩⟩
        refine⟨_,rfl,?_⟩
        refine hK.out _ _ ⟨(blk_cell BK272.out 0).trans rfl,(blk_cell BK272.out 1).trans rfl,(blk_cell BK273.out 0).trans rfl,(blk_cell BK273.out 1).trans rfl⟩ (fun hHeld=>?_)
        clear hK K
        refine norm_ (a':=?_) ?_ ?_
        rotate_left
        ·show Act.put _ (some 34) _=_
         simp only[Act.put,List.setIfInBounds_toArray,List.set_cons_zero,List.set_cons_succ,i64_w,i32_w]
         rfl
        refine done_ (by kernel_rfl) ?_
        try go_wp2
        go_ret2
        exact⟨fin1,bl⟩
       ·replace c29:=Bool.eq_false_iff.mpr c29
        subst c29
        have H1:(spec_LeastTurn.l0 k2 (wrap64 (x6_2+1)) a0_0 l0_1 a1_0 l1_1)=some (r1,r2):=by rw[if_neg (show ¬ (false=true) by decide)] at H;exact H
        clear H
        have H:=H1
        clear H1
        have H':=am H
        clear H
        have hnb35:=NB272_273.out
        have hnc35:=NB273_272.out
        have hcz36_0:wr.cell? ⟨gb272,0,none⟩=some (.int .i64 a0_0):=(blk_cell BK272.out 0).trans rfl
        have hcz36_1:wr.cell? ⟨gb272,1,none⟩=some (.slice A0_1 l0_1.length c0_1):=(blk_cell BK272.out 1).trans rfl
        have hfz36_0:=blk_frozen BK272.out 0
        have hfz36_1:=blk_frozen BK272.out 1
        try go_wp2
        have n0_:=am (bD_ BK272.out)
        have n1_:=am (bD_ BK273.out)
        have n2_:=am (below_drew1 HB.out)
        clear BK272
        clear BK273
        clear HB
        have BK272:=n0_
        have BK273:=n1_
        have HB:=n2_
        clear n0_ n1_ n2_
        refine start_ (n:=7) (S:=fun w'=>w'.cell? ⟨gb272,0,none⟩=some (.int .i64 a0_0)∧w'.cell? ⟨gb272,1,none⟩=some (.slice A0_1 l0_1.length c0_1)∧w'.cell? ⟨gb273,0,none⟩=some (.int .i64 a1_0)∧w'.cell? ⟨gb273,1,none⟩=some (.slice A1_1 l1_1.length c1_1)) (ds:=[]) #[false,false,false,false,false,false,false] (by kernel_rfl) rfl rfl ⟨(blk_cell BK272.out 0).trans rfl,(blk_cell BK272.out 1).trans rfl,(blk_cell BK273.out 0).trans rfl,(blk_cell BK273.out 1).trans rfl⟩ (fun hHeld=>?_)
        generalize wr.drew=w37 at BK272 BK273 HB hHeld ⊢
        refine pure_ (i:=1) (N:=some 29) (v:=?_) (a':=?_) #[false,true,false,false,false,false,false] rfl rfl (by kernel_rfl) (fun _ _ _ h=>h) (Or.inl ⟨by rfl,?_⟩) ?_ ?_
        rotate_left
        ·intro w'
         go_simp
         with_reducible rfl
        rotate_left
        ·simp only[Act.put,List.setIfInBounds_toArray,List.set_cons_zero,List.set_cons_succ,i64_w,i32_w]
         rfl
        refine pure_ (i:=4) (N:=some 32) (v:=?_) (a':=?_) #[false,true,false,false,true,false,false] rfl rfl (by kernel_rfl) (fun _ _ _ h=>h) (Or.inl ⟨by rfl,?_⟩) ?_ ?_
        rotate_left
        ·intro w'
         go_simp
         with_reducible rfl
        rotate_left
        ·simp only[Act.put,List.setIfInBounds_toArray,List.set_cons_zero,List.set_cons_succ,i64_w,i32_w]
         rfl
        refine take_ (i:=0) (N:=some 28) (v:=?_) (a':=?_) #[true,true,false,false,true,false,false] rfl rfl (by kernel_rfl) (fun _ _ _ h=>h) (Or.inl ⟨by rfl,?_⟩) hHeld ?_ ?_
        rotate_left
        ·rintro w' ⟨s0,s1,s2,s3⟩
         go_simp
         with_reducible rfl
        rotate_left
        ·simp only[Act.put,List.setIfInBounds_toArray,List.set_cons_zero,List.set_cons_succ,i64_w,i32_w]
         rfl
        refine take_ (i:=5) (N:=some 33) (v:=?_) (a':=?_) #[true,true,false,false,true,true,false] rfl rfl (by kernel_rfl) (fun _ _ _ h=>h) (Or.inl ⟨by rfl,?_⟩) hHeld ?_ ?_
        rotate_left
        ·rintro w' ⟨s0,s1,s2,s3⟩
         go_simp
         with_reducible rfl
        rotate_left
        ·simp only[Act.put,List.setIfInBounds_toArray,List.set_cons_zero,List.set_cons_succ,i64_w,i32_w]
         rfl
        refine one_ (i:=2) (N:=some 30) #[true,true,true,false,true,true,false] rfl rfl (by kernel_rfl) (by decide) (fun K hK=>?_)
        refine goes_ Try.func26 (by kernel_rfl) rfl #[.agg #[.int .i64 a0_0,.slice A0_1 l0_1.length c0_1],.int .i64 x6_2] (by rfl) rfl rfl tl ?_
        with_reducible refine(spec_drTurn.calls k2 a0_0 _ _ l0_1 x6_2 t276 t277 _ ?side1 ?side2 A27.out).mono ?_
        (case side1=>exact cup (Kd.C_below HR0_1.out HB.out))
        (case side2=>exact HC0_1.out)
        rintro e w38 ⟨v278,rfl,ho0,hb⟩
        refine⟨_,rfl,?_⟩
        have n0_:=am (Kd.R_lower ho0 (below_size bl))
        have n1_:=am (blk_below (bup BK272.out) hb)
        have n2_:=am (blk_below (bup BK273.out) hb)
        have n3_:=am (below_step bl hb)
        clear BK272
        clear BK273
        clear HB
        have HO279:=n0_
        have BK272:=n1_
        have BK273:=n2_
        have HB:=n3_
        clear n0_ n1_ n2_ n3_
        (try clear hb)
        (try clear hb2)
        (try clear hk)
        (try clear hi)
        (try clear ho0)
        obtain⟨Ao39,co39,eo39⟩:=Kd.R_slice HO279.out
        (first|subst eo39|(injection eo39 with f1_ f2_ f3_;have f4_:=f1_.symm;have f5_:=f3_.symm;clear f1_ f2_ f3_;subst f4_;subst f5_))
        refine hK.out _ _ ⟨(blk_cell BK272.out 0).trans rfl,(blk_cell BK272.out 1).trans rfl,(blk_cell BK273.out 0).trans rfl,(blk_cell BK273.out 1).trans rfl⟩ (fun hHeld=>?_)
        clear hK K
        refine norm_ (a':=?_) ?_ ?_
        rotate_left
        ·show Act.put _ (some 30) _=_
         simp only[Act.put,List.setIfInBounds_toArray,List.set_cons_zero,List.set_cons_succ,i64_w,i32_w]
         rfl
        refine pure_ (i:=3) (N:=some 31) (v:=?_) (a':=?_) #[true,true,true,true,true,true,false] rfl rfl (by kernel_rfl) (fun _ _ _ h=>h) (Or.inl ⟨by rfl,?_⟩) ?_ ?_
        rotate_left
        ·intro w'
         go_simp
         with_reducible rfl
        rotate_left
        ·simp only[Act.put,List.setIfInBounds_toArray,List.set_cons_zero,List.set_cons_succ,i64_w,i32_w]
         rfl
        refine one_ (i:=6) (N:=some 34) #[true,true,true,true,true,true,true] rfl rfl (by kernel_rfl) (by decide) (fun K hK=>?_)
        refine goes_ Try.func29 (by kernel_rfl) rfl #[.slice Ao39 t277.length co39,.slice A1_1 l1_1.length c1_1] (by rfl) rfl rfl tl ?_
        with_reducible refine(spec_l1Same.calls k2 _ _ t277 _ _ l1_1 false _ ?side1 ?side2 ?side3 ?side4 A28.out).mono ?_
        (case side1=>repeat(first|exact(Kd.R_reads' HO279.out).2.2|(with_reducible refine Kd.C_alloc ?_ _)|(with_reducible refine Kd.C_drewN ?_ _)|(with_reducible refine Kd.C_drew ?_)))
        (case side2=>exact(Kd.R_reads' HO279.out).2.1)
        (case side3=>exact cup (Kd.C_below HR1_1.out HB.out))
        (case side4=>exact HC1_1.out)
        rintro e w' ⟨rfl,⟨nd,rfl⟩⟩
        refine⟨_,rfl,?_⟩
        refine hK.out _ _ ⟨(blk_cell BK272.out 0).trans rfl,(blk_cell BK272.out 1).trans rfl,(blk_cell BK273.out 0).trans rfl,(blk_cell BK273.out 1).trans rfl⟩ (fun hHeld=>?_)
        clear hK K
        refine norm_ (a':=?_) ?_ ?_
        rotate_left
        ·show Act.put _ (some 34) _=_
         simp only[Act.put,List.setIfInBounds_toArray,List.set_cons_zero,List.set_cons_succ,i64_w,i32_w]
         rfl
        refine done_ (by kernel_rfl) ?_
        try go_wp2
        go_roundg k2
        case measure=>have:=HJ2.out;have:=HK2.out;omega
        case rel=>exact⟨(wrap64 (x6_2+1)),fin2,H',⟨by have:=HJ2.out;have:=HK2.out;omega⟩,⟨bup BK272.out⟩,⟨bup BK273.out⟩,⟨bl⟩⟩
      ·rw[if_neg c26] at H
       have c26b0:decide (x6_2<a0_0)=false:=decide_eq_false c26
       clear c26
       simp only[Option.some.injEq,Prod.mk.injEq] at H
       obtain⟨rfl,rfl⟩:=H
       have hnb40:=NB272_273.out
       have hnc40:=NB273_272.out
       have hcz41_0:wr.cell? ⟨gb272,0,none⟩=some (.int .i64 a0_0):=(blk_cell BK272.out 0).trans rfl
       have hcz41_1:wr.cell? ⟨gb272,1,none⟩=some (.slice A0_1 l0_1.length c0_1):=(blk_cell BK272.out 1).trans rfl
       have hfz41_0:=blk_frozen BK272.out 0
       have hfz41_1:=blk_frozen BK272.out 1
       go_wp2
       go_ret2
       exact⟨fin1,bl⟩

/-! ### laws_pIn: function 11 -/
def laws_pIn.l0:Nat→Int→List Int→Int→Int→Option (Bool)
 | 0,_,_,_,_=>none
 | k+1,x1,x7,x8,x9=>if x9<x8 then(if 0≤x9 then(if x9<(x7.length:Int) then(if(rd x7 x9)=x1 then(some true) else(laws_pIn.l0 k x1 x7 x8 (wrap64 (x9+1)))) else(none)) else(none)) else(some false)
def laws_pIn.f (k:Nat) (l0:List Int) (a1:Int):Option (Bool):=laws_pIn.l0 k a1 l0 (l0.length:Int) 0
set_option maxHeartbeats 8000000 in
set_option maxRecDepth 100000 in
theorem laws_pIn.calls (k:Nat) (A0:Option Addr) (c0:Nat) (l0:List Int) (a1:Int) (r:Bool) (w:World) (hr0:Kd.C (Kd.int .i64) w A0 l0.length l0) (hc0:l0.length≤c0) (h:laws_pIn.f k l0 a1=some r) :
  Calls Try.prog 11 #[.slice A0 l0.length c0,.int .i64 a1] w fun e w'=>e = .returned (.bool r)∧Drawn0 w w':=by
 have HR0:=am hr0
 have HC0:=am hc0
 clear hr0 hc0
 have H:(laws_pIn.l0 k a1 l0 (l0.length:Int) 0)=some r:=h
 clear h
 have H':=am H
 clear H
 go_enter Try.func11,Try.ntmps11
 go_wp2
 go_loopg [9] k (fun kq v9 w'=>∃(x9_1:Int),v9 = .int .i64 x9_1∧Aside0 (laws_pIn.l0 kq a1 l0 (l0.length:Int) x9_1=some r)∧Aside0 (kq≤k)∧Drawn0 w w')
 case atStart=>exact⟨(0),fin2,H',⟨Nat.le_refl _⟩,by repeat(first|exact Drawn0.refl _|apply Drawn0.step)⟩
 case round =>
  clear H'
  try clear c1
  try clear p2
  obtain⟨x9_1,rfl,HA,HK1,⟨m1,rfl⟩⟩:=hrel
  cases gk with
  | zero=>exact absurd HA.out (by simp [laws_pIn.l0])
  | succ k1 =>
   have H:=HA.out
   clear HA
   simp only[laws_pIn.l0] at H
   by_cases c3:x9_1<(l0.length:Int)
   ·rw[if_pos c3] at H
    have c3b0:decide (x9_1<(l0.length:Int))=true:=decide_eq_true c3
    clear c3
    by_cases c4:0≤x9_1
    ·rw[if_pos c4] at H
     have c4b0:decide (0≤x9_1)=true:=decide_eq_true c4
     clear c4
     by_cases c5:x9_1<(l0.length:Int)
     ·rw[if_pos c5] at H
      have c5b0:decide (x9_1<(l0.length:Int))=true:=decide_eq_true c5
      clear c5
      by_cases c6:(rd l0 x9_1)=a1
      ·rw[if_pos c6] at H
       have c6b0:((rd l0 x9_1) == a1)=true:=beq_iff_eq.mpr c6
       have c6b1:((rd l0 x9_1) != a1)=false:=bne_eq_false_iff_eq.mpr c6
       clear c6
       obtain rfl:=Option.some.inj H
       have p281:0≤(x9_1:Int):=od
       have q281:x9_1<(l0.length:Int):=od
       obtain⟨ad281,e281,hx281_0⟩:=Kd.at_int HR0.out x9_1 p281 q281
       cases e281
       replace p281:=eq_true p281
       replace q281:=eq_true q281
       go_wp2
       go_ret
       exact⟨by first|rfl|(simp;done)|(simp [*];done),by repeat(first|exact Drawn0.refl _|apply Drawn0.step)⟩
      ·rw[if_neg c6] at H
       have c6b0:((rd l0 x9_1) == a1)=false:=beq_eq_false_iff_ne.mpr c6
       have c6b1:((rd l0 x9_1) != a1)=true:=bne_iff_ne.mpr c6
       have H':=am H
       clear H
       have p281:0≤(x9_1:Int):=od
       have q281:x9_1<(l0.length:Int):=od
       obtain⟨ad281,e281,hx281_0⟩:=Kd.at_int HR0.out x9_1 p281 q281
       cases e281
       replace p281:=eq_true p281
       replace q281:=eq_true q281
       go_wp2
       go_roundg k1
       case measure=>have:=HK1.out;omega
       case rel=>exact⟨(wrap64 (x9_1+1)),fin2,H',⟨by have:=HK1.out;omega⟩,by repeat(first|exact Drawn0.refl _|apply Drawn0.step)⟩
     ·rw[if_neg c5] at H
      exact absurd H (by simp)
    ·rw[if_neg c4] at H
     exact absurd H (by simp)
   ·rw[if_neg c3] at H
    have c3b0:decide (x9_1<(l0.length:Int))=false:=decide_eq_false c3
    clear c3
    obtain rfl:=Option.some.inj H
    go_wp2
    go_ret
    exact⟨by first|rfl|(simp;done)|(simp [*];done),by repeat(first|exact Drawn0.refl _|apply Drawn0.step)⟩

end Go.Proofs.Ytlhjjpdlfddflac.PFnDrums
