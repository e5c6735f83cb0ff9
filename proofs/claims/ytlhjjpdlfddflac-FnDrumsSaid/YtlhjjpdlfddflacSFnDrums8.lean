/- The walks of functions that FnDrums reaches: what they return is what the plain functions of the same names say. Made by a program of this session after the kit's print. No conditions beyond the arguments' being read. -/
import Derived.Test.YtlhjjpdlfddflacSFnDrums0
import Derived.Test.YtlhjjpdlfddflacSFnDrums2
import Derived.Test.YtlhjjpdlfddflacSFnDrums3
import Derived.Test.YtlhjjpdlfddflacSFnDrums7
namespace Go.Proofs.Ytlhjjpdlfddflac.PFnDrums
open Go.RowKit Go.Proofs.YtlhjjpdlfddflacW.PrintWords Go.Proofs.YtlhjjpdlfddflacW.PrintLast Go.Proofs.YtlhjjpdlfddflacW.PrintMore
attribute [local go_sem] max2_int min2_int max_two min_two max_three min_three max_four min_four   -- for this text's walks alone
set_option linter.unusedVariables false
set_option linter.unusedSimpArgs false

/-! ### impl_MostTogether: function 13 -/
mutual
def impl_MostTogether.l0:Nat→List (S26)→Int→Int→Int→Int→Option (Int×Int×Bool)
 | 0,_,_,_,_,_=>none
 | k+1,x0,x7,x8,x20,x21=>if x21<x20 then(impl_MostTogether.l1 k x0 x7 x8 x21 0 x20 x21 x0 (x0.length:Int) 0) else(some (x7,x8,true))
def impl_MostTogether.l1:Nat→List (S26)→Int→Int→Int→Int→Int→Int→List (S26)→Int→Int→Option (Int×Int×Bool)
 | 0,_,_,_,_,_,_,_,_,_,_=>none
 | k+1,x0,x7,x8,x9,x10,x20,x21,x24,x25,x26=>if x26<x25 then(if 0≤x26 then(if x26<(x24.length:Int) then((impl_beatsAt.f k ((rd_T26 x24 x26).f0) ((rd_T26 x24 x26).f1) x9).bind fun t354=>(if t354=true then(impl_MostTogether.l1 k x0 x7 x8 x9 (wrap64 (x10+1)) x20 x21 x24 x25 (wrap64 (x26+1))) else(impl_MostTogether.l1 k x0 x7 x8 x9 x10 x20 x21 x24 x25 (wrap64 (x26+1))))) else(none)) else(none)) else(if x10>x8 then(impl_MostTogether.l0 k x0 x9 x10 x20 (wrap64 (x21+1))) else(impl_MostTogether.l0 k x0 x7 x8 x20 (wrap64 (x21+1))))
end
def impl_MostTogether.f (k:Nat) (l0:List (S26)):Option (Int×Int×Bool):=(impl_commonSteps.f k l0).bind fun bt350=>(if bt350.2=true then(impl_MostTogether.l0 k l0 0 (-1) bt350.1 0) else(some (0,0,false)))
set_option maxHeartbeats 8000000 in
set_option maxRecDepth 100000 in
theorem impl_MostTogether.calls (k:Nat) (A0:Option Addr) (c0:Nat) (l0:List (S26)) (r1:Int) (r2:Int) (r3:Bool) (w:World) (hr0:Kd.C k26 w A0 l0.length l0) (hc0:l0.length≤c0) (h:impl_MostTogether.f k l0=some (r1,r2,r3)) :
  Calls Try.prog 13 #[.slice A0 l0.length c0] w fun e w'=>e = .returned (.tuple #[.int .i64 r1,.int .i64 r2,.bool r3])∧Below w.heap.size w w':=by
 have hu26:=Try.underlying26
 have HR0:=am hr0
 have HC0:=am hc0
 clear hr0 hc0
 have HB:=am (Below.refl w.heap.size w)
 have H:((impl_commonSteps.f k l0).bind fun bt350=>(if bt350.2=true then(impl_MostTogether.l0 k l0 0 (-1) bt350.1 0) else(some (0,0,false))))=some (r1,r2,r3):=h
 clear h
 replace H:=Option.bind_eq_some_iff.mp H
 obtain⟨⟨t350,t351⟩,A20,H⟩:=H
 replace H:(if t351=true then(impl_MostTogether.l0 k l0 0 (-1) t350 0) else(some (0,0,false)))=some (r1,r2,r3):=H
 have A2:=am A20
 clear A20
 by_cases c3:t351=true
 ·subst c3
  have H1:(impl_MostTogether.l0 k l0 0 (-1) t350 0)=some (r1,r2,r3):=by rw[if_pos rfl] at H;exact H
  clear H
  have H:=H1
  clear H1
  have H':=am H
  clear H
  go_enter Try.func13,Try.ntmps13
  go_wp2_with (first|((with_reducible refine gate_callee (f:=31) rfl ?_);refine goesL_ (some 15) rfl rfl Try.func31 (by kernel_rfl) rfl #[.slice A0 l0.length c0] rfl tl ?_;(with_reducible refine(impl_commonSteps.calls k _ _ l0 t350 true _ ?side1 ?side2 A2.out).mono ?_);(case side1=>repeat(first|exact HR0.out|(with_reducible refine Kd.C_alloc ?_ _)|(with_reducible refine Kd.C_drewN ?_ _)|(with_reducible refine Kd.C_drew ?_)));(case side2=>exact HC0.out);rintro e w4 ⟨rfl,hb⟩;refine⟨_,rfl,?_⟩;have n0_:=am (below_step bl hb);clear HB;have HB:=n0_;clear n0_;(try clear hb);(try clear hb2);(try clear hk);(try clear hi)))
  go_loopg [7,8,21] k (fun kq v7 v8 v21 w'=>∃(x7_1:Int) (x8_1:Int) (x21_1:Int),v7 = .int .i64 x7_1∧v8 = .int .i64 x8_1∧v21 = .int .i64 x21_1∧Aside0 (impl_MostTogether.l0 kq l0 x7_1 x8_1 t350 x21_1=some (r1,r2,r3))∧Aside0 (kq≤k)∧Aside0 (Below w.heap.size w w'))
  case atStart=>exact⟨(0),((-1)),(0),fin2,fin2,fin2,H',⟨Nat.le_refl _⟩,⟨bl⟩⟩
  case round =>
   clear H'
   try clear c1
   try clear p2
   try clear c3
   obtain⟨x7_1,x8_1,x21_1,rfl,rfl,rfl,HA,HK1,HB⟩:=hrel
   cases gk with
   | zero=>exact absurd HA.out (by simp [impl_MostTogether.l0])
   | succ k1 =>
    have H:=HA.out
    clear HA
    simp only[impl_MostTogether.l0] at H
    by_cases c5:x21_1<t350
    ·rw[if_pos c5] at H
     have c5b0:decide (x21_1<t350)=true:=decide_eq_true c5
     clear c5
     have H':=am H
     clear H
     go_wp2
     go_loopg [10,26] k1 (fun kq v10 v26 w'=>∃(x10_2:Int) (x26_2:Int),v10 = .int .i64 x10_2∧v26 = .int .i64 x26_2∧Aside0 (impl_MostTogether.l1 kq l0 x7_1 x8_1 x21_1 x10_2 t350 x21_1 l0 (l0.length:Int) x26_2=some (r1,r2,r3))∧Aside0 (kq≤k1)∧Aside0 (Below w.heap.size w w'))
     case atStart=>exact⟨(0),(0),fin2,fin2,H',⟨Nat.le_refl _⟩,⟨bl⟩⟩
     case round =>
      clear H'
      try clear c1
      try clear p2
      try clear c3
      try clear c5
      try clear c5b0
      try clear p2
      obtain⟨x10_2,x26_2,rfl,rfl,HA,HK2,HB⟩:=hrel
      cases gk with
      | zero=>exact absurd HA.out (by simp [impl_MostTogether.l1])
      | succ k2 =>
       have H:=HA.out
       clear HA
       simp only[impl_MostTogether.l1] at H
       by_cases c6:x26_2<(l0.length:Int)
       ·rw[if_pos c6] at H
        have c6b0:decide (x26_2<(l0.length:Int))=true:=decide_eq_true c6
        clear c6
        by_cases c7:0≤x26_2
        ·rw[if_pos c7] at H
         have c7b0:decide (0≤x26_2)=true:=decide_eq_true c7
         clear c7
         by_cases c8:x26_2<(l0.length:Int)
         ·rw[if_pos c8] at H
          have c8b0:decide (x26_2<(l0.length:Int))=true:=decide_eq_true c8
          clear c8
          replace H:=Option.bind_eq_some_iff.mp H
          obtain⟨t354,A90,H⟩:=H
          replace H:(if t354=true then(impl_MostTogether.l1 k2 l0 x7_1 x8_1 x21_1 (wrap64 (x10_2+1)) t350 x21_1 l0 (l0.length:Int) (wrap64 (x26_2+1))) else(impl_MostTogether.l1 k2 l0 x7_1 x8_1 x21_1 x10_2 t350 x21_1 l0 (l0.length:Int) (wrap64 (x26_2+1))))=some (r1,r2,r3):=H
          have A9:=am A90
          clear A90
          by_cases c10:t354=true
          ·subst c10
           have H1:(impl_MostTogether.l1 k2 l0 x7_1 x8_1 x21_1 (wrap64 (x10_2+1)) t350 x21_1 l0 (l0.length:Int) (wrap64 (x26_2+1)))=some (r1,r2,r3):=by rw[if_pos rfl] at H;exact H
           clear H
           have H:=H1
           clear H1
           have H':=am H
           clear H
           have p352:0≤(x26_2:Int):=od
           have q352:x26_2<(l0.length:Int):=od
           obtain⟨ad352,A352_1,c352_1,e352,hx352_0,hx352_1,hl352_1,hi352_1⟩:=at_T26 HR0.out x26_2 p352 q352
           cases e352
           replace hx352_0:=(HB.out.cell (World.block_lt_of_cell? w _ hx352_0)).trans hx352_0
           replace hx352_1:=(HB.out.cell (World.block_lt_of_cell? w _ hx352_1)).trans hx352_1
           have HR352_1:=am hi352_1
           have HC352_1:=am hl352_1
           clear hi352_1 hl352_1
           replace p352:=eq_true p352
           replace q352:=eq_true q352
           go_wp2_with (first|((with_reducible refine gate_dst (N:=12) rfl ?_);refine box_event ?hg (N:=12) ?hd (cs := #[.int .i64 0,.slice none 0 0]) (t:=26) ?hr ?_;(case hd=>rfl);(case hg=>rfl);(case hr=>first|(go_simp;done)|(go_simp;rfl));intro gb353 hg w11 hbox hb;have n0_:=am (below_step bl hb);have n1_:=am (hbox);have n2_:=am (ge_ bl hg);have n3_:=am (ge_ bl hg);clear HB;have HB:=n0_;have BK353:=n1_;have GW353:=n2_;have GE353:=n3_;clear n0_ n1_ n2_ n3_ hb hbox hg;have hcz12_0:w11.cell? ⟨gb353,0,none⟩=some (.int .i64 0):=(blk_cell BK353.out 0).trans rfl;have hcz12_1:w11.cell? ⟨gb353,1,none⟩=some (.slice none 0 0):=(blk_cell BK353.out 1).trans rfl;have hfz12_0:=blk_frozen BK353.out 0;have hfz12_1:=blk_frozen BK353.out 1)|((with_reducible refine gate_callee (f:=32) rfl ?_);refine goesL_ (some 32) rfl rfl Try.func32 (by kernel_rfl) rfl #[.agg #[.int .i64 ((rd_T26 l0 x26_2).f0),.slice A352_1 ((rd_T26 l0 x26_2).f1).length c352_1],.int .i64 x21_1] rfl tl ?_;(with_reducible refine(impl_beatsAt.calls k2 ((rd_T26 l0 x26_2).f0) _ _ ((rd_T26 l0 x26_2).f1) x21_1 true _ ?side1 ?side2 A9.out).mono ?_);(case side1=>exact Kd.C_below HR352_1.out bl);(case side2=>exact HC352_1.out);rintro e w13 ⟨rfl,hb⟩;refine⟨_,rfl,?_⟩;have n0_:=am (blk_below (g:=gb353) (o := .cells #[.int .i64 ((rd_T26 l0 x26_2).f0),.slice A352_1 ((rd_T26 l0 x26_2).f1).length c352_1] 26 (0,0)) (by(with_reducible repeat(first|refine bN_ ?_ _|refine bD_ ?_|refine bA_ ?_ _));refine blk_put (cs := #[.int .i64 ((rd_T26 l0 x26_2).f0),.slice none 0 0]) ?_ 1 _ rfl;(with_reducible repeat(first|refine bN_ ?_ _|refine bD_ ?_|refine bA_ ?_ _));refine blk_put (cs := #[.int .i64 0,.slice none 0 0]) ?_ 0 _ rfl;exact bup BK353.out) hb);have n1_:=am (below_step bl hb);clear BK353 HB;have BK353:=n0_;have HB:=n1_;clear n0_ n1_;(try clear hb);(try clear hb2);(try clear hk);(try clear hi)))
           go_roundg k2
           case measure=>have:=HK1.out;have:=HK2.out;omega
           case rel=>exact⟨(wrap64 (x10_2+1)),(wrap64 (x26_2+1)),fin2,fin2,H',⟨by have:=HK1.out;have:=HK2.out;omega⟩,⟨bl⟩⟩
          ·replace c10:=Bool.eq_false_iff.mpr c10
           subst c10
           have H1:(impl_MostTogether.l1 k2 l0 x7_1 x8_1 x21_1 x10_2 t350 x21_1 l0 (l0.length:Int) (wrap64 (x26_2+1)))=some (r1,r2,r3):=by rw[if_neg (show ¬ (false=true) by decide)] at H;exact H
           clear H
           have H:=H1
           clear H1
           have H':=am H
           clear H
           have p352:0≤(x26_2:Int):=od
           have q352:x26_2<(l0.length:Int):=od
           obtain⟨ad352,A352_1,c352_1,e352,hx352_0,hx352_1,hl352_1,hi352_1⟩:=at_T26 HR0.out x26_2 p352 q352
           cases e352
           replace hx352_0:=(HB.out.cell (World.block_lt_of_cell? w _ hx352_0)).trans hx352_0
           replace hx352_1:=(HB.out.cell (World.block_lt_of_cell? w _ hx352_1)).trans hx352_1
           have HR352_1:=am hi352_1
           have HC352_1:=am hl352_1
           clear hi352_1 hl352_1
           replace p352:=eq_true p352
           replace q352:=eq_true q352
           go_wp2_with (first|((with_reducible refine gate_dst (N:=12) rfl ?_);refine box_event ?hg (N:=12) ?hd (cs := #[.int .i64 0,.slice none 0 0]) (t:=26) ?hr ?_;(case hd=>rfl);(case hg=>rfl);(case hr=>first|(go_simp;done)|(go_simp;rfl));intro gb353 hg w14 hbox hb;have n0_:=am (below_step bl hb);have n1_:=am (hbox);have n2_:=am (ge_ bl hg);have n3_:=am (ge_ bl hg);clear HB;have HB:=n0_;have BK353:=n1_;have GW353:=n2_;have GE353:=n3_;clear n0_ n1_ n2_ n3_ hb hbox hg;have hcz15_0:w14.cell? ⟨gb353,0,none⟩=some (.int .i64 0):=(blk_cell BK353.out 0).trans rfl;have hcz15_1:w14.cell? ⟨gb353,1,none⟩=some (.slice none 0 0):=(blk_cell BK353.out 1).trans rfl;have hfz15_0:=blk_frozen BK353.out 0;have hfz15_1:=blk_frozen BK353.out 1)|((with_reducible refine gate_callee (f:=32) rfl ?_);refine goesL_ (some 32) rfl rfl Try.func32 (by kernel_rfl) rfl #[.agg #[.int .i64 ((rd_T26 l0 x26_2).f0),.slice A352_1 ((rd_T26 l0 x26_2).f1).length c352_1],.int .i64 x21_1] rfl tl ?_;(with_reducible refine(impl_beatsAt.calls k2 ((rd_T26 l0 x26_2).f0) _ _ ((rd_T26 l0 x26_2).f1) x21_1 false _ ?side1 ?side2 A9.out).mono ?_);(case side1=>exact Kd.C_below HR352_1.out bl);(case side2=>exact HC352_1.out);rintro e w16 ⟨rfl,hb⟩;refine⟨_,rfl,?_⟩;have n0_:=am (blk_below (g:=gb353) (o := .cells #[.int .i64 ((rd_T26 l0 x26_2).f0),.slice A352_1 ((rd_T26 l0 x26_2).f1).length c352_1] 26 (0,0)) (by(with_reducible repeat(first|refine bN_ ?_ _|refine bD_ ?_|refine bA_ ?_ _));refine blk_put (cs := #[.int .i64 ((rd_T26 l0 x26_2).f0),.slice none 0 0]) ?_ 1 _ rfl;(with_reducible repeat(first|refine bN_ ?_ _|refine bD_ ?_|refine bA_ ?_ _));refine blk_put (cs := #[.int .i64 0,.slice none 0 0]) ?_ 0 _ rfl;exact bup BK353.out) hb);have n1_:=am (below_step bl hb);clear BK353 HB;have BK353:=n0_;have HB:=n1_;clear n0_ n1_;(try clear hb);(try clear hb2);(try clear hk);(try clear hi)))
           go_roundg k2
           case measure=>have:=HK1.out;have:=HK2.out;omega
           case rel=>exact⟨(x10_2),(wrap64 (x26_2+1)),fin2,fin2,H',⟨by have:=HK1.out;have:=HK2.out;omega⟩,⟨bl⟩⟩
         ·rw[if_neg c8] at H
          exact absurd H (by simp)
        ·rw[if_neg c7] at H
         exact absurd H (by simp)
       ·rw[if_neg c6] at H
        have c6b0:decide (x26_2<(l0.length:Int))=false:=decide_eq_false c6
        clear c6
        by_cases c17:x10_2>x8_1
        ·rw[if_pos c17] at H
         have c17b0:decide (x8_1<x10_2)=true:=decide_eq_true c17
         clear c17
         have H':=am H
         clear H
         go_wp2
         go_roundg k2
         case measure=>have:=HK1.out;have:=HK2.out;omega
         case rel=>exact⟨(x21_1),(x10_2),(wrap64 (x21_1+1)),fin2,fin2,fin2,H',⟨by have:=HK1.out;have:=HK2.out;omega⟩,⟨bl⟩⟩
        ·rw[if_neg c17] at H
         have c17b0:decide (x8_1<x10_2)=false:=decide_eq_false c17
         clear c17
         have H':=am H
         clear H
         go_wp2
         go_roundg k2
         case measure=>have:=HK1.out;have:=HK2.out;omega
         case rel=>exact⟨(x7_1),(x8_1),(wrap64 (x21_1+1)),fin2,fin2,fin2,H',⟨by have:=HK1.out;have:=HK2.out;omega⟩,⟨bl⟩⟩
    ·rw[if_neg c5] at H
     have c5b0:decide (x21_1<t350)=false:=decide_eq_false c5
     clear c5
     simp only[Option.some.injEq,Prod.mk.injEq] at H
     obtain⟨rfl,rfl,rfl⟩:=H
     go_wp2
     go_ret3
     exact⟨fin1,bl⟩
 ·replace c3:=Bool.eq_false_iff.mpr c3
  subst c3
  have H1:(some (0,0,false))=some (r1,r2,r3):=by rw[if_neg (show ¬ (false=true) by decide)] at H;exact H
  clear H
  have H:=H1
  clear H1
  simp only[Option.some.injEq,Prod.mk.injEq] at H
  obtain⟨rfl,rfl,rfl⟩:=H
  go_enter Try.func13,Try.ntmps13
  go_wp2_with (first|((with_reducible refine gate_callee (f:=31) rfl ?_);refine goesL_ (some 15) rfl rfl Try.func31 (by kernel_rfl) rfl #[.slice A0 l0.length c0] rfl tl ?_;(with_reducible refine(impl_commonSteps.calls k _ _ l0 t350 false _ ?side1 ?side2 A2.out).mono ?_);(case side1=>repeat(first|exact HR0.out|(with_reducible refine Kd.C_alloc ?_ _)|(with_reducible refine Kd.C_drewN ?_ _)|(with_reducible refine Kd.C_drew ?_)));(case side2=>exact HC0.out);rintro e w18 ⟨rfl,hb⟩;refine⟨_,rfl,?_⟩;have n0_:=am (below_step bl hb);clear HB;have HB:=n0_;clear n0_;(try clear hb);(try clear hb2);(try clear hk);(try clear hi)))
  go_ret3
  exact⟨fin1,bl⟩

/-! ### spec_drCommon: function 33 -/
mutual
def spec_drCommon.l0:Nat→List (S26)→List (S26)→Int→Int→Option (Int)
 | 0,_,_,_,_=>none
 | k+1,x0,x13,x14,x15=>if x15<x14 then(if 0≤x15 then(if x15<(x13.length:Int) then((spec_drGood.f k ((rd_T26 x13 x15).f0) ((rd_T26 x13 x15).f1)).bind fun t358=>(if t358=true then(spec_drCommon.l0 k x0 x13 x14 (wrap64 (x15+1))) else(some 0))) else(none)) else(none)) else(spec_drCommon.l1 k 1 x0 (x0.length:Int) 0)
def spec_drCommon.l1:Nat→Int→List (S26)→Int→Int→Option (Int)
 | 0,_,_,_,_=>none
 | k+1,x5,x23,x24,x25=>if x25<x24 then(if 0≤x25 then(if x25<(x23.length:Int) then(spec_drCommon.l2 k x5 x5 x23 x24 x25 ((rd_T26 x23 x25).f0) ((rd_T26 x23 x25).f1)) else(none)) else(none)) else(if x5>5040 then(some 0) else(some x5))
def spec_drCommon.l2:Nat→Int→Int→List (S26)→Int→Int→Int→List Int→Option (Int)
 | 0,_,_,_,_,_,_,_=>none
 | k+1,x5,x8,x23,x24,x25,x361000,x361001=>if x361000=0 then(none) else(if(Int.tmod x5 x361000)=0 then(spec_drCommon.l1 k x5 x23 x24 (wrap64 (x25+1))) else(spec_drCommon.l2 k (wrap64 (x5+x8)) x8 x23 x24 x25 x361000 x361001))
end
def spec_drCommon.f (k:Nat) (l0:List (S26)):Option (Int):=(spec_l1In.f (l0.length:Int) 1 5).bind fun t355=>(if t355=true then(spec_drCommon.l0 k l0 l0 (l0.length:Int) 0) else(some 0))
set_option maxHeartbeats 8000000 in
set_option maxRecDepth 100000 in
theorem spec_drCommon.calls (k:Nat) (A0:Option Addr) (c0:Nat) (l0:List (S26)) (r:Int) (w:World) (hr0:Kd.C k26 w A0 l0.length l0) (hc0:l0.length≤c0) (h:spec_drCommon.f k l0=some r) :
  Calls Try.prog 33 #[.slice A0 l0.length c0] w fun e w'=>e = .returned (.int .i64 r)∧Below w.heap.size w w':=by
 have hu26:=Try.underlying26
 have HR0:=am hr0
 have HC0:=am hc0
 clear hr0 hc0
 have HB:=am (Below.refl w.heap.size w)
 have H:((spec_l1In.f (l0.length:Int) 1 5).bind fun t355=>(if t355=true then(spec_drCommon.l0 k l0 l0 (l0.length:Int) 0) else(some 0)))=some r:=h
 clear h
 replace H:=Option.bind_eq_some_iff.mp H
 obtain⟨t355,A20,H⟩:=H
 replace H:(if t355=true then(spec_drCommon.l0 k l0 l0 (l0.length:Int) 0) else(some 0))=some r:=H
 have A2:=am A20
 clear A20
 by_cases c3:t355=true
 ·subst c3
  have H1:(spec_drCommon.l0 k l0 l0 (l0.length:Int) 0)=some r:=by rw[if_pos rfl] at H;exact H
  clear H
  have H:=H1
  clear H1
  have H':=am H
  clear H
  go_enter Try.func33,Try.ntmps33
  go_wp2_with (first|((with_reducible refine gate_callee (f:=25) rfl ?_);refine goesL_ (some 11) rfl rfl Try.func25 (by kernel_rfl) rfl #[.int .i64 (l0.length:Int),.int .i64 1,.int .i64 5] rfl tl ?_;(with_reducible refine(spec_l1In.calls (l0.length:Int) 1 5 true _ A2.out).mono ?_);rintro e w' ⟨rfl,⟨nd,rfl⟩⟩;refine⟨_,rfl,?_⟩))
  go_loopg [15] k (fun kq v15 w'=>∃(x15_1:Int),v15 = .int .i64 x15_1∧Aside0 (spec_drCommon.l0 kq l0 l0 (l0.length:Int) x15_1=some r)∧Aside0 (kq≤k)∧Aside0 (Below w.heap.size w w'))
  case atStart=>exact⟨(0),fin2,H',⟨Nat.le_refl _⟩,⟨bl⟩⟩
  case round =>
   clear H'
   try clear c2
   try clear p2
   try clear c3
   obtain⟨x15_1,rfl,HA,HK1,HB⟩:=hrel
   cases gk with
   | zero=>exact absurd HA.out (by simp [spec_drCommon.l0])
   | succ k1 =>
    have H:=HA.out
    clear HA
    simp only[spec_drCommon.l0] at H
    by_cases c4:x15_1<(l0.length:Int)
    ·rw[if_pos c4] at H
     have c4b0:decide (x15_1<(l0.length:Int))=true:=decide_eq_true c4
     clear c4
     by_cases c5:0≤x15_1
     ·rw[if_pos c5] at H
      have c5b0:decide (0≤x15_1)=true:=decide_eq_true c5
      clear c5
      by_cases c6:x15_1<(l0.length:Int)
      ·rw[if_pos c6] at H
       have c6b0:decide (x15_1<(l0.length:Int))=true:=decide_eq_true c6
       clear c6
       replace H:=Option.bind_eq_some_iff.mp H
       obtain⟨t358,A70,H⟩:=H
       replace H:(if t358=true then(spec_drCommon.l0 k1 l0 l0 (l0.length:Int) (wrap64 (x15_1+1))) else(some 0))=some r:=H
       have A7:=am A70
       clear A70
       by_cases c8:t358=true
       ·subst c8
        have H1:(spec_drCommon.l0 k1 l0 l0 (l0.length:Int) (wrap64 (x15_1+1)))=some r:=by rw[if_pos rfl] at H;exact H
        clear H
        have H:=H1
        clear H1
        have H':=am H
        clear H
        have p356:0≤(x15_1:Int):=od
        have q356:x15_1<(l0.length:Int):=od
        obtain⟨ad356,A356_1,c356_1,e356,hx356_0,hx356_1,hl356_1,hi356_1⟩:=at_T26 HR0.out x15_1 p356 q356
        cases e356
        replace hx356_0:=(HB.out.cell (World.block_lt_of_cell? w _ hx356_0)).trans hx356_0
        replace hx356_1:=(HB.out.cell (World.block_lt_of_cell? w _ hx356_1)).trans hx356_1
        have HR356_1:=am hi356_1
        have HC356_1:=am hl356_1
        clear hi356_1 hl356_1
        replace p356:=eq_true p356
        replace q356:=eq_true q356
        go_wp2_with (first|((with_reducible refine gate_dst (N:=4) rfl ?_);refine box_event ?hg (N:=4) ?hd (cs := #[.int .i64 0,.slice none 0 0]) (t:=26) ?hr ?_;(case hd=>rfl);(case hg=>rfl);(case hr=>first|(go_simp;done)|(go_simp;rfl));intro gb357 hg w9 hbox hb;have n0_:=am (below_step bl hb);have n1_:=am (hbox);have n2_:=am (ge_ bl hg);have n3_:=am (ge_ bl hg);clear HB;have HB:=n0_;have BK357:=n1_;have GW357:=n2_;have GE357:=n3_;clear n0_ n1_ n2_ n3_ hb hbox hg;have hcz10_0:w9.cell? ⟨gb357,0,none⟩=some (.int .i64 0):=(blk_cell BK357.out 0).trans rfl;have hcz10_1:w9.cell? ⟨gb357,1,none⟩=some (.slice none 0 0):=(blk_cell BK357.out 1).trans rfl;have hfz10_0:=blk_frozen BK357.out 0;have hfz10_1:=blk_frozen BK357.out 1)|((with_reducible refine gate_callee (f:=24) rfl ?_);refine goesL_ (some 20) rfl rfl Try.func24 (by kernel_rfl) rfl #[.agg #[.int .i64 ((rd_T26 l0 x15_1).f0),.slice A356_1 ((rd_T26 l0 x15_1).f1).length c356_1]] rfl tl ?_;(with_reducible refine(spec_drGood.calls k1 ((rd_T26 l0 x15_1).f0) _ _ ((rd_T26 l0 x15_1).f1) true _ ?side1 ?side2 A7.out).mono ?_);(case side1=>exact Kd.C_below HR356_1.out bl);(case side2=>exact HC356_1.out);rintro e w11 ⟨rfl,hb⟩;refine⟨_,rfl,?_⟩;have n0_:=am (blk_below (g:=gb357) (o := .cells #[.int .i64 ((rd_T26 l0 x15_1).f0),.slice A356_1 ((rd_T26 l0 x15_1).f1).length c356_1] 26 (0,0)) (by(with_reducible repeat(first|refine bN_ ?_ _|refine bD_ ?_|refine bA_ ?_ _));refine blk_put (cs := #[.int .i64 ((rd_T26 l0 x15_1).f0),.slice none 0 0]) ?_ 1 _ rfl;(with_reducible repeat(first|refine bN_ ?_ _|refine bD_ ?_|refine bA_ ?_ _));refine blk_put (cs := #[.int .i64 0,.slice none 0 0]) ?_ 0 _ rfl;exact bup BK357.out) hb);have n1_:=am (below_step bl hb);clear BK357 HB;have BK357:=n0_;have HB:=n1_;clear n0_ n1_;(try clear hb);(try clear hb2);(try clear hk);(try clear hi)))
        go_roundg k1
        case measure=>have:=HK1.out;omega
        case rel=>exact⟨(wrap64 (x15_1+1)),fin2,H',⟨by have:=HK1.out;omega⟩,⟨bl⟩⟩
       ·replace c8:=Bool.eq_false_iff.mpr c8
        subst c8
        have H1:(some 0)=some r:=by rw[if_neg (show ¬ (false=true) by decide)] at H;exact H
        clear H
        have H:=H1
        clear H1
        obtain rfl:=Option.some.inj H
        have p356:0≤(x15_1:Int):=od
        have q356:x15_1<(l0.length:Int):=od
        obtain⟨ad356,A356_1,c356_1,e356,hx356_0,hx356_1,hl356_1,hi356_1⟩:=at_T26 HR0.out x15_1 p356 q356
        cases e356
        replace hx356_0:=(HB.out.cell (World.block_lt_of_cell? w _ hx356_0)).trans hx356_0
        replace hx356_1:=(HB.out.cell (World.block_lt_of_cell? w _ hx356_1)).trans hx356_1
        have HR356_1:=am hi356_1
        have HC356_1:=am hl356_1
        clear hi356_1 hl356_1
        replace p356:=eq_true p356
        replace q356:=eq_true q356
        go_wp2_with (first|((with_reducible refine gate_dst (N:=4) rfl ?_);refine box_event ?hg (N:=4) ?hd (cs := #[.int .i64 0,.slice none 0 0]) (t:=26) ?hr ?_;(case hd=>rfl);(case hg=>rfl);(case hr=>first|(go_simp;done)|(go_simp;rfl));intro gb357 hg w12 hbox hb;have n0_:=am (below_step bl hb);have n1_:=am (hbox);have n2_:=am (ge_ bl hg);have n3_:=am (ge_ bl hg);clear HB;have HB:=n0_;have BK357:=n1_;have GW357:=n2_;have GE357:=n3_;clear n0_ n1_ n2_ n3_ hb hbox hg;have hcz13_0:w12.cell? ⟨gb357,0,none⟩=some (.int .i64 0):=(blk_cell BK357.out 0).trans rfl;have hcz13_1:w12.cell? ⟨gb357,1,none⟩=some (.slice none 0 0):=(blk_cell BK357.out 1).trans rfl;have hfz13_0:=blk_frozen BK357.out 0;have hfz13_1:=blk_frozen BK357.out 1)|((with_reducible refine gate_callee (f:=24) rfl ?_);refine goesL_ (some 20) rfl rfl Try.func24 (by kernel_rfl) rfl #[.agg #[.int .i64 ((rd_T26 l0 x15_1).f0),.slice A356_1 ((rd_T26 l0 x15_1).f1).length c356_1]] rfl tl ?_;(with_reducible refine(spec_drGood.calls k1 ((rd_T26 l0 x15_1).f0) _ _ ((rd_T26 l0 x15_1).f1) false _ ?side1 ?side2 A7.out).mono ?_);(case side1=>exact Kd.C_below HR356_1.out bl);(case side2=>exact HC356_1.out);rintro e w14 ⟨rfl,hb⟩;refine⟨_,rfl,?_⟩;have n0_:=am (blk_below (g:=gb357) (o := .cells #[.int .i64 ((rd_T26 l0 x15_1).f0),.slice A356_1 ((rd_T26 l0 x15_1).f1).length c356_1] 26 (0,0)) (by(with_reducible repeat(first|refine bN_ ?_ _|refine bD_ ?_|refine bA_ ?_ _));refine blk_put (cs := #[.int .i64 ((rd_T26 l0 x15_1).f0),.slice none 0 0]) ?_ 1 _ rfl;(with_reducible repeat(first|refine bN_ ?_ _|refine bD_ ?_|refine bA_ ?_ _));refine blk_put (cs := #[.int .i64 0,.slice none 0 0]) ?_ 0 _ rfl;exact bup BK357.out) hb);have n1_:=am (below_step bl hb);clear BK357 HB;have BK357:=n0_;have HB:=n1_;clear n0_ n1_;(try clear hb);(try clear hb2);(try clear hk);(try clear hi)))
        go_ret
        exact⟨fin1,bl⟩
      ·rw[if_neg c6] at H
       exact absurd H (by simp)
     ·rw[if_neg c5] at H
      exact absurd H (by simp)
    ·rw[if_neg c4] at H
     have c4b0:decide (x15_1<(l0.length:Int))=false:=decide_eq_false c4
     clear c4
     have H':=am H
     clear H
     go_wp2
     go_loopg [5,25] k1 (fun kq v5 v25 w'=>∃(x5_2:Int) (x25_2:Int),v5 = .int .i64 x5_2∧v25 = .int .i64 x25_2∧Aside0 (spec_drCommon.l1 kq x5_2 l0 (l0.length:Int) x25_2=some r)∧Aside0 (kq≤k1)∧Aside0 (Below w.heap.size w w'))
     case atStart=>exact⟨(1),(0),fin2,fin2,H',⟨Nat.le_refl _⟩,⟨bl⟩⟩
     case round =>
      clear H'
      try clear c2
      try clear p2
      try clear c3
      try clear p3
      try clear q3
      try clear hx3
      try clear c4
      try clear c4b0
      try clear c5
      try clear c5b0
      try clear c6
      try clear c6b0
      try clear p6
      try clear c8
      try clear hcz10_0
      try clear hcz10_1
      try clear hcz13_0
      try clear hcz13_1
      try clear hfz10_0
      try clear hfz10_1
      try clear hfz13_0
      try clear hfz13_1
      try clear hx356_0
      try clear hx356_1
      try clear p2
      try clear p356
      try clear q356
      obtain⟨x5_2,x25_2,rfl,rfl,HA,HK2,HB⟩:=hrel
      cases gk with
      | zero=>exact absurd HA.out (by simp [spec_drCommon.l1])
      | succ k2 =>
       have H:=HA.out
       clear HA
       simp only[spec_drCommon.l1] at H
       by_cases c15:x25_2<(l0.length:Int)
       ·rw[if_pos c15] at H
        have c15b0:decide (x25_2<(l0.length:Int))=true:=decide_eq_true c15
        clear c15
        by_cases c16:0≤x25_2
        ·rw[if_pos c16] at H
         have c16b0:decide (0≤x25_2)=true:=decide_eq_true c16
         clear c16
         by_cases c17:x25_2<(l0.length:Int)
         ·rw[if_pos c17] at H
          have c17b0:decide (x25_2<(l0.length:Int))=true:=decide_eq_true c17
          clear c17
          have H':=am H
          clear H
          have p359:0≤(x25_2:Int):=od
          have q359:x25_2<(l0.length:Int):=od
          obtain⟨ad359,A359_1,c359_1,e359,hx359_0,hx359_1,hl359_1,hi359_1⟩:=at_T26 HR0.out x25_2 p359 q359
          cases e359
          replace hx359_0:=(HB.out.cell (World.block_lt_of_cell? w _ hx359_0)).trans hx359_0
          replace hx359_1:=(HB.out.cell (World.block_lt_of_cell? w _ hx359_1)).trans hx359_1
          have HR359_1:=am hi359_1
          have HC359_1:=am hl359_1
          clear hi359_1 hl359_1
          replace p359:=eq_true p359
          replace q359:=eq_true q359
          go_wp2_with (first|((with_reducible refine gate_dst (N:=7) rfl ?_);refine box_event ?hg (N:=7) ?hd (cs := #[.int .i64 0,.slice none 0 0]) (t:=26) ?hr ?_;(case hd=>rfl);(case hg=>rfl);(case hr=>first|(go_simp;done)|(go_simp;rfl));intro gb360 hg w18 hbox hb;have n0_:=am (below_step bl hb);have n1_:=am (hbox);have n2_:=am (ge_ bl hg);have n3_:=am (ge_ bl hg);clear HB;have HB:=n0_;have BK360:=n1_;have GW360:=n2_;have GE360:=n3_;clear n0_ n1_ n2_ n3_ hb hbox hg;have hcz19_0:w18.cell? ⟨gb360,0,none⟩=some (.int .i64 0):=(blk_cell BK360.out 0).trans rfl;have hcz19_1:w18.cell? ⟨gb360,1,none⟩=some (.slice none 0 0):=(blk_cell BK360.out 1).trans rfl;have hfz19_0:=blk_frozen BK360.out 0;have hfz19_1:=blk_frozen BK360.out 1))
          go_loopg [5] k2 (fun kq v5 w'=>∃(x5_3:Int),v5 = .int .i64 x5_3∧Aside0 (spec_drCommon.l2 kq x5_3 x5_2 l0 (l0.length:Int) x25_2 ((rd_T26 l0 x25_2).f0) ((rd_T26 l0 x25_2).f1)=some r)∧Aside0 (kq≤k2)∧Aside0 (w'.heap[gb360]?=some (.cells #[.int .i64 ((rd_T26 l0 x25_2).f0),(.slice A359_1 ((rd_T26 l0 x25_2).f1).length c359_1)] 26 (0,0)))∧Aside0 (Below w.heap.size w w'))
          case atStart=>exact⟨(x5_2),fin2,H',⟨Nat.le_refl _⟩,⟨by(with_reducible repeat(first|refine bN_ ?_ _|refine bD_ ?_|refine bA_ ?_ _));refine blk_put (cs := #[.int .i64 ((rd_T26 l0 x25_2).f0),.slice none 0 0]) ?_ 1 _ rfl;(with_reducible repeat(first|refine bN_ ?_ _|refine bD_ ?_|refine bA_ ?_ _));refine blk_put (cs := #[.int .i64 0,.slice none 0 0]) ?_ 0 _ rfl;exact bup BK360.out⟩,⟨bl⟩⟩
          case round =>
           clear H'
           try clear c1
           try clear c2
           try clear p2
           try clear c3
           try clear p3
           try clear q3
           try clear hx3
           try clear c4
           try clear c4b0
           try clear c5
           try clear c5b0
           try clear c6
           try clear c6b0
           try clear p6
           try clear c8
           try clear c15
           try clear c15b0
           try clear c16
           try clear c16b0
           try clear c17
           try clear c17b0
           try clear hcz10_0
           try clear hcz10_1
           try clear hcz13_0
           try clear hcz13_1
           try clear hcz19_0
           try clear hcz19_1
           try clear hfz10_0
           try clear hfz10_1
           try clear hfz13_0
           try clear hfz13_1
           try clear hfz19_0
           try clear hfz19_1
           try clear hx356_0
           try clear hx356_1
           try clear hx359_0
           try clear hx359_1
           try clear p2
           try clear p3
           try clear p356
           try clear p359
           try clear p6
           try clear q3
           try clear q356
           try clear q359
           obtain⟨x5_3,rfl,HA,HK3,BK360,HB⟩:=hrel
           cases gk with
           | zero=>exact absurd HA.out (by simp [spec_drCommon.l2])
           | succ k3 =>
            have H:=HA.out
            clear HA
            simp only[spec_drCommon.l2] at H
            by_cases c20:((rd_T26 l0 x25_2).f0)=0
            ·rw[if_pos c20] at H
             exact absurd H (by simp)
            ·rw[if_neg c20] at H
             have c20b0:(((rd_T26 l0 x25_2).f0) == 0)=false:=beq_eq_false_iff_ne.mpr c20
             have c20b1:(((rd_T26 l0 x25_2).f0) != 0)=true:=bne_iff_ne.mpr c20
             by_cases c21:(Int.tmod x5_3 ((rd_T26 l0 x25_2).f0))=0
             ·rw[if_pos c21] at H
              have c21b0:((Int.tmod x5_3 ((rd_T26 l0 x25_2).f0)) == 0)=true:=beq_iff_eq.mpr c21
              have c21b1:((Int.tmod x5_3 ((rd_T26 l0 x25_2).f0)) != 0)=false:=bne_eq_false_iff_eq.mpr c21
              clear c21
              have H':=am H
              clear H
              have hcz22_0:wr.cell? ⟨gb360,0,none⟩=some (.int .i64 ((rd_T26 l0 x25_2).f0)):=(blk_cell BK360.out 0).trans rfl
              have hcz22_1:wr.cell? ⟨gb360,1,none⟩=some (.slice A359_1 ((rd_T26 l0 x25_2).f1).length c359_1):=(blk_cell BK360.out 1).trans rfl
              have hfz22_0:=blk_frozen BK360.out 0
              have hfz22_1:=blk_frozen BK360.out 1
              go_wp2
              go_roundg k3
              case measure=>have:=HK1.out;have:=HK2.out;have:=HK3.out;omega
              case rel=>exact⟨(x5_3),(wrap64 (x25_2+1)),fin2,fin2,H',⟨by have:=HK1.out;have:=HK2.out;have:=HK3.out;omega⟩,⟨bl⟩⟩
             ·rw[if_neg c21] at H
              have c21b0:((Int.tmod x5_3 ((rd_T26 l0 x25_2).f0)) == 0)=false:=beq_eq_false_iff_ne.mpr c21
              have c21b1:((Int.tmod x5_3 ((rd_T26 l0 x25_2).f0)) != 0)=true:=bne_iff_ne.mpr c21
              have H':=am H
              clear H
              have hcz23_0:wr.cell? ⟨gb360,0,none⟩=some (.int .i64 ((rd_T26 l0 x25_2).f0)):=(blk_cell BK360.out 0).trans rfl
              have hcz23_1:wr.cell? ⟨gb360,1,none⟩=some (.slice A359_1 ((rd_T26 l0 x25_2).f1).length c359_1):=(blk_cell BK360.out 1).trans rfl
              have hfz23_0:=blk_frozen BK360.out 0
              have hfz23_1:=blk_frozen BK360.out 1
              go_wp2
              go_roundg k3
              case measure=>have:=HK1.out;have:=HK2.out;have:=HK3.out;omega
              case rel=>exact⟨(wrap64 (x5_3+x5_2)),fin2,H',⟨by have:=HK1.out;have:=HK2.out;have:=HK3.out;omega⟩,⟨bup BK360.out⟩,⟨bl⟩⟩
         ·rw[if_neg c17] at H
          exact absurd H (by simp)
        ·rw[if_neg c16] at H
         exact absurd H (by simp)
       ·rw[if_neg c15] at H
        have c15b0:decide (x25_2<(l0.length:Int))=false:=decide_eq_false c15
        clear c15
        by_cases c24:x5_2>5040
        ·rw[if_pos c24] at H
         have c24b0:decide (5040<x5_2)=true:=decide_eq_true c24
         clear c24
         obtain rfl:=Option.some.inj H
         go_wp2
         go_ret
         exact⟨fin1,bl⟩
        ·rw[if_neg c24] at H
         have c24b0:decide (5040<x5_2)=false:=decide_eq_false c24
         clear c24
         obtain rfl:=Option.some.inj H
         go_wp2
         go_ret
         exact⟨fin1,bl⟩
 ·replace c3:=Bool.eq_false_iff.mpr c3
  subst c3
  have H1:(some 0)=some r:=by rw[if_neg (show ¬ (false=true) by decide)] at H;exact H
  clear H
  have H:=H1
  clear H1
  obtain rfl:=Option.some.inj H
  go_enter Try.func33,Try.ntmps33
  go_wp2_with (first|((with_reducible refine gate_callee (f:=25) rfl ?_);refine goesL_ (some 11) rfl rfl Try.func25 (by kernel_rfl) rfl #[.int .i64 (l0.length:Int),.int .i64 1,.int .i64 5] rfl tl ?_;(with_reducible refine(spec_l1In.calls (l0.length:Int) 1 5 false _ A2.out).mono ?_);rintro e w' ⟨rfl,⟨nd,rfl⟩⟩;refine⟨_,rfl,?_⟩))
  go_ret
  exact⟨fin1,bl⟩

/-! ### spec_l1Has: function 60 -/
def spec_l1Has.l0:Nat→Int→List Int→Int→Int→Option (Bool)
 | 0,_,_,_,_=>none
 | k+1,x1,x7,x8,x9=>if x9<x8 then(if 0≤x9 then(if x9<(x7.length:Int) then(if(rd x7 x9)=x1 then(some true) else(spec_l1Has.l0 k x1 x7 x8 (wrap64 (x9+1)))) else(none)) else(none)) else(some false)
def spec_l1Has.f (k:Nat) (l0:List Int) (a1:Int):Option (Bool):=spec_l1Has.l0 k a1 l0 (l0.length:Int) 0
set_option maxHeartbeats 8000000 in
set_option maxRecDepth 100000 in
theorem spec_l1Has.calls (k:Nat) (A0:Option Addr) (c0:Nat) (l0:List Int) (a1:Int) (r:Bool) (w:World) (hr0:Kd.C (Kd.int .i64) w A0 l0.length l0) (hc0:l0.length≤c0) (h:spec_l1Has.f k l0 a1=some r) :
  Calls Try.prog 60 #[.slice A0 l0.length c0,.int .i64 a1] w fun e w'=>e = .returned (.bool r)∧Drawn0 w w':=by
 have HR0:=am hr0
 have HC0:=am hc0
 clear hr0 hc0
 have H:(spec_l1Has.l0 k a1 l0 (l0.length:Int) 0)=some r:=h
 clear h
 have H':=am H
 clear H
 go_enter Try.func60,Try.ntmps60
 go_wp2
 go_loopg [9] k (fun kq v9 w'=>∃(x9_1:Int),v9 = .int .i64 x9_1∧Aside0 (spec_l1Has.l0 kq a1 l0 (l0.length:Int) x9_1=some r)∧Aside0 (kq≤k)∧Drawn0 w w')
 case atStart=>exact⟨(0),fin2,H',⟨Nat.le_refl _⟩,by repeat(first|exact Drawn0.refl _|apply Drawn0.step)⟩
 case round =>
  clear H'
  try clear p2
  obtain⟨x9_1,rfl,HA,HK1,⟨m1,rfl⟩⟩:=hrel
  cases gk with
  | zero=>exact absurd HA.out (by simp [spec_l1Has.l0])
  | succ k1 =>
   have H:=HA.out
   clear HA
   simp only[spec_l1Has.l0] at H
   by_cases c3:x9_1<(l0.length:Int)
   ·rw[if_pos c3] at H
    have c3b0:decide (x9_1<(l0.length:Int))=true:=decide_eq_true c3
    clear c3
    by_cases c4:0≤x9_1
    ·rw[if_pos c4] at H
     have c4b0:decide (0≤x9_1)=true:=decide_eq_true c4
     clear c4
     by_cases c5:x9_1<(l0.length:Int)
     ·rw[if_pos c5] at H
      have c5b0:decide (x9_1<(l0.length:Int))=true:=decide_eq_true c5
      clear c5
      by_cases c6:(rd l0 x9_1)=a1
      ·rw[if_pos c6] at H
       have c6b0:((rd l0 x9_1) == a1)=true:=beq_iff_eq.mpr c6
       have c6b1:((rd l0 x9_1) != a1)=false:=bne_eq_false_iff_eq.mpr c6
       clear c6
       obtain rfl:=Option.some.inj H
       have p361:0≤(x9_1:Int):=od
       have q361:x9_1<(l0.length:Int):=od
       obtain⟨ad361,e361,hx361_0⟩:=Kd.at_int HR0.out x9_1 p361 q361
       cases e361
       replace p361:=eq_true p361
       replace q361:=eq_true q361
       go_wp2
       go_ret
       exact⟨by first|rfl|(simp;done)|(simp [*];done),by repeat(first|exact Drawn0.refl _|apply Drawn0.step)⟩
      ·rw[if_neg c6] at H
       have c6b0:((rd l0 x9_1) == a1)=false:=beq_eq_false_iff_ne.mpr c6
       have c6b1:((rd l0 x9_1) != a1)=true:=bne_iff_ne.mpr c6
       have H':=am H
       clear H
       have p361:0≤(x9_1:Int):=od
       have q361:x9_1<(l0.length:Int):=od
       obtain⟨ad361,e361,hx361_0⟩:=Kd.at_int HR0.out x9_1 p361 q361
       cases e361
       replace p361:=eq_true p361
       replace q361:=eq_true q361
       go_wp2
       go_roundg k1
       case measure=>have:=HK1.out;omega
       case rel=>exact⟨(wrap64 (x9_1+1)),fin2,H',⟨by have:=HK1.out;omega⟩,by repeat(first|exact Drawn0.refl _|apply Drawn0.step)⟩
     ·rw[if_neg c5] at H
      exact absurd H (by simp)
    ·rw[if_neg c4] at H
     exact absurd H (by simp)
   ·rw[if_neg c3] at H
    have c3b0:decide (x9_1<(l0.length:Int))=false:=decide_eq_false c3
    clear c3
    obtain rfl:=Option.some.inj H
    go_wp2
    go_ret
    exact⟨by first|rfl|(simp;done)|(simp [*];done),by repeat(first|exact Drawn0.refl _|apply Drawn0.step)⟩

/-! ### spec_drBeats: function 48 -/
def spec_drBeats.f (k:Nat) (a0_0:Int) (l0_1:List Int) (a1:Int):Option (Bool):=if a0_0=0 then(none) else((spec_l1Has.f k l0_1 (Int.tmod a1 a0_0)).bind fun t363=>(some t363))
set_option maxHeartbeats 8000000 in
set_option maxRecDepth 100000 in
theorem spec_drBeats.calls (k:Nat) (a0_0:Int) (A0_1:Option Addr) (c0_1:Nat) (l0_1:List Int) (a1:Int) (r:Bool) (w:World) (hr0_1:Kd.C (Kd.int .i64) w A0_1 l0_1.length l0_1) (hc0_1:l0_1.length≤c0_1) (h:spec_drBeats.f k a0_0 l0_1 a1=some r) :
  Calls Try.prog 48 #[.agg #[.int .i64 a0_0,.slice A0_1 l0_1.length c0_1],.int .i64 a1] w fun e w'=>e = .returned (.bool r)∧Below w.heap.size w w':=by
 have hu26:=Try.underlying26
 have HR0_1:=am hr0_1
 have HC0_1:=am hc0_1
 clear hr0_1 hc0_1
 have HB:=am (Below.refl w.heap.size w)
 have H:(if a0_0=0 then(none) else((spec_l1Has.f k l0_1 (Int.tmod a1 a0_0)).bind fun t363=>(some t363)))=some r:=h
 clear h
 by_cases c3:a0_0=0
 ·rw[if_pos c3] at H
  exact absurd H (by simp)
 ·rw[if_neg c3] at H
  have c3b0:(a0_0 == 0)=false:=beq_eq_false_iff_ne.mpr c3
  have c3b1:(a0_0 != 0)=true:=bne_iff_ne.mpr c3
  replace H:=Option.bind_eq_some_iff.mp H
  obtain⟨t363,A40,H⟩:=H
  replace H:(some t363)=some r:=H
  have A4:=am A40
  clear A40
  obtain rfl:=Option.some.inj H
  go_enter Try.func48,Try.ntmps48
  go_wp2_with (first|((with_reducible refine gate_dst (N:=2) rfl ?_);refine box_event ?hg (N:=2) ?hd (cs := #[.int .i64 a0_0,.slice A0_1 l0_1.length c0_1]) (t:=26) ?hr ?_;(case hd=>rfl);(case hg=>rfl);(case hr=>first|(go_simp;done)|(go_simp;rfl));intro gb362 hg w5 hbox hb;have n0_:=am (below_step bl hb);have n1_:=am (hbox);have n2_:=am (ge_ bl hg);have n3_:=am (ge_ bl hg);clear HB;have HB:=n0_;have BK362:=n1_;have GW362:=n2_;have GE362:=n3_;clear n0_ n1_ n2_ n3_ hb hbox hg;have hcz6_0:w5.cell? ⟨gb362,0,none⟩=some (.int .i64 a0_0):=(blk_cell BK362.out 0).trans rfl;have hcz6_1:w5.cell? ⟨gb362,1,none⟩=some (.slice A0_1 l0_1.length c0_1):=(blk_cell BK362.out 1).trans rfl;have hfz6_0:=blk_frozen BK362.out 0;have hfz6_1:=blk_frozen BK362.out 1)|(go_at_call 60;(with_reducible refine(spec_l1Has.calls k _ _ l0_1 (Int.tmod a1 a0_0) t363 _ ?side1 ?side2 A4.out).mono ?_);(case side1=>exact cup (Kd.C_below HR0_1.out HB.out));(case side2=>exact HC0_1.out);rintro e w' ⟨rfl,⟨nd,rfl⟩⟩;(try first|exact⟨rfl,_,World.drewN_drewN _ _ _⟩|exact⟨rfl,_,Eq.trans (World.drewN_drewN _ _ _) (congrArg (World.drewN _) (Nat.add_assoc _ _ _))⟩)))
  repeat(go_quiet (first|((with_reducible refine gate_dst (N:=2) rfl ?_);refine box_event ?hg (N:=2) ?hd (cs := #[.int .i64 a0_0,.slice A0_1 l0_1.length c0_1]) (t:=26) ?hr ?_;(case hd=>rfl);(case hg=>rfl);(case hr=>first|(go_simp;done)|(go_simp;rfl));intro gb362 hg w5 hbox hb;have n0_:=am (below_step bl hb);have n1_:=am (hbox);have n2_:=am (ge_ bl hg);have n3_:=am (ge_ bl hg);clear HB;have HB:=n0_;have BK362:=n1_;have GW362:=n2_;have GE362:=n3_;clear n0_ n1_ n2_ n3_ hb hbox hg;have hcz6_0:w5.cell? ⟨gb362,0,none⟩=some (.int .i64 a0_0):=(blk_cell BK362.out 0).trans rfl;have hcz6_1:w5.cell? ⟨gb362,1,none⟩=some (.slice A0_1 l0_1.length c0_1):=(blk_cell BK362.out 1).trans rfl;have hfz6_0:=blk_frozen BK362.out 0;have hfz6_1:=blk_frozen BK362.out 1)|(go_at_call 60;(with_reducible refine(spec_l1Has.calls k _ _ l0_1 (Int.tmod a1 a0_0) t363 _ ?side1 ?side2 A4.out).mono ?_);(case side1=>exact cup (Kd.C_below HR0_1.out HB.out));(case side2=>exact HC0_1.out);rintro e w' ⟨rfl,⟨nd,rfl⟩⟩;(try first|exact⟨rfl,_,World.drewN_drewN _ _ _⟩|exact⟨rfl,_,Eq.trans (World.drewN_drewN _ _ _) (congrArg (World.drewN _) (Nat.add_assoc _ _ _))⟩)));try go_wp2_with (first|((with_reducible refine gate_dst (N:=2) rfl ?_);refine box_event ?hg (N:=2) ?hd (cs := #[.int .i64 a0_0,.slice A0_1 l0_1.length c0_1]) (t:=26) ?hr ?_;(case hd=>rfl);(case hg=>rfl);(case hr=>first|(go_simp;done)|(go_simp;rfl));intro gb362 hg w5 hbox hb;have n0_:=am (below_step bl hb);have n1_:=am (hbox);have n2_:=am (ge_ bl hg);have n3_:=am (ge_ bl hg);clear HB;have HB:=n0_;have BK362:=n1_;have GW362:=n2_;have GE362:=n3_;clear n0_ n1_ n2_ n3_ hb hbox hg;have hcz6_0:w5.cell? ⟨gb362,0,none⟩=some (.int .i64 a0_0):=(blk_cell BK362.out 0).trans rfl;have hcz6_1:w5.cell? ⟨gb362,1,none⟩=some (.slice A0_1 l0_1.length c0_1):=(blk_cell BK362.out 1).trans rfl;have hfz6_0:=blk_frozen BK362.out 0;have hfz6_1:=blk_frozen BK362.out 1)|(go_at_call 60;(with_reducible refine(spec_l1Has.calls k _ _ l0_1 (Int.tmod a1 a0_0) t363 _ ?side1 ?side2 A4.out).mono ?_);(case side1=>exact cup (Kd.C_below HR0_1.out HB.out));(case side2=>exact HC0_1.out);rintro e w' ⟨rfl,⟨nd,rfl⟩⟩;(try first|exact⟨rfl,_,World.drewN_drewN _ _ _⟩|exact⟨rfl,_,Eq.trans (World.drewN_drewN _ _ _) (congrArg (World.drewN _) (Nat.add_assoc _ _ _))⟩))))
  go_ret
  exact⟨fin1,bl⟩

end Go.Proofs.Ytlhjjpdlfddflac.PFnDrums
