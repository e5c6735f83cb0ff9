/- The walks of functions that FnDrums reaches: what they return is what the plain functions of the same names say. Made by a program of this session after the kit's print. No conditions beyond the arguments' being read. -/
import Derived.Test.YtlhjjpdlfddflacSFnDrums0
import Derived.Test.YtlhjjpdlfddflacSFnDrums7
import Derived.Test.YtlhjjpdlfddflacSFnDrums8
namespace Go.Proofs.Ytlhjjpdlfddflac.PFnDrums
open Go.RowKit Go.Proofs.YtlhjjpdlfddflacW.PrintWords Go.Proofs.YtlhjjpdlfddflacW.PrintLast Go.Proofs.YtlhjjpdlfddflacW.PrintMore
attribute [local go_sem] max2_int min2_int max_two min_two max_three min_three max_four min_four   -- for this text's walks alone
set_option linter.unusedVariables false
set_option linter.unusedSimpArgs false

/-! ### spec_drCount: function 43 -/
def spec_drCount.l0:Nat→Int→Int→List (S26)→Int→Int→Option (Int)
 | 0,_,_,_,_,_=>none
 | k+1,x1,x5,x8,x9,x10=>if x10<x9 then(if 0≤x10 then(if x10<(x8.length:Int) then((spec_drBeats.f k ((rd_T26 x8 x10).f0) ((rd_T26 x8 x10).f1) x1).bind fun t366=>(if t366=true then(spec_drCount.l0 k x1 (wrap64 (x5+1)) x8 x9 (wrap64 (x10+1))) else(spec_drCount.l0 k x1 x5 x8 x9 (wrap64 (x10+1))))) else(none)) else(none)) else(some x5)
def spec_drCount.f (k:Nat) (l0:List (S26)) (a1:Int):Option (Int):=spec_drCount.l0 k a1 0 l0 (l0.length:Int) 0
set_option maxHeartbeats 8000000 in
set_option maxRecDepth 100000 in
theorem spec_drCount.calls (k:Nat) (A0:Option Addr) (c0:Nat) (l0:List (S26)) (a1:Int) (r:Int) (w:World) (hr0:Kd.C k26 w A0 l0.length l0) (hc0:l0.length≤c0) (h:spec_drCount.f k l0 a1=some r) :
  Calls Try.prog 43 #[.slice A0 l0.length c0,.int .i64 a1] w fun e w'=>e = .returned (.int .i64 r)∧Below w.heap.size w w':=by
 have hu26:=Try.underlying26
 have HR0:=am hr0
 have HC0:=am hc0
 clear hr0 hc0
 have HB:=am (Below.refl w.heap.size w)
 have H:(spec_drCount.l0 k a1 0 l0 (l0.length:Int) 0)=some r:=h
 clear h
 have H':=am H
 clear H
 go_enter Try.func43,Try.ntmps43
 go_wp2
 go_loopg [5,10] k (fun kq v5 v10 w'=>∃(x5_1:Int) (x10_1:Int),v5 = .int .i64 x5_1∧v10 = .int .i64 x10_1∧Aside0 (spec_drCount.l0 kq a1 x5_1 l0 (l0.length:Int) x10_1=some r)∧Aside0 (kq≤k)∧Aside0 (Below w.heap.size w w'))
 case atStart=>exact⟨(0),(0),fin2,fin2,H',⟨Nat.le_refl _⟩,⟨bl⟩⟩
 case round =>
  clear H'
  try clear p2
  obtain⟨x5_1,x10_1,rfl,rfl,HA,HK1,HB⟩:=hrel
  cases gk with
  | zero=>exact absurd HA.out (by simp [spec_drCount.l0])
  | succ k1 =>
   have H:=HA.out
   clear HA
   simp only[spec_drCount.l0] at H
   by_cases c3:x10_1<(l0.length:Int)
   ·rw[if_pos c3] at H
    have c3b0:decide (x10_1<(l0.length:Int))=true:=decide_eq_true c3
    clear c3
    by_cases c4:0≤x10_1
    ·rw[if_pos c4] at H
     have c4b0:decide (0≤x10_1)=true:=decide_eq_true c4
     clear c4
     by_cases c5:x10_1<(l0.length:Int)
     ·rw[if_pos c5] at H
      have c5b0:decide (x10_1<(l0.length:Int))=true:=decide_eq_true c5
      clear c5
      replace H:=Option.bind_eq_some_iff.mp H
      obtain⟨t366,A60,H⟩:=H
      replace H:(if t366=true then(spec_drCount.l0 k1 a1 (wrap64 (x5_1+1)) l0 (l0.length:Int) (wrap64 (x10_1+1))) else(spec_drCount.l0 k1 a1 x5_1 l0 (l0.length:Int) (wrap64 (x10_1+1))))=some r:=H
      have A6:=am A60
      clear A60
      by_cases c7:t366=true
      ·subst c7
       have H1:(spec_drCount.l0 k1 a1 (wrap64 (x5_1+1)) l0 (l0.length:Int) (wrap64 (x10_1+1)))=some r:=by rw[if_pos rfl] at H;exact H
       clear H
       have H:=H1
       clear H1
       have H':=am H
       clear H
       have p364:0≤(x10_1:Int):=od
       have q364:x10_1<(l0.length:Int):=od
       obtain⟨ad364,A364_1,c364_1,e364,hx364_0,hx364_1,hl364_1,hi364_1⟩:=at_T26 HR0.out x10_1 p364 q364
       cases e364
       replace hx364_0:=(HB.out.cell (World.block_lt_of_cell? w _ hx364_0)).trans hx364_0
       replace hx364_1:=(HB.out.cell (World.block_lt_of_cell? w _ hx364_1)).trans hx364_1
       have HR364_1:=am hi364_1
       have HC364_1:=am hl364_1
       clear hi364_1 hl364_1
       replace p364:=eq_true p364
       replace q364:=eq_true q364
       go_wp2_with (first|((with_reducible refine gate_dst (N:=7) rfl ?_);refine box_event ?hg (N:=7) ?hd (cs := #[.int .i64 0,.slice none 0 0]) (t:=26) ?hr ?_;(case hd=>rfl);(case hg=>rfl);(case hr=>first|(go_simp;done)|(go_simp;rfl));intro gb365 hg w8 hbox hb;have n0_:=am (below_step bl hb);have n1_:=am (hbox);have n2_:=am (ge_ bl hg);have n3_:=am (ge_ bl hg);clear HB;have HB:=n0_;have BK365:=n1_;have GW365:=n2_;have GE365:=n3_;clear n0_ n1_ n2_ n3_ hb hbox hg;have hcz9_0:w8.cell? ⟨gb365,0,none⟩=some (.int .i64 0):=(blk_cell BK365.out 0).trans rfl;have hcz9_1:w8.cell? ⟨gb365,1,none⟩=some (.slice none 0 0):=(blk_cell BK365.out 1).trans rfl;have hfz9_0:=blk_frozen BK365.out 0;have hfz9_1:=blk_frozen BK365.out 1)|((with_reducible refine gate_callee (f:=48) rfl ?_);refine goesL_ (some 16) rfl rfl Try.func48 (by kernel_rfl) rfl #[.agg #[.int .i64 ((rd_T26 l0 x10_1).f0),.slice A364_1 ((rd_T26 l0 x10_1).f1).length c364_1],.int .i64 a1] rfl tl ?_;(with_reducible refine(spec_drBeats.calls k1 ((rd_T26 l0 x10_1).f0) _ _ ((rd_T26 l0 x10_1).f1) a1 true _ ?side1 ?side2 A6.out).mono ?_);(case side1=>exact Kd.C_below HR364_1.out bl);(case side2=>exact HC364_1.out);rintro e w10 ⟨rfl,hb⟩;refine⟨_,rfl,?_⟩;have n0_:=am (blk_below (g:=gb365) (o := .cells #[.int .i64 ((rd_T26 l0 x10_1).f0),.slice A364_1 ((rd_T26 l0 x10_1).f1).length c364_1] 26 (0,0)) (by(with_reducible repeat(first|refine bN_ ?_ _|refine bD_ ?_|refine bA_ ?_ _));refine blk_put (cs := #[.int .i64 ((rd_T26 l0 x10_1).f0),.slice none 0 0]) ?_ 1 _ rfl;(with_reducible repeat(first|refine bN_ ?_ _|refine bD_ ?_|refine bA_ ?_ _));refine blk_put (cs := #[.int .i64 0,.slice none 0 0]) ?_ 0 _ rfl;exact bup BK365.out) hb);have n1_:=am (below_step bl hb);clear BK365 HB;have BK365:=n0_;have HB:=n1_;clear n0_ n1_;(try clear hb);(try clear hb2);(try clear hk);(try clear hi)))
       go_roundg k1
       case measure=>have:=HK1.out;omega
       case rel=>exact⟨(wrap64 (x5_1+1)),(wrap64 (x10_1+1)),fin2,fin2,H',⟨by have:=HK1.out;omega⟩,⟨bl⟩⟩
      ·replace c7:=Bool.eq_false_iff.mpr c7
       subst c7
       have H1:(spec_drCount.l0 k1 a1 x5_1 l0 (l0.length:Int) (wrap64 (x10_1+1)))=some r:=by rw[if_neg (show ¬ (false=true) by decide)] at H;exact H
       clear H
       have H:=H1
       clear H1
       have H':=am H
       clear H
       have p364:0≤(x10_1:Int):=od
       have q364:x10_1<(l0.length:Int):=od
       obtain⟨ad364,A364_1,c364_1,e364,hx364_0,hx364_1,hl364_1,hi364_1⟩:=at_T26 HR0.out x10_1 p364 q364
       cases e364
       replace hx364_0:=(HB.out.cell (World.block_lt_of_cell? w _ hx364_0)).trans hx364_0
       replace hx364_1:=(HB.out.cell (World.block_lt_of_cell? w _ hx364_1)).trans hx364_1
       have HR364_1:=am hi364_1
       have HC364_1:=am hl364_1
       clear hi364_1 hl364_1
       replace p364:=eq_true p364
       replace q364:=eq_true q364
       go_wp2_with (first|((with_reducible refine gate_dst (N:=7) rfl ?_);refine box_event ?hg (N:=7) ?hd (cs := #[.int .i64 0,.slice none 0 0]) (t:=26) ?hr ?_;(case hd=>rfl);(case hg=>rfl);(case hr=>first|(go_simp;done)|(go_simp;rfl));intro gb365 hg w11 hbox hb;have n0_:=am (below_step bl hb);have n1_:=am (hbox);have n2_:=am (ge_ bl hg);have n3_:=am (ge_ bl hg);clear HB;have HB:=n0_;have BK365:=n1_;have GW365:=n2_;have GE365:=n3_;clear n0_ n1_ n2_ n3_ hb hbox hg;have hcz12_0:w11.cell? ⟨gb365,0,none⟩=some (.int .i64 0):=(blk_cell BK365.out 0).trans rfl;have hcz12_1:w11.cell? ⟨gb365,1,none⟩=some (.slice none 0 0):=(blk_cell BK365.out 1).trans rfl;have hfz12_0:=blk_frozen BK365.out 0;have hfz12_1:=blk_frozen BK365.out 1)|((with_reducible refine gate_callee (f:=48) rfl ?_);refine goesL_ (some 16) rfl rfl Try.func48 (by kernel_rfl) rfl #[.agg #[.int .i64 ((rd_T26 l0 x10_1).f0),.slice A364_1 ((rd_T26 l0 x10_1).f1).length c364_1],.int .i64 a1] rfl tl ?_;(with_reducible refine(spec_drBeats.calls k1 ((rd_T26 l0 x10_1).f0) _ _ ((rd_T26 l0 x10_1).f1) a1 false _ ?side1 ?side2 A6.out).mono ?_);(case side1=>exact Kd.C_below HR364_1.out bl);(case side2=>exact HC364_1.out);rintro e w13 ⟨rfl,hb⟩;refine⟨_,rfl,?_⟩;have n0_:=am (blk_below (g:=gb365) (o := .cells #[.int .i64 ((rd_T26 l0 x10_1).f0),.slice A364_1 ((rd_T26 l0 x10_1).f1).length c364_1] 26 (0,0)) (by(with_reducible repeat(first|refine bN_ ?_ _|refine bD_ ?_|refine bA_ ?_ _));refine blk_put (cs := #[.int .i64 ((rd_T26 l0 x10_1).f0),.slice none 0 0]) ?_ 1 _ rfl;(with_reducible repeat(first|refine bN_ ?_ _|refine bD_ ?_|refine bA_ ?_ _));refine blk_put (cs := #[.int .i64 0,.slice none 0 0]) ?_ 0 _ rfl;exact bup BK365.out) hb);have n1_:=am (below_step bl hb);clear BK365 HB;have BK365:=n0_;have HB:=n1_;clear n0_ n1_;(try clear hb);(try clear hb2);(try clear hk);(try clear hi)))
       go_roundg k1
       case measure=>have:=HK1.out;omega
       case rel=>exact⟨(x5_1),(wrap64 (x10_1+1)),fin2,fin2,H',⟨by have:=HK1.out;omega⟩,⟨bl⟩⟩
     ·rw[if_neg c5] at H
      exact absurd H (by simp)
    ·rw[if_neg c4] at H
     exact absurd H (by simp)
   ·rw[if_neg c3] at H
    have c3b0:decide (x10_1<(l0.length:Int))=false:=decide_eq_false c3
    clear c3
    obtain rfl:=Option.some.inj H
    go_wp2
    go_ret
    exact⟨fin1,bl⟩

/-! ### spec_drMost: function 34 -/
def spec_drMost.l0:Nat→List (S26)→Int→Int→Int→Option (Int×Int)
 | 0,_,_,_,_=>none
 | k+1,x0,x4,x5,x6=>(spec_drCommon.f k x0).bind fun t367=>(if x6<t367 then((spec_drCount.f k x0 x6).bind fun t368=>(if t368>x5 then(spec_drMost.l0 k x0 x6 t368 (wrap64 (x6+1))) else(spec_drMost.l0 k x0 x4 x5 (wrap64 (x6+1))))) else(some (x4,x5)))
def spec_drMost.f (k:Nat) (l0:List (S26)):Option (Int×Int):=spec_drMost.l0 k l0 0 (-1) 0
set_option maxHeartbeats 8000000 in
set_option maxRecDepth 100000 in
theorem spec_drMost.calls (k:Nat) (A0:Option Addr) (c0:Nat) (l0:List (S26)) (r1:Int) (r2:Int) (w:World) (hr0:Kd.C k26 w A0 l0.length l0) (hc0:l0.length≤c0) (h:spec_drMost.f k l0=some (r1,r2)) :
  Calls Try.prog 34 #[.slice A0 l0.length c0] w fun e w'=>e = .returned (.tuple #[.int .i64 r1,.int .i64 r2])∧Below w.heap.size w w':=by
 have HR0:=am hr0
 have HC0:=am hc0
 clear hr0 hc0
 have HB:=am (Below.refl w.heap.size w)
 have H:(spec_drMost.l0 k l0 0 (-1) 0)=some (r1,r2):=h
 clear h
 have H':=am H
 clear H
 go_enter Try.func34,Try.ntmps34
 go_wp2
 go_loopg [4,5,6] k (fun kq v4 v5 v6 w'=>∃(x4_1:Int) (x5_1:Int) (x6_1:Int),v4 = .int .i64 x4_1∧v5 = .int .i64 x5_1∧v6 = .int .i64 x6_1∧Aside0 (spec_drMost.l0 kq l0 x4_1 x5_1 x6_1=some (r1,r2))∧Aside0 (kq≤k)∧Aside0 (Below w.heap.size w w'))
 case atStart=>exact⟨(0),((-1)),(0),fin2,fin2,fin2,H',⟨Nat.le_refl _⟩,⟨bl⟩⟩
 case round =>
  clear H'
  obtain⟨x4_1,x5_1,x6_1,rfl,rfl,rfl,HA,HK1,HB⟩:=hrel
  cases gk with
  | zero=>exact absurd HA.out (by simp [spec_drMost.l0])
  | succ k1 =>
   have H:=HA.out
   clear HA
   simp only[spec_drMost.l0] at H
   replace H:=Option.bind_eq_some_iff.mp H
   obtain⟨t367,A20,H⟩:=H
   replace H:(if x6_1<t367 then((spec_drCount.f k1 l0 x6_1).bind fun t368=>(if t368>x5_1 then(spec_drMost.l0 k1 l0 x6_1 t368 (wrap64 (x6_1+1))) else(spec_drMost.l0 k1 l0 x4_1 x5_1 (wrap64 (x6_1+1))))) else(some (x4_1,x5_1)))=some (r1,r2):=H
   have A2:=am A20
   clear A20
   by_cases c3:x6_1<t367
   ·rw[if_pos c3] at H
    have c3b0:decide (x6_1<t367)=true:=decide_eq_true c3
    clear c3
    replace H:=Option.bind_eq_some_iff.mp H
    obtain⟨t368,A40,H⟩:=H
    replace H:(if t368>x5_1 then(spec_drMost.l0 k1 l0 x6_1 t368 (wrap64 (x6_1+1))) else(spec_drMost.l0 k1 l0 x4_1 x5_1 (wrap64 (x6_1+1))))=some (r1,r2):=H
    have A4:=am A40
    clear A40
    by_cases c5:t368>x5_1
    ·rw[if_pos c5] at H
     have c5b0:decide (x5_1<t368)=true:=decide_eq_true c5
     clear c5
     have H':=am H
     clear H
     go_wp2_with (first|((with_reducible refine gate_callee (f:=33) rfl ?_);refine goesL_ (some 10) rfl rfl Try.func33 (by kernel_rfl) rfl #[.slice A0 l0.length c0] rfl tl ?_;(with_reducible refine(spec_drCommon.calls k1 _ _ l0 t367 _ ?side1 ?side2 A2.out).mono ?_);(case side1=>exact cup (Kd.C_below HR0.out HB.out));(case side2=>exact HC0.out);rintro e w6 ⟨rfl,hb⟩;refine⟨_,rfl,?_⟩;have n0_:=am (below_step bl hb);clear HB;have HB:=n0_;clear n0_;(try clear hb);(try clear hb2);(try clear hk);(try clear hi))|((with_reducible refine gate_callee (f:=43) rfl ?_);refine goesL_ (some 16) rfl rfl Try.func43 (by kernel_rfl) rfl #[.slice A0 l0.length c0,.int .i64 x6_1] rfl tl ?_;(with_reducible refine(spec_drCount.calls k1 _ _ l0 x6_1 t368 _ ?side1 ?side2 A4.out).mono ?_);(case side1=>exact cup (Kd.C_below HR0.out HB.out));(case side2=>exact HC0.out);rintro e w7 ⟨rfl,hb⟩;refine⟨_,rfl,?_⟩;have n0_:=am (below_step bl hb);clear HB;have HB:=n0_;clear n0_;(try clear hb);(try clear hb2);(try clear hk);(try clear hi)))
     go_roundg k1
     case measure=>have:=HK1.out;omega
     case rel=>exact⟨(x6_1),(t368),(wrap64 (x6_1+1)),fin2,fin2,fin2,H',⟨by have:=HK1.out;omega⟩,⟨bl⟩⟩
    ·rw[if_neg c5] at H
     have c5b0:decide (x5_1<t368)=false:=decide_eq_false c5
     clear c5
     have H':=am H
     clear H
     go_wp2_with (first|((with_reducible refine gate_callee (f:=33) rfl ?_);refine goesL_ (some 10) rfl rfl Try.func33 (by kernel_rfl) rfl #[.slice A0 l0.length c0] rfl tl ?_;(with_reducible refine(spec_drCommon.calls k1 _ _ l0 t367 _ ?side1 ?side2 A2.out).mono ?_);(case side1=>exact cup (Kd.C_below HR0.out HB.out));(case side2=>exact HC0.out);rintro e w8 ⟨rfl,hb⟩;refine⟨_,rfl,?_⟩;have n0_:=am (below_step bl hb);clear HB;have HB:=n0_;clear n0_;(try clear hb);(try clear hb2);(try clear hk);(try clear hi))|((with_reducible refine gate_callee (f:=43) rfl ?_);refine goesL_ (some 16) rfl rfl Try.func43 (by kernel_rfl) rfl #[.slice A0 l0.length c0,.int .i64 x6_1] rfl tl ?_;(with_reducible refine(spec_drCount.calls k1 _ _ l0 x6_1 t368 _ ?side1 ?side2 A4.out).mono ?_);(case side1=>exact cup (Kd.C_below HR0.out HB.out));(case side2=>exact HC0.out);rintro e w9 ⟨rfl,hb⟩;refine⟨_,rfl,?_⟩;have n0_:=am (below_step bl hb);clear HB;have HB:=n0_;clear n0_;(try clear hb);(try clear hb2);(try clear hk);(try clear hi)))
     go_roundg k1
     case measure=>have:=HK1.out;omega
     case rel=>exact⟨(x4_1),(x5_1),(wrap64 (x6_1+1)),fin2,fin2,fin2,H',⟨by have:=HK1.out;omega⟩,⟨bl⟩⟩
   ·rw[if_neg c3] at H
    have c3b0:decide (x6_1<t367)=false:=decide_eq_false c3
    clear c3
    simp only[Option.some.injEq,Prod.mk.injEq] at H
    obtain⟨rfl,rfl⟩:=H
    go_wp2_with (first|((with_reducible refine gate_callee (f:=33) rfl ?_);refine goesL_ (some 10) rfl rfl Try.func33 (by kernel_rfl) rfl #[.slice A0 l0.length c0] rfl tl ?_;(with_reducible refine(spec_drCommon.calls k1 _ _ l0 t367 _ ?side1 ?side2 A2.out).mono ?_);(case side1=>exact cup (Kd.C_below HR0.out HB.out));(case side2=>exact HC0.out);rintro e w10 ⟨rfl,hb⟩;refine⟨_,rfl,?_⟩;have n0_:=am (below_step bl hb);clear HB;have HB:=n0_;clear n0_;(try clear hb);(try clear hb2);(try clear hk);(try clear hi)))
    go_ret2
    exact⟨fin1,bl⟩

/-! ### spec_MostTogether: function 14 -/
def spec_MostTogether.f (k:Nat) (l0:List (S26)):Option (Int×Int×Bool):=(spec_drCommon.f k l0).bind fun t369=>(if t369=0 then(some (0,0,false)) else((spec_drMost.f k l0).bind fun bt370=>(some (bt370.1,bt370.2,true))))
set_option maxHeartbeats 8000000 in
set_option maxRecDepth 100000 in
theorem spec_MostTogether.calls (k:Nat) (A0:Option Addr) (c0:Nat) (l0:List (S26)) (r1:Int) (r2:Int) (r3:Bool) (w:World) (hr0:Kd.C k26 w A0 l0.length l0) (hc0:l0.length≤c0) (h:spec_MostTogether.f k l0=some (r1,r2,r3)) :
  Calls Try.prog 14 #[.slice A0 l0.length c0] w fun e w'=>e = .returned (.tuple #[.int .i64 r1,.int .i64 r2,.bool r3])∧Below w.heap.size w w':=by
 have HR0:=am hr0
 have HC0:=am hc0
 clear hr0 hc0
 have HB:=am (Below.refl w.heap.size w)
 have H:((spec_drCommon.f k l0).bind fun t369=>(if t369=0 then(some (0,0,false)) else((spec_drMost.f k l0).bind fun bt370=>(some (bt370.1,bt370.2,true)))))=some (r1,r2,r3):=h
 clear h
 replace H:=Option.bind_eq_some_iff.mp H
 obtain⟨t369,A20,H⟩:=H
 replace H:(if t369=0 then(some (0,0,false)) else((spec_drMost.f k l0).bind fun bt370=>(some (bt370.1,bt370.2,true))))=some (r1,r2,r3):=H
 have A2:=am A20
 clear A20
 by_cases c3:t369=0
 ·rw[if_pos c3] at H
  have c3b0:(t369 == 0)=true:=beq_iff_eq.mpr c3
  have c3b1:(t369 != 0)=false:=bne_eq_false_iff_eq.mpr c3
  clear c3
  simp only[Option.some.injEq,Prod.mk.injEq] at H
  obtain⟨rfl,rfl,rfl⟩:=H
  go_enter Try.func14,Try.ntmps14
  go_wp2_with (first|((with_reducible refine gate_callee (f:=33) rfl ?_);refine goesL_ (some 8) rfl rfl Try.func33 (by kernel_rfl) rfl #[.slice A0 l0.length c0] rfl tl ?_;(with_reducible refine(spec_drCommon.calls k _ _ l0 t369 _ ?side1 ?side2 A2.out).mono ?_);(case side1=>repeat(first|exact HR0.out|(with_reducible refine Kd.C_alloc ?_ _)|(with_reducible refine Kd.C_drewN ?_ _)|(with_reducible refine Kd.C_drew ?_)));(case side2=>exact HC0.out);rintro e w4 ⟨rfl,hb⟩;refine⟨_,rfl,?_⟩;have n0_:=am (below_step bl hb);clear HB;have HB:=n0_;clear n0_;(try clear hb);(try clear hb2);(try clear hk);(try clear hi)))
  go_ret3
  exact⟨fin1,bl⟩
 ·rw[if_neg c3] at H
  have c3b0:(t369 == 0)=false:=beq_eq_false_iff_ne.mpr c3
  have c3b1:(t369 != 0)=true:=bne_iff_ne.mpr c3
  replace H:=Option.bind_eq_some_iff.mp H
  obtain⟨⟨t370,t371⟩,A50,H⟩:=H
  replace H:(some (t370,t371,true))=some (r1,r2,r3):=H
  have A5:=am A50
  clear A50
  simp only[Option.some.injEq,Prod.mk.injEq] at H
  obtain⟨rfl,rfl,rfl⟩:=H
  go_enter Try.func14,Try.ntmps14
  go_wp2_with (first|((with_reducible refine gate_callee (f:=33) rfl ?_);refine goesL_ (some 8) rfl rfl Try.func33 (by kernel_rfl) rfl #[.slice A0 l0.length c0] rfl tl ?_;(with_reducible refine(spec_drCommon.calls k _ _ l0 t369 _ ?side1 ?side2 A2.out).mono ?_);(case side1=>repeat(first|exact HR0.out|(with_reducible refine Kd.C_alloc ?_ _)|(with_reducible refine Kd.C_drewN ?_ _)|(with_reducible refine Kd.C_drew ?_)));(case side2=>exact HC0.out);rintro e w6 ⟨rfl,hb⟩;refine⟨_,rfl,?_⟩;have n0_:=am (below_step bl hb);clear HB;have HB:=n0_;clear n0_;(try clear hb);(try clear hb2);(try clear hk);(try clear hi))|((with_reducible refine gate_callee (f:=34) rfl ?_);refine goesL_ (some 12) rfl rfl Try.func34 (by kernel_rfl) rfl #[.slice A0 l0.length c0] rfl tl ?_;(with_reducible refine(spec_drMost.calls k _ _ l0 t370 t371 _ ?side1 ?side2 A5.out).mono ?_);(case side1=>exact cup (Kd.C_below HR0.out HB.out));(case side2=>exact HC0.out);rintro e w7 ⟨rfl,hb⟩;refine⟨_,rfl,?_⟩;have n0_:=am (below_step bl hb);clear HB;have HB:=n0_;clear n0_;(try clear hb);(try clear hb2);(try clear hk);(try clear hi)))
  go_ret3
  exact⟨fin1,bl⟩

/-! ### impl_CommonSteps: function 15 -/
def impl_CommonSteps.f (k:Nat) (l0:List (S26)):Option (Int×Bool):=(impl_commonSteps.f k l0).bind fun bt372=>(if bt372.2=true then(some (bt372.1,true)) else(some (0,false)))
set_option maxHeartbeats 8000000 in
set_option maxRecDepth 100000 in
theorem impl_CommonSteps.calls (k:Nat) (A0:Option Addr) (c0:Nat) (l0:List (S26)) (r1:Int) (r2:Bool) (w:World) (hr0:Kd.C k26 w A0 l0.length l0) (hc0:l0.length≤c0) (h:impl_CommonSteps.f k l0=some (r1,r2)) :
  Calls Try.prog 15 #[.slice A0 l0.length c0] w fun e w'=>e = .returned (.tuple #[.int .i64 r1,.bool r2])∧Below w.heap.size w w':=by
 have HR0:=am hr0
 have HC0:=am hc0
 clear hr0 hc0
 have HB:=am (Below.refl w.heap.size w)
 have H:((impl_commonSteps.f k l0).bind fun bt372=>(if bt372.2=true then(some (bt372.1,true)) else(some (0,false))))=some (r1,r2):=h
 clear h
 replace H:=Option.bind_eq_some_iff.mp H
 obtain⟨⟨t372,t373⟩,A20,H⟩:=H
 replace H:(if t373=true then(some (t372,true)) else(some (0,false)))=some (r1,r2):=H
 have A2:=am A20
 clear A20
 by_cases c3:t373=true
 ·subst c3
  have H1:(some (t372,true))=some (r1,r2):=by rw[if_pos rfl] at H;exact H
  clear H
  have H:=H1
  clear H1
  simp only[Option.some.injEq,Prod.mk.injEq] at H
  obtain⟨rfl,rfl⟩:=H
  go_enter Try.func15,Try.ntmps15
  go_wp2_with (first|((with_reducible refine gate_callee (f:=31) rfl ?_);refine goesL_ (some 8) rfl rfl Try.func31 (by kernel_rfl) rfl #[.slice A0 l0.length c0] rfl tl ?_;(with_reducible refine(impl_commonSteps.calls k _ _ l0 t372 true _ ?side1 ?side2 A2.out).mono ?_);(case side1=>repeat(first|exact HR0.out|(with_reducible refine Kd.C_alloc ?_ _)|(with_reducible refine Kd.C_drewN ?_ _)|(with_reducible refine Kd.C_drew ?_)));(case side2=>exact HC0.out);rintro e w4 ⟨rfl,hb⟩;refine⟨_,rfl,?_⟩;have n0_:=am (below_step bl hb);clear HB;have HB:=n0_;clear n0_;(try clear hb);(try clear hb2);(try clear hk);(try clear hi)))
  go_ret2
  exact⟨fin1,bl⟩
 ·replace c3:=Bool.eq_false_iff.mpr c3
  subst c3
  have H1:(some (0,false))=some (r1,r2):=by rw[if_neg (show ¬ (false=true) by decide)] at H;exact H
  clear H
  have H:=H1
  clear H1
  simp only[Option.some.injEq,Prod.mk.injEq] at H
  obtain⟨rfl,rfl⟩:=H
  go_enter Try.func15,Try.ntmps15
  go_wp2_with (first|((with_reducible refine gate_callee (f:=31) rfl ?_);refine goesL_ (some 8) rfl rfl Try.func31 (by kernel_rfl) rfl #[.slice A0 l0.length c0] rfl tl ?_;(with_reducible refine(impl_commonSteps.calls k _ _ l0 t372 false _ ?side1 ?side2 A2.out).mono ?_);(case side1=>repeat(first|exact HR0.out|(with_reducible refine Kd.C_alloc ?_ _)|(with_reducible refine Kd.C_drewN ?_ _)|(with_reducible refine Kd.C_drew ?_)));(case side2=>exact HC0.out);rintro e w5 ⟨rfl,hb⟩;refine⟨_,rfl,?_⟩;have n0_:=am (below_step bl hb);clear HB;have HB:=n0_;clear n0_;(try clear hb);(try clear hb2);(try clear hk);(try clear hi)))
  go_ret2
  exact⟨fin1,bl⟩

/-! ### spec_CommonSteps: function 16 -/
def spec_CommonSteps.f (k:Nat) (l0:List (S26)):Option (Int×Bool):=(spec_drCommon.f k l0).bind fun t374=>(some (t374,decide (t374>0)))
set_option maxHeartbeats 8000000 in
set_option maxRecDepth 100000 in
theorem spec_CommonSteps.calls (k:Nat) (A0:Option Addr) (c0:Nat) (l0:List (S26)) (r1:Int) (r2:Bool) (w:World) (hr0:Kd.C k26 w A0 l0.length l0) (hc0:l0.length≤c0) (h:spec_CommonSteps.f k l0=some (r1,r2)) :
  Calls Try.prog 16 #[.slice A0 l0.length c0] w fun e w'=>e = .returned (.tuple #[.int .i64 r1,.bool r2])∧Below w.heap.size w w':=by
 have HR0:=am hr0
 have HC0:=am hc0
 clear hr0 hc0
 have HB:=am (Below.refl w.heap.size w)
 have H:((spec_drCommon.f k l0).bind fun t374=>(some (t374,decide (t374>0))))=some (r1,r2):=h
 clear h
 replace H:=Option.bind_eq_some_iff.mp H
 obtain⟨t374,A20,H⟩:=H
 replace H:(some (t374,decide (t374>0)))=some (r1,r2):=H
 have A2:=am A20
 clear A20
 simp only[Option.some.injEq,Prod.mk.injEq] at H
 obtain⟨rfl,rfl⟩:=H
 go_enter Try.func16,Try.ntmps16
 go_wp2_with (first|((with_reducible refine gate_callee (f:=33) rfl ?_);refine goesL_ (some 6) rfl rfl Try.func33 (by kernel_rfl) rfl #[.slice A0 l0.length c0] rfl tl ?_;(with_reducible refine(spec_drCommon.calls k _ _ l0 t374 _ ?side1 ?side2 A2.out).mono ?_);(case side1=>repeat(first|exact HR0.out|(with_reducible refine Kd.C_alloc ?_ _)|(with_reducible refine Kd.C_drewN ?_ _)|(with_reducible refine Kd.C_drew ?_)));(case side2=>exact HC0.out);rintro e w3 ⟨rfl,hb⟩;refine⟨_,rfl,?_⟩;have n0_:=am (below_step bl hb);clear HB;have HB:=n0_;clear n0_;(try clear hb);(try clear hb2);(try clear hk);(try clear hi)))
 go_ret2
 exact⟨fin1,bl⟩

/-! ### impl_TogetherAt: function 17 -/
def impl_TogetherAt.f (k:Nat) (l0:List (S26)):Option (Int×Bool):=(impl_MostTogether.f k l0).bind fun bt375=>(if bt375.2.2=true then(if bt375.2.1<(l0.length:Int) then(some (0,false)) else(some (bt375.1,true))) else(some (0,false)))
set_option maxHeartbeats 8000000 in
set_option maxRecDepth 100000 in
theorem impl_TogetherAt.calls (k:Nat) (A0:Option Addr) (c0:Nat) (l0:List (S26)) (r1:Int) (r2:Bool) (w:World) (hr0:Kd.C k26 w A0 l0.length l0) (hc0:l0.length≤c0) (h:impl_TogetherAt.f k l0=some (r1,r2)) :
  Calls Try.prog 17 #[.slice A0 l0.length c0] w fun e w'=>e = .returned (.tuple #[.int .i64 r1,.bool r2])∧Below w.heap.size w w':=by
 have HR0:=am hr0
 have HC0:=am hc0
 clear hr0 hc0
 have HB:=am (Below.refl w.heap.size w)
 have H:((impl_MostTogether.f k l0).bind fun bt375=>(if bt375.2.2=true then(if bt375.2.1<(l0.length:Int) then(some (0,false)) else(some (bt375.1,true))) else(some (0,false))))=some (r1,r2):=h
 clear h
 replace H:=Option.bind_eq_some_iff.mp H
 obtain⟨⟨t375,t376,t377⟩,A20,H⟩:=H
 replace H:(if t377=true then(if t376<(l0.length:Int) then(some (0,false)) else(some (t375,true))) else(some (0,false)))=some (r1,r2):=H
 have A2:=am A20
 clear A20
 by_cases c3:t377=true
 ·subst c3
  have H1:(if t376<(l0.length:Int) then(some (0,false)) else(some (t375,true)))=some (r1,r2):=by rw[if_pos rfl] at H;exact H
  clear H
  have H:=H1
  clear H1
  by_cases c4:t376<(l0.length:Int)
  ·rw[if_pos c4] at H
   have c4b0:decide (t376<(l0.length:Int))=true:=decide_eq_true c4
   clear c4
   simp only[Option.some.injEq,Prod.mk.injEq] at H
   obtain⟨rfl,rfl⟩:=H
   go_enter Try.func17,Try.ntmps17
   go_wp2_with (first|((with_reducible refine gate_callee (f:=13) rfl ?_);refine goesL_ (some 9) rfl rfl Try.func13 (by kernel_rfl) rfl #[.slice A0 l0.length c0] rfl tl ?_;(with_reducible refine(impl_MostTogether.calls k _ _ l0 t375 t376 true _ ?side1 ?side2 A2.out).mono ?_);(case side1=>repeat(first|exact HR0.out|(with_reducible refine Kd.C_alloc ?_ _)|(with_reducible refine Kd.C_drewN ?_ _)|(with_reducible refine Kd.C_drew ?_)));(case side2=>exact HC0.out);rintro e w5 ⟨rfl,hb⟩;refine⟨_,rfl,?_⟩;have n0_:=am (below_step bl hb);clear HB;have HB:=n0_;clear n0_;(try clear hb);(try clear hb2);(try clear hk);(try clear hi)))
   go_ret2
   exact⟨fin1,bl⟩
  ·rw[if_neg c4] at H
   have c4b0:decide (t376<(l0.length:Int))=false:=decide_eq_false c4
   clear c4
   simp only[Option.some.injEq,Prod.mk.injEq] at H
   obtain⟨rfl,rfl⟩:=H
   go_enter Try.func17,Try.ntmps17
   go_wp2_with (first|((with_reducible refine gate_callee (f:=13) rfl ?_);refine goesL_ (some 9) rfl rfl Try.func13 (by kernel_rfl) rfl #[.slice A0 l0.length c0] rfl tl ?_;(with_reducible refine(impl_MostTogether.calls k _ _ l0 t375 t376 true _ ?side1 ?side2 A2.out).mono ?_);(case side1=>repeat(first|exact HR0.out|(with_reducible refine Kd.C_alloc ?_ _)|(with_reducible refine Kd.C_drewN ?_ _)|(with_reducible refine Kd.C_drew ?_)));(case side2=>exact HC0.out);rintro e w6 ⟨rfl,hb⟩;refine⟨_,rfl,?_⟩;have n0_:=am (below_step bl hb);clear HB;have HB:=n0_;clear n0_;(try clear hb);(try clear hb2);(try clear hk);(try clear hi)))
   go_ret2
   exact⟨fin1,bl⟩
 ·replace c3:=Bool.eq_false_iff.mpr c3
  subst c3
  have H1:(some (0,false))=some (r1,r2):=by rw[if_neg (show ¬ (false=true) by decide)] at H;exact H
  clear H
  have H:=H1
  clear H1
  simp only[Option.some.injEq,Prod.mk.injEq] at H
  obtain⟨rfl,rfl⟩:=H
  go_enter Try.func17,Try.ntmps17
  go_wp2_with (first|((with_reducible refine gate_callee (f:=13) rfl ?_);refine goesL_ (some 9) rfl rfl Try.func13 (by kernel_rfl) rfl #[.slice A0 l0.length c0] rfl tl ?_;(with_reducible refine(impl_MostTogether.calls k _ _ l0 t375 t376 false _ ?side1 ?side2 A2.out).mono ?_);(case side1=>repeat(first|exact HR0.out|(with_reducible refine Kd.C_alloc ?_ _)|(with_reducible refine Kd.C_drewN ?_ _)|(with_reducible refine Kd.C_drew ?_)));(case side2=>exact HC0.out);rintro e w7 ⟨rfl,hb⟩;refine⟨_,rfl,?_⟩;have n0_:=am (below_step bl hb);clear HB;have HB:=n0_;clear n0_;(try clear hb);(try clear hb2);(try clear hk);(try clear hi)))
  go_ret2
  exact⟨fin1,bl⟩

/-! ### spec_TogetherAt: function 18 -/
def spec_TogetherAt.f (k:Nat) (l0:List (S26)):Option (Int×Bool):=(spec_drCommon.f k l0).bind fun t378=>(if t378=0 then(some (0,false)) else((spec_drMost.f k l0).bind fun bt379=>(if bt379.2<(l0.length:Int) then(some (0,false)) else(some (bt379.1,true)))))
set_option maxHeartbeats 8000000 in
set_option maxRecDepth 100000 in
theorem spec_TogetherAt.calls (k:Nat) (A0:Option Addr) (c0:Nat) (l0:List (S26)) (r1:Int) (r2:Bool) (w:World) (hr0:Kd.C k26 w A0 l0.length l0) (hc0:l0.length≤c0) (h:spec_TogetherAt.f k l0=some (r1,r2)) :
  Calls Try.prog 18 #[.slice A0 l0.length c0] w fun e w'=>e = .returned (.tuple #[.int .i64 r1,.bool r2])∧Below w.heap.size w w':=by
 have HR0:=am hr0
 have HC0:=am hc0
 clear hr0 hc0
 have HB:=am (Below.refl w.heap.size w)
 have H:((spec_drCommon.f k l0).bind fun t378=>(if t378=0 then(some (0,false)) else((spec_drMost.f k l0).bind fun bt379=>(if bt379.2<(l0.length:Int) then(some (0,false)) else(some (bt379.1,true))))))=some (r1,r2):=h
 clear h
 replace H:=Option.bind_eq_some_iff.mp H
 obtain⟨t378,A20,H⟩:=H
 replace H:(if t378=0 then(some (0,false)) else((spec_drMost.f k l0).bind fun bt379=>(if bt379.2<(l0.length:Int) then(some (0,false)) else(some (bt379.1,true)))))=some (r1,r2):=H
 have A2:=am A20
 clear A20
 by_cases c3:t378=0
 ·rw[if_pos c3] at H
  have c3b0:(t378 == 0)=true:=beq_iff_eq.mpr c3
  have c3b1:(t378 != 0)=false:=bne_eq_false_iff_eq.mpr c3
  clear c3
  simp only[Option.some.injEq,Prod.mk.injEq] at H
  obtain⟨rfl,rfl⟩:=H
  go_enter Try.func18,Try.ntmps18
  go_wp2_with (first|((with_reducible refine gate_callee (f:=33) rfl ?_);refine goesL_ (some 7) rfl rfl Try.func33 (by kernel_rfl) rfl #[.slice A0 l0.length c0] rfl tl ?_;(with_reducible refine(spec_drCommon.calls k _ _ l0 t378 _ ?side1 ?side2 A2.out).mono ?_);(case side1=>repeat(first|exact HR0.out|(with_reducible refine Kd.C_alloc ?_ _)|(with_reducible refine Kd.C_drewN ?_ _)|(with_reducible refine Kd.C_drew ?_)));(case side2=>exact HC0.out);rintro e w4 ⟨rfl,hb⟩;refine⟨_,rfl,?_⟩;have n0_:=am (below_step bl hb);clear HB;have HB:=n0_;clear n0_;(try clear hb);(try clear hb2);(try clear hk);(try clear hi)))
  go_ret2
  exact⟨fin1,bl⟩
 ·rw[if_neg c3] at H
  have c3b0:(t378 == 0)=false:=beq_eq_false_iff_ne.mpr c3
  have c3b1:(t378 != 0)=true:=bne_iff_ne.mpr c3
  replace H:=Option.bind_eq_some_iff.mp H
  obtain⟨⟨t379,t380⟩,A50,H⟩:=H
  replace H:(if t380<(l0.length:Int) then(some (0,false)) else(some (t379,true)))=some (r1,r2):=H
  have A5:=am A50
  clear A50
  by_cases c6:t380<(l0.length:Int)
  ·rw[if_pos c6] at H
   have c6b0:decide (t380<(l0.length:Int))=true:=decide_eq_true c6
   clear c6
   simp only[Option.some.injEq,Prod.mk.injEq] at H
   obtain⟨rfl,rfl⟩:=H
   go_enter Try.func18,Try.ntmps18
   go_wp2_with (first|((with_reducible refine gate_callee (f:=33) rfl ?_);refine goesL_ (some 7) rfl rfl Try.func33 (by kernel_rfl) rfl #[.slice A0 l0.length c0] rfl tl ?_;(with_reducible refine(spec_drCommon.calls k _ _ l0 t378 _ ?side1 ?side2 A2.out).mono ?_);(case side1=>repeat(first|exact HR0.out|(with_reducible refine Kd.C_alloc ?_ _)|(with_reducible refine Kd.C_drewN ?_ _)|(with_reducible refine Kd.C_drew ?_)));(case side2=>exact HC0.out);rintro e w7 ⟨rfl,hb⟩;refine⟨_,rfl,?_⟩;have n0_:=am (below_step bl hb);clear HB;have HB:=n0_;clear n0_;(try clear hb);(try clear hb2);(try clear hk);(try clear hi))|((with_reducible refine gate_callee (f:=34) rfl ?_);refine goesL_ (some 11) rfl rfl Try.func34 (by kernel_rfl) rfl #[.slice A0 l0.length c0] rfl tl ?_;(with_reducible refine(spec_drMost.calls k _ _ l0 t379 t380 _ ?side1 ?side2 A5.out).mono ?_);(case side1=>exact cup (Kd.C_below HR0.out HB.out));(case side2=>exact HC0.out);rintro e w8 ⟨rfl,hb⟩;refine⟨_,rfl,?_⟩;have n0_:=am (below_step bl hb);clear HB;have HB:=n0_;clear n0_;(try clear hb);(try clear hb2);(try clear hk);(try clear hi)))
   go_ret2
   exact⟨fin1,bl⟩
  ·rw[if_neg c6] at H
   have c6b0:decide (t380<(l0.length:Int))=false:=decide_eq_false c6
   clear c6
   simp only[Option.some.injEq,Prod.mk.injEq] at H
   obtain⟨rfl,rfl⟩:=H
   go_enter Try.func18,Try.ntmps18
   go_wp2_with (first|((with_reducible refine gate_callee (f:=33) rfl ?_);refine goesL_ (some 7) rfl rfl Try.func33 (by kernel_rfl) rfl #[.slice A0 l0.length c0] rfl tl ?_;(with_reducible refine(spec_drCommon.calls k _ _ l0 t378 _ ?side1 ?side2 A2.out).mono ?_);(case side1=>repeat(first|exact HR0.out|(with_reducible refine Kd.C_alloc ?_ _)|(with_reducible refine Kd.C_drewN ?_ _)|(with_reducible refine Kd.C_drew ?_)));(case side2=>exact HC0.out);rintro e w9 ⟨rfl,hb⟩;refine⟨_,rfl,?_⟩;have n0_:=am (below_step bl hb);clear HB;have HB:=n0_;clear n0_;(try clear hb);(try clear hb2);(try clear hk);(try clear hi))|((with_reducible refine gate_callee (f:=34) rfl ?_);refine goesL_ (some 11) rfl rfl Try.func34 (by kernel_rfl) rfl #[.slice A0 l0.length c0] rfl tl ?_;(with_reducible refine(spec_drMost.calls k _ _ l0 t379 t380 _ ?side1 ?side2 A5.out).mono ?_);(case side1=>exact cup (Kd.C_below HR0.out HB.out));(case side2=>exact HC0.out);rintro e w10 ⟨rfl,hb⟩;refine⟨_,rfl,?_⟩;have n0_:=am (below_step bl hb);clear HB;have HB:=n0_;clear n0_;(try clear hb);(try clear hb2);(try clear hk);(try clear hi)))
   go_ret2
   exact⟨fin1,bl⟩

end Go.Proofs.Ytlhjjpdlfddflac.PFnDrums
