/- Walks of functions that FnExactShiftToPass reaches. No conditions beyond the arguments' being read. -/
import Derived.Test.YtipklbjbgbbgpaaGreatSShiftToPass0
import Derived.Test.YtipklbjbgbbgpaaGreatSShiftToPass1
namespace Go.Proofs.YtipklbjbgbbgpaaGreat.PFnExactShiftToPass
open Go.RowKit Go.Proofs.YtipklbjbgbbgpaaGreatW.PrintWords Go.Proofs.YtipklbjbgbbgpaaGreatW.PrintLast Go.Proofs.YtipklbjbgbbgpaaGreatW.PrintMore
attribute [local go_sem] max2_int min2_int max_two min_two max_three min_three max_four min_four
set_option linter.unusedVariables false
set_option linter.unusedSimpArgs false

def spec_l1Rising.l0:Nat→List Int→Int→Int→List Int→Int→Int→Option (Bool)
 | 0,_,_,_,_,_,_=>none
 | k+1,x0,x1,x2,x9,x10,x11=>if x11<x10 then(if 0≤x11 then(if x11<(x9.length:Int) then((spec_l1In.f (rd x9 x11) x1 x2).bind fun t121=>(if t121=true then(if x11>0 then(if 0≤(wrap64 (x11 - 1)) then(if(wrap64 (x11 - 1))<(x0.length:Int) then(if(rd x0 (wrap64 (x11 - 1)))≥(rd x9 x11) then(some false) else(spec_l1Rising.l0 k x0 x1 x2 x9 x10 (wrap64 (x11+1)))) else(none)) else(none)) else(spec_l1Rising.l0 k x0 x1 x2 x9 x10 (wrap64 (x11+1)))) else(some false))) else(none)) else(none)) else(some true)
def spec_l1Rising.f (k:Nat) (l0:List Int) (a1:Int) (a2:Int):Option (Bool):=spec_l1Rising.l0 k l0 a1 a2 l0 (l0.length:Int) 0
set_option maxHeartbeats 8000000 in
set_option maxRecDepth 100000 in
theorem spec_l1Rising.calls (k:Nat) (A0:Option Addr) (c0:Nat) (l0:List Int) (a1:Int) (a2:Int) (r:Bool) (w:World) (hr0:Kd.C (Kd.int .i64) w A0 l0.length l0) (hc0:l0.length≤c0) (h:spec_l1Rising.f k l0 a1 a2=some r) :
  Calls Tryz.prog 87 #[.slice A0 l0.length c0,.int .i64 a1,.int .i64 a2] w fun e w'=>e = .returned (.bool r)∧Drawn0 w w':=by
 have HR0:=am hr0
 have HC0:=am hc0
 clear hr0 hc0
 have H:(spec_l1Rising.l0 k l0 a1 a2 l0 (l0.length:Int) 0)=some r:=h
 clear h
 have H':=am H
 clear H
 go_enter Tryz.func87,Tryz.ntmps87
 go_wp2
 go_loopg [11] k (fun kq v11 w'=>∃(x11_1:Int),v11 = .int .i64 x11_1∧Aside0 (spec_l1Rising.l0 kq l0 a1 a2 l0 (l0.length:Int) x11_1=some r)∧Aside0 (kq≤k)∧Drawn0 w w')
 case atStart=>exact⟨(0),fin2,H',⟨Nat.le_refl _⟩,by repeat(first|exact Drawn0.refl _|apply Drawn0.step)⟩
 case round =>
  clear H'
  obtain⟨x11_1,rfl,HA,HK1,⟨m1,rfl⟩⟩:=hrel
  cases gk with
  | zero=>exact absurd HA.out (by simp [spec_l1Rising.l0])
  | succ k1 =>
   have H:=HA.out
   clear HA
   simp only[spec_l1Rising.l0] at H
   rcases itc H with⟨c4,H⟩|⟨c4,H⟩
   ·have c4b0:=decide_eq_true c4
    clear c4
    obtain⟨c5b0,H⟩:=ifb H
    obtain⟨c6b0,H⟩:=ifb H
    obtain⟨t121,A7,H⟩:=bnd H
    by_cases c8:t121=true
    ·subst c8
     replace H:=(if_pos rfl).symm.trans H
     rcases itc H with⟨c9,H⟩|⟨c9,H⟩
     ·have c9b0:decide (0<x11_1)=true:=decide_eq_true c9
      clear c9
      obtain⟨ji10,hji10⟩:∃ j_:Int,(wrap64 (x11_1 - 1))=j_:=⟨_,rfl⟩
      replace H:(if 0≤(ji10) then(if(ji10)<(l0.length:Int) then(if(rd l0 (ji10))≥(rd l0 x11_1) then(some false) else(spec_l1Rising.l0 k1 l0 a1 a2 l0 (l0.length:Int) (wrap64 (x11_1+1)))) else(none)) else(none))=some r:=by first|(rw[hji10] at H;exact H)|(simp only[hji10] at H ⊢;exact H)
      (try rw[hji10] at A7)
      have hji10w:(IntKind.i64.wrap (x11_1 - 1))=ji10:=(i64_w _).trans hji10
      obtain⟨c11b0,H⟩:=ifb H
      obtain⟨c12b0,H⟩:=ifb H
      rcases itc H with⟨c13,H⟩|⟨c13,H⟩
      ·have c13b0:decide ((rd l0 x11_1)≤(rd l0 (ji10)))=true:=decide_eq_true c13
       clear c13
       obtain rfl:=Option.some.inj H
       have p120:0≤(x11_1:Int):=od
       have q120:x11_1<(l0.length:Int):=od
       obtain⟨ad120,e120,hx120_0⟩:=Kd.at_int HR0.out x11_1 p120 q120
       cases e120
       replace p120:=eq_true p120
       replace q120:=eq_true q120
       go_wp2_with (first|((with_reducible refine gate_callee (f:=36) rfl ?_);refine goesL_ (some 19) rfl rfl Tryz.func36 (by kernel_rfl) rfl #[.int .i64 (rd l0 x11_1),.int .i64 a1,.int .i64 a2] rfl tl ?_;(with_reducible refine(spec_l1In.calls (rd l0 x11_1) a1 a2 true _ A7.out).mono ?_);rintro e w' ⟨rfl,⟨nd,rfl⟩⟩;refine⟨_,rfl,?_⟩;have p122:0≤((ji10):Int):=od;have q122:(ji10)<(l0.length:Int):=od;obtain⟨ad122,e122,hx122_0⟩:=Kd.at_int HR0.out (ji10) p122 q122;obtain rfl:ad120=ad122:=(by injection e122);replace p122:=eq_true p122;replace q122:=eq_true q122))
       go_ret
       exact⟨by first|rfl|(simp;done)|(simp only[← hji10]<;>(first|rfl|simp))|(simp [*];done),by repeat(first|exact Drawn0.refl _|apply Drawn0.step)⟩
      ·have c13b0:decide ((rd l0 x11_1)≤(rd l0 (ji10)))=false:=decide_eq_false c13
       clear c13
       have H':=am H
       clear H
       have p120:0≤(x11_1:Int):=od
       have q120:x11_1<(l0.length:Int):=od
       obtain⟨ad120,e120,hx120_0⟩:=Kd.at_int HR0.out x11_1 p120 q120
       cases e120
       replace p120:=eq_true p120
       replace q120:=eq_true q120
       go_wp2_with (first|((with_reducible refine gate_callee (f:=36) rfl ?_);refine goesL_ (some 19) rfl rfl Tryz.func36 (by kernel_rfl) rfl #[.int .i64 (rd l0 x11_1),.int .i64 a1,.int .i64 a2] rfl tl ?_;(with_reducible refine(spec_l1In.calls (rd l0 x11_1) a1 a2 true _ A7.out).mono ?_);rintro e w' ⟨rfl,⟨nd,rfl⟩⟩;refine⟨_,rfl,?_⟩;have p122:0≤((ji10):Int):=od;have q122:(ji10)<(l0.length:Int):=od;obtain⟨ad122,e122,hx122_0⟩:=Kd.at_int HR0.out (ji10) p122 q122;obtain rfl:ad120=ad122:=(by injection e122);replace p122:=eq_true p122;replace q122:=eq_true q122))
       go_roundg k1
       case measure=>have:=HK1.out;omega
       case rel=>exact⟨(wrap64 (x11_1+1)),fin2,H',⟨by have:=HK1.out;omega⟩,by repeat(first|exact Drawn0.refl _|apply Drawn0.step)⟩
     ·have c9b0:decide (0<x11_1)=false:=decide_eq_false c9
      clear c9
      have H':=am H
      clear H
      have p120:0≤(x11_1:Int):=od
      have q120:x11_1<(l0.length:Int):=od
      obtain⟨ad120,e120,hx120_0⟩:=Kd.at_int HR0.out x11_1 p120 q120
      cases e120
      replace p120:=eq_true p120
      replace q120:=eq_true q120
      go_wp2_with (first|((with_reducible refine gate_callee (f:=36) rfl ?_);refine goesL_ (some 19) rfl rfl Tryz.func36 (by kernel_rfl) rfl #[.int .i64 (rd l0 x11_1),.int .i64 a1,.int .i64 a2] rfl tl ?_;(with_reducible refine(spec_l1In.calls (rd l0 x11_1) a1 a2 true _ A7.out).mono ?_);rintro e w' ⟨rfl,⟨nd,rfl⟩⟩;refine⟨_,rfl,?_⟩))
      go_roundg k1
      case measure=>have:=HK1.out;omega
      case rel=>exact⟨(wrap64 (x11_1+1)),fin2,H',⟨by have:=HK1.out;omega⟩,by repeat(first|exact Drawn0.refl _|apply Drawn0.step)⟩
    ·replace c8:=Bool.eq_false_iff.mpr c8
     subst c8
     replace H:=(if_neg Bool.false_ne_true).symm.trans H
     obtain rfl:=Option.some.inj H
     have p120:0≤(x11_1:Int):=od
     have q120:x11_1<(l0.length:Int):=od
     obtain⟨ad120,e120,hx120_0⟩:=Kd.at_int HR0.out x11_1 p120 q120
     cases e120
     replace p120:=eq_true p120
     replace q120:=eq_true q120
     go_wp2_with (first|((with_reducible refine gate_callee (f:=36) rfl ?_);refine goesL_ (some 19) rfl rfl Tryz.func36 (by kernel_rfl) rfl #[.int .i64 (rd l0 x11_1),.int .i64 a1,.int .i64 a2] rfl tl ?_;(with_reducible refine(spec_l1In.calls (rd l0 x11_1) a1 a2 false _ A7.out).mono ?_);rintro e w' ⟨rfl,⟨nd,rfl⟩⟩;refine⟨_,rfl,?_⟩))
     go_ret
     exact⟨by first|rfl|(simp;done)|(simp [*];done),by repeat(first|exact Drawn0.refl _|apply Drawn0.step)⟩
   ·have c4b0:=decide_eq_false c4
    clear c4
    obtain rfl:=Option.some.inj H
    go_wp2
    go_ret
    exact⟨by first|rfl|(simp;done)|(simp [*];done),by repeat(first|exact Drawn0.refl _|apply Drawn0.step)⟩

def spec_inGood.f (k:Nat) (l0_0:List Int) (a0_1:Int):Option (Bool):=(spec_l1In.f (l0_0.length:Int) 1 20).bind fun t124=>(if t124=true then((spec_l1Rising.f k l0_0 24 96).bind fun t125=>(if t125=true then((spec_l1In.f a0_1 1 20).bind fun t126=>(some t126)) else(some false))) else(some false))
set_option maxHeartbeats 8000000 in
set_option maxRecDepth 100000 in
theorem spec_inGood.calls (k:Nat) (A0_0:Option Addr) (c0_0:Nat) (l0_0:List Int) (a0_1:Int) (r:Bool) (w:World) (hr0_0:Kd.C (Kd.int .i64) w A0_0 l0_0.length l0_0) (hc0_0:l0_0.length≤c0_0) (h:spec_inGood.f k l0_0 a0_1=some r) :
  Calls Tryz.prog 69 #[.agg #[.slice A0_0 l0_0.length c0_0,.int .i64 a0_1]] w fun e w'=>e = .returned (.bool r)∧Below w.heap.size w w':=by
 have hu34:=Tryz.underlying34
 have HR0_0:=am hr0_0
 have HC0_0:=am hc0_0
 clear hr0_0 hc0_0
 have HB:=am (Below.refl w.heap.size w)
 have H:((spec_l1In.f (l0_0.length:Int) 1 20).bind fun t124=>(if t124=true then((spec_l1Rising.f k l0_0 24 96).bind fun t125=>(if t125=true then((spec_l1In.f a0_1 1 20).bind fun t126=>(some t126)) else(some false))) else(some false)))=some r:=h
 clear h
 obtain⟨t124,A2,H⟩:=bnd H
 by_cases c3:t124=true
 ·subst c3
  replace H:=(if_pos rfl).symm.trans H
  obtain⟨t125,A4,H⟩:=bnd H
  by_cases c5:t125=true
  ·subst c5
   replace H:=(if_pos rfl).symm.trans H
   obtain⟨t126,A6,H⟩:=bnd H
   obtain rfl:=Option.some.inj H
   go_enter Tryz.func69,Tryz.ntmps69
   go_wp2_with (first|((with_reducible refine gate_dst (N:=1) rfl ?_);refine box_event ?hg (N:=1) ?hd (cs := #[.slice A0_0 l0_0.length c0_0,.int .i64 a0_1]) (t:=34) ?hr ?_;(case hd=>rfl);(case hg=>rfl);(case hr=>first|(go_simp;done)|(go_simp;rfl));intro gb123 hg w7 hbox hb;have BK123:=am (hbox);have GW123:=am (ge_ bl hg);have GE123:=am (ge_ bl hg);replace HB:=am (below_step bl hb);clear hb hbox hg;have hcz8_0:=bc BK123.out 0;have hcz8_1:=bc BK123.out 1;have hfz8_0:=blk_frozen BK123.out 0;have hfz8_1:=blk_frozen BK123.out 1)|((with_reducible refine gate_callee (f:=36) rfl ?_);refine goesL_ (some 6) rfl rfl Tryz.func36 (by kernel_rfl) rfl #[.int .i64 (l0_0.length:Int),.int .i64 1,.int .i64 20] rfl tl ?_;(with_reducible refine(spec_l1In.calls (l0_0.length:Int) 1 20 true _ A2.out).mono ?_);rintro e w' ⟨rfl,⟨nd,rfl⟩⟩;refine⟨_,rfl,?_⟩)|(go_at_call 87;(with_reducible refine(spec_l1Rising.calls k _ _ l0_0 24 96 true _ ?side1 ?side2 A4.out).mono ?_);(case side1=>repeat(first|exact(Kd.C_below HR0_0.out bl)|(with_reducible refine Kd.C_alloc ?_ _)|(with_reducible refine Kd.C_drewN ?_ _)|(with_reducible refine Kd.C_drew ?_)));(case side2=>exact HC0_0.out);rintro e w' ⟨rfl,⟨nd,rfl⟩⟩)|(go_at_call 36;(with_reducible refine(spec_l1In.calls a0_1 1 20 t126 _ A6.out).mono ?_);rintro e w' ⟨rfl,⟨nd,rfl⟩⟩))
   go_ret
   exact⟨fin1,bl⟩
  ·replace c5:=Bool.eq_false_iff.mpr c5
   subst c5
   replace H:=(if_neg Bool.false_ne_true).symm.trans H
   obtain rfl:=Option.some.inj H
   go_enter Tryz.func69,Tryz.ntmps69
   go_wp2_with (first|((with_reducible refine gate_dst (N:=1) rfl ?_);refine box_event ?hg (N:=1) ?hd (cs := #[.slice A0_0 l0_0.length c0_0,.int .i64 a0_1]) (t:=34) ?hr ?_;(case hd=>rfl);(case hg=>rfl);(case hr=>first|(go_simp;done)|(go_simp;rfl));intro gb123 hg w9 hbox hb;have BK123:=am (hbox);have GW123:=am (ge_ bl hg);have GE123:=am (ge_ bl hg);replace HB:=am (below_step bl hb);clear hb hbox hg;have hcz10_0:=bc BK123.out 0;have hcz10_1:=bc BK123.out 1;have hfz10_0:=blk_frozen BK123.out 0;have hfz10_1:=blk_frozen BK123.out 1)|((with_reducible refine gate_callee (f:=36) rfl ?_);refine goesL_ (some 6) rfl rfl Tryz.func36 (by kernel_rfl) rfl #[.int .i64 (l0_0.length:Int),.int .i64 1,.int .i64 20] rfl tl ?_;(with_reducible refine(spec_l1In.calls (l0_0.length:Int) 1 20 true _ A2.out).mono ?_);rintro e w' ⟨rfl,⟨nd,rfl⟩⟩;refine⟨_,rfl,?_⟩)|(go_at_call 87;(with_reducible refine(spec_l1Rising.calls k _ _ l0_0 24 96 false _ ?side1 ?side2 A4.out).mono ?_);(case side1=>repeat(first|exact(Kd.C_below HR0_0.out bl)|(with_reducible refine Kd.C_alloc ?_ _)|(with_reducible refine Kd.C_drewN ?_ _)|(with_reducible refine Kd.C_drew ?_)));(case side2=>exact HC0_0.out);rintro e w' ⟨rfl,⟨nd,rfl⟩⟩))
   go_ret
   exact⟨fin1,bl⟩
 ·replace c3:=Bool.eq_false_iff.mpr c3
  subst c3
  replace H:=(if_neg Bool.false_ne_true).symm.trans H
  obtain rfl:=Option.some.inj H
  go_enter Tryz.func69,Tryz.ntmps69
  go_wp2_with (first|((with_reducible refine gate_dst (N:=1) rfl ?_);refine box_event ?hg (N:=1) ?hd (cs := #[.slice A0_0 l0_0.length c0_0,.int .i64 a0_1]) (t:=34) ?hr ?_;(case hd=>rfl);(case hg=>rfl);(case hr=>first|(go_simp;done)|(go_simp;rfl));intro gb123 hg w11 hbox hb;have BK123:=am (hbox);have GW123:=am (ge_ bl hg);have GE123:=am (ge_ bl hg);replace HB:=am (below_step bl hb);clear hb hbox hg;have hcz12_0:=bc BK123.out 0;have hcz12_1:=bc BK123.out 1;have hfz12_0:=blk_frozen BK123.out 0;have hfz12_1:=blk_frozen BK123.out 1)|((with_reducible refine gate_callee (f:=36) rfl ?_);refine goesL_ (some 6) rfl rfl Tryz.func36 (by kernel_rfl) rfl #[.int .i64 (l0_0.length:Int),.int .i64 1,.int .i64 20] rfl tl ?_;(with_reducible refine(spec_l1In.calls (l0_0.length:Int) 1 20 false _ A2.out).mono ?_);rintro e w' ⟨rfl,⟨nd,rfl⟩⟩;refine⟨_,rfl,?_⟩))
  go_ret
  exact⟨fin1,bl⟩

def spec_ntPitch.f (a0:Int):Option (Bool):=(spec_l1In.f a0 24 96).bind fun t127=>(some t127)
set_option maxHeartbeats 8000000 in
set_option maxRecDepth 100000 in
theorem spec_ntPitch.calls (a0:Int) (r:Bool) (w:World) (h:spec_ntPitch.f a0=some r) :
  Calls Tryz.prog 107 #[.int .i64 a0] w fun e w'=>e = .returned (.bool r)∧Drawn0 w w':=by
 have H:((spec_l1In.f a0 24 96).bind fun t127=>(some t127))=some r:=h
 clear h
 obtain⟨t127,A2,H⟩:=bnd H
 obtain rfl:=Option.some.inj H
 go_enter Tryz.func107,Tryz.ntmps107
 go_wp2_with (first|((with_reducible refine gate_callee (f:=36) rfl ?_);refine goesL_ (some 4) rfl rfl Tryz.func36 (by kernel_rfl) rfl #[.int .i64 a0,.int .i64 24,.int .i64 96] rfl tl ?_;(with_reducible refine(spec_l1In.calls a0 24 96 t127 _ A2.out).mono ?_);rintro e w' ⟨rfl,⟨nd,rfl⟩⟩;refine⟨_,rfl,?_⟩))
 go_ret
 exact⟨by first|rfl|(simp;done)|(simp [*];done),by repeat(first|exact Drawn0.refl _|apply Drawn0.step)⟩

def spec_ntNote.f (a0_0:Int) (a0_1:Int) (a0_2:Int):Option (Bool):=(spec_ntPitch.f a0_0).bind fun t129=>(if t129=true then((spec_l1In.f a0_1 0 999).bind fun t130=>(if t130=true then((spec_l1In.f a0_2 1 99).bind fun t131=>(some t131)) else(some false))) else(some false))
set_option maxHeartbeats 8000000 in
set_option maxRecDepth 100000 in
theorem spec_ntNote.calls (a0_0:Int) (a0_1:Int) (a0_2:Int) (r:Bool) (w:World) (h:spec_ntNote.f a0_0 a0_1 a0_2=some r) :
  Calls Tryz.prog 88 #[.agg #[.int .i64 a0_0,.int .i64 a0_1,.int .i64 a0_2]] w fun e w'=>e = .returned (.bool r)∧Below w.heap.size w w':=by
 have hu55:=Tryz.underlying55
 have HB:=am (Below.refl w.heap.size w)
 have H:((spec_ntPitch.f a0_0).bind fun t129=>(if t129=true then((spec_l1In.f a0_1 0 999).bind fun t130=>(if t130=true then((spec_l1In.f a0_2 1 99).bind fun t131=>(some t131)) else(some false))) else(some false)))=some r:=h
 clear h
 obtain⟨t129,A2,H⟩:=bnd H
 by_cases c3:t129=true
 ·subst c3
  replace H:=(if_pos rfl).symm.trans H
  obtain⟨t130,A4,H⟩:=bnd H
  by_cases c5:t130=true
  ·subst c5
   replace H:=(if_pos rfl).symm.trans H
   obtain⟨t131,A6,H⟩:=bnd H
   obtain rfl:=Option.some.inj H
   go_enter Tryz.func88,Tryz.ntmps88
   go_wp2_with (first|((with_reducible refine gate_dst (N:=1) rfl ?_);refine box_event ?hg (N:=1) ?hd (cs := #[.int .i64 a0_0,.int .i64 a0_1,.int .i64 a0_2]) (t:=55) ?hr ?_;(case hd=>rfl);(case hg=>rfl);(case hr=>first|(go_simp;done)|(go_simp;rfl));intro gb128 hg w7 hbox hb;have BK128:=am (hbox);have GW128:=am (ge_ bl hg);have GE128:=am (ge_ bl hg);replace HB:=am (below_step bl hb);clear hb hbox hg;have hcz8_0:=bc BK128.out 0;have hcz8_1:=bc BK128.out 1;have hcz8_2:=bc BK128.out 2;have hfz8_0:=blk_frozen BK128.out 0;have hfz8_1:=blk_frozen BK128.out 1;have hfz8_2:=blk_frozen BK128.out 2)|((with_reducible refine gate_callee (f:=107) rfl ?_);refine goesL_ (some 5) rfl rfl Tryz.func107 (by kernel_rfl) rfl #[.int .i64 a0_0] rfl tl ?_;(with_reducible refine(spec_ntPitch.calls a0_0 true _ A2.out).mono ?_);rintro e w' ⟨rfl,⟨nd,rfl⟩⟩;refine⟨_,rfl,?_⟩)|(go_at_call 36;(with_reducible refine(spec_l1In.calls a0_1 0 999 true _ A4.out).mono ?_);rintro e w' ⟨rfl,⟨nd,rfl⟩⟩)|(go_at_call 36;(with_reducible refine(spec_l1In.calls a0_2 1 99 t131 _ A6.out).mono ?_);rintro e w' ⟨rfl,⟨nd,rfl⟩⟩))
   go_ret
   exact⟨fin1,bl⟩
  ·replace c5:=Bool.eq_false_iff.mpr c5
   subst c5
   replace H:=(if_neg Bool.false_ne_true).symm.trans H
   obtain rfl:=Option.some.inj H
   go_enter Tryz.func88,Tryz.ntmps88
   go_wp2_with (first|((with_reducible refine gate_dst (N:=1) rfl ?_);refine box_event ?hg (N:=1) ?hd (cs := #[.int .i64 a0_0,.int .i64 a0_1,.int .i64 a0_2]) (t:=55) ?hr ?_;(case hd=>rfl);(case hg=>rfl);(case hr=>first|(go_simp;done)|(go_simp;rfl));intro gb128 hg w9 hbox hb;have BK128:=am (hbox);have GW128:=am (ge_ bl hg);have GE128:=am (ge_ bl hg);replace HB:=am (below_step bl hb);clear hb hbox hg;have hcz10_0:=bc BK128.out 0;have hcz10_1:=bc BK128.out 1;have hcz10_2:=bc BK128.out 2;have hfz10_0:=blk_frozen BK128.out 0;have hfz10_1:=blk_frozen BK128.out 1;have hfz10_2:=blk_frozen BK128.out 2)|((with_reducible refine gate_callee (f:=107) rfl ?_);refine goesL_ (some 5) rfl rfl Tryz.func107 (by kernel_rfl) rfl #[.int .i64 a0_0] rfl tl ?_;(with_reducible refine(spec_ntPitch.calls a0_0 true _ A2.out).mono ?_);rintro e w' ⟨rfl,⟨nd,rfl⟩⟩;refine⟨_,rfl,?_⟩)|(go_at_call 36;(with_reducible refine(spec_l1In.calls a0_1 0 999 false _ A4.out).mono ?_);rintro e w' ⟨rfl,⟨nd,rfl⟩⟩))
   go_ret
   exact⟨fin1,bl⟩
 ·replace c3:=Bool.eq_false_iff.mpr c3
  subst c3
  replace H:=(if_neg Bool.false_ne_true).symm.trans H
  obtain rfl:=Option.some.inj H
  go_enter Tryz.func88,Tryz.ntmps88
  go_wp2_with (first|((with_reducible refine gate_dst (N:=1) rfl ?_);refine box_event ?hg (N:=1) ?hd (cs := #[.int .i64 a0_0,.int .i64 a0_1,.int .i64 a0_2]) (t:=55) ?hr ?_;(case hd=>rfl);(case hg=>rfl);(case hr=>first|(go_simp;done)|(go_simp;rfl));intro gb128 hg w11 hbox hb;have BK128:=am (hbox);have GW128:=am (ge_ bl hg);have GE128:=am (ge_ bl hg);replace HB:=am (below_step bl hb);clear hb hbox hg;have hcz12_0:=bc BK128.out 0;have hcz12_1:=bc BK128.out 1;have hcz12_2:=bc BK128.out 2;have hfz12_0:=blk_frozen BK128.out 0;have hfz12_1:=blk_frozen BK128.out 1;have hfz12_2:=blk_frozen BK128.out 2)|((with_reducible refine gate_callee (f:=107) rfl ?_);refine goesL_ (some 5) rfl rfl Tryz.func107 (by kernel_rfl) rfl #[.int .i64 a0_0] rfl tl ?_;(with_reducible refine(spec_ntPitch.calls a0_0 false _ A2.out).mono ?_);rintro e w' ⟨rfl,⟨nd,rfl⟩⟩;refine⟨_,rfl,?_⟩))
  go_ret
  exact⟨fin1,bl⟩

def spec_ntBefore.f (a0_0:Int) (a0_1:Int) (a0_2:Int) (a1_0:Int) (a1_1:Int) (a1_2:Int):Option (Bool):=if a0_1<a1_1 then(some true) else(if a0_1=a1_1 then(some (decide (a0_0<a1_0))) else(some false))
set_option maxHeartbeats 8000000 in
set_option maxRecDepth 100000 in
theorem spec_ntBefore.calls (a0_0:Int) (a0_1:Int) (a0_2:Int) (a1_0:Int) (a1_1:Int) (a1_2:Int) (r:Bool) (w:World) (h:spec_ntBefore.f a0_0 a0_1 a0_2 a1_0 a1_1 a1_2=some r) :
  Calls Tryz.prog 89 #[.agg #[.int .i64 a0_0,.int .i64 a0_1,.int .i64 a0_2],.agg #[.int .i64 a1_0,.int .i64 a1_1,.int .i64 a1_2]] w fun e w'=>e = .returned (.bool r)∧Below w.heap.size w w':=by
 have hu55:=Tryz.underlying55
 have HB:=am (Below.refl w.heap.size w)
 have H:(if a0_1<a1_1 then(some true) else(if a0_1=a1_1 then(some (decide (a0_0<a1_0))) else(some false)))=some r:=h
 clear h
 rcases itc H with⟨c3,H⟩|⟨c3,H⟩
 ·have c3b0:=decide_eq_true c3
  clear c3
  obtain rfl:=Option.some.inj H
  go_enter Tryz.func89,Tryz.ntmps89
  go_wp2_with (first|((with_reducible refine gate_dst (N:=2) rfl ?_);refine box_event ?hg (N:=2) ?hd (cs := #[.int .i64 a0_0,.int .i64 a0_1,.int .i64 a0_2]) (t:=55) ?hr ?_;(case hd=>rfl);(case hg=>rfl);(case hr=>first|(go_simp;done)|(go_simp;rfl));intro gb132 hg w4 hbox hb;have BK132:=am (hbox);have GW132:=am (ge_ bl hg);have GE132:=am (ge_ bl hg);replace HB:=am (below_step bl hb);clear hb hbox hg)|((with_reducible refine gate_dst (N:=3) rfl ?_);refine box_event ?hg (N:=3) ?hd (cs := #[.int .i64 a1_0,.int .i64 a1_1,.int .i64 a1_2]) (t:=55) ?hr ?_;(case hd=>rfl);(case hg=>rfl);(case hr=>first|(go_simp;done)|(go_simp;rfl));intro gb133 hg w5 hbox hb;have BK133:=am (hbox);have GW133:=am (ge_ bl hg);have GE133:=am (ge_ bl hg);replace HB:=am (below_step bl hb);have NB132_133:=am (nl (bup BK132.out) hg);have NB133_132:=am (ng (bup BK132.out) hg);replace BK132:=am (blk_below (bup BK132.out) hb);clear hb hbox hg;have hnb6:=NB132_133.out;have hnc6:=NB133_132.out;have hcz7_0:=bc BK132.out 0;have hcz7_1:=bc BK132.out 1;have hcz7_2:=bc BK132.out 2;have hfz7_0:=blk_frozen BK132.out 0;have hfz7_1:=blk_frozen BK132.out 1;have hfz7_2:=blk_frozen BK132.out 2;have hcz8_0:=bc BK133.out 0;have hcz8_1:=bc BK133.out 1;have hcz8_2:=bc BK133.out 2;have hfz8_0:=blk_frozen BK133.out 0;have hfz8_1:=blk_frozen BK133.out 1;have hfz8_2:=blk_frozen BK133.out 2))
  go_ret
  exact⟨fin1,bl⟩
 ·have c3b0:=decide_eq_false c3
  clear c3
  rcases itc H with⟨c9,H⟩|⟨c9,H⟩
  ·have c9b0:(a0_1 == a1_1)=true:=beq_iff_eq.mpr c9
   have c9b1:(a0_1 != a1_1)=false:=bne_eq_false_iff_eq.mpr c9
   clear c9
   obtain rfl:=Option.some.inj H
   go_enter Tryz.func89,Tryz.ntmps89
   go_wp2_with (first|((with_reducible refine gate_dst (N:=2) rfl ?_);refine box_event ?hg (N:=2) ?hd (cs := #[.int .i64 a0_0,.int .i64 a0_1,.int .i64 a0_2]) (t:=55) ?hr ?_;(case hd=>rfl);(case hg=>rfl);(case hr=>first|(go_simp;done)|(go_simp;rfl));intro gb132 hg w10 hbox hb;have BK132:=am (hbox);have GW132:=am (ge_ bl hg);have GE132:=am (ge_ bl hg);replace HB:=am (below_step bl hb);clear hb hbox hg)|((with_reducible refine gate_dst (N:=3) rfl ?_);refine box_event ?hg (N:=3) ?hd (cs := #[.int .i64 a1_0,.int .i64 a1_1,.int .i64 a1_2]) (t:=55) ?hr ?_;(case hd=>rfl);(case hg=>rfl);(case hr=>first|(go_simp;done)|(go_simp;rfl));intro gb133 hg w11 hbox hb;have BK133:=am (hbox);have GW133:=am (ge_ bl hg);have GE133:=am (ge_ bl hg);replace HB:=am (below_step bl hb);have NB132_133:=am (nl (bup BK132.out) hg);have NB133_132:=am (ng (bup BK132.out) hg);replace BK132:=am (blk_below (bup BK132.out) hb);clear hb hbox hg;have hnb12:=NB132_133.out;have hnc12:=NB133_132.out;have hcz13_0:=bc BK132.out 0;have hcz13_1:=bc BK132.out 1;have hcz13_2:=bc BK132.out 2;have hfz13_0:=blk_frozen BK132.out 0;have hfz13_1:=blk_frozen BK132.out 1;have hfz13_2:=blk_frozen BK132.out 2;have hcz14_0:=bc BK133.out 0;have hcz14_1:=bc BK133.out 1;have hcz14_2:=bc BK133.out 2;have hfz14_0:=blk_frozen BK133.out 0;have hfz14_1:=blk_frozen BK133.out 1;have hfz14_2:=blk_frozen BK133.out 2))
   go_ret
   exact⟨fin1,bl⟩
  ·have c9b0:(a0_1 == a1_1)=false:=beq_eq_false_iff_ne.mpr c9
   have c9b1:(a0_1 != a1_1)=true:=bne_iff_ne.mpr c9
   obtain rfl:=Option.some.inj H
   go_enter Tryz.func89,Tryz.ntmps89
   go_wp2_with (first|((with_reducible refine gate_dst (N:=2) rfl ?_);refine box_event ?hg (N:=2) ?hd (cs := #[.int .i64 a0_0,.int .i64 a0_1,.int .i64 a0_2]) (t:=55) ?hr ?_;(case hd=>rfl);(case hg=>rfl);(case hr=>first|(go_simp;done)|(go_simp;rfl));intro gb132 hg w15 hbox hb;have BK132:=am (hbox);have GW132:=am (ge_ bl hg);have GE132:=am (ge_ bl hg);replace HB:=am (below_step bl hb);clear hb hbox hg)|((with_reducible refine gate_dst (N:=3) rfl ?_);refine box_event ?hg (N:=3) ?hd (cs := #[.int .i64 a1_0,.int .i64 a1_1,.int .i64 a1_2]) (t:=55) ?hr ?_;(case hd=>rfl);(case hg=>rfl);(case hr=>first|(go_simp;done)|(go_simp;rfl));intro gb133 hg w16 hbox hb;have BK133:=am (hbox);have GW133:=am (ge_ bl hg);have GE133:=am (ge_ bl hg);replace HB:=am (below_step bl hb);have NB132_133:=am (nl (bup BK132.out) hg);have NB133_132:=am (ng (bup BK132.out) hg);replace BK132:=am (blk_below (bup BK132.out) hb);clear hb hbox hg;have hnb17:=NB132_133.out;have hnc17:=NB133_132.out;have hcz18_0:=bc BK132.out 0;have hcz18_1:=bc BK132.out 1;have hcz18_2:=bc BK132.out 2;have hfz18_0:=blk_frozen BK132.out 0;have hfz18_1:=blk_frozen BK132.out 1;have hfz18_2:=blk_frozen BK132.out 2;have hcz19_0:=bc BK133.out 0;have hcz19_1:=bc BK133.out 1;have hcz19_2:=bc BK133.out 2;have hfz19_0:=blk_frozen BK133.out 0;have hfz19_1:=blk_frozen BK133.out 1;have hfz19_2:=blk_frozen BK133.out 2))
   go_ret
   exact⟨fin1,bl⟩

def spec_ntMeet.f (a0_0:Int) (a0_1:Int) (a0_2:Int) (a1_0:Int) (a1_1:Int) (a1_2:Int):Option (Bool):=if a0_0=a1_0 then(if a0_1<(wrap64 (a1_1+a1_2)) then(some (decide (a1_1<(wrap64 (a0_1+a0_2))))) else(some false)) else(some false)
set_option maxHeartbeats 8000000 in
set_option maxRecDepth 100000 in
theorem spec_ntMeet.calls (a0_0:Int) (a0_1:Int) (a0_2:Int) (a1_0:Int) (a1_1:Int) (a1_2:Int) (r:Bool) (w:World) (h:spec_ntMeet.f a0_0 a0_1 a0_2 a1_0 a1_1 a1_2=some r) :
  Calls Tryz.prog 90 #[.agg #[.int .i64 a0_0,.int .i64 a0_1,.int .i64 a0_2],.agg #[.int .i64 a1_0,.int .i64 a1_1,.int .i64 a1_2]] w fun e w'=>e = .returned (.bool r)∧Below w.heap.size w w':=by
 have hu55:=Tryz.underlying55
 have HB:=am (Below.refl w.heap.size w)
 have H:(if a0_0=a1_0 then(if a0_1<(wrap64 (a1_1+a1_2)) then(some (decide (a1_1<(wrap64 (a0_1+a0_2))))) else(some false)) else(some false))=some r:=h
 clear h
 rcases itc H with⟨c3,H⟩|⟨c3,H⟩
 ·have c3b0:(a0_0 == a1_0)=true:=beq_iff_eq.mpr c3
  have c3b1:(a0_0 != a1_0)=false:=bne_eq_false_iff_eq.mpr c3
  clear c3
  rcases itc H with⟨c4,H⟩|⟨c4,H⟩
  ·have c4b0:=decide_eq_true c4
   clear c4
   obtain rfl:=Option.some.inj H
   go_enter Tryz.func90,Tryz.ntmps90
   go_wp2_with (first|((with_reducible refine gate_dst (N:=2) rfl ?_);refine box_event ?hg (N:=2) ?hd (cs := #[.int .i64 a0_0,.int .i64 a0_1,.int .i64 a0_2]) (t:=55) ?hr ?_;(case hd=>rfl);(case hg=>rfl);(case hr=>first|(go_simp;done)|(go_simp;rfl));intro gb134 hg w5 hbox hb;have BK134:=am (hbox);have GW134:=am (ge_ bl hg);have GE134:=am (ge_ bl hg);replace HB:=am (below_step bl hb);clear hb hbox hg)|((with_reducible refine gate_dst (N:=3) rfl ?_);refine box_event ?hg (N:=3) ?hd (cs := #[.int .i64 a1_0,.int .i64 a1_1,.int .i64 a1_2]) (t:=55) ?hr ?_;(case hd=>rfl);(case hg=>rfl);(case hr=>first|(go_simp;done)|(go_simp;rfl));intro gb135 hg w6 hbox hb;have BK135:=am (hbox);have GW135:=am (ge_ bl hg);have GE135:=am (ge_ bl hg);replace HB:=am (below_step bl hb);have NB134_135:=am (nl (bup BK134.out) hg);have NB135_134:=am (ng (bup BK134.out) hg);replace BK134:=am (blk_below (bup BK134.out) hb);clear hb hbox hg;have hnb7:=NB134_135.out;have hnc7:=NB135_134.out;have hcz8_0:=bc BK134.out 0;have hcz8_1:=bc BK134.out 1;have hcz8_2:=bc BK134.out 2;have hfz8_0:=blk_frozen BK134.out 0;have hfz8_1:=blk_frozen BK134.out 1;have hfz8_2:=blk_frozen BK134.out 2;have hcz9_0:=bc BK135.out 0;have hcz9_1:=bc BK135.out 1;have hcz9_2:=bc BK135.out 2;have hfz9_0:=blk_frozen BK135.out 0;have hfz9_1:=blk_frozen BK135.out 1;have hfz9_2:=blk_frozen BK135.out 2))
   go_ret
   exact⟨fin1,bl⟩
  ·have c4b0:=decide_eq_false c4
   clear c4
   obtain rfl:=Option.some.inj H
   go_enter Tryz.func90,Tryz.ntmps90
   go_wp2_with (first|((with_reducible refine gate_dst (N:=2) rfl ?_);refine box_event ?hg (N:=2) ?hd (cs := #[.int .i64 a0_0,.int .i64 a0_1,.int .i64 a0_2]) (t:=55) ?hr ?_;(case hd=>rfl);(case hg=>rfl);(case hr=>first|(go_simp;done)|(go_simp;rfl));intro gb134 hg w10 hbox hb;have BK134:=am (hbox);have GW134:=am (ge_ bl hg);have GE134:=am (ge_ bl hg);replace HB:=am (below_step bl hb);clear hb hbox hg)|((with_reducible refine gate_dst (N:=3) rfl ?_);refine box_event ?hg (N:=3) ?hd (cs := #[.int .i64 a1_0,.int .i64 a1_1,.int .i64 a1_2]) (t:=55) ?hr ?_;(case hd=>rfl);(case hg=>rfl);(case hr=>first|(go_simp;done)|(go_simp;rfl));intro gb135 hg w11 hbox hb;have BK135:=am (hbox);have GW135:=am (ge_ bl hg);have GE135:=am (ge_ bl hg);replace HB:=am (below_step bl hb);have NB134_135:=am (nl (bup BK134.out) hg);have NB135_134:=am (ng (bup BK134.out) hg);replace BK134:=am (blk_below (bup BK134.out) hb);clear hb hbox hg;have hnb12:=NB134_135.out;have hnc12:=NB135_134.out;have hcz13_0:=bc BK134.out 0;have hcz13_1:=bc BK134.out 1;have hcz13_2:=bc BK134.out 2;have hfz13_0:=blk_frozen BK134.out 0;have hfz13_1:=blk_frozen BK134.out 1;have hfz13_2:=blk_frozen BK134.out 2;have hcz14_0:=bc BK135.out 0;have hcz14_1:=bc BK135.out 1;have hcz14_2:=bc BK135.out 2;have hfz14_0:=blk_frozen BK135.out 0;have hfz14_1:=blk_frozen BK135.out 1;have hfz14_2:=blk_frozen BK135.out 2))
   go_ret
   exact⟨fin1,bl⟩
 ·have c3b0:(a0_0 == a1_0)=false:=beq_eq_false_iff_ne.mpr c3
  have c3b1:(a0_0 != a1_0)=true:=bne_iff_ne.mpr c3
  obtain rfl:=Option.some.inj H
  go_enter Tryz.func90,Tryz.ntmps90
  go_wp2_with (first|((with_reducible refine gate_dst (N:=2) rfl ?_);refine box_event ?hg (N:=2) ?hd (cs := #[.int .i64 a0_0,.int .i64 a0_1,.int .i64 a0_2]) (t:=55) ?hr ?_;(case hd=>rfl);(case hg=>rfl);(case hr=>first|(go_simp;done)|(go_simp;rfl));intro gb134 hg w15 hbox hb;have BK134:=am (hbox);have GW134:=am (ge_ bl hg);have GE134:=am (ge_ bl hg);replace HB:=am (below_step bl hb);clear hb hbox hg)|((with_reducible refine gate_dst (N:=3) rfl ?_);refine box_event ?hg (N:=3) ?hd (cs := #[.int .i64 a1_0,.int .i64 a1_1,.int .i64 a1_2]) (t:=55) ?hr ?_;(case hd=>rfl);(case hg=>rfl);(case hr=>first|(go_simp;done)|(go_simp;rfl));intro gb135 hg w16 hbox hb;have BK135:=am (hbox);have GW135:=am (ge_ bl hg);have GE135:=am (ge_ bl hg);replace HB:=am (below_step bl hb);have NB134_135:=am (nl (bup BK134.out) hg);have NB135_134:=am (ng (bup BK134.out) hg);replace BK134:=am (blk_below (bup BK134.out) hb);clear hb hbox hg;have hnb17:=NB134_135.out;have hnc17:=NB135_134.out;have hcz18_0:=bc BK134.out 0;have hcz18_1:=bc BK134.out 1;have hcz18_2:=bc BK134.out 2;have hfz18_0:=blk_frozen BK134.out 0;have hfz18_1:=blk_frozen BK134.out 1;have hfz18_2:=blk_frozen BK134.out 2;have hcz19_0:=bc BK135.out 0;have hcz19_1:=bc BK135.out 1;have hcz19_2:=bc BK135.out 2;have hfz19_0:=blk_frozen BK135.out 0;have hfz19_1:=blk_frozen BK135.out 1;have hfz19_2:=blk_frozen BK135.out 2))
  go_ret
  exact⟨fin1,bl⟩

end Go.Proofs.YtipklbjbgbbgpaaGreat.PFnExactShiftToPass
