/- The walks of functions that FnExactLeastTolerance reaches: what they return is what the plain functions of the same names say. Laid by a program of this session after the kit's print. No conditions beyond the arguments' being read. -/
import Derived.Test.YtipklbjbgbbgpaaSLeastTolerance0
import Derived.Test.YtipklbjbgbbgpaaSLeastTolerance2
namespace Go.Proofs.Ytipklbjbgbbgpaa.PFnExactLeastTolerance
open Go.RowKit Go.Proofs.YtipklbjbgbbgpaaW.PrintWords Go.Proofs.YtipklbjbgbbgpaaW.PrintLast Go.Proofs.YtipklbjbgbbgpaaW.PrintMore
attribute [local go_sem] max2_int min2_int max_two min_two max_three min_three max_four min_four   -- for this text's walks alone
set_option linter.unusedVariables false
set_option linter.unusedSimpArgs false

def spec_l1Rising.l0:Nat→List Int→Int→Int→List Int→Int→Int→Option (Bool)
 | 0,_,_,_,_,_,_=>none
 | k+1,x0,x1,x2,x9,x10,x11=>if x11<x10 then(if 0≤x11 then(if x11<(x9.length:Int) then((spec_l1In.f (rd x9 x11) x1 x2).bind fun t155=>(if t155=true then(if x11>0 then(if 0≤(wrap64 (x11 - 1)) then(if(wrap64 (x11 - 1))<(x0.length:Int) then(if(rd x0 (wrap64 (x11 - 1)))≥(rd x9 x11) then(some false) else(spec_l1Rising.l0 k x0 x1 x2 x9 x10 (wrap64 (x11+1)))) else(none)) else(none)) else(spec_l1Rising.l0 k x0 x1 x2 x9 x10 (wrap64 (x11+1)))) else(some false))) else(none)) else(none)) else(some true)
def spec_l1Rising.f (k:Nat) (l0:List Int) (a1:Int) (a2:Int):Option (Bool):=spec_l1Rising.l0 k l0 a1 a2 l0 (l0.length:Int) 0
set_option maxHeartbeats 8000000 in
set_option maxRecDepth 100000 in
theorem spec_l1Rising.calls (k:Nat) (A0:Option Addr) (c0:Nat) (l0:List Int) (a1:Int) (a2:Int) (r:Bool) (w:World) (hr0:Kd.C (Kd.int .i64) w A0 l0.length l0) (hc0:l0.length≤c0) (h:spec_l1Rising.f k l0 a1 a2=some r) :
  Calls Try.prog 90 #[.slice A0 l0.length c0,.int .i64 a1,.int .i64 a2] w fun e w'=>e = .returned (.bool r)∧Drawn0 w w':=by
 have HR0:=am hr0
 have HC0:=am hc0
 clear hr0 hc0
 have H:(spec_l1Rising.l0 k l0 a1 a2 l0 (l0.length:Int) 0)=some r:=h
 clear h
 have H':=am H
 clear H
 go_enter Try.func90,Try.ntmps90
 go_wp2
 go_loopg [11] k (fun kq v11 w'=>∃(x11_1:Int),v11 = .int .i64 x11_1∧Aside0 (spec_l1Rising.l0 kq l0 a1 a2 l0 (l0.length:Int) x11_1=some r)∧Aside0 (kq≤k)∧Drawn0 w w')
 case atStart=>exact⟨(0),fin2,H',⟨Nat.le_refl _⟩,by repeat(first|exact Drawn0.refl _|apply Drawn0.step)⟩
 case round =>
  clear H'
  try clear p2
  obtain⟨x11_1,rfl,HA,HK1,⟨m1,rfl⟩⟩:=hrel
  cases gk with
  | zero=>exact absurd HA.out (by simp [spec_l1Rising.l0])
  | succ k1 =>
   have H:=HA.out
   clear HA
   simp only[spec_l1Rising.l0] at H
   rcases itc H with⟨c4,H⟩|⟨c4,H⟩
   ·have c4b0:=decide_eq_true c4
    clear c4
    obtain⟨c5b0,H⟩:=ifb H
    obtain⟨c6b0,H⟩:=ifb H
    obtain⟨t155,A7,H⟩:=bnd H
    by_cases c8:t155=true
    ·subst c8
     replace H:=(if_pos rfl).symm.trans H
     rcases itc H with⟨c9,H⟩|⟨c9,H⟩
     ·have c9b0:decide (0<x11_1)=true:=decide_eq_true c9
      clear c9
      obtain⟨ji10,hji10⟩:∃ j_:Int,(wrap64 (x11_1 - 1))=j_:=⟨_,rfl⟩
      replace H:(if 0≤(ji10) then(if(ji10)<(l0.length:Int) then(if(rd l0 (ji10))≥(rd l0 x11_1) then(some false) else(spec_l1Rising.l0 k1 l0 a1 a2 l0 (l0.length:Int) (wrap64 (x11_1+1)))) else(none)) else(none))=some r:=by first|(rw[hji10] at H;exact H)|(simp only[hji10] at H ⊢;exact H)
      (try rw[hji10] at A7)
      have hji10w:(IntKind.i64.wrap (x11_1 - 1))=ji10:=(i64_w _).trans hji10
      obtain⟨c11b0,H⟩:=ifb H
      obtain⟨c12b0,H⟩:=ifb H
      rcases itc H with⟨c13,H⟩|⟨c13,H⟩
      ·have c13b0:decide ((rd l0 x11_1)≤(rd l0 (ji10)))=true:=decide_eq_true c13
       clear c13
       obtain rfl:=Option.some.inj H
       have p154:0≤(x11_1:Int):=od
       have q154:x11_1<(l0.length:Int):=od
       obtain⟨ad154,e154,hx154_0⟩:=Kd.at_int HR0.out x11_1 p154 q154
       cases e154
       replace p154:=eq_true p154
       replace q154:=eq_true q154
       go_wp2_with (first|((with_reducible refine gate_callee (f:=61) rfl ?_);refine goesL_ (some 19) rfl rfl Try.func61 (by kernel_rfl) rfl #[.int .i64 (rd l0 x11_1),.int .i64 a1,.int .i64 a2] rfl tl ?_;(with_reducible refine(spec_l1In.calls (rd l0 x11_1) a1 a2 true _ A7.out).mono ?_);rintro e w' ⟨rfl,⟨nd,rfl⟩⟩;refine⟨_,rfl,?_⟩;have p156:0≤((ji10):Int):=od;have q156:(ji10)<(l0.length:Int):=od;obtain⟨ad156,e156,hx156_0⟩:=Kd.at_int HR0.out (ji10) p156 q156;obtain rfl:ad154=ad156:=(by injection e156);replace p156:=eq_true p156;replace q156:=eq_true q156))
       go_ret
       exact⟨by first|rfl|(simp;done)|(simp only[← hji10]<;>(first|rfl|simp))|(simp [*];done),by repeat(first|exact Drawn0.refl _|apply Drawn0.step)⟩
      ·have c13b0:decide ((rd l0 x11_1)≤(rd l0 (ji10)))=false:=decide_eq_false c13
       clear c13
       have H':=am H
       clear H
       have p154:0≤(x11_1:Int):=od
       have q154:x11_1<(l0.length:Int):=od
       obtain⟨ad154,e154,hx154_0⟩:=Kd.at_int HR0.out x11_1 p154 q154
       cases e154
       replace p154:=eq_true p154
       replace q154:=eq_true q154
       go_wp2_with (first|((with_reducible refine gate_callee (f:=61) rfl ?_);refine goesL_ (some 19) rfl rfl Try.func61 (by kernel_rfl) rfl #[.int .i64 (rd l0 x11_1),.int .i64 a1,.int .i64 a2] rfl tl ?_;(with_reducible refine(spec_l1In.calls (rd l0 x11_1) a1 a2 true _ A7.out).mono ?_);rintro e w' ⟨rfl,⟨nd,rfl⟩⟩;refine⟨_,rfl,?_⟩;have p156:0≤((ji10):Int):=od;have q156:(ji10)<(l0.length:Int):=od;obtain⟨ad156,e156,hx156_0⟩:=Kd.at_int HR0.out (ji10) p156 q156;obtain rfl:ad154=ad156:=(by injection e156);replace p156:=eq_true p156;replace q156:=eq_true q156))
       go_roundg k1
       case measure=>have:=HK1.out;omega
       case rel=>exact⟨(wrap64 (x11_1+1)),fin2,H',⟨by have:=HK1.out;omega⟩,by repeat(first|exact Drawn0.refl _|apply Drawn0.step)⟩
     ·have c9b0:decide (0<x11_1)=false:=decide_eq_false c9
      clear c9
      have H':=am H
      clear H
      have p154:0≤(x11_1:Int):=od
      have q154:x11_1<(l0.length:Int):=od
      obtain⟨ad154,e154,hx154_0⟩:=Kd.at_int HR0.out x11_1 p154 q154
      cases e154
      replace p154:=eq_true p154
      replace q154:=eq_true q154
      go_wp2_with (first|((with_reducible refine gate_callee (f:=61) rfl ?_);refine goesL_ (some 19) rfl rfl Try.func61 (by kernel_rfl) rfl #[.int .i64 (rd l0 x11_1),.int .i64 a1,.int .i64 a2] rfl tl ?_;(with_reducible refine(spec_l1In.calls (rd l0 x11_1) a1 a2 true _ A7.out).mono ?_);rintro e w' ⟨rfl,⟨nd,rfl⟩⟩;refine⟨_,rfl,?_⟩))
      go_roundg k1
      case measure=>have:=HK1.out;omega
      case rel=>exact⟨(wrap64 (x11_1+1)),fin2,H',⟨by have:=HK1.out;omega⟩,by repeat(first|exact Drawn0.refl _|apply Drawn0.step)⟩
    ·replace c8:=Bool.eq_false_iff.mpr c8
     subst c8
     replace H:=(if_neg Bool.false_ne_true).symm.trans H
     obtain rfl:=Option.some.inj H
     have p154:0≤(x11_1:Int):=od
     have q154:x11_1<(l0.length:Int):=od
     obtain⟨ad154,e154,hx154_0⟩:=Kd.at_int HR0.out x11_1 p154 q154
     cases e154
     replace p154:=eq_true p154
     replace q154:=eq_true q154
     go_wp2_with (first|((with_reducible refine gate_callee (f:=61) rfl ?_);refine goesL_ (some 19) rfl rfl Try.func61 (by kernel_rfl) rfl #[.int .i64 (rd l0 x11_1),.int .i64 a1,.int .i64 a2] rfl tl ?_;(with_reducible refine(spec_l1In.calls (rd l0 x11_1) a1 a2 false _ A7.out).mono ?_);rintro e w' ⟨rfl,⟨nd,rfl⟩⟩;refine⟨_,rfl,?_⟩))
     go_ret
     exact⟨by first|rfl|(simp;done)|(simp [*];done),by repeat(first|exact Drawn0.refl _|apply Drawn0.step)⟩
   ·have c4b0:=decide_eq_false c4
    clear c4
    obtain rfl:=Option.some.inj H
    go_wp2
    go_ret
    exact⟨by first|rfl|(simp;done)|(simp [*];done),by repeat(first|exact Drawn0.refl _|apply Drawn0.step)⟩

def spec_inGood.f (k:Nat) (l0_0:List Int) (a0_1:Int):Option (Bool):=(spec_l1In.f (l0_0.length:Int) 1 20).bind fun t158=>(if t158=true then((spec_l1Rising.f k l0_0 24 96).bind fun t159=>(if t159=true then((spec_l1In.f a0_1 1 20).bind fun t160=>(some t160)) else(some false))) else(some false))
set_option maxHeartbeats 8000000 in
set_option maxRecDepth 100000 in
theorem spec_inGood.calls (k:Nat) (A0_0:Option Addr) (c0_0:Nat) (l0_0:List Int) (a0_1:Int) (r:Bool) (w:World) (hr0_0:Kd.C (Kd.int .i64) w A0_0 l0_0.length l0_0) (hc0_0:l0_0.length≤c0_0) (h:spec_inGood.f k l0_0 a0_1=some r) :
  Calls Try.prog 74 #[.agg #[.slice A0_0 l0_0.length c0_0,.int .i64 a0_1]] w fun e w'=>e = .returned (.bool r)∧Below w.heap.size w w':=by
 have hu34:=Try.underlying34
 have HR0_0:=am hr0_0
 have HC0_0:=am hc0_0
 clear hr0_0 hc0_0
 have HB:=am (Below.refl w.heap.size w)
 have H:((spec_l1In.f (l0_0.length:Int) 1 20).bind fun t158=>(if t158=true then((spec_l1Rising.f k l0_0 24 96).bind fun t159=>(if t159=true then((spec_l1In.f a0_1 1 20).bind fun t160=>(some t160)) else(some false))) else(some false)))=some r:=h
 clear h
 obtain⟨t158,A2,H⟩:=bnd H
 by_cases c3:t158=true
 ·subst c3
  replace H:=(if_pos rfl).symm.trans H
  obtain⟨t159,A4,H⟩:=bnd H
  by_cases c5:t159=true
  ·subst c5
   replace H:=(if_pos rfl).symm.trans H
   obtain⟨t160,A6,H⟩:=bnd H
   obtain rfl:=Option.some.inj H
   go_enter Try.func74,Try.ntmps74
   go_wp2_with (first|((with_reducible refine gate_dst (N:=1) rfl ?_);refine box_event ?hg (N:=1) ?hd (cs := #[.slice A0_0 l0_0.length c0_0,.int .i64 a0_1]) (t:=34) ?hr ?_;(case hd=>rfl);(case hg=>rfl);(case hr=>first|(go_simp;done)|(go_simp;rfl));intro gb157 hg w7 hbox hb;have BK157:=am (hbox);have GW157:=am (ge_ bl hg);have GE157:=am (ge_ bl hg);replace HB:=am (below_step bl hb);clear hb hbox hg;have hcz8_0:=bc BK157.out 0;have hcz8_1:=bc BK157.out 1;have hfz8_0:=blk_frozen BK157.out 0;have hfz8_1:=blk_frozen BK157.out 1)|((with_reducible refine gate_callee (f:=61) rfl ?_);refine goesL_ (some 6) rfl rfl Try.func61 (by kernel_rfl) rfl #[.int .i64 (l0_0.length:Int),.int .i64 1,.int .i64 20] rfl tl ?_;(with_reducible refine(spec_l1In.calls (l0_0.length:Int) 1 20 true _ A2.out).mono ?_);rintro e w' ⟨rfl,⟨nd,rfl⟩⟩;refine⟨_,rfl,?_⟩)|(go_at_call 90;(with_reducible refine(spec_l1Rising.calls k _ _ l0_0 24 96 true _ ?side1 ?side2 A4.out).mono ?_);(case side1=>repeat(first|exact(Kd.C_below HR0_0.out bl)|(with_reducible refine Kd.C_alloc ?_ _)|(with_reducible refine Kd.C_drewN ?_ _)|(with_reducible refine Kd.C_drew ?_)));(case side2=>exact HC0_0.out);rintro e w' ⟨rfl,⟨nd,rfl⟩⟩)|(go_at_call 61;(with_reducible refine(spec_l1In.calls a0_1 1 20 t160 _ A6.out).mono ?_);rintro e w' ⟨rfl,⟨nd,rfl⟩⟩))
   go_ret
   exact⟨fin1,bl⟩
  ·replace c5:=Bool.eq_false_iff.mpr c5
   subst c5
   replace H:=(if_neg Bool.false_ne_true).symm.trans H
   obtain rfl:=Option.some.inj H
   go_enter Try.func74,Try.ntmps74
   go_wp2_with (first|((with_reducible refine gate_dst (N:=1) rfl ?_);refine box_event ?hg (N:=1) ?hd (cs := #[.slice A0_0 l0_0.length c0_0,.int .i64 a0_1]) (t:=34) ?hr ?_;(case hd=>rfl);(case hg=>rfl);(case hr=>first|(go_simp;done)|(go_simp;rfl));intro gb157 hg w9 hbox hb;have BK157:=am (hbox);have GW157:=am (ge_ bl hg);have GE157:=am (ge_ bl hg);replace HB:=am (below_step bl hb);clear hb hbox hg;have hcz10_0:=bc BK157.out 0;have hcz10_1:=bc BK157.out 1;have hfz10_0:=blk_frozen BK157.out 0;have hfz10_1:=blk_frozen BK157.out 1)|((with_reducible refine gate_callee (f:=61) rfl ?_);refine goesL_ (some 6) rfl rfl Try.func61 (by kernel_rfl) rfl #[.int .i64 (l0_0.length:Int),.int .i64 1,.int .i64 20] rfl tl ?_;(with_reducible refine(spec_l1In.calls (l0_0.length:Int) 1 20 true _ A2.out).mono ?_);rintro e w' ⟨rfl,⟨nd,rfl⟩⟩;refine⟨_,rfl,?_⟩)|(go_at_call 90;(with_reducible refine(spec_l1Rising.calls k _ _ l0_0 24 96 false _ ?side1 ?side2 A4.out).mono ?_);(case side1=>repeat(first|exact(Kd.C_below HR0_0.out bl)|(with_reducible refine Kd.C_alloc ?_ _)|(with_reducible refine Kd.C_drewN ?_ _)|(with_reducible refine Kd.C_drew ?_)));(case side2=>exact HC0_0.out);rintro e w' ⟨rfl,⟨nd,rfl⟩⟩))
   go_ret
   exact⟨fin1,bl⟩
 ·replace c3:=Bool.eq_false_iff.mpr c3
  subst c3
  replace H:=(if_neg Bool.false_ne_true).symm.trans H
  obtain rfl:=Option.some.inj H
  go_enter Try.func74,Try.ntmps74
  go_wp2_with (first|((with_reducible refine gate_dst (N:=1) rfl ?_);refine box_event ?hg (N:=1) ?hd (cs := #[.slice A0_0 l0_0.length c0_0,.int .i64 a0_1]) (t:=34) ?hr ?_;(case hd=>rfl);(case hg=>rfl);(case hr=>first|(go_simp;done)|(go_simp;rfl));intro gb157 hg w11 hbox hb;have BK157:=am (hbox);have GW157:=am (ge_ bl hg);have GE157:=am (ge_ bl hg);replace HB:=am (below_step bl hb);clear hb hbox hg;have hcz12_0:=bc BK157.out 0;have hcz12_1:=bc BK157.out 1;have hfz12_0:=blk_frozen BK157.out 0;have hfz12_1:=blk_frozen BK157.out 1)|((with_reducible refine gate_callee (f:=61) rfl ?_);refine goesL_ (some 6) rfl rfl Try.func61 (by kernel_rfl) rfl #[.int .i64 (l0_0.length:Int),.int .i64 1,.int .i64 20] rfl tl ?_;(with_reducible refine(spec_l1In.calls (l0_0.length:Int) 1 20 false _ A2.out).mono ?_);rintro e w' ⟨rfl,⟨nd,rfl⟩⟩;refine⟨_,rfl,?_⟩))
  go_ret
  exact⟨fin1,bl⟩

def spec_ntPitch.f (a0:Int):Option (Bool):=(spec_l1In.f a0 24 96).bind fun t161=>(some t161)
set_option maxHeartbeats 8000000 in
set_option maxRecDepth 100000 in
theorem spec_ntPitch.calls (a0:Int) (r:Bool) (w:World) (h:spec_ntPitch.f a0=some r) :
  Calls Try.prog 99 #[.int .i64 a0] w fun e w'=>e = .returned (.bool r)∧Drawn0 w w':=by
 have H:((spec_l1In.f a0 24 96).bind fun t161=>(some t161))=some r:=h
 clear h
 obtain⟨t161,A2,H⟩:=bnd H
 obtain rfl:=Option.some.inj H
 go_enter Try.func99,Try.ntmps99
 go_wp2_with (first|((with_reducible refine gate_callee (f:=61) rfl ?_);refine goesL_ (some 4) rfl rfl Try.func61 (by kernel_rfl) rfl #[.int .i64 a0,.int .i64 24,.int .i64 96] rfl tl ?_;(with_reducible refine(spec_l1In.calls a0 24 96 t161 _ A2.out).mono ?_);rintro e w' ⟨rfl,⟨nd,rfl⟩⟩;refine⟨_,rfl,?_⟩))
 go_ret
 exact⟨by first|rfl|(simp;done)|(simp [*];done),by repeat(first|exact Drawn0.refl _|apply Drawn0.step)⟩

def spec_ntNote.f (a0_0:Int) (a0_1:Int) (a0_2:Int):Option (Bool):=(spec_ntPitch.f a0_0).bind fun t163=>(if t163=true then((spec_l1In.f a0_1 0 999).bind fun t164=>(if t164=true then((spec_l1In.f a0_2 1 99).bind fun t165=>(some t165)) else(some false))) else(some false))
set_option maxHeartbeats 8000000 in
set_option maxRecDepth 100000 in
theorem spec_ntNote.calls (a0_0:Int) (a0_1:Int) (a0_2:Int) (r:Bool) (w:World) (h:spec_ntNote.f a0_0 a0_1 a0_2=some r) :
  Calls Try.prog 91 #[.agg #[.int .i64 a0_0,.int .i64 a0_1,.int .i64 a0_2]] w fun e w'=>e = .returned (.bool r)∧Below w.heap.size w w':=by
 have hu62:=Try.underlying62
 have HB:=am (Below.refl w.heap.size w)
 have H:((spec_ntPitch.f a0_0).bind fun t163=>(if t163=true then((spec_l1In.f a0_1 0 999).bind fun t164=>(if t164=true then((spec_l1In.f a0_2 1 99).bind fun t165=>(some t165)) else(some false))) else(some false)))=some r:=h
 clear h
 obtain⟨t163,A2,H⟩:=bnd H
 by_cases c3:t163=true
 ·subst c3
  replace H:=(if_pos rfl).symm.trans H
  obtain⟨t164,A4,H⟩:=bnd H
  by_cases c5:t164=true
  ·subst c5
   replace H:=(if_pos rfl).symm.trans H
   obtain⟨t165,A6,H⟩:=bnd H
   obtain rfl:=Option.some.inj H
   go_enter Try.func91,Try.ntmps91
   go_wp2_with (first|((with_reducible refine gate_dst (N:=1) rfl ?_);refine box_event ?hg (N:=1) ?hd (cs := #[.int .i64 a0_0,.int .i64 a0_1,.int .i64 a0_2]) (t:=62) ?hr ?_;(case hd=>rfl);(case hg=>rfl);(case hr=>first|(go_simp;done)|(go_simp;rfl));intro gb162 hg w7 hbox hb;have BK162:=am (hbox);have GW162:=am (ge_ bl hg);have GE162:=am (ge_ bl hg);replace HB:=am (below_step bl hb);clear hb hbox hg;have hcz8_0:=bc BK162.out 0;have hcz8_1:=bc BK162.out 1;have hcz8_2:=bc BK162.out 2;have hfz8_0:=blk_frozen BK162.out 0;have hfz8_1:=blk_frozen BK162.out 1;have hfz8_2:=blk_frozen BK162.out 2)|((with_reducible refine gate_callee (f:=99) rfl ?_);refine goesL_ (some 5) rfl rfl Try.func99 (by kernel_rfl) rfl #[.int .i64 a0_0] rfl tl ?_;(with_reducible refine(spec_ntPitch.calls a0_0 true _ A2.out).mono ?_);rintro e w' ⟨rfl,⟨nd,rfl⟩⟩;refine⟨_,rfl,?_⟩)|(go_at_call 61;(with_reducible refine(spec_l1In.calls a0_1 0 999 true _ A4.out).mono ?_);rintro e w' ⟨rfl,⟨nd,rfl⟩⟩)|(go_at_call 61;(with_reducible refine(spec_l1In.calls a0_2 1 99 t165 _ A6.out).mono ?_);rintro e w' ⟨rfl,⟨nd,rfl⟩⟩))
   go_ret
   exact⟨fin1,bl⟩
  ·replace c5:=Bool.eq_false_iff.mpr c5
   subst c5
   replace H:=(if_neg Bool.false_ne_true).symm.trans H
   obtain rfl:=Option.some.inj H
   go_enter Try.func91,Try.ntmps91
   go_wp2_with (first|((with_reducible refine gate_dst (N:=1) rfl ?_);refine box_event ?hg (N:=1) ?hd (cs := #[.int .i64 a0_0,.int .i64 a0_1,.int .i64 a0_2]) (t:=62) ?hr ?_;(case hd=>rfl);(case hg=>rfl);(case hr=>first|(go_simp;done)|(go_simp;rfl));intro gb162 hg w9 hbox hb;have BK162:=am (hbox);have GW162:=am (ge_ bl hg);have GE162:=am (ge_ bl hg);replace HB:=am (below_step bl hb);clear hb hbox hg;have hcz10_0:=bc BK162.out 0;have hcz10_1:=bc BK162.out 1;have hcz10_2:=bc BK162.out 2;have hfz10_0:=blk_frozen BK162.out 0;have hfz10_1:=blk_frozen BK162.out 1;have hfz10_2:=blk_frozen BK162.out 2)|((with_reducible refine gate_callee (f:=99) rfl ?_);refine goesL_ (some 5) rfl rfl Try.func99 (by kernel_rfl) rfl #[.int .i64 a0_0] rfl tl ?_;(with_reducible refine(spec_ntPitch.calls a0_0 true _ A2.out).mono ?_);rintro e w' ⟨rfl,⟨nd,rfl⟩⟩;refine⟨_,rfl,?_⟩)|(go_at_call 61;(with_reducible refine(spec_l1In.calls a0_1 0 999 false _ A4.out).mono ?_);rintro e w' ⟨rfl,⟨nd,rfl⟩⟩))
   go_ret
   exact⟨fin1,bl⟩
 ·replace c3:=Bool.eq_false_iff.mpr c3
  subst c3
  replace H:=(if_neg Bool.false_ne_true).symm.trans H
  obtain rfl:=Option.some.inj H
  go_enter Try.func91,Try.ntmps91
  go_wp2_with (first|((with_reducible refine gate_dst (N:=1) rfl ?_);refine box_event ?hg (N:=1) ?hd (cs := #[.int .i64 a0_0,.int .i64 a0_1,.int .i64 a0_2]) (t:=62) ?hr ?_;(case hd=>rfl);(case hg=>rfl);(case hr=>first|(go_simp;done)|(go_simp;rfl));intro gb162 hg w11 hbox hb;have BK162:=am (hbox);have GW162:=am (ge_ bl hg);have GE162:=am (ge_ bl hg);replace HB:=am (below_step bl hb);clear hb hbox hg;have hcz12_0:=bc BK162.out 0;have hcz12_1:=bc BK162.out 1;have hcz12_2:=bc BK162.out 2;have hfz12_0:=blk_frozen BK162.out 0;have hfz12_1:=blk_frozen BK162.out 1;have hfz12_2:=blk_frozen BK162.out 2)|((with_reducible refine gate_callee (f:=99) rfl ?_);refine goesL_ (some 5) rfl rfl Try.func99 (by kernel_rfl) rfl #[.int .i64 a0_0] rfl tl ?_;(with_reducible refine(spec_ntPitch.calls a0_0 false _ A2.out).mono ?_);rintro e w' ⟨rfl,⟨nd,rfl⟩⟩;refine⟨_,rfl,?_⟩))
  go_ret
  exact⟨fin1,bl⟩

def spec_ntBefore.f (a0_0:Int) (a0_1:Int) (a0_2:Int) (a1_0:Int) (a1_1:Int) (a1_2:Int):Option (Bool):=if a0_1<a1_1 then(some true) else(if a0_1=a1_1 then(some (decide (a0_0<a1_0))) else(some false))
set_option maxHeartbeats 8000000 in
set_option maxRecDepth 100000 in
theorem spec_ntBefore.calls (a0_0:Int) (a0_1:Int) (a0_2:Int) (a1_0:Int) (a1_1:Int) (a1_2:Int) (r:Bool) (w:World) (h:spec_ntBefore.f a0_0 a0_1 a0_2 a1_0 a1_1 a1_2=some r) :
  Calls Try.prog 92 #[.agg #[.int .i64 a0_0,.int .i64 a0_1,.int .i64 a0_2],.agg #[.int .i64 a1_0,.int .i64 a1_1,.int .i64 a1_2]] w fun e w'=>e = .returned (.bool r)∧Below w.heap.size w w':=by
 have hu62:=Try.underlying62
 have HB:=am (Below.refl w.heap.size w)
 have H:(if a0_1<a1_1 then(some true) else(if a0_1=a1_1 then(some (decide (a0_0<a1_0))) else(some false)))=some r:=h
 clear h
 rcases itc H with⟨c3,H⟩|⟨c3,H⟩
 ·have c3b0:=decide_eq_true c3
  clear c3
  obtain rfl:=Option.some.inj H
  go_enter Try.func92,Try.ntmps92
  go_wp2_with (first|((with_reducible refine gate_dst (N:=2) rfl ?_);refine box_event ?hg (N:=2) ?hd (cs := #[.int .i64 a0_0,.int .i64 a0_1,.int .i64 a0_2]) (t:=62) ?hr ?_;(case hd=>rfl);(case hg=>rfl);(case hr=>first|(go_simp;done)|(go_simp;rfl));intro gb166 hg w4 hbox hb;have BK166:=am (hbox);have GW166:=am (ge_ bl hg);have GE166:=am (ge_ bl hg);replace HB:=am (below_step bl hb);clear hb hbox hg)|((with_reducible refine gate_dst (N:=3) rfl ?_);refine box_event ?hg (N:=3) ?hd (cs := #[.int .i64 a1_0,.int .i64 a1_1,.int .i64 a1_2]) (t:=62) ?hr ?_;(case hd=>rfl);(case hg=>rfl);(case hr=>first|(go_simp;done)|(go_simp;rfl));intro gb167 hg w5 hbox hb;have BK167:=am (hbox);have GW167:=am (ge_ bl hg);have GE167:=am (ge_ bl hg);replace HB:=am (below_step bl hb);have NB166_167:=am (nl (bup BK166.out) hg);have NB167_166:=am (ng (bup BK166.out) hg);replace BK166:=am (blk_below (bup BK166.out) hb);clear hb hbox hg;have hnb6:=NB166_167.out;have hnc6:=NB167_166.out;have hcz7_0:=bc BK166.out 0;have hcz7_1:=bc BK166.out 1;have hcz7_2:=bc BK166.out 2;have hfz7_0:=blk_frozen BK166.out 0;have hfz7_1:=blk_frozen BK166.out 1;have hfz7_2:=blk_frozen BK166.out 2;have hcz8_0:=bc BK167.out 0;have hcz8_1:=bc BK167.out 1;have hcz8_2:=bc BK167.out 2;have hfz8_0:=blk_frozen BK167.out 0;have hfz8_1:=blk_frozen BK167.out 1;have hfz8_2:=blk_frozen BK167.out 2))
  go_ret
  exact⟨fin1,bl⟩
 ·have c3b0:=decide_eq_false c3
  clear c3
  rcases itc H with⟨c9,H⟩|⟨c9,H⟩
  ·have c9b0:(a0_1 == a1_1)=true:=beq_iff_eq.mpr c9
   have c9b1:(a0_1 != a1_1)=false:=bne_eq_false_iff_eq.mpr c9
   clear c9
   obtain rfl:=Option.some.inj H
   go_enter Try.func92,Try.ntmps92
   go_wp2_with (first|((with_reducible refine gate_dst (N:=2) rfl ?_);refine box_event ?hg (N:=2) ?hd (cs := #[.int .i64 a0_0,.int .i64 a0_1,.int .i64 a0_2]) (t:=62) ?hr ?_;(case hd=>rfl);(case hg=>rfl);(case hr=>first|(go_simp;done)|(go_simp;rfl));intro gb166 hg w10 hbox hb;have BK166:=am (hbox);have GW166:=am (ge_ bl hg);have GE166:=am (ge_ bl hg);replace HB:=am (below_step bl hb);clear hb hbox hg)|((with_reducible refine gate_dst (N:=3) rfl ?_);refine box_event ?hg (N:=3) ?hd (cs := #[.int .i64 a1_0,.int .i64 a1_1,.int .i64 a1_2]) (t:=62) ?hr ?_;(case hd=>rfl);(case hg=>rfl);(case hr=>first|(go_simp;done)|(go_simp;rfl));intro gb167 hg w11 hbox hb;have BK167:=am (hbox);have GW167:=am (ge_ bl hg);have GE167:=am (ge_ bl hg);replace HB:=am (below_step bl hb);have NB166_167:=am (nl (bup BK166.out) hg);have NB167_166:=am (ng (bup BK166.out) hg);replace BK166:=am (blk_below (bup BK166.out) hb);clear hb hbox hg;have hnb12:=NB166_167.out;have hnc12:=NB167_166.out;have hcz13_0:=bc BK166.out 0;have hcz13_1:=bc BK166.out 1;have hcz13_2:=bc BK166.out 2;have hfz13_0:=blk_frozen BK166.out 0;have hfz13_1:=blk_frozen BK166.out 1;have hfz13_2:=blk_frozen BK166.out 2;have hcz14_0:=bc BK167.out 0;have hcz14_1:=bc BK167.out 1;have hcz14_2:=bc BK167.out 2;have hfz14_0:=blk_frozen BK167.out 0;have hfz14_1:=blk_frozen BK167.out 1;have hfz14_2:=blk_frozen BK167.out 2))
   go_ret
   exact⟨fin1,bl⟩
  ·have c9b0:(a0_1 == a1_1)=false:=beq_eq_false_iff_ne.mpr c9
   have c9b1:(a0_1 != a1_1)=true:=bne_iff_ne.mpr c9
   obtain rfl:=Option.some.inj H
   go_enter Try.func92,Try.ntmps92
   go_wp2_with (first|((with_reducible refine gate_dst (N:=2) rfl ?_);refine box_event ?hg (N:=2) ?hd (cs := #[.int .i64 a0_0,.int .i64 a0_1,.int .i64 a0_2]) (t:=62) ?hr ?_;(case hd=>rfl);(case hg=>rfl);(case hr=>first|(go_simp;done)|(go_simp;rfl));intro gb166 hg w15 hbox hb;have BK166:=am (hbox);have GW166:=am (ge_ bl hg);have GE166:=am (ge_ bl hg);replace HB:=am (below_step bl hb);clear hb hbox hg)|((with_reducible refine gate_dst (N:=3) rfl ?_);refine box_event ?hg (N:=3) ?hd (cs := #[.int .i64 a1_0,.int .i64 a1_1,.int .i64 a1_2]) (t:=62) ?hr ?_;(case hd=>rfl);(case hg=>rfl);(case hr=>first|(go_simp;done)|(go_simp;rfl));intro gb167 hg w16 hbox hb;have BK167:=am (hbox);have GW167:=am (ge_ bl hg);have GE167:=am (ge_ bl hg);replace HB:=am (below_step bl hb);have NB166_167:=am (nl (bup BK166.out) hg);have NB167_166:=am (ng (bup BK166.out) hg);replace BK166:=am (blk_below (bup BK166.out) hb);clear hb hbox hg;have hnb17:=NB166_167.out;have hnc17:=NB167_166.out;have hcz18_0:=bc BK166.out 0;have hcz18_1:=bc BK166.out 1;have hcz18_2:=bc BK166.out 2;have hfz18_0:=blk_frozen BK166.out 0;have hfz18_1:=blk_frozen BK166.out 1;have hfz18_2:=blk_frozen BK166.out 2;have hcz19_0:=bc BK167.out 0;have hcz19_1:=bc BK167.out 1;have hcz19_2:=bc BK167.out 2;have hfz19_0:=blk_frozen BK167.out 0;have hfz19_1:=blk_frozen BK167.out 1;have hfz19_2:=blk_frozen BK167.out 2))
   go_ret
   exact⟨fin1,bl⟩

def spec_ntMeet.f (a0_0:Int) (a0_1:Int) (a0_2:Int) (a1_0:Int) (a1_1:Int) (a1_2:Int):Option (Bool):=if a0_0=a1_0 then(if a0_1<(wrap64 (a1_1+a1_2)) then(some (decide (a1_1<(wrap64 (a0_1+a0_2))))) else(some false)) else(some false)
set_option maxHeartbeats 8000000 in
set_option maxRecDepth 100000 in
theorem spec_ntMeet.calls (a0_0:Int) (a0_1:Int) (a0_2:Int) (a1_0:Int) (a1_1:Int) (a1_2:Int) (r:Bool) (w:World) (h:spec_ntMeet.f a0_0 a0_1 a0_2 a1_0 a1_1 a1_2=some r) :
  Calls Try.prog 93 #[.agg #[.int .i64 a0_0,.int .i64 a0_1,.int .i64 a0_2],.agg #[.int .i64 a1_0,.int .i64 a1_1,.int .i64 a1_2]] w fun e w'=>e = .returned (.bool r)∧Below w.heap.size w w':=by
 have hu62:=Try.underlying62
 have HB:=am (Below.refl w.heap.size w)
 have H:(if a0_0=a1_0 then(if a0_1<(wrap64 (a1_1+a1_2)) then(some (decide (a1_1<(wrap64 (a0_1+a0_2))))) else(some false)) else(some false))=some r:=h
 clear h
 rcases itc H with⟨c3,H⟩|⟨c3,H⟩
 ·have c3b0:(a0_0 == a1_0)=true:=beq_iff_eq.mpr c3
  have c3b1:(a0_0 != a1_0)=false:=bne_eq_false_iff_eq.mpr c3
  clear c3
  rcases itc H with⟨c4,H⟩|⟨c4,H⟩
  ·have c4b0:=decide_eq_true c4
   clear c4
   obtain rfl:=Option.some.inj H
   go_enter Try.func93,Try.ntmps93
   go_wp2_with (first|((with_reducible refine gate_dst (N:=2) rfl ?_);refine box_event ?hg (N:=2) ?hd (cs := #[.int .i64 a0_0,.int .i64 a0_1,.int .i64 a0_2]) (t:=62) ?hr ?_;(case hd=>rfl);(case hg=>rfl);(case hr=>first|(go_simp;done)|(go_simp;rfl));intro gb168 hg w5 hbox hb;have BK168:=am (hbox);have GW168:=am (ge_ bl hg);have GE168:=am (ge_ bl hg);replace HB:=am (below_step bl hb);clear hb hbox hg)|((with_reducible refine gate_dst (N:=3) rfl ?_);refine box_event ?hg (N:=3) ?hd (cs := #[.int .i64 a1_0,.int .i64 a1_1,.int .i64 a1_2]) (t:=62) ?hr ?_;(case hd=>rfl);(case hg=>rfl);(case hr=>first|(go_simp;done)|(go_simp;rfl));intro gb169 hg w6 hbox hb;have BK169:=am (hbox);have GW169:=am (ge_ bl hg);have GE169:=am (ge_ bl hg);replace HB:=am (below_step bl hb);have NB168_169:=am (nl (bup BK168.out) hg);have NB169_168:=am (ng (bup BK168.out) hg);replace BK168:=am (blk_below (bup BK168.out) hb);clear hb hbox hg;have hnb7:=NB168_169.out;have hnc7:=NB169_168.out;have hcz8_0:=bc BK168.out 0;have hcz8_1:=bc BK168.out 1;have hcz8_2:=bc BK168.out 2;have hfz8_0:=blk_frozen BK168.out 0;have hfz8_1:=blk_frozen BK168.out 1;have hfz8_2:=blk_frozen BK168.out 2;have hcz9_0:=bc BK169.out 0;have hcz9_1:=bc BK169.out 1;have hcz9_2:=bc BK169.out 2;have hfz9_0:=blk_frozen BK169.out 0;have hfz9_1:=blk_frozen BK169.out 1;have hfz9_2:=blk_frozen BK169.out 2))
   go_ret
   exact⟨fin1,bl⟩
  ·have c4b0:=decide_eq_false c4
   clear c4
   obtain rfl:=Option.some.inj H
   go_enter Try.func93,Try.ntmps93
   go_wp2_with (first|((with_reducible refine gate_dst (N:=2) rfl ?_);refine box_event ?hg (N:=2) ?hd (cs := #[.int .i64 a0_0,.int .i64 a0_1,.int .i64 a0_2]) (t:=62) ?hr ?_;(case hd=>rfl);(case hg=>rfl);(case hr=>first|(go_simp;done)|(go_simp;rfl));intro gb168 hg w10 hbox hb;have BK168:=am (hbox);have GW168:=am (ge_ bl hg);have GE168:=am (ge_ bl hg);replace HB:=am (below_step bl hb);clear hb hbox hg)|((with_reducible refine gate_dst (N:=3) rfl ?_);refine box_event ?hg (N:=3) ?hd (cs := #[.int .i64 a1_0,.int .i64 a1_1,.int .i64 a1_2]) (t:=62) ?hr ?_;(case hd=>rfl);(case hg=>rfl);(case hr=>first|(go_simp;done)|(go_simp;rfl));intro gb169 hg w11 hbox hb;have BK169:=am (hbox);have GW169:=am (ge_ bl hg);have GE169:=am (ge_ bl hg);replace HB:=am (below_step bl hb);have NB168_169:=am (nl (bup BK168.out) hg);have NB169_168:=am (ng (bup BK168.out) hg);replace BK168:=am (blk_below (bup BK168.out) hb);clear hb hbox hg;have hnb12:=NB168_169.out;have hnc12:=NB169_168.out;have hcz13_0:=bc BK168.out 0;have hcz13_1:=bc BK168.out 1;have hcz13_2:=bc BK168.out 2;have hfz13_0:=blk_frozen BK168.out 0;have hfz13_1:=blk_frozen BK168.out 1;have hfz13_2:=blk_frozen BK168.out 2;have hcz14_0:=bc BK169.out 0;have hcz14_1:=bc BK169.out 1;have hcz14_2:=bc BK169.out 2;have hfz14_0:=blk_frozen BK169.out 0;have hfz14_1:=blk_frozen BK169.out 1;have hfz14_2:=blk_frozen BK169.out 2))
   go_ret
   exact⟨fin1,bl⟩
 ·have c3b0:(a0_0 == a1_0)=false:=beq_eq_false_iff_ne.mpr c3
  have c3b1:(a0_0 != a1_0)=true:=bne_iff_ne.mpr c3
  obtain rfl:=Option.some.inj H
  go_enter Try.func93,Try.ntmps93
  go_wp2_with (first|((with_reducible refine gate_dst (N:=2) rfl ?_);refine box_event ?hg (N:=2) ?hd (cs := #[.int .i64 a0_0,.int .i64 a0_1,.int .i64 a0_2]) (t:=62) ?hr ?_;(case hd=>rfl);(case hg=>rfl);(case hr=>first|(go_simp;done)|(go_simp;rfl));intro gb168 hg w15 hbox hb;have BK168:=am (hbox);have GW168:=am (ge_ bl hg);have GE168:=am (ge_ bl hg);replace HB:=am (below_step bl hb);clear hb hbox hg)|((with_reducible refine gate_dst (N:=3) rfl ?_);refine box_event ?hg (N:=3) ?hd (cs := #[.int .i64 a1_0,.int .i64 a1_1,.int .i64 a1_2]) (t:=62) ?hr ?_;(case hd=>rfl);(case hg=>rfl);(case hr=>first|(go_simp;done)|(go_simp;rfl));intro gb169 hg w16 hbox hb;have BK169:=am (hbox);have GW169:=am (ge_ bl hg);have GE169:=am (ge_ bl hg);replace HB:=am (below_step bl hb);have NB168_169:=am (nl (bup BK168.out) hg);have NB169_168:=am (ng (bup BK168.out) hg);replace BK168:=am (blk_below (bup BK168.out) hb);clear hb hbox hg;have hnb17:=NB168_169.out;have hnc17:=NB169_168.out;have hcz18_0:=bc BK168.out 0;have hcz18_1:=bc BK168.out 1;have hcz18_2:=bc BK168.out 2;have hfz18_0:=blk_frozen BK168.out 0;have hfz18_1:=blk_frozen BK168.out 1;have hfz18_2:=blk_frozen BK168.out 2;have hcz19_0:=bc BK169.out 0;have hcz19_1:=bc BK169.out 1;have hcz19_2:=bc BK169.out 2;have hfz19_0:=blk_frozen BK169.out 0;have hfz19_1:=blk_frozen BK169.out 1;have hfz19_2:=blk_frozen BK169.out 2))
  go_ret
  exact⟨fin1,bl⟩

end Go.Proofs.Ytipklbjbgbbgpaa.PFnExactLeastTolerance
