/- The walks of functions that FnExactPlaysAsPromised reaches: what they return is what the plain functions of the same names say. Made by a program of this session after the kit's print. No conditions beyond the arguments' being read. -/
import Derived.Test.YtjniaiobnbdhhabSPlaysAsPromised0
import Derived.Test.YtjniaiobnbdhhabSPlaysAsPromised1
namespace Go.Proofs.Ytjniaiobnbdhhab.PFnExactPlaysAsPromised
open Go.RowKit Go.Proofs.YtjniaiobnbdhhabW.PrintWords Go.Proofs.YtjniaiobnbdhhabW.PrintLast Go.Proofs.YtjniaiobnbdhhabW.PrintMore
attribute [local go_sem] max2_int min2_int max_two min_two max_three min_three max_four min_four   -- for this text's walks alone
set_option linter.unusedVariables false
set_option linter.unusedSimpArgs false

/-! ### spec_l1Rising: function 102 -/
def spec_l1Rising.l0:Nat→List Int→Int→Int→List Int→Int→Int→Option (Bool)
 | 0,_,_,_,_,_,_=>none
 | k+1,x0,x1,x2,x9,x10,x11=>if x11<x10 then(if 0≤x11 then(if x11<(x9.length:Int) then((spec_l1In.f (rd x9 x11) x1 x2).bind fun t137=>(if t137=true then(if x11>0 then(if 0≤(wrap64 (x11 - 1)) then(if(wrap64 (x11 - 1))<(x0.length:Int) then(if(rd x0 (wrap64 (x11 - 1)))≥(rd x9 x11) then(some false) else(spec_l1Rising.l0 k x0 x1 x2 x9 x10 (wrap64 (x11+1)))) else(none)) else(none)) else(spec_l1Rising.l0 k x0 x1 x2 x9 x10 (wrap64 (x11+1)))) else(some false))) else(none)) else(none)) else(some true)
def spec_l1Rising.f (k:Nat) (l0:List Int) (a1:Int) (a2:Int):Option (Bool):=spec_l1Rising.l0 k l0 a1 a2 l0 (l0.length:Int) 0
set_option maxHeartbeats 8000000 in
set_option maxRecDepth 100000 in
theorem spec_l1Rising.calls (k:Nat) (A0:Option Addr) (c0:Nat) (l0:List Int) (a1:Int) (a2:Int) (r:Bool) (w:World) (hr0:Kd.C (Kd.int .i64) w A0 l0.length l0) (hc0:l0.length≤c0) (h:spec_l1Rising.f k l0 a1 a2=some r) :
  Calls Try.prog 102 #[.slice A0 l0.length c0,.int .i64 a1,.int .i64 a2] w fun e w'=>e = .returned (.bool r)∧Drawn0 w w':=by
 have HR0:=am hr0
 have HC0:=am hc0
 clear hr0 hc0
 have H:(spec_l1Rising.l0 k l0 a1 a2 l0 (l0.length:Int) 0)=some r:=h
 clear h
 have H':=am H
 clear H
 go_enter Try.func102,Try.ntmps102
 go_wp2
 go_loopg [11] k (fun kq v11 w'=>∃(x11_1:Int),v11 = .int .i64 x11_1∧Aside0 (spec_l1Rising.l0 kq l0 a1 a2 l0 (l0.length:Int) x11_1=some r)∧Aside0 (kq≤k)∧Drawn0 w w')
 case atStart=>exact⟨(0),fin2,H',⟨Nat.le_refl _⟩,by repeat(first|exact Drawn0.refl _|apply Drawn0.step)⟩
 case round =>
  clear H'
  try clear c1
  try clear p2
  obtain⟨x11_1,rfl,HA,HK1,⟨m1,rfl⟩⟩:=hrel
  cases gk with
  | zero=>exact absurd HA.out (by simp [spec_l1Rising.l0])
  | succ k1 =>
   have H:=HA.out
   clear HA
   simp only[spec_l1Rising.l0] at H
   by_cases c4:x11_1<(l0.length:Int)
   ·rw[if_pos c4] at H
    have c4b0:decide (x11_1<(l0.length:Int))=true:=decide_eq_true c4
    clear c4
    by_cases c5:0≤x11_1
    ·rw[if_pos c5] at H
     have c5b0:decide (0≤x11_1)=true:=decide_eq_true c5
     clear c5
     by_cases c6:x11_1<(l0.length:Int)
     ·rw[if_pos c6] at H
      have c6b0:decide (x11_1<(l0.length:Int))=true:=decide_eq_true c6
      clear c6
      replace H:=Option.bind_eq_some_iff.mp H
      obtain⟨t137,A70,H⟩:=H
      replace H:(if t137=true then(if x11_1>0 then(if 0≤(wrap64 (x11_1 - 1)) then(if(wrap64 (x11_1 - 1))<(l0.length:Int) then(if(rd l0 (wrap64 (x11_1 - 1)))≥(rd l0 x11_1) then(some false) else(spec_l1Rising.l0 k1 l0 a1 a2 l0 (l0.length:Int) (wrap64 (x11_1+1)))) else(none)) else(none)) else(spec_l1Rising.l0 k1 l0 a1 a2 l0 (l0.length:Int) (wrap64 (x11_1+1)))) else(some false))=some r:=H
      have A7:=am A70
      clear A70
      by_cases c8:t137=true
      ·subst c8
       have H1:(if x11_1>0 then(if 0≤(wrap64 (x11_1 - 1)) then(if(wrap64 (x11_1 - 1))<(l0.length:Int) then(if(rd l0 (wrap64 (x11_1 - 1)))≥(rd l0 x11_1) then(some false) else(spec_l1Rising.l0 k1 l0 a1 a2 l0 (l0.length:Int) (wrap64 (x11_1+1)))) else(none)) else(none)) else(spec_l1Rising.l0 k1 l0 a1 a2 l0 (l0.length:Int) (wrap64 (x11_1+1))))=some r:=by rw[if_pos rfl] at H;exact H
       clear H
       have H:=H1
       clear H1
       by_cases c9:x11_1>0
       ·rw[if_pos c9] at H
        have c9b0:decide (0<x11_1)=true:=decide_eq_true c9
        clear c9
        obtain⟨ji10,hji10⟩:∃ j_:Int,(wrap64 (x11_1 - 1))=j_:=⟨_,rfl⟩
        replace H:(if 0≤(ji10) then(if(ji10)<(l0.length:Int) then(if(rd l0 (ji10))≥(rd l0 x11_1) then(some false) else(spec_l1Rising.l0 k1 l0 a1 a2 l0 (l0.length:Int) (wrap64 (x11_1+1)))) else(none)) else(none))=some r:=by first|(rw[hji10] at H;exact H)|(simp only[hji10] at H ⊢;exact H)
        (try rw[hji10] at A7)
        have hji10w:(IntKind.i64.wrap (x11_1 - 1))=ji10:=(i64_w _).trans hji10
        by_cases c11:0≤(ji10)
        ·rw[if_pos c11] at H
         have c11b0:decide (0≤(ji10))=true:=decide_eq_true c11
         clear c11
         by_cases c12:(ji10)<(l0.length:Int)
         ·rw[if_pos c12] at H
          have c12b0:decide ((ji10)<(l0.length:Int))=true:=decide_eq_true c12
          clear c12
          by_cases c13:(rd l0 (ji10))≥(rd l0 x11_1)
          ·rw[if_pos c13] at H
           have c13b0:decide ((rd l0 x11_1)≤(rd l0 (ji10)))=true:=decide_eq_true c13
           clear c13
           obtain rfl:=Option.some.inj H
           have p136:0≤(x11_1:Int):=od
           have q136:x11_1<(l0.length:Int):=od
           obtain⟨ad136,e136,hx136_0⟩:=Kd.at_int HR0.out x11_1 p136 q136
           cases e136
           replace p136:=eq_true p136
           replace q136:=eq_true q136
           go_wp2_with (first|((with_reducible refine gate_callee (f:=65) rfl ?_);refine goesL_ (some 19) rfl rfl Try.func65 (by kernel_rfl) rfl #[.int .i64 (rd l0 x11_1),.int .i64 a1,.int .i64 a2] rfl (by(try simp only[List.map_toArray,List.map_cons,List.map_nil]);first|done|rfl|(simp only[List.length_drop,List.length_take];rfl)) ?_;(with_reducible refine(spec_l1In.calls (rd l0 x11_1) a1 a2 true _ A7.out).mono ?_);rintro e w' ⟨rfl,⟨nd,rfl⟩⟩;refine⟨_,rfl,?_⟩;have p138:0≤((ji10):Int):=od;have q138:(ji10)<(l0.length:Int):=od;obtain⟨ad138,e138,hx138_0⟩:=Kd.at_int HR0.out (ji10) p138 q138;obtain rfl:ad136=ad138:=(by injection e138);replace p138:=eq_true p138;replace q138:=eq_true q138))
           go_ret
           exact⟨by first|rfl|(simp;done)|(simp only[← hji10]<;>(first|rfl|simp))|(simp [*];done),by repeat(first|exact Drawn0.refl _|apply Drawn0.step)⟩
          ·rw[if_neg c13] at H
           have c13b0:decide ((rd l0 x11_1)≤(rd l0 (ji10)))=false:=decide_eq_false c13
           clear c13
           have H':=am H
           clear H
           have p136:0≤(x11_1:Int):=od
           have q136:x11_1<(l0.length:Int):=od
           obtain⟨ad136,e136,hx136_0⟩:=Kd.at_int HR0.out x11_1 p136 q136
           cases e136
           replace p136:=eq_true p136
           replace q136:=eq_true q136
           go_wp2_with (first|((with_reducible refine gate_callee (f:=65) rfl ?_);refine goesL_ (some 19) rfl rfl Try.func65 (by kernel_rfl) rfl #[.int .i64 (rd l0 x11_1),.int .i64 a1,.int .i64 a2] rfl (by(try simp only[List.map_toArray,List.map_cons,List.map_nil]);first|done|rfl|(simp only[List.length_drop,List.length_take];rfl)) ?_;(with_reducible refine(spec_l1In.calls (rd l0 x11_1) a1 a2 true _ A7.out).mono ?_);rintro e w' ⟨rfl,⟨nd,rfl⟩⟩;refine⟨_,rfl,?_⟩;have p138:0≤((ji10):Int):=od;have q138:(ji10)<(l0.length:Int):=od;obtain⟨ad138,e138,hx138_0⟩:=Kd.at_int HR0.out (ji10) p138 q138;obtain rfl:ad136=ad138:=(by injection e138);replace p138:=eq_true p138;replace q138:=eq_true q138))
           go_roundg k1
           case measure=>have:=HK1.out;omega
           case rel=>exact⟨(wrap64 (x11_1+1)),fin2,H',⟨by have:=HK1.out;omega⟩,by repeat(first|exact Drawn0.refl _|apply Drawn0.step)⟩
         ·rw[if_neg c12] at H
          exact absurd H (by simp)
        ·rw[if_neg c11] at H
         exact absurd H (by simp)
       ·rw[if_neg c9] at H
        have c9b0:decide (0<x11_1)=false:=decide_eq_false c9
        clear c9
        have H':=am H
        clear H
        have p136:0≤(x11_1:Int):=od
        have q136:x11_1<(l0.length:Int):=od
        obtain⟨ad136,e136,hx136_0⟩:=Kd.at_int HR0.out x11_1 p136 q136
        cases e136
        replace p136:=eq_true p136
        replace q136:=eq_true q136
        go_wp2_with (first|((with_reducible refine gate_callee (f:=65) rfl ?_);refine goesL_ (some 19) rfl rfl Try.func65 (by kernel_rfl) rfl #[.int .i64 (rd l0 x11_1),.int .i64 a1,.int .i64 a2] rfl (by(try simp only[List.map_toArray,List.map_cons,List.map_nil]);first|done|rfl|(simp only[List.length_drop,List.length_take];rfl)) ?_;(with_reducible refine(spec_l1In.calls (rd l0 x11_1) a1 a2 true _ A7.out).mono ?_);rintro e w' ⟨rfl,⟨nd,rfl⟩⟩;refine⟨_,rfl,?_⟩))
        go_roundg k1
        case measure=>have:=HK1.out;omega
        case rel=>exact⟨(wrap64 (x11_1+1)),fin2,H',⟨by have:=HK1.out;omega⟩,by repeat(first|exact Drawn0.refl _|apply Drawn0.step)⟩
      ·replace c8:=Bool.eq_false_iff.mpr c8
       subst c8
       have H1:(some false)=some r:=by rw[if_neg (show ¬ (false=true) by decide)] at H;exact H
       clear H
       have H:=H1
       clear H1
       obtain rfl:=Option.some.inj H
       have p136:0≤(x11_1:Int):=od
       have q136:x11_1<(l0.length:Int):=od
       obtain⟨ad136,e136,hx136_0⟩:=Kd.at_int HR0.out x11_1 p136 q136
       cases e136
       replace p136:=eq_true p136
       replace q136:=eq_true q136
       go_wp2_with (first|((with_reducible refine gate_callee (f:=65) rfl ?_);refine goesL_ (some 19) rfl rfl Try.func65 (by kernel_rfl) rfl #[.int .i64 (rd l0 x11_1),.int .i64 a1,.int .i64 a2] rfl (by(try simp only[List.map_toArray,List.map_cons,List.map_nil]);first|done|rfl|(simp only[List.length_drop,List.length_take];rfl)) ?_;(with_reducible refine(spec_l1In.calls (rd l0 x11_1) a1 a2 false _ A7.out).mono ?_);rintro e w' ⟨rfl,⟨nd,rfl⟩⟩;refine⟨_,rfl,?_⟩))
       go_ret
       exact⟨by first|rfl|(simp;done)|(simp [*];done),by repeat(first|exact Drawn0.refl _|apply Drawn0.step)⟩
     ·rw[if_neg c6] at H
      exact absurd H (by simp)
    ·rw[if_neg c5] at H
     exact absurd H (by simp)
   ·rw[if_neg c4] at H
    have c4b0:decide (x11_1<(l0.length:Int))=false:=decide_eq_false c4
    clear c4
    obtain rfl:=Option.some.inj H
    go_wp2
    go_ret
    exact⟨by first|rfl|(simp;done)|(simp [*];done),by repeat(first|exact Drawn0.refl _|apply Drawn0.step)⟩

/-! ### spec_inGood: function 112 -/
def spec_inGood.f (k:Nat) (l0_0:List Int) (a0_1:Int):Option (Bool):=(spec_l1In.f (l0_0.length:Int) 1 20).bind fun t140=>(if t140=true then((spec_l1Rising.f k l0_0 24 96).bind fun t141=>(if t141=true then((spec_l1In.f a0_1 1 20).bind fun t142=>(some t142)) else(some false))) else(some false))
set_option maxHeartbeats 8000000 in
set_option maxRecDepth 100000 in
theorem spec_inGood.calls (k:Nat) (A0_0:Option Addr) (c0_0:Nat) (l0_0:List Int) (a0_1:Int) (r:Bool) (w:World) (hr0_0:Kd.C (Kd.int .i64) w A0_0 l0_0.length l0_0) (hc0_0:l0_0.length≤c0_0) (h:spec_inGood.f k l0_0 a0_1=some r) :
  Calls Try.prog 112 #[.agg #[.slice A0_0 l0_0.length c0_0,.int .i64 a0_1]] w fun e w'=>e = .returned (.bool r)∧Below w.heap.size w w':=by
 have hu44:=Try.underlying44
 have HR0_0:=am hr0_0
 have HC0_0:=am hc0_0
 clear hr0_0 hc0_0
 have HB:=am (Below.refl w.heap.size w)
 have H:((spec_l1In.f (l0_0.length:Int) 1 20).bind fun t140=>(if t140=true then((spec_l1Rising.f k l0_0 24 96).bind fun t141=>(if t141=true then((spec_l1In.f a0_1 1 20).bind fun t142=>(some t142)) else(some false))) else(some false)))=some r:=h
 clear h
 replace H:=Option.bind_eq_some_iff.mp H
 obtain⟨t140,A20,H⟩:=H
 replace H:(if t140=true then((spec_l1Rising.f k l0_0 24 96).bind fun t141=>(if t141=true then((spec_l1In.f a0_1 1 20).bind fun t142=>(some t142)) else(some false))) else(some false))=some r:=H
 have A2:=am A20
 clear A20
 by_cases c3:t140=true
 ·subst c3
  have H1:((spec_l1Rising.f k l0_0 24 96).bind fun t141=>(if t141=true then((spec_l1In.f a0_1 1 20).bind fun t142=>(some t142)) else(some false)))=some r:=by rw[if_pos rfl] at H;exact H
  clear H
  have H:=H1
  clear H1
  replace H:=Option.bind_eq_some_iff.mp H
  obtain⟨t141,A40,H⟩:=H
  replace H:(if t141=true then((spec_l1In.f a0_1 1 20).bind fun t142=>(some t142)) else(some false))=some r:=H
  have A4:=am A40
  clear A40
  by_cases c5:t141=true
  ·subst c5
   have H1:((spec_l1In.f a0_1 1 20).bind fun t142=>(some t142))=some r:=by rw[if_pos rfl] at H;exact H
   clear H
   have H:=H1
   clear H1
   replace H:=Option.bind_eq_some_iff.mp H
   obtain⟨t142,A60,H⟩:=H
   replace H:(some t142)=some r:=H
   have A6:=am A60
   clear A60
   obtain rfl:=Option.some.inj H
   go_enter Try.func112,Try.ntmps112
   go_wp2_with (first|((with_reducible refine gate_dst (N:=1) rfl ?_);refine box_event ?hg (N:=1) ?hd (cs := #[.slice A0_0 l0_0.length c0_0,.int .i64 a0_1]) (t:=44) ?hr ?_;(case hd=>rfl);(case hg=>rfl);(case hr=>first|(go_simp;done)|(go_simp;rfl));intro gb139 hg w7 hbox hb;have n0_:=am (below_step bl hb);have n1_:=am (hbox);have n2_:=am ((by rw[hg];exact(below_size bl):w.heap.size≤gb139));have n3_:=am ((by rw[hg];exact(below_size bl):w.heap.size≤gb139));clear HB;have HB:=n0_;have BK139:=n1_;have GW139:=n2_;have GE139:=n3_;clear n0_ n1_ n2_ n3_ hb hbox hg;have hcz8_0:w7.cell? ⟨gb139,0,none⟩=some (.slice A0_0 l0_0.length c0_0):=(blk_cell BK139.out 0).trans rfl;have hcz8_1:w7.cell? ⟨gb139,1,none⟩=some (.int .i64 a0_1):=(blk_cell BK139.out 1).trans rfl;have hfz8_0:=blk_frozen BK139.out 0;have hfz8_1:=blk_frozen BK139.out 1)|((with_reducible refine gate_callee (f:=65) rfl ?_);refine goesL_ (some 6) rfl rfl Try.func65 (by kernel_rfl) rfl #[.int .i64 (l0_0.length:Int),.int .i64 1,.int .i64 20] rfl (by(try simp only[List.map_toArray,List.map_cons,List.map_nil]);first|done|rfl|(simp only[List.length_drop,List.length_take];rfl)) ?_;(with_reducible refine(spec_l1In.calls (l0_0.length:Int) 1 20 true _ A2.out).mono ?_);rintro e w' ⟨rfl,⟨nd,rfl⟩⟩;refine⟨_,rfl,?_⟩)|(go_at_call 102;(with_reducible refine(spec_l1Rising.calls k _ _ l0_0 24 96 true _ ?side1 ?side2 A4.out).mono ?_);(case side1=>repeat(first|exact(Kd.C_below HR0_0.out bl)|(with_reducible refine Kd.C_alloc ?_ _)|(with_reducible refine Kd.C_drewN ?_ _)|(with_reducible refine Kd.C_drew ?_)));(case side2=>exact HC0_0.out);rintro e w' ⟨rfl,⟨nd,rfl⟩⟩)|(go_at_call 65;(with_reducible refine(spec_l1In.calls a0_1 1 20 t142 _ A6.out).mono ?_);rintro e w' ⟨rfl,⟨nd,rfl⟩⟩))
   go_ret
   exact⟨fin1,bl⟩
  ·replace c5:=Bool.eq_false_iff.mpr c5
   subst c5
   have H1:(some false)=some r:=by rw[if_neg (show ¬ (false=true) by decide)] at H;exact H
   clear H
   have H:=H1
   clear H1
   obtain rfl:=Option.some.inj H
   go_enter Try.func112,Try.ntmps112
   go_wp2_with (first|((with_reducible refine gate_dst (N:=1) rfl ?_);refine box_event ?hg (N:=1) ?hd (cs := #[.slice A0_0 l0_0.length c0_0,.int .i64 a0_1]) (t:=44) ?hr ?_;(case hd=>rfl);(case hg=>rfl);(case hr=>first|(go_simp;done)|(go_simp;rfl));intro gb139 hg w9 hbox hb;have n0_:=am (below_step bl hb);have n1_:=am (hbox);have n2_:=am ((by rw[hg];exact(below_size bl):w.heap.size≤gb139));have n3_:=am ((by rw[hg];exact(below_size bl):w.heap.size≤gb139));clear HB;have HB:=n0_;have BK139:=n1_;have GW139:=n2_;have GE139:=n3_;clear n0_ n1_ n2_ n3_ hb hbox hg;have hcz10_0:w9.cell? ⟨gb139,0,none⟩=some (.slice A0_0 l0_0.length c0_0):=(blk_cell BK139.out 0).trans rfl;have hcz10_1:w9.cell? ⟨gb139,1,none⟩=some (.int .i64 a0_1):=(blk_cell BK139.out 1).trans rfl;have hfz10_0:=blk_frozen BK139.out 0;have hfz10_1:=blk_frozen BK139.out 1)|((with_reducible refine gate_callee (f:=65) rfl ?_);refine goesL_ (some 6) rfl rfl Try.func65 (by kernel_rfl) rfl #[.int .i64 (l0_0.length:Int),.int .i64 1,.int .i64 20] rfl (by(try simp only[List.map_toArray,List.map_cons,List.map_nil]);first|done|rfl|(simp only[List.length_drop,List.length_take];rfl)) ?_;(with_reducible refine(spec_l1In.calls (l0_0.length:Int) 1 20 true _ A2.out).mono ?_);rintro e w' ⟨rfl,⟨nd,rfl⟩⟩;refine⟨_,rfl,?_⟩)|(go_at_call 102;(with_reducible refine(spec_l1Rising.calls k _ _ l0_0 24 96 false _ ?side1 ?side2 A4.out).mono ?_);(case side1=>repeat(first|exact(Kd.C_below HR0_0.out bl)|(with_reducible refine Kd.C_alloc ?_ _)|(with_reducible refine Kd.C_drewN ?_ _)|(with_reducible refine Kd.C_drew ?_)));(case side2=>exact HC0_0.out);rintro e w' ⟨rfl,⟨nd,rfl⟩⟩))
   go_ret
   exact⟨fin1,bl⟩
 ·replace c3:=Bool.eq_false_iff.mpr c3
  subst c3
  have H1:(some false)=some r:=by rw[if_neg (show ¬ (false=true) by decide)] at H;exact H
  clear H
  have H:=H1
  clear H1
  obtain rfl:=Option.some.inj H
  go_enter Try.func112,Try.ntmps112
  go_wp2_with (first|((with_reducible refine gate_dst (N:=1) rfl ?_);refine box_event ?hg (N:=1) ?hd (cs := #[.slice A0_0 l0_0.length c0_0,.int .i64 a0_1]) (t:=44) ?hr ?_;(case hd=>rfl);(case hg=>rfl);(case hr=>first|(go_simp;done)|(go_simp;rfl));intro gb139 hg w11 hbox hb;have n0_:=am (below_step bl hb);have n1_:=am (hbox);have n2_:=am ((by rw[hg];exact(below_size bl):w.heap.size≤gb139));have n3_:=am ((by rw[hg];exact(below_size bl):w.heap.size≤gb139));clear HB;have HB:=n0_;have BK139:=n1_;have GW139:=n2_;have GE139:=n3_;clear n0_ n1_ n2_ n3_ hb hbox hg;have hcz12_0:w11.cell? ⟨gb139,0,none⟩=some (.slice A0_0 l0_0.length c0_0):=(blk_cell BK139.out 0).trans rfl;have hcz12_1:w11.cell? ⟨gb139,1,none⟩=some (.int .i64 a0_1):=(blk_cell BK139.out 1).trans rfl;have hfz12_0:=blk_frozen BK139.out 0;have hfz12_1:=blk_frozen BK139.out 1)|((with_reducible refine gate_callee (f:=65) rfl ?_);refine goesL_ (some 6) rfl rfl Try.func65 (by kernel_rfl) rfl #[.int .i64 (l0_0.length:Int),.int .i64 1,.int .i64 20] rfl (by(try simp only[List.map_toArray,List.map_cons,List.map_nil]);first|done|rfl|(simp only[List.length_drop,List.length_take];rfl)) ?_;(with_reducible refine(spec_l1In.calls (l0_0.length:Int) 1 20 false _ A2.out).mono ?_);rintro e w' ⟨rfl,⟨nd,rfl⟩⟩;refine⟨_,rfl,?_⟩))
  go_ret
  exact⟨fin1,bl⟩

/-! ### spec_ntPitch: function 131 -/
def spec_ntPitch.f (a0:Int):Option (Bool):=(spec_l1In.f a0 24 96).bind fun t143=>(some t143)
set_option maxHeartbeats 8000000 in
set_option maxRecDepth 100000 in
theorem spec_ntPitch.calls (a0:Int) (r:Bool) (w:World) (h:spec_ntPitch.f a0=some r) :
  Calls Try.prog 131 #[.int .i64 a0] w fun e w'=>e = .returned (.bool r)∧Drawn0 w w':=by
 have H:((spec_l1In.f a0 24 96).bind fun t143=>(some t143))=some r:=h
 clear h
 replace H:=Option.bind_eq_some_iff.mp H
 obtain⟨t143,A20,H⟩:=H
 replace H:(some t143)=some r:=H
 have A2:=am A20
 clear A20
 obtain rfl:=Option.some.inj H
 go_enter Try.func131,Try.ntmps131
 go_wp2_with (first|((with_reducible refine gate_callee (f:=65) rfl ?_);refine goesL_ (some 4) rfl rfl Try.func65 (by kernel_rfl) rfl #[.int .i64 a0,.int .i64 24,.int .i64 96] rfl (by(try simp only[List.map_toArray,List.map_cons,List.map_nil]);first|done|rfl|(simp only[List.length_drop,List.length_take];rfl)) ?_;(with_reducible refine(spec_l1In.calls a0 24 96 t143 _ A2.out).mono ?_);rintro e w' ⟨rfl,⟨nd,rfl⟩⟩;refine⟨_,rfl,?_⟩))
 go_ret
 exact⟨by first|rfl|(simp;done)|(simp [*];done),by repeat(first|exact Drawn0.refl _|apply Drawn0.step)⟩

/-! ### spec_ntNote: function 117 -/
def spec_ntNote.f (a0_0:Int) (a0_1:Int) (a0_2:Int):Option (Bool):=(spec_ntPitch.f a0_0).bind fun t145=>(if t145=true then((spec_l1In.f a0_1 0 999).bind fun t146=>(if t146=true then((spec_l1In.f a0_2 1 99).bind fun t147=>(some t147)) else(some false))) else(some false))
set_option maxHeartbeats 8000000 in
set_option maxRecDepth 100000 in
theorem spec_ntNote.calls (a0_0:Int) (a0_1:Int) (a0_2:Int) (r:Bool) (w:World) (h:spec_ntNote.f a0_0 a0_1 a0_2=some r) :
  Calls Try.prog 117 #[.agg #[.int .i64 a0_0,.int .i64 a0_1,.int .i64 a0_2]] w fun e w'=>e = .returned (.bool r)∧Below w.heap.size w w':=by
 have hu95:=Try.underlying95
 have HB:=am (Below.refl w.heap.size w)
 have H:((spec_ntPitch.f a0_0).bind fun t145=>(if t145=true then((spec_l1In.f a0_1 0 999).bind fun t146=>(if t146=true then((spec_l1In.f a0_2 1 99).bind fun t147=>(some t147)) else(some false))) else(some false)))=some r:=h
 clear h
 replace H:=Option.bind_eq_some_iff.mp H
 obtain⟨t145,A20,H⟩:=H
 replace H:(if t145=true then((spec_l1In.f a0_1 0 999).bind fun t146=>(if t146=true then((spec_l1In.f a0_2 1 99).bind fun t147=>(some t147)) else(some false))) else(some false))=some r:=H
 have A2:=am A20
 clear A20
 by_cases c3:t145=true
 ·subst c3
  have H1:((spec_l1In.f a0_1 0 999).bind fun t146=>(if t146=true then((spec_l1In.f a0_2 1 99).bind fun t147=>(some t147)) else(some false)))=some r:=by rw[if_pos rfl] at H;exact H
  clear H
  have H:=H1
  clear H1
  replace H:=Option.bind_eq_some_iff.mp H
  obtain⟨t146,A40,H⟩:=H
  replace H:(if t146=true then((spec_l1In.f a0_2 1 99).bind fun t147=>(some t147)) else(some false))=some r:=H
  have A4:=am A40
  clear A40
  by_cases c5:t146=true
  ·subst c5
   have H1:((spec_l1In.f a0_2 1 99).bind fun t147=>(some t147))=some r:=by rw[if_pos rfl] at H;exact H
   clear H
   have H:=H1
   clear H1
   replace H:=Option.bind_eq_some_iff.mp H
   obtain⟨t147,A60,H⟩:=H
   replace H:(some t147)=some r:=H
   have A6:=am A60
   clear A60
   obtain rfl:=Option.some.inj H
   go_enter Try.func117,Try.ntmps117
   go_wp2_with (first|((with_reducible refine gate_dst (N:=1) rfl ?_);refine box_event ?hg (N:=1) ?hd (cs := #[.int .i64 a0_0,.int .i64 a0_1,.int .i64 a0_2]) (t:=95) ?hr ?_;(case hd=>rfl);(case hg=>rfl);(case hr=>first|(go_simp;done)|(go_simp;rfl));intro gb144 hg w7 hbox hb;have n0_:=am (below_step bl hb);have n1_:=am (hbox);have n2_:=am ((by rw[hg];exact(below_size bl):w.heap.size≤gb144));have n3_:=am ((by rw[hg];exact(below_size bl):w.heap.size≤gb144));clear HB;have HB:=n0_;have BK144:=n1_;have GW144:=n2_;have GE144:=n3_;clear n0_ n1_ n2_ n3_ hb hbox hg;have hcz8_0:w7.cell? ⟨gb144,0,none⟩=some (.int .i64 a0_0):=(blk_cell BK144.out 0).trans rfl;have hcz8_1:w7.cell? ⟨gb144,1,none⟩=some (.int .i64 a0_1):=(blk_cell BK144.out 1).trans rfl;have hcz8_2:w7.cell? ⟨gb144,2,none⟩=some (.int .i64 a0_2):=(blk_cell BK144.out 2).trans rfl;have hfz8_0:=blk_frozen BK144.out 0;have hfz8_1:=blk_frozen BK144.out 1;have hfz8_2:=blk_frozen BK144.out 2)|((with_reducible refine gate_callee (f:=131) rfl ?_);refine goesL_ (some 5) rfl rfl Try.func131 (by kernel_rfl) rfl #[.int .i64 a0_0] rfl (by(try simp only[List.map_toArray,List.map_cons,List.map_nil]);first|done|rfl|(simp only[List.length_drop,List.length_take];rfl)) ?_;(with_reducible refine(spec_ntPitch.calls a0_0 true _ A2.out).mono ?_);rintro e w' ⟨rfl,⟨nd,rfl⟩⟩;refine⟨_,rfl,?_⟩)|(go_at_call 65;(with_reducible refine(spec_l1In.calls a0_1 0 999 true _ A4.out).mono ?_);rintro e w' ⟨rfl,⟨nd,rfl⟩⟩)|(go_at_call 65;(with_reducible refine(spec_l1In.calls a0_2 1 99 t147 _ A6.out).mono ?_);rintro e w' ⟨rfl,⟨nd,rfl⟩⟩))
   go_ret
   exact⟨fin1,bl⟩
  ·replace c5:=Bool.eq_false_iff.mpr c5
   subst c5
   have H1:(some false)=some r:=by rw[if_neg (show ¬ (false=true) by decide)] at H;exact H
   clear H
   have H:=H1
   clear H1
   obtain rfl:=Option.some.inj H
   go_enter Try.func117,Try.ntmps117
   go_wp2_with (first|((with_reducible refine gate_dst (N:=1) rfl ?_);refine box_event ?hg (N:=1) ?hd (cs := #[.int .i64 a0_0,.int .i64 a0_1,.int .i64 a0_2]) (t:=95) ?hr ?_;(case hd=>rfl);(case hg=>rfl);(case hr=>first|(go_simp;done)|(go_simp;rfl));intro gb144 hg w9 hbox hb;have n0_:=am (below_step bl hb);have n1_:=am (hbox);have n2_:=am ((by rw[hg];exact(below_size bl):w.heap.size≤gb144));have n3_:=am ((by rw[hg];exact(below_size bl):w.heap.size≤gb144));clear HB;have HB:=n0_;have BK144:=n1_;have GW144:=n2_;have GE144:=n3_;clear n0_ n1_ n2_ n3_ hb hbox hg;have hcz10_0:w9.cell? ⟨gb144,0,none⟩=some (.int .i64 a0_0):=(blk_cell BK144.out 0).trans rfl;have hcz10_1:w9.cell? ⟨gb144,1,none⟩=some (.int .i64 a0_1):=(blk_cell BK144.out 1).trans rfl;have hcz10_2:w9.cell? ⟨gb144,2,none⟩=some (.int .i64 a0_2):=(blk_cell BK144.out 2).trans rfl;have hfz10_0:=blk_frozen BK144.out 0;have hfz10_1:=blk_frozen BK144.out 1;have hfz10_2:=blk_frozen BK144.out 2)|((with_reducible refine gate_callee (f:=131) rfl ?_);refine goesL_ (some 5) rfl rfl Try.func131 (by kernel_rfl) rfl #[.int .i64 a0_0] rfl (by(try simp only[List.map_toArray,List.map_cons,List.map_nil]);first|done|rfl|(simp only[List.length_drop,List.length_take];rfl)) ?_;(with_reducible refine(spec_ntPitch.calls a0_0 true _ A2.out).mono ?_);rintro e w' ⟨rfl,⟨nd,rfl⟩⟩;refine⟨_,rfl,?_⟩)|(go_at_call 65;(with_reducible refine(spec_l1In.calls a0_1 0 999 false _ A4.out).mono ?_);rintro e w' ⟨rfl,⟨nd,rfl⟩⟩))
   go_ret
   exact⟨fin1,bl⟩
 ·replace c3:=Bool.eq_false_iff.mpr c3
  subst c3
  have H1:(some false)=some r:=by rw[if_neg (show ¬ (false=true) by decide)] at H;exact H
  clear H
  have H:=H1
  clear H1
  obtain rfl:=Option.some.inj H
  go_enter Try.func117,Try.ntmps117
  go_wp2_with (first|((with_reducible refine gate_dst (N:=1) rfl ?_);refine box_event ?hg (N:=1) ?hd (cs := #[.int .i64 a0_0,.int .i64 a0_1,.int .i64 a0_2]) (t:=95) ?hr ?_;(case hd=>rfl);(case hg=>rfl);(case hr=>first|(go_simp;done)|(go_simp;rfl));intro gb144 hg w11 hbox hb;have n0_:=am (below_step bl hb);have n1_:=am (hbox);have n2_:=am ((by rw[hg];exact(below_size bl):w.heap.size≤gb144));have n3_:=am ((by rw[hg];exact(below_size bl):w.heap.size≤gb144));clear HB;have HB:=n0_;have BK144:=n1_;have GW144:=n2_;have GE144:=n3_;clear n0_ n1_ n2_ n3_ hb hbox hg;have hcz12_0:w11.cell? ⟨gb144,0,none⟩=some (.int .i64 a0_0):=(blk_cell BK144.out 0).trans rfl;have hcz12_1:w11.cell? ⟨gb144,1,none⟩=some (.int .i64 a0_1):=(blk_cell BK144.out 1).trans rfl;have hcz12_2:w11.cell? ⟨gb144,2,none⟩=some (.int .i64 a0_2):=(blk_cell BK144.out 2).trans rfl;have hfz12_0:=blk_frozen BK144.out 0;have hfz12_1:=blk_frozen BK144.out 1;have hfz12_2:=blk_frozen BK144.out 2)|((with_reducible refine gate_callee (f:=131) rfl ?_);refine goesL_ (some 5) rfl rfl Try.func131 (by kernel_rfl) rfl #[.int .i64 a0_0] rfl (by(try simp only[List.map_toArray,List.map_cons,List.map_nil]);first|done|rfl|(simp only[List.length_drop,List.length_take];rfl)) ?_;(with_reducible refine(spec_ntPitch.calls a0_0 false _ A2.out).mono ?_);rintro e w' ⟨rfl,⟨nd,rfl⟩⟩;refine⟨_,rfl,?_⟩))
  go_ret
  exact⟨fin1,bl⟩

/-! ### spec_ntBefore: function 118 -/
def spec_ntBefore.f (a0_0:Int) (a0_1:Int) (a0_2:Int) (a1_0:Int) (a1_1:Int) (a1_2:Int):Option (Bool):=if a0_1<a1_1 then(some true) else(if a0_1=a1_1 then(some (decide (a0_0<a1_0))) else(some false))
set_option maxHeartbeats 8000000 in
set_option maxRecDepth 100000 in
theorem spec_ntBefore.calls (a0_0:Int) (a0_1:Int) (a0_2:Int) (a1_0:Int) (a1_1:Int) (a1_2:Int) (r:Bool) (w:World) (h:spec_ntBefore.f a0_0 a0_1 a0_2 a1_0 a1_1 a1_2=some r) :
  Calls Try.prog 118 #[.agg #[.int .i64 a0_0,.int .i64 a0_1,.int .i64 a0_2],.agg #[.int .i64 a1_0,.int .i64 a1_1,.int .i64 a1_2]] w fun e w'=>e = .returned (.bool r)∧Below w.heap.size w w':=by
 have hu95:=Try.underlying95
 have HB:=am (Below.refl w.heap.size w)
 have H:(if a0_1<a1_1 then(some true) else(if a0_1=a1_1 then(some (decide (a0_0<a1_0))) else(some false)))=some r:=h
 clear h
 by_cases c3:a0_1<a1_1
 ·rw[if_pos c3] at H
  have c3b0:decide (a0_1<a1_1)=true:=decide_eq_true c3
  clear c3
  obtain rfl:=Option.some.inj H
  go_enter Try.func118,Try.ntmps118
  go_wp2_with (first|((with_reducible refine gate_dst (N:=2) rfl ?_);refine box_event ?hg (N:=2) ?hd (cs := #[.int .i64 a0_0,.int .i64 a0_1,.int .i64 a0_2]) (t:=95) ?hr ?_;(case hd=>rfl);(case hg=>rfl);(case hr=>first|(go_simp;done)|(go_simp;rfl));intro gb148 hg w4 hbox hb;have n0_:=am (below_step bl hb);have n1_:=am (hbox);have n2_:=am ((by rw[hg];exact(below_size bl):w.heap.size≤gb148));have n3_:=am ((by rw[hg];exact(below_size bl):w.heap.size≤gb148));clear HB;have HB:=n0_;have BK148:=n1_;have GW148:=n2_;have GE148:=n3_;clear n0_ n1_ n2_ n3_ hb hbox hg)|((with_reducible refine gate_dst (N:=3) rfl ?_);refine box_event ?hg (N:=3) ?hd (cs := #[.int .i64 a1_0,.int .i64 a1_1,.int .i64 a1_2]) (t:=95) ?hr ?_;(case hd=>rfl);(case hg=>rfl);(case hr=>first|(go_simp;done)|(go_simp;rfl));intro gb149 hg w5 hbox hb;have n0_:=am (blk_below (g:=gb148) (o := .cells #[.int .i64 a0_0,.int .i64 a0_1,.int .i64 a0_2] 95 (0,0)) (bup BK148.out) hb);have n1_:=am (below_step bl hb);have n2_:=am (hbox);have n3_:=am ((by rw[hg];exact(below_size bl):w.heap.size≤gb149));have n4_:=am ((by rw[hg];exact(below_size bl):w.heap.size≤gb149));have n5_:=am ((by rw[hg];exact Nat.ne_of_lt (blk_lt (g:=gb148) (o := .cells #[.int .i64 a0_0,.int .i64 a0_1,.int .i64 a0_2] 95 (0,0)) (bup BK148.out)):gb148≠gb149));have n6_:=am ((by rw[hg];exact Nat.ne_of_gt (blk_lt (g:=gb148) (o := .cells #[.int .i64 a0_0,.int .i64 a0_1,.int .i64 a0_2] 95 (0,0)) (bup BK148.out)):gb149≠gb148));clear BK148 HB;have BK148:=n0_;have HB:=n1_;have BK149:=n2_;have GW149:=n3_;have GE149:=n4_;have NB148_149:=n5_;have NB149_148:=n6_;clear n0_ n1_ n2_ n3_ n4_ n5_ n6_ hb hbox hg;have hnb6:=NB148_149.out;have hnc6:=NB149_148.out;have hcz7_0:w5.cell? ⟨gb148,0,none⟩=some (.int .i64 a0_0):=(blk_cell BK148.out 0).trans rfl;have hcz7_1:w5.cell? ⟨gb148,1,none⟩=some (.int .i64 a0_1):=(blk_cell BK148.out 1).trans rfl;have hcz7_2:w5.cell? ⟨gb148,2,none⟩=some (.int .i64 a0_2):=(blk_cell BK148.out 2).trans rfl;have hfz7_0:=blk_frozen BK148.out 0;have hfz7_1:=blk_frozen BK148.out 1;have hfz7_2:=blk_frozen BK148.out 2;have hcz8_0:w5.cell? ⟨gb149,0,none⟩=some (.int .i64 a1_0):=(blk_cell BK149.out 0).trans rfl;have hcz8_1:w5.cell? ⟨gb149,1,none⟩=some (.int .i64 a1_1):=(blk_cell BK149.out 1).trans rfl;have hcz8_2:w5.cell? ⟨gb149,2,none⟩=some (.int .i64 a1_2):=(blk_cell BK149.out 2).trans rfl;have hfz8_0:=blk_frozen BK149.out 0;have hfz8_1:=blk_frozen BK149.out 1;have hfz8_2:=blk_frozen BK149.out 2))
  go_ret
  exact⟨fin1,bl⟩
 ·rw[if_neg c3] at H
  have c3b0:decide (a0_1<a1_1)=false:=decide_eq_false c3
  clear c3
  by_cases c9:a0_1=a1_1
  ·rw[if_pos c9] at H
   have c9b0:(a0_1 == a1_1)=true:=beq_iff_eq.mpr c9
   have c9b1:(a0_1 != a1_1)=false:=bne_eq_false_iff_eq.mpr c9
   clear c9
   obtain rfl:=Option.some.inj H
   go_enter Try.func118,Try.ntmps118
   go_wp2_with (first|((with_reducible refine gate_dst (N:=2) rfl ?_);refine box_event ?hg (N:=2) ?hd (cs := #[.int .i64 a0_0,.int .i64 a0_1,.int .i64 a0_2]) (t:=95) ?hr ?_;(case hd=>rfl);(case hg=>rfl);(case hr=>first|(go_simp;done)|(go_simp;rfl));intro gb148 hg w10 hbox hb;have n0_:=am (below_step bl hb);have n1_:=am (hbox);have n2_:=am ((by rw[hg];exact(below_size bl):w.heap.size≤gb148));have n3_:=am ((by rw[hg];exact(below_size bl):w.heap.size≤gb148));clear HB;have HB:=n0_;have BK148:=n1_;have GW148:=n2_;have GE148:=n3_;clear n0_ n1_ n2_ n3_ hb hbox hg)|((with_reducible refine gate_dst (N:=3) rfl ?_);refine box_event ?hg (N:=3) ?hd (cs := #[.int .i64 a1_0,.int .i64 a1_1,.int .i64 a1_2]) (t:=95) ?hr ?_;(case hd=>rfl);(case hg=>rfl);(case hr=>first|(go_simp;done)|(go_simp;rfl));intro gb149 hg w11 hbox hb;have n0_:=am (blk_below (g:=gb148) (o := .cells #[.int .i64 a0_0,.int .i64 a0_1,.int .i64 a0_2] 95 (0,0)) (bup BK148.out) hb);have n1_:=am (below_step bl hb);have n2_:=am (hbox);have n3_:=am ((by rw[hg];exact(below_size bl):w.heap.size≤gb149));have n4_:=am ((by rw[hg];exact(below_size bl):w.heap.size≤gb149));have n5_:=am ((by rw[hg];exact Nat.ne_of_lt (blk_lt (g:=gb148) (o := .cells #[.int .i64 a0_0,.int .i64 a0_1,.int .i64 a0_2] 95 (0,0)) (bup BK148.out)):gb148≠gb149));have n6_:=am ((by rw[hg];exact Nat.ne_of_gt (blk_lt (g:=gb148) (o := .cells #[.int .i64 a0_0,.int .i64 a0_1,.int .i64 a0_2] 95 (0,0)) (bup BK148.out)):gb149≠gb148));clear BK148 HB;have BK148:=n0_;have HB:=n1_;have BK149:=n2_;have GW149:=n3_;have GE149:=n4_;have NB148_149:=n5_;have NB149_148:=n6_;clear n0_ n1_ n2_ n3_ n4_ n5_ n6_ hb hbox hg;have hnb12:=NB148_149.out;have hnc12:=NB149_148.out;have hcz13_0:w11.cell? ⟨gb148,0,none⟩=some (.int .i64 a0_0):=(blk_cell BK148.out 0).trans rfl;have hcz13_1:w11.cell? ⟨gb148,1,none⟩=some (.int .i64 a0_1):=(blk_cell BK148.out 1).trans rfl;have hcz13_2:w11.cell? ⟨gb148,2,none⟩=some (.int .i64 a0_2):=(blk_cell BK148.out 2).trans rfl;have hfz13_0:=blk_frozen BK148.out 0;have hfz13_1:=blk_frozen BK148.out 1;have hfz13_2:=blk_frozen BK148.out 2;have hcz14_0:w11.cell? ⟨gb149,0,none⟩=some (.int .i64 a1_0):=(blk_cell BK149.out 0).trans rfl;have hcz14_1:w11.cell? ⟨gb149,1,none⟩=some (.int .i64 a1_1):=(blk_cell BK149.out 1).trans rfl;have hcz14_2:w11.cell? ⟨gb149,2,none⟩=some (.int .i64 a1_2):=(blk_cell BK149.out 2).trans rfl;have hfz14_0:=blk_frozen BK149.out 0;have hfz14_1:=blk_frozen BK149.out 1;have hfz14_2:=blk_frozen BK149.out 2))
   go_ret
   exact⟨fin1,bl⟩
  ·rw[if_neg c9] at H
   have c9b0:(a0_1 == a1_1)=false:=beq_eq_false_iff_ne.mpr c9
   have c9b1:(a0_1 != a1_1)=true:=bne_iff_ne.mpr c9
   obtain rfl:=Option.some.inj H
   go_enter Try.func118,Try.ntmps118
   go_wp2_with (first|((with_reducible refine gate_dst (N:=2) rfl ?_);refine box_event ?hg (N:=2) ?hd (cs := #[.int .i64 a0_0,.int .i64 a0_1,.int .i64 a0_2]) (t:=95) ?hr ?_;(case hd=>rfl);(case hg=>rfl);(case hr=>first|(go_simp;done)|(go_simp;rfl));intro gb148 hg w15 hbox hb;have n0_:=am (below_step bl hb);have n1_:=am (hbox);have n2_:=am ((by rw[hg];exact(below_size bl):w.heap.size≤gb148));have n3_:=am ((by rw[hg];exact(below_size bl):w.heap.size≤gb148));clear HB;have HB:=n0_;have BK148:=n1_;have GW148:=n2_;have GE148:=n3_;clear n0_ n1_ n2_ n3_ hb hbox hg)|((with_reducible refine gate_dst (N:=3) rfl ?_);refine box_event ?hg (N:=3) ?hd (cs := #[.int .i64 a1_0,.int .i64 a1_1,.int .i64 a1_2]) (t:=95) ?hr ?_;(case hd=>rfl);(case hg=>rfl);(case hr=>first|(go_simp;done)|(go_simp;rfl));intro gb149 hg w16 hbox hb;have n0_:=am (blk_below (g:=gb148) (o := .cells #[.int .i64 a0_0,.int .i64 a0_1,.int .i64 a0_2] 95 (0,0)) (bup BK148.out) hb);have n1_:=am (below_step bl hb);have n2_:=am (hbox);have n3_:=am ((by rw[hg];exact(below_size bl):w.heap.size≤gb149));have n4_:=am ((by rw[hg];exact(below_size bl):w.heap.size≤gb149));have n5_:=am ((by rw[hg];exact Nat.ne_of_lt (blk_lt (g:=gb148) (o := .cells #[.int .i64 a0_0,.int .i64 a0_1,.int .i64 a0_2] 95 (0,0)) (bup BK148.out)):gb148≠gb149));have n6_:=am ((by rw[hg];exact Nat.ne_of_gt (blk_lt (g:=gb148) (o := .cells #[.int .i64 a0_0,.int .i64 a0_1,.int .i64 a0_2] 95 (0,0)) (bup BK148.out)):gb149≠gb148));clear BK148 HB;have BK148:=n0_;have HB:=n1_;have BK149:=n2_;have GW149:=n3_;have GE149:=n4_;have NB148_149:=n5_;have NB149_148:=n6_;clear n0_ n1_ n2_ n3_ n4_ n5_ n6_ hb hbox hg;have hnb17:=NB148_149.out;have hnc17:=NB149_148.out;have hcz18_0:w16.cell? ⟨gb148,0,none⟩=some (.int .i64 a0_0):=(blk_cell BK148.out 0).trans rfl;have hcz18_1:w16.cell? ⟨gb148,1,none⟩=some (.int .i64 a0_1):=(blk_cell BK148.out 1).trans rfl;have hcz18_2:w16.cell? ⟨gb148,2,none⟩=some (.int .i64 a0_2):=(blk_cell BK148.out 2).trans rfl;have hfz18_0:=blk_frozen BK148.out 0;have hfz18_1:=blk_frozen BK148.out 1;have hfz18_2:=blk_frozen BK148.out 2;have hcz19_0:w16.cell? ⟨gb149,0,none⟩=some (.int .i64 a1_0):=(blk_cell BK149.out 0).trans rfl;have hcz19_1:w16.cell? ⟨gb149,1,none⟩=some (.int .i64 a1_1):=(blk_cell BK149.out 1).trans rfl;have hcz19_2:w16.cell? ⟨gb149,2,none⟩=some (.int .i64 a1_2):=(blk_cell BK149.out 2).trans rfl;have hfz19_0:=blk_frozen BK149.out 0;have hfz19_1:=blk_frozen BK149.out 1;have hfz19_2:=blk_frozen BK149.out 2))
   go_ret
   exact⟨fin1,bl⟩

/-! ### spec_ntMeet: function 119 -/
def spec_ntMeet.f (a0_0:Int) (a0_1:Int) (a0_2:Int) (a1_0:Int) (a1_1:Int) (a1_2:Int):Option (Bool):=if a0_0=a1_0 then(if a0_1<(wrap64 (a1_1+a1_2)) then(some (decide (a1_1<(wrap64 (a0_1+a0_2))))) else(some false)) else(some false)
set_option maxHeartbeats 8000000 in
set_option maxRecDepth 100000 in
theorem spec_ntMeet.calls (a0_0:Int) (a0_1:Int) (a0_2:Int) (a1_0:Int) (a1_1:Int) (a1_2:Int) (r:Bool) (w:World) (h:spec_ntMeet.f a0_0 a0_1 a0_2 a1_0 a1_1 a1_2=some r) :
  Calls Try.prog 119 #[.agg #[.int .i64 a0_0,.int .i64 a0_1,.int .i64 a0_2],.agg #[.int .i64 a1_0,.int .i64 a1_1,.int .i64 a1_2]] w fun e w'=>e = .returned (.bool r)∧Below w.heap.size w w':=by
 have hu95:=Try.underlying95
 have HB:=am (Below.refl w.heap.size w)
 have H:(if a0_0=a1_0 then(if a0_1<(wrap64 (a1_1+a1_2)) then(some (decide (a1_1<(wrap64 (a0_1+a0_2))))) else(some false)) else(some false))=some r:=h
 clear h
 by_cases c3:a0_0=a1_0
 ·rw[if_pos c3] at H
  have c3b0:(a0_0 == a1_0)=true:=beq_iff_eq.mpr c3
  have c3b1:(a0_0 != a1_0)=false:=bne_eq_false_iff_eq.mpr c3
  clear c3
  by_cases c4:a0_1<(wrap64 (a1_1+a1_2))
  ·rw[if_pos c4] at H
   have c4b0:decide (a0_1<(wrap64 (a1_1+a1_2)))=true:=decide_eq_true c4
   clear c4
   obtain rfl:=Option.some.inj H
   go_enter Try.func119,Try.ntmps119
   go_wp2_with (first|((with_reducible refine gate_dst (N:=2) rfl ?_);refine box_event ?hg (N:=2) ?hd (cs := #[.int .i64 a0_0,.int .i64 a0_1,.int .i64 a0_2]) (t:=95) ?hr ?_;(case hd=>rfl);(case hg=>rfl);(case hr=>first|(go_simp;done)|(go_simp;rfl));intro gb150 hg w5 hbox hb;have n0_:=am (below_step bl hb);have n1_:=am (hbox);have n2_:=am ((by rw[hg];exact(below_size bl):w.heap.size≤gb150));have n3_:=am ((by rw[hg];exact(below_size bl):w.heap.size≤gb150));clear HB;have HB:=n0_;have BK150:=n1_;have GW150:=n2_;have GE150:=n3_;clear n0_ n1_ n2_ n3_ hb hbox hg)|((with_reducible refine gate_dst (N:=3) rfl ?_);refine box_event ?hg (N:=3) ?hd (cs := #[.int .i64 a1_0,.int .i64 a1_1,.int .i64 a1_2]) (t:=95) ?hr ?_;(case hd=>rfl);(case hg=>rfl);(case hr=>first|(go_simp;done)|(go_simp;rfl));intro gb151 hg w6 hbox hb;have n0_:=am (blk_below (g:=gb150) (o := .cells #[.int .i64 a0_0,.int .i64 a0_1,.int .i64 a0_2] 95 (0,0)) (bup BK150.out) hb);have n1_:=am (below_step bl hb);have n2_:=am (hbox);have n3_:=am ((by rw[hg];exact(below_size bl):w.heap.size≤gb151));have n4_:=am ((by rw[hg];exact(below_size bl):w.heap.size≤gb151));have n5_:=am ((by rw[hg];exact Nat.ne_of_lt (blk_lt (g:=gb150) (o := .cells #[.int .i64 a0_0,.int .i64 a0_1,.int .i64 a0_2] 95 (0,0)) (bup BK150.out)):gb150≠gb151));have n6_:=am ((by rw[hg];exact Nat.ne_of_gt (blk_lt (g:=gb150) (o := .cells #[.int .i64 a0_0,.int .i64 a0_1,.int .i64 a0_2] 95 (0,0)) (bup BK150.out)):gb151≠gb150));clear BK150 HB;have BK150:=n0_;have HB:=n1_;have BK151:=n2_;have GW151:=n3_;have GE151:=n4_;have NB150_151:=n5_;have NB151_150:=n6_;clear n0_ n1_ n2_ n3_ n4_ n5_ n6_ hb hbox hg;have hnb7:=NB150_151.out;have hnc7:=NB151_150.out;have hcz8_0:w6.cell? ⟨gb150,0,none⟩=some (.int .i64 a0_0):=(blk_cell BK150.out 0).trans rfl;have hcz8_1:w6.cell? ⟨gb150,1,none⟩=some (.int .i64 a0_1):=(blk_cell BK150.out 1).trans rfl;have hcz8_2:w6.cell? ⟨gb150,2,none⟩=some (.int .i64 a0_2):=(blk_cell BK150.out 2).trans rfl;have hfz8_0:=blk_frozen BK150.out 0;have hfz8_1:=blk_frozen BK150.out 1;have hfz8_2:=blk_frozen BK150.out 2;have hcz9_0:w6.cell? ⟨gb151,0,none⟩=some (.int .i64 a1_0):=(blk_cell BK151.out 0).trans rfl;have hcz9_1:w6.cell? ⟨gb151,1,none⟩=some (.int .i64 a1_1):=(blk_cell BK151.out 1).trans rfl;have hcz9_2:w6.cell? ⟨gb151,2,none⟩=some (.int .i64 a1_2):=(blk_cell BK151.out 2).trans rfl;have hfz9_0:=blk_frozen BK151.out 0;have hfz9_1:=blk_frozen BK151.out 1;have hfz9_2:=blk_frozen BK151.out 2))
   go_ret
   exact⟨fin1,bl⟩
  ·rw[if_neg c4] at H
   have c4b0:decide (a0_1<(wrap64 (a1_1+a1_2)))=false:=decide_eq_false c4
   clear c4
   obtain rfl:=Option.some.inj H
   go_enter Try.func119,Try.ntmps119
   go_wp2_with (first|((with_reducible refine gate_dst (N:=2) rfl ?_);refine box_event ?hg (N:=2) ?hd (cs := #[.int .i64 a0_0,.int .i64 a0_1,.int .i64 a0_2]) (t:=95) ?hr ?_;(case hd=>rfl);(case hg=>rfl);(case hr=>first|(go_simp;done)|(go_simp;rfl));intro gb150 hg w10 hbox hb;have n0_:=am (below_step bl hb);have n1_:=am (hbox);have n2_:=am ((by rw[hg];exact(below_size bl):w.heap.size≤gb150));have n3_:=am ((by rw[hg];exact(below_size bl):w.heap.size≤gb150));clear HB;have HB:=n0_;have BK150:=n1_;have GW150:=n2_;have GE150:=n3_;clear n0_ n1_ n2_ n3_ hb hbox hg)|((with_reducible refine gate_dst (N:=3) rfl ?_);refine box_event ?hg (N:=3) ?hd (cs := #[.int .i64 a1_0,.int .i64 a1_1,.int .i64 a1_2]) (t:=95) ?hr ?_;(case hd=>rfl);(case hg=>rfl);(case hr=>first|(go_simp;done)|(go_simp;rfl));intro gb151 hg w11 hbox hb;have n0_:=am (blk_below (g:=gb150) (o := .cells #[.int .i64 a0_0,.int .i64 a0_1,.int .i64 a0_2] 95 (0,0)) (bup BK150.out) hb);have n1_:=am (below_step bl hb);have n2_:=am (hbox);have n3_:=am ((by rw[hg];exact(below_size bl):w.heap.size≤gb151));have n4_:=am ((by rw[hg];exact(below_size bl):w.heap.size≤gb151));have n5_:=am ((by rw[hg];exact Nat.ne_of_lt (blk_lt (g:=gb150) (o := .cells #[.int .i64 a0_0,.int .i64 a0_1,.int .i64 a0_2] 95 (0,0)) (bup BK150.out)):gb150≠gb151));have n6_:=am ((by rw[hg];exact Nat.ne_of_gt (blk_lt (g:=gb150) (o := .cells #[.int .i64 a0_0,.int .i64 a0_1,.int .i64 a0_2] 95 (0,0)) (bup BK150.out)):gb151≠gb150));clear BK150 HB;have BK150:=n0_;have HB:=n1_;have BK151:=n2_;have GW151:=n3_;have GE151:=n4_;have NB150_151:=n5_;have NB151_150:=n6_;clear n0_ n1_ n2_ n3_ n4_ n5_ n6_ hb hbox hg;have hnb12:=NB150_151.out;have hnc12:=NB151_150.out;have hcz13_0:w11.cell? ⟨gb150,0,none⟩=some (.int .i64 a0_0):=(blk_cell BK150.out 0).trans rfl;have hcz13_1:w11.cell? ⟨gb150,1,none⟩=some (.int .i64 a0_1):=(blk_cell BK150.out 1).trans rfl;have hcz13_2:w11.cell? ⟨gb150,2,none⟩=some (.int .i64 a0_2):=(blk_cell BK150.out 2).trans rfl;have hfz13_0:=blk_frozen BK150.out 0;have hfz13_1:=blk_frozen BK150.out 1;have hfz13_2:=blk_frozen BK150.out 2;have hcz14_0:w11.cell? ⟨gb151,0,none⟩=some (.int .i64 a1_0):=(blk_cell BK151.out 0).trans rfl;have hcz14_1:w11.cell? ⟨gb151,1,none⟩=some (.int .i64 a1_1):=(blk_cell BK151.out 1).trans rfl;have hcz14_2:w11.cell? ⟨gb151,2,none⟩=some (.int .i64 a1_2):=(blk_cell BK151.out 2).trans rfl;have hfz14_0:=blk_frozen BK151.out 0;have hfz14_1:=blk_frozen BK151.out 1;have hfz14_2:=blk_frozen BK151.out 2))
   go_ret
   exact⟨fin1,bl⟩
 ·rw[if_neg c3] at H
  have c3b0:(a0_0 == a1_0)=false:=beq_eq_false_iff_ne.mpr c3
  have c3b1:(a0_0 != a1_0)=true:=bne_iff_ne.mpr c3
  obtain rfl:=Option.some.inj H
  go_enter Try.func119,Try.ntmps119
  go_wp2_with (first|((with_reducible refine gate_dst (N:=2) rfl ?_);refine box_event ?hg (N:=2) ?hd (cs := #[.int .i64 a0_0,.int .i64 a0_1,.int .i64 a0_2]) (t:=95) ?hr ?_;(case hd=>rfl);(case hg=>rfl);(case hr=>first|(go_simp;done)|(go_simp;rfl));intro gb150 hg w15 hbox hb;have n0_:=am (below_step bl hb);have n1_:=am (hbox);have n2_:=am ((by rw[hg];exact(below_size bl):w.heap.size≤gb150));have n3_:=am ((by rw[hg];exact(below_size bl):w.heap.size≤gb150));clear HB;have HB:=n0_;have BK150:=n1_;have GW150:=n2_;have GE150:=n3_;clear n0_ n1_ n2_ n3_ hb hbox hg)|((with_reducible refine gate_dst (N:=3) rfl ?_);refine box_event ?hg (N:=3) ?hd (cs := #[.int .i64 a1_0,.int .i64 a1_1,.int .i64 a1_2]) (t:=95) ?hr ?_;(case hd=>rfl);(case hg=>rfl);(case hr=>first|(go_simp;done)|(go_simp;rfl));intro gb151 hg w16 hbox hb;have n0_:=am (blk_below (g:=gb150) (o := .cells #[.int .i64 a0_0,.int .i64 a0_1,.int .i64 a0_2] 95 (0,0)) (bup BK150.out) hb);have n1_:=am (below_step bl hb);have n2_:=am (hbox);have n3_:=am ((by rw[hg];exact(below_size bl):w.heap.size≤gb151));have n4_:=am ((by rw[hg];exact(below_size bl):w.heap.size≤gb151));have n5_:=am ((by rw[hg];exact Nat.ne_of_lt (blk_lt (g:=gb150) (o := .cells #[.int .i64 a0_0,.int .i64 a0_1,.int .i64 a0_2] 95 (0,0)) (bup BK150.out)):gb150≠gb151));have n6_:=am ((by rw[hg];exact Nat.ne_of_gt (blk_lt (g:=gb150) (o := .cells #[.int .i64 a0_0,.int .i64 a0_1,.int .i64 a0_2] 95 (0,0)) (bup BK150.out)):gb151≠gb150));clear BK150 HB;have BK150:=n0_;have HB:=n1_;have BK151:=n2_;have GW151:=n3_;have GE151:=n4_;have NB150_151:=n5_;have NB151_150:=n6_;clear n0_ n1_ n2_ n3_ n4_ n5_ n6_ hb hbox hg;have hnb17:=NB150_151.out;have hnc17:=NB151_150.out;have hcz18_0:w16.cell? ⟨gb150,0,none⟩=some (.int .i64 a0_0):=(blk_cell BK150.out 0).trans rfl;have hcz18_1:w16.cell? ⟨gb150,1,none⟩=some (.int .i64 a0_1):=(blk_cell BK150.out 1).trans rfl;have hcz18_2:w16.cell? ⟨gb150,2,none⟩=some (.int .i64 a0_2):=(blk_cell BK150.out 2).trans rfl;have hfz18_0:=blk_frozen BK150.out 0;have hfz18_1:=blk_frozen BK150.out 1;have hfz18_2:=blk_frozen BK150.out 2;have hcz19_0:w16.cell? ⟨gb151,0,none⟩=some (.int .i64 a1_0):=(blk_cell BK151.out 0).trans rfl;have hcz19_1:w16.cell? ⟨gb151,1,none⟩=some (.int .i64 a1_1):=(blk_cell BK151.out 1).trans rfl;have hcz19_2:w16.cell? ⟨gb151,2,none⟩=some (.int .i64 a1_2):=(blk_cell BK151.out 2).trans rfl;have hfz19_0:=blk_frozen BK151.out 0;have hfz19_1:=blk_frozen BK151.out 1;have hfz19_2:=blk_frozen BK151.out 2))
  go_ret
  exact⟨fin1,bl⟩

end Go.Proofs.Ytjniaiobnbdhhab.PFnExactPlaysAsPromised
