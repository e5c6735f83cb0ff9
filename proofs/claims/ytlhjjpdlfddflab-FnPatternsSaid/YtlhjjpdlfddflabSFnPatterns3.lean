/- The walks of functions that FnPatterns reaches: what they return is what the plain functions of the same names say. Made by a program of this session after the kit's print. No conditions beyond the arguments' being read. -/
import Derived.Test.YtlhjjpdlfddflabSFnPatterns0
import Derived.Test.YtlhjjpdlfddflabSFnPatterns2
namespace Go.Proofs.Ytlhjjpdlfddflab.PFnPatterns
open Go.RowKit Go.Proofs.YtlhjjpdlfddflabW.PrintWords Go.Proofs.YtlhjjpdlfddflabW.PrintLast Go.Proofs.YtlhjjpdlfddflabW.PrintMore
attribute [local go_sem] max2_int min2_int max_two min_two max_three min_three max_four min_four   -- for this text's walks alone
set_option linter.unusedVariables false
set_option linter.unusedSimpArgs false

/-! ### spec_l1Rising: function 40 -/
def spec_l1Rising.l0:Nat→List Int→Int→Int→List Int→Int→Int→Option (Bool)
 | 0,_,_,_,_,_,_=>none
 | k+1,x0,x1,x2,x9,x10,x11=>if x11<x10 then(if 0≤x11 then(if x11<(x9.length:Int) then((spec_l1In.f (rd x9 x11) x1 x2).bind fun t182=>(if t182=true then(if x11>0 then(if 0≤(wrap64 (x11 - 1)) then(if(wrap64 (x11 - 1))<(x0.length:Int) then(if(rd x0 (wrap64 (x11 - 1)))≥(rd x9 x11) then(some false) else(spec_l1Rising.l0 k x0 x1 x2 x9 x10 (wrap64 (x11+1)))) else(none)) else(none)) else(spec_l1Rising.l0 k x0 x1 x2 x9 x10 (wrap64 (x11+1)))) else(some false))) else(none)) else(none)) else(some true)
def spec_l1Rising.f (k:Nat) (l0:List Int) (a1:Int) (a2:Int):Option (Bool):=spec_l1Rising.l0 k l0 a1 a2 l0 (l0.length:Int) 0
set_option maxHeartbeats 8000000 in
set_option maxRecDepth 100000 in
theorem spec_l1Rising.calls (k:Nat) (A0:Option Addr) (c0:Nat) (l0:List Int) (a1:Int) (a2:Int) (r:Bool) (w:World) (hr0:Kd.C (Kd.int .i64) w A0 l0.length l0) (hc0:l0.length≤c0) (h:spec_l1Rising.f k l0 a1 a2=some r) :
  Calls Try.prog 40 #[.slice A0 l0.length c0,.int .i64 a1,.int .i64 a2] w fun e w'=>e = .returned (.bool r)∧Drawn0 w w':=by
 have HR0:=am hr0
 have HC0:=am hc0
 clear hr0 hc0
 have H:(spec_l1Rising.l0 k l0 a1 a2 l0 (l0.length:Int) 0)=some r:=h
 clear h
 have H':=am H
 clear H
 go_enter Try.func40,Try.ntmps40
 go_wp2
 go_loopg [11] k (fun kq v11 w'=>∃(x11_1:Int),v11 = .int .i64 x11_1∧Aside0 (spec_l1Rising.l0 kq l0 a1 a2 l0 (l0.length:Int) x11_1=some r)∧Aside0 (kq≤k)∧Drawn0 w w')
 case atStart=>exact⟨(0),fin2,H',⟨Nat.le_refl _⟩,by repeat(first|exact Drawn0.refl _|apply Drawn0.step)⟩
 case round =>
  clear H'
  try clear p2
  obtain⟨x11_1,rfl,HA,HK1,⟨m1,rfl⟩⟩:=hrel
  cases gk with
  | zero=>exact absurd HA.out (by simp [spec_l1Rising.l0])
  | succ k1 =>
   have H:=HA.out
   clear HA
   simp only[spec_l1Rising.l0] at H
   by_cases c4:x11_1<(l0.length:Int)
   ·rw[if_pos c4] at H
    have c4b0:decide (x11_1<(l0.length:Int))=true:=decide_eq_true c4
    clear c4
    by_cases c5:0≤x11_1
    ·rw[if_pos c5] at H
     have c5b0:decide (0≤x11_1)=true:=decide_eq_true c5
     clear c5
     by_cases c6:x11_1<(l0.length:Int)
     ·rw[if_pos c6] at H
      have c6b0:decide (x11_1<(l0.length:Int))=true:=decide_eq_true c6
      clear c6
      replace H:=Option.bind_eq_some_iff.mp H
      obtain⟨t182,A70,H⟩:=H
      replace H:(if t182=true then(if x11_1>0 then(if 0≤(wrap64 (x11_1 - 1)) then(if(wrap64 (x11_1 - 1))<(l0.length:Int) then(if(rd l0 (wrap64 (x11_1 - 1)))≥(rd l0 x11_1) then(some false) else(spec_l1Rising.l0 k1 l0 a1 a2 l0 (l0.length:Int) (wrap64 (x11_1+1)))) else(none)) else(none)) else(spec_l1Rising.l0 k1 l0 a1 a2 l0 (l0.length:Int) (wrap64 (x11_1+1)))) else(some false))=some r:=H
      have A7:=am A70
      clear A70
      by_cases c8:t182=true
      ·subst c8
       have H1:(if x11_1>0 then(if 0≤(wrap64 (x11_1 - 1)) then(if(wrap64 (x11_1 - 1))<(l0.length:Int) then(if(rd l0 (wrap64 (x11_1 - 1)))≥(rd l0 x11_1) then(some false) else(spec_l1Rising.l0 k1 l0 a1 a2 l0 (l0.length:Int) (wrap64 (x11_1+1)))) else(none)) else(none)) else(spec_l1Rising.l0 k1 l0 a1 a2 l0 (l0.length:Int) (wrap64 (x11_1+1))))=some r:=by rw[if_pos rfl] at H;exact H
       clear H
       have H:=H1
       clear H1
       by_cases c9:x11_1>0
       ·rw[if_pos c9] at H
        have c9b0:decide (0<x11_1)=true:=decide_eq_true c9
        clear c9
        obtain⟨ji10,hji10⟩:∃ j_:Int,(wrap64 (x11_1 - 1))=j_:=⟨_,rfl⟩
        replace H:(if 0≤(ji10) then(if(ji10)<(l0.length:Int) then(if(rd l0 (ji10))≥(rd l0 x11_1) then(some false) else(spec_l1Rising.l0 k1 l0 a1 a2 l0 (l0.length:Int) (wrap64 (x11_1+1)))) else(none)) else(none))=some r:=by first|(rw[hji10] at H;exact H)|(simp only[hji10] at H ⊢;exact H)
        (try rw[hji10] at A7)
        have hji10w:(IntKind.i64.wrap (x11_1 - 1))=ji10:=(i64_w _).trans hji10
        by_cases c11:0≤(ji10)
        ·rw[if_pos c11] at H
         have c11b0:decide (0≤(ji10))=true:=decide_eq_true c11
         clear c11
         by_cases c12:(ji10)<(l0.length:Int)
         ·rw[if_pos c12] at H
          have c12b0:decide ((ji10)<(l0.length:Int))=true:=decide_eq_true c12
          clear c12
          by_cases c13:(rd l0 (ji10))≥(rd l0 x11_1)
          ·rw[if_pos c13] at H
           have c13b0:decide ((rd l0 x11_1)≤(rd l0 (ji10)))=true:=decide_eq_true c13
           clear c13
           obtain rfl:=Option.some.inj H
           have p181:0≤(x11_1:Int):=od
           have q181:x11_1<(l0.length:Int):=od
           obtain⟨ad181,e181,hx181_0⟩:=Kd.at_int HR0.out x11_1 p181 q181
           cases e181
           replace p181:=eq_true p181
           replace q181:=eq_true q181
           go_wp2_with (first|((with_reducible refine gate_callee (f:=34) rfl ?_);refine goesL_ (some 19) rfl rfl Try.func34 (by kernel_rfl) rfl #[.int .i64 (rd l0 x11_1),.int .i64 a1,.int .i64 a2] rfl tl ?_;(with_reducible refine(spec_l1In.calls (rd l0 x11_1) a1 a2 true _ A7.out).mono ?_);rintro e w' ⟨rfl,⟨nd,rfl⟩⟩;refine⟨_,rfl,?_⟩;have p183:0≤((ji10):Int):=od;have q183:(ji10)<(l0.length:Int):=od;obtain⟨ad183,e183,hx183_0⟩:=Kd.at_int HR0.out (ji10) p183 q183;obtain rfl:ad181=ad183:=(by injection e183);replace p183:=eq_true p183;replace q183:=eq_true q183))
           go_ret
           exact⟨by first|rfl|(simp;done)|(simp only[← hji10]<;>(first|rfl|simp))|(simp [*];done),by repeat(first|exact Drawn0.refl _|apply Drawn0.step)⟩
          ·rw[if_neg c13] at H
           have c13b0:decide ((rd l0 x11_1)≤(rd l0 (ji10)))=false:=decide_eq_false c13
           clear c13
           have H':=am H
           clear H
           have p181:0≤(x11_1:Int):=od
           have q181:x11_1<(l0.length:Int):=od
           obtain⟨ad181,e181,hx181_0⟩:=Kd.at_int HR0.out x11_1 p181 q181
           cases e181
           replace p181:=eq_true p181
           replace q181:=eq_true q181
           go_wp2_with (first|((with_reducible refine gate_callee (f:=34) rfl ?_);refine goesL_ (some 19) rfl rfl Try.func34 (by kernel_rfl) rfl #[.int .i64 (rd l0 x11_1),.int .i64 a1,.int .i64 a2] rfl tl ?_;(with_reducible refine(spec_l1In.calls (rd l0 x11_1) a1 a2 true _ A7.out).mono ?_);rintro e w' ⟨rfl,⟨nd,rfl⟩⟩;refine⟨_,rfl,?_⟩;have p183:0≤((ji10):Int):=od;have q183:(ji10)<(l0.length:Int):=od;obtain⟨ad183,e183,hx183_0⟩:=Kd.at_int HR0.out (ji10) p183 q183;obtain rfl:ad181=ad183:=(by injection e183);replace p183:=eq_true p183;replace q183:=eq_true q183))
           go_roundg k1
           case measure=>have:=HK1.out;omega
           case rel=>exact⟨(wrap64 (x11_1+1)),fin2,H',⟨by have:=HK1.out;omega⟩,by repeat(first|exact Drawn0.refl _|apply Drawn0.step)⟩
         ·rw[if_neg c12] at H
          exact absurd H (by simp)
        ·rw[if_neg c11] at H
         exact absurd H (by simp)
       ·rw[if_neg c9] at H
        have c9b0:decide (0<x11_1)=false:=decide_eq_false c9
        clear c9
        have H':=am H
        clear H
        have p181:0≤(x11_1:Int):=od
        have q181:x11_1<(l0.length:Int):=od
        obtain⟨ad181,e181,hx181_0⟩:=Kd.at_int HR0.out x11_1 p181 q181
        cases e181
        replace p181:=eq_true p181
        replace q181:=eq_true q181
        go_wp2_with (first|((with_reducible refine gate_callee (f:=34) rfl ?_);refine goesL_ (some 19) rfl rfl Try.func34 (by kernel_rfl) rfl #[.int .i64 (rd l0 x11_1),.int .i64 a1,.int .i64 a2] rfl tl ?_;(with_reducible refine(spec_l1In.calls (rd l0 x11_1) a1 a2 true _ A7.out).mono ?_);rintro e w' ⟨rfl,⟨nd,rfl⟩⟩;refine⟨_,rfl,?_⟩))
        go_roundg k1
        case measure=>have:=HK1.out;omega
        case rel=>exact⟨(wrap64 (x11_1+1)),fin2,H',⟨by have:=HK1.out;omega⟩,by repeat(first|exact Drawn0.refl _|apply Drawn0.step)⟩
      ·replace c8:=Bool.eq_false_iff.mpr c8
       subst c8
       have H1:(some false)=some r:=by rw[if_neg (show ¬ (false=true) by decide)] at H;exact H
       clear H
       have H:=H1
       clear H1
       obtain rfl:=Option.some.inj H
       have p181:0≤(x11_1:Int):=od
       have q181:x11_1<(l0.length:Int):=od
       obtain⟨ad181,e181,hx181_0⟩:=Kd.at_int HR0.out x11_1 p181 q181
       cases e181
       replace p181:=eq_true p181
       replace q181:=eq_true q181
       go_wp2_with (first|((with_reducible refine gate_callee (f:=34) rfl ?_);refine goesL_ (some 19) rfl rfl Try.func34 (by kernel_rfl) rfl #[.int .i64 (rd l0 x11_1),.int .i64 a1,.int .i64 a2] rfl tl ?_;(with_reducible refine(spec_l1In.calls (rd l0 x11_1) a1 a2 false _ A7.out).mono ?_);rintro e w' ⟨rfl,⟨nd,rfl⟩⟩;refine⟨_,rfl,?_⟩))
       go_ret
       exact⟨by first|rfl|(simp;done)|(simp [*];done),by repeat(first|exact Drawn0.refl _|apply Drawn0.step)⟩
     ·rw[if_neg c6] at H
      exact absurd H (by simp)
    ·rw[if_neg c5] at H
     exact absurd H (by simp)
   ·rw[if_neg c4] at H
    have c4b0:decide (x11_1<(l0.length:Int))=false:=decide_eq_false c4
    clear c4
    obtain rfl:=Option.some.inj H
    go_wp2
    go_ret
    exact⟨by first|rfl|(simp;done)|(simp [*];done),by repeat(first|exact Drawn0.refl _|apply Drawn0.step)⟩

/-! ### spec_drGood: function 26 -/
def spec_drGood.f (k:Nat) (a0_0:Int) (l0_1:List Int):Option (Bool):=(spec_l1In.f a0_0 1 24).bind fun t185=>(if t185=true then((spec_l1Rising.f k l0_1 0 (wrap64 (a0_0 - 1))).bind fun t186=>(some t186)) else(some false))
set_option maxHeartbeats 8000000 in
set_option maxRecDepth 100000 in
theorem spec_drGood.calls (k:Nat) (a0_0:Int) (A0_1:Option Addr) (c0_1:Nat) (l0_1:List Int) (r:Bool) (w:World) (hr0_1:Kd.C (Kd.int .i64) w A0_1 l0_1.length l0_1) (hc0_1:l0_1.length≤c0_1) (h:spec_drGood.f k a0_0 l0_1=some r) :
  Calls Try.prog 26 #[.agg #[.int .i64 a0_0,.slice A0_1 l0_1.length c0_1]] w fun e w'=>e = .returned (.bool r)∧Below w.heap.size w w':=by
 have hu26:=Try.underlying26
 have HR0_1:=am hr0_1
 have HC0_1:=am hc0_1
 clear hr0_1 hc0_1
 have HB:=am (Below.refl w.heap.size w)
 have H:((spec_l1In.f a0_0 1 24).bind fun t185=>(if t185=true then((spec_l1Rising.f k l0_1 0 (wrap64 (a0_0 - 1))).bind fun t186=>(some t186)) else(some false)))=some r:=h
 clear h
 replace H:=Option.bind_eq_some_iff.mp H
 obtain⟨t185,A20,H⟩:=H
 replace H:(if t185=true then((spec_l1Rising.f k l0_1 0 (wrap64 (a0_0 - 1))).bind fun t186=>(some t186)) else(some false))=some r:=H
 have A2:=am A20
 clear A20
 by_cases c3:t185=true
 ·subst c3
  have H1:((spec_l1Rising.f k l0_1 0 (wrap64 (a0_0 - 1))).bind fun t186=>(some t186))=some r:=by rw[if_pos rfl] at H;exact H
  clear H
  have H:=H1
  clear H1
  replace H:=Option.bind_eq_some_iff.mp H
  obtain⟨t186,A40,H⟩:=H
  replace H:(some t186)=some r:=H
  have A4:=am A40
  clear A40
  obtain rfl:=Option.some.inj H
  go_enter Try.func26,Try.ntmps26
  go_wp2_with (first|((with_reducible refine gate_dst (N:=1) rfl ?_);refine box_event ?hg (N:=1) ?hd (cs := #[.int .i64 a0_0,.slice A0_1 l0_1.length c0_1]) (t:=26) ?hr ?_;(case hd=>rfl);(case hg=>rfl);(case hr=>first|(go_simp;done)|(go_simp;rfl));intro gb184 hg w5 hbox hb;have n0_:=am (below_step bl hb);have n1_:=am (hbox);have n2_:=am (ge_ bl hg);have n3_:=am (ge_ bl hg);clear HB;have HB:=n0_;have BK184:=n1_;have GW184:=n2_;have GE184:=n3_;clear n0_ n1_ n2_ n3_ hb hbox hg;have hcz6_0:w5.cell? ⟨gb184,0,none⟩=some (.int .i64 a0_0):=(blk_cell BK184.out 0).trans rfl;have hcz6_1:w5.cell? ⟨gb184,1,none⟩=some (.slice A0_1 l0_1.length c0_1):=(blk_cell BK184.out 1).trans rfl;have hfz6_0:=blk_frozen BK184.out 0;have hfz6_1:=blk_frozen BK184.out 1)|((with_reducible refine gate_callee (f:=34) rfl ?_);refine goesL_ (some 5) rfl rfl Try.func34 (by kernel_rfl) rfl #[.int .i64 a0_0,.int .i64 1,.int .i64 24] rfl tl ?_;(with_reducible refine(spec_l1In.calls a0_0 1 24 true _ A2.out).mono ?_);rintro e w' ⟨rfl,⟨nd,rfl⟩⟩;refine⟨_,rfl,?_⟩)|(go_at_call 40;(with_reducible refine(spec_l1Rising.calls k _ _ l0_1 0 (wrap64 (a0_0 - 1)) t186 _ ?side1 ?side2 A4.out).mono ?_);(case side1=>repeat(first|exact(Kd.C_below HR0_1.out bl)|(with_reducible refine Kd.C_alloc ?_ _)|(with_reducible refine Kd.C_drewN ?_ _)|(with_reducible refine Kd.C_drew ?_)));(case side2=>exact HC0_1.out);rintro e w' ⟨rfl,⟨nd,rfl⟩⟩))
  go_ret
  exact⟨fin1,bl⟩
 ·replace c3:=Bool.eq_false_iff.mpr c3
  subst c3
  have H1:(some false)=some r:=by rw[if_neg (show ¬ (false=true) by decide)] at H;exact H
  clear H
  have H:=H1
  clear H1
  obtain rfl:=Option.some.inj H
  go_enter Try.func26,Try.ntmps26
  go_wp2_with (first|((with_reducible refine gate_dst (N:=1) rfl ?_);refine box_event ?hg (N:=1) ?hd (cs := #[.int .i64 a0_0,.slice A0_1 l0_1.length c0_1]) (t:=26) ?hr ?_;(case hd=>rfl);(case hg=>rfl);(case hr=>first|(go_simp;done)|(go_simp;rfl));intro gb184 hg w7 hbox hb;have n0_:=am (below_step bl hb);have n1_:=am (hbox);have n2_:=am (ge_ bl hg);have n3_:=am (ge_ bl hg);clear HB;have HB:=n0_;have BK184:=n1_;have GW184:=n2_;have GE184:=n3_;clear n0_ n1_ n2_ n3_ hb hbox hg;have hcz8_0:w7.cell? ⟨gb184,0,none⟩=some (.int .i64 a0_0):=(blk_cell BK184.out 0).trans rfl;have hcz8_1:w7.cell? ⟨gb184,1,none⟩=some (.slice A0_1 l0_1.length c0_1):=(blk_cell BK184.out 1).trans rfl;have hfz8_0:=blk_frozen BK184.out 0;have hfz8_1:=blk_frozen BK184.out 1)|((with_reducible refine gate_callee (f:=34) rfl ?_);refine goesL_ (some 5) rfl rfl Try.func34 (by kernel_rfl) rfl #[.int .i64 a0_0,.int .i64 1,.int .i64 24] rfl tl ?_;(with_reducible refine(spec_l1In.calls a0_0 1 24 false _ A2.out).mono ?_);rintro e w' ⟨rfl,⟨nd,rfl⟩⟩;refine⟨_,rfl,?_⟩))
  go_ret
  exact⟨fin1,bl⟩

/-! ### spec_l1Has: function 28 -/
def spec_l1Has.l0:Nat→Int→List Int→Int→Int→Option (Bool)
 | 0,_,_,_,_=>none
 | k+1,x1,x7,x8,x9=>if x9<x8 then(if 0≤x9 then(if x9<(x7.length:Int) then(if(rd x7 x9)=x1 then(some true) else(spec_l1Has.l0 k x1 x7 x8 (wrap64 (x9+1)))) else(none)) else(none)) else(some false)
def spec_l1Has.f (k:Nat) (l0:List Int) (a1:Int):Option (Bool):=spec_l1Has.l0 k a1 l0 (l0.length:Int) 0
set_option maxHeartbeats 8000000 in
set_option maxRecDepth 100000 in
theorem spec_l1Has.calls (k:Nat) (A0:Option Addr) (c0:Nat) (l0:List Int) (a1:Int) (r:Bool) (w:World) (hr0:Kd.C (Kd.int .i64) w A0 l0.length l0) (hc0:l0.length≤c0) (h:spec_l1Has.f k l0 a1=some r) :
  Calls Try.prog 28 #[.slice A0 l0.length c0,.int .i64 a1] w fun e w'=>e = .returned (.bool r)∧Drawn0 w w':=by
 have HR0:=am hr0
 have HC0:=am hc0
 clear hr0 hc0
 have H:(spec_l1Has.l0 k a1 l0 (l0.length:Int) 0)=some r:=h
 clear h
 have H':=am H
 clear H
 go_enter Try.func28,Try.ntmps28
 go_wp2
 go_loopg [9] k (fun kq v9 w'=>∃(x9_1:Int),v9 = .int .i64 x9_1∧Aside0 (spec_l1Has.l0 kq a1 l0 (l0.length:Int) x9_1=some r)∧Aside0 (kq≤k)∧Drawn0 w w')
 case atStart=>exact⟨(0),fin2,H',⟨Nat.le_refl _⟩,by repeat(first|exact Drawn0.refl _|apply Drawn0.step)⟩
 case round =>
  clear H'
  try clear c2
  try clear p2
  obtain⟨x9_1,rfl,HA,HK1,⟨m1,rfl⟩⟩:=hrel
  cases gk with
  | zero=>exact absurd HA.out (by simp [spec_l1Has.l0])
  | succ k1 =>
   have H:=HA.out
   clear HA
   simp only[spec_l1Has.l0] at H
   by_cases c3:x9_1<(l0.length:Int)
   ·rw[if_pos c3] at H
    have c3b0:decide (x9_1<(l0.length:Int))=true:=decide_eq_true c3
    clear c3
    by_cases c4:0≤x9_1
    ·rw[if_pos c4] at H
     have c4b0:decide (0≤x9_1)=true:=decide_eq_true c4
     clear c4
     by_cases c5:x9_1<(l0.length:Int)
     ·rw[if_pos c5] at H
      have c5b0:decide (x9_1<(l0.length:Int))=true:=decide_eq_true c5
      clear c5
      by_cases c6:(rd l0 x9_1)=a1
      ·rw[if_pos c6] at H
       have c6b0:((rd l0 x9_1) == a1)=true:=beq_iff_eq.mpr c6
       have c6b1:((rd l0 x9_1) != a1)=false:=bne_eq_false_iff_eq.mpr c6
       clear c6
       obtain rfl:=Option.some.inj H
       have p187:0≤(x9_1:Int):=od
       have q187:x9_1<(l0.length:Int):=od
       obtain⟨ad187,e187,hx187_0⟩:=Kd.at_int HR0.out x9_1 p187 q187
       cases e187
       replace p187:=eq_true p187
       replace q187:=eq_true q187
       go_wp2
       go_ret
       exact⟨by first|rfl|(simp;done)|(simp [*];done),by repeat(first|exact Drawn0.refl _|apply Drawn0.step)⟩
      ·rw[if_neg c6] at H
       have c6b0:((rd l0 x9_1) == a1)=false:=beq_eq_false_iff_ne.mpr c6
       have c6b1:((rd l0 x9_1) != a1)=true:=bne_iff_ne.mpr c6
       have H':=am H
       clear H
       have p187:0≤(x9_1:Int):=od
       have q187:x9_1<(l0.length:Int):=od
       obtain⟨ad187,e187,hx187_0⟩:=Kd.at_int HR0.out x9_1 p187 q187
       cases e187
       replace p187:=eq_true p187
       replace q187:=eq_true q187
       go_wp2
       go_roundg k1
       case measure=>have:=HK1.out;omega
       case rel=>exact⟨(wrap64 (x9_1+1)),fin2,H',⟨by have:=HK1.out;omega⟩,by repeat(first|exact Drawn0.refl _|apply Drawn0.step)⟩
     ·rw[if_neg c5] at H
      exact absurd H (by simp)
    ·rw[if_neg c4] at H
     exact absurd H (by simp)
   ·rw[if_neg c3] at H
    have c3b0:decide (x9_1<(l0.length:Int))=false:=decide_eq_false c3
    clear c3
    obtain rfl:=Option.some.inj H
    go_wp2
    go_ret
    exact⟨by first|rfl|(simp;done)|(simp [*];done),by repeat(first|exact Drawn0.refl _|apply Drawn0.step)⟩

/-! ### spec_drText: function 27 -/
def spec_drText.l0:Nat→ByteArray→Int→Int→List Int→Option (ByteArray)
 | 0,_,_,_,_=>none
 | k+1,x3,x4,x189000,x189001=>if x4<x189000 then((spec_l1Has.f k x189001 x4).bind fun t189=>(if t189=true then(if x3.size+1≤9223372036854775807 then(spec_drText.l0 k (x3 ++ (⟨#[120]⟩:ByteArray)) (wrap64 (x4+1)) x189000 x189001) else(none)) else(if x3.size+1≤9223372036854775807 then(spec_drText.l0 k (x3 ++ (⟨#[46]⟩:ByteArray)) (wrap64 (x4+1)) x189000 x189001) else(none)))) else(some x3)
def spec_drText.f (k:Nat) (a0_0:Int) (l0_1:List Int):Option (ByteArray):=spec_drText.l0 k (⟨#[]⟩:ByteArray) 0 a0_0 l0_1
set_option maxHeartbeats 8000000 in
set_option maxRecDepth 100000 in
theorem spec_drText.calls (k:Nat) (a0_0:Int) (A0_1:Option Addr) (c0_1:Nat) (l0_1:List Int) (r:ByteArray) (w:World) (hr0_1:Kd.C (Kd.int .i64) w A0_1 l0_1.length l0_1) (hc0_1:l0_1.length≤c0_1) (h:spec_drText.f k a0_0 l0_1=some r) :
  Calls Try.prog 27 #[.agg #[.int .i64 a0_0,.slice A0_1 l0_1.length c0_1]] w fun e w'=>e = .returned (.string r)∧Below w.heap.size w w':=by
 have hu26:=Try.underlying26
 have HR0_1:=am hr0_1
 have HC0_1:=am hc0_1
 clear hr0_1 hc0_1
 have HB:=am (Below.refl w.heap.size w)
 have H:(spec_drText.l0 k (⟨#[]⟩:ByteArray) 0 a0_0 l0_1)=some r:=h
 clear h
 have H':=am H
 clear H
 go_enter Try.func27,Try.ntmps27
 go_wp2_with (first|((with_reducible refine gate_dst (N:=1) rfl ?_);refine box_event ?hg (N:=1) ?hd (cs := #[.int .i64 a0_0,.slice A0_1 l0_1.length c0_1]) (t:=26) ?hr ?_;(case hd=>rfl);(case hg=>rfl);(case hr=>first|(go_simp;done)|(go_simp;rfl));intro gb188 hg w2 hbox hb;have n0_:=am (below_step bl hb);have n1_:=am (hbox);have n2_:=am (ge_ bl hg);have n3_:=am (ge_ bl hg);clear HB;have HB:=n0_;have BK188:=n1_;have GW188:=n2_;have GE188:=n3_;clear n0_ n1_ n2_ n3_ hb hbox hg))
 go_loopg [3,4] k (fun kq v3 v4 w'=>∃(x3_1:ByteArray) (x4_1:Int),v3 = .string x3_1∧v4 = .int .i64 x4_1∧Aside0 (spec_drText.l0 kq x3_1 x4_1 a0_0 l0_1=some r)∧Aside0 (kq≤k)∧Aside0 (w'.heap[gb188]?=some (.cells #[.int .i64 a0_0,(.slice A0_1 l0_1.length c0_1)] 26 (0,0)))∧Aside0 (Below w.heap.size w w'))
 case atStart=>exact⟨((⟨#[]⟩:ByteArray)),(0),fin2,fin2,H',⟨Nat.le_refl _⟩,⟨bup BK188.out⟩,⟨bl⟩⟩
 case round =>
  clear H'
  try clear c2
  try clear p2
  obtain⟨x3_1,x4_1,rfl,rfl,HA,HK1,BK188,HB⟩:=hrel
  cases gk with
  | zero=>exact absurd HA.out (by simp [spec_drText.l0])
  | succ k1 =>
   have H:=HA.out
   clear HA
   simp only[spec_drText.l0] at H
   by_cases c3:x4_1<a0_0
   ·rw[if_pos c3] at H
    have c3b0:decide (x4_1<a0_0)=true:=decide_eq_true c3
    clear c3
    replace H:=Option.bind_eq_some_iff.mp H
    obtain⟨t189,A40,H⟩:=H
    replace H:(if t189=true then(if x3_1.size+1≤9223372036854775807 then(spec_drText.l0 k1 (x3_1 ++ (⟨#[120]⟩:ByteArray)) (wrap64 (x4_1+1)) a0_0 l0_1) else(none)) else(if x3_1.size+1≤9223372036854775807 then(spec_drText.l0 k1 (x3_1 ++ (⟨#[46]⟩:ByteArray)) (wrap64 (x4_1+1)) a0_0 l0_1) else(none)))=some r:=H
    have A4:=am A40
    clear A40
    by_cases c5:t189=true
    ·subst c5
     have H1:(if x3_1.size+1≤9223372036854775807 then(spec_drText.l0 k1 (x3_1 ++ (⟨#[120]⟩:ByteArray)) (wrap64 (x4_1+1)) a0_0 l0_1) else(none))=some r:=by rw[if_pos rfl] at H;exact H
     clear H
     have H:=H1
     clear H1
     by_cases c6:x3_1.size+1≤9223372036854775807
     ·rw[if_pos c6] at H
      have c6b0:=eq_true c6
      have c6b1:decide (x3_1.size+1≤9223372036854775807)=true:=decide_eq_true c6
      try have c6b2:(9223372036854775807<x3_1.size+1)=False:=eq_false (Nat.not_lt.2 c6)
      have H':=am H
      clear H
      have hcz7_0:wr.cell? ⟨gb188,0,none⟩=some (.int .i64 a0_0):=(blk_cell BK188.out 0).trans rfl
      have hcz7_1:wr.cell? ⟨gb188,1,none⟩=some (.slice A0_1 l0_1.length c0_1):=(blk_cell BK188.out 1).trans rfl
      have hfz7_0:=blk_frozen BK188.out 0
      have hfz7_1:=blk_frozen BK188.out 1
      go_wp2_with (first|((with_reducible refine gate_callee (f:=28) rfl ?_);refine goesL_ (some 14) rfl rfl Try.func28 (by kernel_rfl) rfl #[.slice A0_1 l0_1.length c0_1,.int .i64 x4_1] rfl tl ?_;(with_reducible refine(spec_l1Has.calls k1 _ _ l0_1 x4_1 true _ ?side1 ?side2 A4.out).mono ?_);(case side1=>exact cup (Kd.C_below HR0_1.out HB.out));(case side2=>exact HC0_1.out);rintro e w' ⟨rfl,⟨nd,rfl⟩⟩;refine⟨_,rfl,?_⟩))
      go_roundg k1
      case measure=>have:=HK1.out;omega
      case rel=>exact⟨(x3_1 ++ (⟨#[120]⟩:ByteArray)),(wrap64 (x4_1+1)),fin2,fin2,H',⟨by have:=HK1.out;omega⟩,⟨bup BK188.out⟩,⟨bl⟩⟩
     ·rw[if_neg c6] at H
      exact absurd H (by simp)
    ·replace c5:=Bool.eq_false_iff.mpr c5
     subst c5
     have H1:(if x3_1.size+1≤9223372036854775807 then(spec_drText.l0 k1 (x3_1 ++ (⟨#[46]⟩:ByteArray)) (wrap64 (x4_1+1)) a0_0 l0_1) else(none))=some r:=by rw[if_neg (show ¬ (false=true) by decide)] at H;exact H
     clear H
     have H:=H1
     clear H1
     by_cases c8:x3_1.size+1≤9223372036854775807
     ·rw[if_pos c8] at H
      have c8b0:=eq_true c8
      have c8b1:decide (x3_1.size+1≤9223372036854775807)=true:=decide_eq_true c8
      try have c8b2:(9223372036854775807<x3_1.size+1)=False:=eq_false (Nat.not_lt.2 c8)
      have H':=am H
      clear H
      have hcz9_0:wr.cell? ⟨gb188,0,none⟩=some (.int .i64 a0_0):=(blk_cell BK188.out 0).trans rfl
      have hcz9_1:wr.cell? ⟨gb188,1,none⟩=some (.slice A0_1 l0_1.length c0_1):=(blk_cell BK188.out 1).trans rfl
      have hfz9_0:=blk_frozen BK188.out 0
      have hfz9_1:=blk_frozen BK188.out 1
      go_wp2_with (first|((with_reducible refine gate_callee (f:=28) rfl ?_);refine goesL_ (some 14) rfl rfl Try.func28 (by kernel_rfl) rfl #[.slice A0_1 l0_1.length c0_1,.int .i64 x4_1] rfl tl ?_;(with_reducible refine(spec_l1Has.calls k1 _ _ l0_1 x4_1 false _ ?side1 ?side2 A4.out).mono ?_);(case side1=>exact cup (Kd.C_below HR0_1.out HB.out));(case side2=>exact HC0_1.out);rintro e w' ⟨rfl,⟨nd,rfl⟩⟩;refine⟨_,rfl,?_⟩))
      go_roundg k1
      case measure=>have:=HK1.out;omega
      case rel=>exact⟨(x3_1 ++ (⟨#[46]⟩:ByteArray)),(wrap64 (x4_1+1)),fin2,fin2,H',⟨by have:=HK1.out;omega⟩,⟨bup BK188.out⟩,⟨bl⟩⟩
     ·rw[if_neg c8] at H
      exact absurd H (by simp)
   ·rw[if_neg c3] at H
    have c3b0:decide (x4_1<a0_0)=false:=decide_eq_false c3
    clear c3
    obtain rfl:=Option.some.inj H
    have hcz10_0:wr.cell? ⟨gb188,0,none⟩=some (.int .i64 a0_0):=(blk_cell BK188.out 0).trans rfl
    have hcz10_1:wr.cell? ⟨gb188,1,none⟩=some (.slice A0_1 l0_1.length c0_1):=(blk_cell BK188.out 1).trans rfl
    have hfz10_0:=blk_frozen BK188.out 0
    have hfz10_1:=blk_frozen BK188.out 1
    go_wp2
    go_ret
    exact⟨fin1,bl⟩

/-! ### spec_PatternText: function 7 -/
def spec_PatternText.f (k:Nat) (a0_0:Int) (l0_1:List Int):Option (ByteArray×Bool):=(spec_drGood.f k a0_0 l0_1).bind fun t191=>(if t191=true then((spec_drText.f k a0_0 l0_1).bind fun t192=>(some (t192,true))) else(some ((⟨#[]⟩:ByteArray),false)))
set_option maxHeartbeats 8000000 in
set_option maxRecDepth 100000 in
theorem spec_PatternText.calls (k:Nat) (a0_0:Int) (A0_1:Option Addr) (c0_1:Nat) (l0_1:List Int) (r1:ByteArray) (r2:Bool) (w:World) (hr0_1:Kd.C (Kd.int .i64) w A0_1 l0_1.length l0_1) (hc0_1:l0_1.length≤c0_1) (h:spec_PatternText.f k a0_0 l0_1=some (r1,r2)) :
  Calls Try.prog 7 #[.agg #[.int .i64 a0_0,.slice A0_1 l0_1.length c0_1]] w fun e w'=>e = .returned (.tuple #[.string r1,.bool r2])∧Below w.heap.size w w':=by
 have hu26:=Try.underlying26
 have HR0_1:=am hr0_1
 have HC0_1:=am hc0_1
 clear hr0_1 hc0_1
 have HB:=am (Below.refl w.heap.size w)
 have H:((spec_drGood.f k a0_0 l0_1).bind fun t191=>(if t191=true then((spec_drText.f k a0_0 l0_1).bind fun t192=>(some (t192,true))) else(some ((⟨#[]⟩:ByteArray),false))))=some (r1,r2):=h
 clear h
 replace H:=Option.bind_eq_some_iff.mp H
 obtain⟨t191,A20,H⟩:=H
 replace H:(if t191=true then((spec_drText.f k a0_0 l0_1).bind fun t192=>(some (t192,true))) else(some ((⟨#[]⟩:ByteArray),false)))=some (r1,r2):=H
 have A2:=am A20
 clear A20
 by_cases c3:t191=true
 ·subst c3
  have H1:((spec_drText.f k a0_0 l0_1).bind fun t192=>(some (t192,true)))=some (r1,r2):=by rw[if_pos rfl] at H;exact H
  clear H
  have H:=H1
  clear H1
  replace H:=Option.bind_eq_some_iff.mp H
  obtain⟨t192,A40,H⟩:=H
  replace H:(some (t192,true))=some (r1,r2):=H
  have A4:=am A40
  clear A40
  simp only[Option.some.injEq,Prod.mk.injEq] at H
  obtain⟨rfl,rfl⟩:=H
  go_enter Try.func7,Try.ntmps7
  go_wp2_with (first|((with_reducible refine gate_dst (N:=1) rfl ?_);refine box_event ?hg (N:=1) ?hd (cs := #[.int .i64 a0_0,.slice A0_1 l0_1.length c0_1]) (t:=26) ?hr ?_;(case hd=>rfl);(case hg=>rfl);(case hr=>first|(go_simp;done)|(go_simp;rfl));intro gb190 hg w5 hbox hb;have n0_:=am (below_step bl hb);have n1_:=am (hbox);have n2_:=am (ge_ bl hg);have n3_:=am (ge_ bl hg);clear HB;have HB:=n0_;have BK190:=n1_;have GW190:=n2_;have GE190:=n3_;clear n0_ n1_ n2_ n3_ hb hbox hg;have hcz6_0:w5.cell? ⟨gb190,0,none⟩=some (.int .i64 a0_0):=(blk_cell BK190.out 0).trans rfl;have hcz6_1:w5.cell? ⟨gb190,1,none⟩=some (.slice A0_1 l0_1.length c0_1):=(blk_cell BK190.out 1).trans rfl;have hfz6_0:=blk_frozen BK190.out 0;have hfz6_1:=blk_frozen BK190.out 1)|((with_reducible refine gate_callee (f:=26) rfl ?_);refine goesL_ (some 5) rfl rfl Try.func26 (by kernel_rfl) rfl #[.agg #[.int .i64 a0_0,.slice A0_1 l0_1.length c0_1]] rfl tl ?_;(with_reducible refine(spec_drGood.calls k a0_0 _ _ l0_1 true _ ?side1 ?side2 A2.out).mono ?_);(case side1=>exact cup (Kd.C_below HR0_1.out HB.out));(case side2=>exact HC0_1.out);rintro e w7 ⟨rfl,hb⟩;refine⟨_,rfl,?_⟩;have n0_:=am (blk_below (bup BK190.out) hb);have n1_:=am (below_step bl hb);clear BK190 HB;have BK190:=n0_;have HB:=n1_;clear n0_ n1_;(try clear hb);(try clear hb2);(try clear hk);(try clear hi);have hcz8_0:w7.cell? ⟨gb190,0,none⟩=some (.int .i64 a0_0):=(blk_cell BK190.out 0).trans rfl;have hcz8_1:w7.cell? ⟨gb190,1,none⟩=some (.slice A0_1 l0_1.length c0_1):=(blk_cell BK190.out 1).trans rfl;have hfz8_0:=blk_frozen BK190.out 0;have hfz8_1:=blk_frozen BK190.out 1)|((with_reducible refine gate_callee (f:=27) rfl ?_);refine goesL_ (some 8) rfl rfl Try.func27 (by kernel_rfl) rfl #[.agg #[.int .i64 a0_0,.slice A0_1 l0_1.length c0_1]] rfl tl ?_;(with_reducible refine(spec_drText.calls k a0_0 _ _ l0_1 t192 _ ?side1 ?side2 A4.out).mono ?_);(case side1=>exact cup (Kd.C_below HR0_1.out HB.out));(case side2=>exact HC0_1.out);rintro e w9 ⟨rfl,hb⟩;refine⟨_,rfl,?_⟩;have n0_:=am (blk_below (bup BK190.out) hb);have n1_:=am (below_step bl hb);clear BK190 HB;have BK190:=n0_;have HB:=n1_;clear n0_ n1_;(try clear hb);(try clear hb2);(try clear hk);(try clear hi)))
  go_ret2
  exact⟨fin1,bl⟩
 ·replace c3:=Bool.eq_false_iff.mpr c3
  subst c3
  have H1:(some ((⟨#[]⟩:ByteArray),false))=some (r1,r2):=by rw[if_neg (show ¬ (false=true) by decide)] at H;exact H
  clear H
  have H:=H1
  clear H1
  simp only[Option.some.injEq,Prod.mk.injEq] at H
  obtain⟨rfl,rfl⟩:=H
  go_enter Try.func7,Try.ntmps7
  go_wp2_with (first|((with_reducible refine gate_dst (N:=1) rfl ?_);refine box_event ?hg (N:=1) ?hd (cs := #[.int .i64 a0_0,.slice A0_1 l0_1.length c0_1]) (t:=26) ?hr ?_;(case hd=>rfl);(case hg=>rfl);(case hr=>first|(go_simp;done)|(go_simp;rfl));intro gb190 hg w10 hbox hb;have n0_:=am (below_step bl hb);have n1_:=am (hbox);have n2_:=am (ge_ bl hg);have n3_:=am (ge_ bl hg);clear HB;have HB:=n0_;have BK190:=n1_;have GW190:=n2_;have GE190:=n3_;clear n0_ n1_ n2_ n3_ hb hbox hg;have hcz11_0:w10.cell? ⟨gb190,0,none⟩=some (.int .i64 a0_0):=(blk_cell BK190.out 0).trans rfl;have hcz11_1:w10.cell? ⟨gb190,1,none⟩=some (.slice A0_1 l0_1.length c0_1):=(blk_cell BK190.out 1).trans rfl;have hfz11_0:=blk_frozen BK190.out 0;have hfz11_1:=blk_frozen BK190.out 1)|((with_reducible refine gate_callee (f:=26) rfl ?_);refine goesL_ (some 5) rfl rfl Try.func26 (by kernel_rfl) rfl #[.agg #[.int .i64 a0_0,.slice A0_1 l0_1.length c0_1]] rfl tl ?_;(with_reducible refine(spec_drGood.calls k a0_0 _ _ l0_1 false _ ?side1 ?side2 A2.out).mono ?_);(case side1=>exact cup (Kd.C_below HR0_1.out HB.out));(case side2=>exact HC0_1.out);rintro e w12 ⟨rfl,hb⟩;refine⟨_,rfl,?_⟩;have n0_:=am (blk_below (bup BK190.out) hb);have n1_:=am (below_step bl hb);clear BK190 HB;have BK190:=n0_;have HB:=n1_;clear n0_ n1_;(try clear hb);(try clear hb2);(try clear hk);(try clear hi)))
  go_ret2
  exact⟨fin1,bl⟩

/-! ### impl_OtherBeats: function 8 -/
def impl_OtherBeats.l0:Nat→Int→Int→Int→List Int→Int→List Int→Option (Int×List Int×Bool)
 | 0,_,_,_,_,_,_=>none
 | k+1,x14,x15,x194000,x194001,x197000,x197001=>if x15<x14 then((impl_beatsAt.f k x194000 x194001 x15).bind fun t197=>(if t197=true then(impl_OtherBeats.l0 k x14 (wrap64 (x15+1)) x194000 x194001 x197000 x197001) else(if x197001.length<17592186044416 then(impl_OtherBeats.l0 k x14 (wrap64 (x15+1)) x194000 x194001 x197000 (x197001 ++ [x15])) else(none)))) else(some (x197000,x197001,true))
def impl_OtherBeats.f (k:Nat) (a0_0:Int) (l0_1:List Int):Option (Int×List Int×Bool):=(impl_IsPattern.f k a0_0 l0_1).bind fun t195=>(if t195=true then(impl_OtherBeats.l0 k a0_0 0 a0_0 l0_1 a0_0 ([]:List Int)) else(some (0,([]:List Int),false)))
set_option maxHeartbeats 8000000 in
set_option maxRecDepth 100000 in
theorem impl_OtherBeats.calls (k:Nat) (a0_0:Int) (A0_1:Option Addr) (c0_1:Nat) (l0_1:List Int) (r1:Int) (r2:List Int) (r3:Bool) (w:World) (hr0_1:Kd.C (Kd.int .i64) w A0_1 l0_1.length l0_1) (hc0_1:l0_1.length≤c0_1) (h:impl_OtherBeats.f k a0_0 l0_1=some (r1,r2,r3)) :
  Calls Try.prog 8 #[.agg #[.int .i64 a0_0,.slice A0_1 l0_1.length c0_1]] w fun e w'=>∃ v1_:Value,e = .returned (.tuple #[.agg #[.int .i64 r1,v1_],.bool r3])∧Kd.R (Kd.int .i64) 3 w' w.heap.size (fun _=>True) v1_ r2∧Below w.heap.size w w':=by
 have hu26:=Try.underlying26
 have HR0_1:=am hr0_1
 have HC0_1:=am hc0_1
 clear hr0_1 hc0_1
 have HB:=am (Below.refl w.heap.size w)
 have H:((impl_IsPattern.f k a0_0 l0_1).bind fun t195=>(if t195=true then(impl_OtherBeats.l0 k a0_0 0 a0_0 l0_1 a0_0 ([]:List Int)) else(some (0,([]:List Int),false))))=some (r1,r2,r3):=h
 clear h
 replace H:=Option.bind_eq_some_iff.mp H
 obtain⟨t195,A20,H⟩:=H
 replace H:(if t195=true then(impl_OtherBeats.l0 k a0_0 0 a0_0 l0_1 a0_0 ([]:List Int)) else(some (0,([]:List Int),false)))=some (r1,r2,r3):=H
 have A2:=am A20
 clear A20
 by_cases c3:t195=true
 ·subst c3
  have H1:(impl_OtherBeats.l0 k a0_0 0 a0_0 l0_1 a0_0 ([]:List Int))=some (r1,r2,r3):=by rw[if_pos rfl] at H;exact H
  clear H
  have H:=H1
  clear H1
  have H':=am H
  clear H
  go_enter Try.func8,Try.ntmps8
  go_wp2_with (first|((with_reducible refine gate_dst (N:=1) rfl ?_);refine box_event ?hg (N:=1) ?hd (cs := #[.int .i64 a0_0,.slice A0_1 l0_1.length c0_1]) (t:=26) ?hr ?_;(case hd=>rfl);(case hg=>rfl);(case hr=>first|(go_simp;done)|(go_simp;rfl));intro gb193 hg w4 hbox hb;have n0_:=am (below_step bl hb);have n1_:=am (hbox);have n2_:=am (ge_ bl hg);have n3_:=am (ge_ bl hg);clear HB;have HB:=n0_;have BK193:=n1_;have GW193:=n2_;have GE193:=n3_;clear n0_ n1_ n2_ n3_ hb hbox hg)|((with_reducible refine gate_dst (N:=2) rfl ?_);refine box_event ?hg (N:=2) ?hd (cs := #[.int .i64 0,.slice none 0 0]) (t:=26) ?hr ?_;(case hd=>rfl);(case hg=>rfl);(case hr=>first|(go_simp;done)|(go_simp;rfl));intro gb194 hg w5 hbox hb;have n0_:=am (blk_below (bup BK193.out) hb);have n1_:=am (below_step bl hb);have n2_:=am (hbox);have n3_:=am (ge_ bl hg);have n4_:=am (ge_ bl hg);have n5_:=am (nl (bup BK193.out) hg);have n6_:=am (ng (bup BK193.out) hg);clear BK193 HB;have BK193:=n0_;have HB:=n1_;have BK194:=n2_;have GW194:=n3_;have GE194:=n4_;have NB193_194:=n5_;have NB194_193:=n6_;clear n0_ n1_ n2_ n3_ n4_ n5_ n6_ hb hbox hg;have hnb6:=NB193_194.out;have hnc6:=NB194_193.out;have hcz7_0:w5.cell? ⟨gb193,0,none⟩=some (.int .i64 a0_0):=(blk_cell BK193.out 0).trans rfl;have hcz7_1:w5.cell? ⟨gb193,1,none⟩=some (.slice A0_1 l0_1.length c0_1):=(blk_cell BK193.out 1).trans rfl;have hfz7_0:=blk_frozen BK193.out 0;have hfz7_1:=blk_frozen BK193.out 1)|((with_reducible refine gate_callee (f:=11) rfl ?_);refine goesL_ (some 7) rfl rfl Try.func11 (by kernel_rfl) rfl #[.agg #[.int .i64 a0_0,.slice A0_1 l0_1.length c0_1]] rfl tl ?_;(with_reducible refine(impl_IsPattern.calls k a0_0 _ _ l0_1 true _ ?side1 ?side2 A2.out).mono ?_);(case side1=>exact cup (Kd.C_below HR0_1.out HB.out));(case side2=>exact HC0_1.out);rintro e w8 ⟨rfl,hb⟩;refine⟨_,rfl,?_⟩;have n0_:=am (blk_below (bup BK193.out) hb);have n1_:=am (blk_below (bup BK194.out) hb);have n2_:=am (below_step bl hb);clear BK193 BK194 HB;have BK193:=n0_;have BK194:=n1_;have HB:=n2_;clear n0_ n1_ n2_;(try clear hb);(try clear hb2);(try clear hk);(try clear hi);have hcz9_0:w8.cell? ⟨gb193,0,none⟩=some (.int .i64 a0_0):=(blk_cell BK193.out 0).trans rfl;have hcz9_1:w8.cell? ⟨gb193,1,none⟩=some (.slice A0_1 l0_1.length c0_1):=(blk_cell BK193.out 1).trans rfl;have hfz9_0:=blk_frozen BK193.out 0;have hfz9_1:=blk_frozen BK193.out 1)|((with_reducible refine gate_dst (N:=4) rfl ?_);refine box_event ?hg (N:=4) ?hd (cs := #[.int .i64 0,.slice none 0 0]) (t:=26) ?hr ?_;(case hd=>rfl);(case hg=>rfl);(case hr=>first|(go_simp;done)|(go_simp;rfl));intro gb196 hg w10 hbox hb;have n0_:=am (blk_below (bup BK193.out) hb);have n1_:=am (blk_below (bup BK194.out) hb);have n2_:=am (below_step bl hb);have n3_:=am (hbox);have n4_:=am (ge_ bl hg);have n5_:=am (ge_ bl hg);have n6_:=am (nl (bup BK193.out) hg);have n7_:=am (ng (bup BK193.out) hg);have n8_:=am (nl (bup BK194.out) hg);have n9_:=am (ng (bup BK194.out) hg);clear BK193 BK194 HB;have BK193:=n0_;have BK194:=n1_;have HB:=n2_;have BK196:=n3_;have GW196:=n4_;have GE196:=n5_;have NB193_196:=n6_;have NB196_193:=n7_;have NB194_196:=n8_;have NB196_194:=n9_;clear n0_ n1_ n2_ n3_ n4_ n5_ n6_ n7_ n8_ n9_ hb hbox hg;have hnb11:=NB196_193.out;have hnc11:=NB193_196.out;have hnb12:=NB196_194.out;have hnc12:=NB194_196.out;have hcz13_0:w10.cell? ⟨gb196,0,none⟩=some (.int .i64 0):=(blk_cell BK196.out 0).trans rfl;have hcz13_1:w10.cell? ⟨gb196,1,none⟩=some (.slice none 0 0):=(blk_cell BK196.out 1).trans rfl;have hfz13_0:=blk_frozen BK196.out 0;have hfz13_1:=blk_frozen BK196.out 1;have hcz14_0:w10.cell? ⟨gb193,0,none⟩=some (.int .i64 a0_0):=(blk_cell BK193.out 0).trans rfl;have hcz14_1:w10.cell? ⟨gb193,1,none⟩=some (.slice A0_1 l0_1.length c0_1):=(blk_cell BK193.out 1).trans rfl;have hfz14_0:=blk_frozen BK193.out 0;have hfz14_1:=blk_frozen BK193.out 1))
  go_loopg [15] k (fun kq v15 w'=>∃(x15_1:Int) (x197001_1:List Int) (u197001:Value),v15 = .int .i64 x15_1∧Aside0 (impl_OtherBeats.l0 kq a0_0 x15_1 a0_0 l0_1 a0_0 x197001_1=some (r1,r2,r3))∧Aside0 (kq≤k)∧Aside0 (Kd.R (Kd.int .i64) 3 w' w.heap.size (fun _=>True) u197001 x197001_1)∧Aside0 (w'.heap[gb193]?=some (.cells #[.int .i64 a0_0,(.slice A0_1 l0_1.length c0_1)] 26 (0,0)))∧Aside0 (w'.heap[gb194]?=some (.cells #[.int .i64 0,(.slice none 0 0)] 26 (0,0)))∧Aside0 (w'.heap[gb196]?=some (.cells #[.int .i64 a0_0,u197001] 26 (0,0)))∧Aside0 (Below w.heap.size w w'))
  case atStart=>exact⟨(0),(([]:List Int)),(.slice none 0 0),fin2,H',⟨Nat.le_refl _⟩,⟨by first|exact Kd.R_nil _ _ _ _ _|exact Kd.N_nil _ _ _ _ _|exact Kd.V_nil _ _ _ _ _|exact Kd.Q_nil _ _ _ _ _|exact Kd.S_nil _ _ _ _ _⟩,⟨by(with_reducible repeat(first|refine bN_ ?_ _|refine bD_ ?_|refine bA_ ?_ _));refine blk_far ?_ NB193_196.out _;(with_reducible repeat(first|refine bN_ ?_ _|refine bD_ ?_|refine bA_ ?_ _));refine blk_far ?_ NB193_196.out _;exact bup BK193.out⟩,⟨by(with_reducible repeat(first|refine bN_ ?_ _|refine bD_ ?_|refine bA_ ?_ _));refine blk_far ?_ NB194_196.out _;(with_reducible repeat(first|refine bN_ ?_ _|refine bD_ ?_|refine bA_ ?_ _));refine blk_far ?_ NB194_196.out _;exact bup BK194.out⟩,⟨by(with_reducible repeat(first|refine bN_ ?_ _|refine bD_ ?_|refine bA_ ?_ _));refine blk_put (cs := #[.int .i64 a0_0,.slice none 0 0]) ?_ 1 _ rfl;(with_reducible repeat(first|refine bN_ ?_ _|refine bD_ ?_|refine bA_ ?_ _));refine blk_put (cs := #[.int .i64 0,.slice none 0 0]) ?_ 0 _ rfl;exact bup BK196.out⟩,⟨bl⟩⟩
  case round =>
   clear H'
   try clear c1
   try clear p2
   try clear c3
   try clear c6
   try clear c8
   try clear c11
   try clear c12
   try clear hcz13_0
   try clear hcz13_1
   try clear hcz14_0
   try clear hcz14_1
   try clear hcz7_0
   try clear hcz7_1
   try clear hcz9_0
   try clear hcz9_1
   try clear hfz13_0
   try clear hfz13_1
   try clear hfz14_0
   try clear hfz14_1
   try clear hfz7_0
   try clear hfz7_1
   try clear hfz9_0
   try clear hfz9_1
   obtain⟨x15_1,x197001_1,u197001,rfl,HA,HK1,HO_197001,BK193,BK194,BK196,HB⟩:=hrel
   cases gk with
   | zero=>exact absurd HA.out (by simp [impl_OtherBeats.l0])
   | succ k1 =>
    have H:=HA.out
    clear HA
    simp only[impl_OtherBeats.l0] at H
    by_cases c15:x15_1<a0_0
    ·rw[if_pos c15] at H
     have c15b0:decide (x15_1<a0_0)=true:=decide_eq_true c15
     clear c15
     replace H:=Option.bind_eq_some_iff.mp H
     obtain⟨t197,A160,H⟩:=H
     replace H:(if t197=true then(impl_OtherBeats.l0 k1 a0_0 (wrap64 (x15_1+1)) a0_0 l0_1 a0_0 x197001_1) else(if x197001_1.length<17592186044416 then(impl_OtherBeats.l0 k1 a0_0 (wrap64 (x15_1+1)) a0_0 l0_1 a0_0 (x197001_1 ++ [x15_1])) else(none)))=some (r1,r2,r3):=H
     have A16:=am A160
     clear A160
     by_cases c17:t197=true
     ·subst c17
      have H1:(impl_OtherBeats.l0 k1 a0_0 (wrap64 (x15_1+1)) a0_0 l0_1 a0_0 x197001_1)=some (r1,r2,r3):=by rw[if_pos rfl] at H;exact H
      clear H
      have H:=H1
      clear H1
      have H':=am H
      clear H
      have hnb18:=NB193_194.out
      have hnc18:=NB194_193.out
      have hnb19:=NB193_196.out
      have hnc19:=NB196_193.out
      have hcz20_0:wr.cell? ⟨gb193,0,none⟩=some (.int .i64 a0_0):=(blk_cell BK193.out 0).trans rfl
      have hcz20_1:wr.cell? ⟨gb193,1,none⟩=some (.slice A0_1 l0_1.length c0_1):=(blk_cell BK193.out 1).trans rfl
      have hfz20_0:=blk_frozen BK193.out 0
      have hfz20_1:=blk_frozen BK193.out 1
      go_wp2_with (first|((with_reducible refine gate_callee (f:=25) rfl ?_);refine goesL_ (some 20) rfl rfl Try.func25 (by kernel_rfl) rfl #[.agg #[.int .i64 a0_0,.slice A0_1 l0_1.length c0_1],.int .i64 x15_1] rfl tl ?_;(with_reducible refine(impl_beatsAt.calls k1 a0_0 _ _ l0_1 x15_1 true _ ?side1 ?side2 A16.out).mono ?_);(case side1=>exact cup (Kd.C_below HR0_1.out HB.out));(case side2=>exact HC0_1.out);rintro e w21 ⟨rfl,hb⟩;refine⟨_,rfl,?_⟩;have n0_:=am (Kd.R_below (rup HO_197001.out) hb);have n1_:=am (blk_below (bup BK193.out) hb);have n2_:=am (blk_below (bup BK194.out) hb);have n3_:=am (blk_below (bup BK196.out) hb);have n4_:=am (below_step bl hb);clear HO_197001 BK193 BK194 BK196 HB;have HO_197001:=n0_;have BK193:=n1_;have BK194:=n2_;have BK196:=n3_;have HB:=n4_;clear n0_ n1_ n2_ n3_ n4_;(try clear hb);(try clear hb2);(try clear hk);(try clear hi)))
      go_roundg k1
      case measure=>have:=HK1.out;omega
      case rel=>exact⟨(wrap64 (x15_1+1)),(x197001_1),(u197001),fin2,H',⟨by have:=HK1.out;omega⟩,⟨rup HO_197001.out⟩,⟨bup BK193.out⟩,⟨bup BK194.out⟩,⟨bup BK196.out⟩,⟨bl⟩⟩
     ·replace c17:=Bool.eq_false_iff.mpr c17
      subst c17
      have H1:(if x197001_1.length<17592186044416 then(impl_OtherBeats.l0 k1 a0_0 (wrap64 (x15_1+1)) a0_0 l0_1 a0_0 (x197001_1 ++ [x15_1])) else(none))=some (r1,r2,r3):=by rw[if_neg (show ¬ (false=true) by decide)] at H;exact H
      clear H
      have H:=H1
      clear H1
      by_cases c22:x197001_1.length<17592186044416
      ·rw[if_pos c22] at H
       have LMc22:=am c22
       clear c22
       obtain⟨y198,hy198⟩:∃ y_:List Int,y_=(x197001_1 ++ [x15_1]):=⟨_,rfl⟩
       replace H:(impl_OtherBeats.l0 k1 a0_0 (wrap64 (x15_1+1)) a0_0 l0_1 a0_0 y198)=some (r1,r2,r3):=by first|(rw[hy198];with_reducible exact H)|(have H2_:=(Option.bind_some _ _).symm.trans H;rw[hy198];with_reducible exact H2_)|(have H2_:=(Option.bind_some _ _).symm.trans H;with_reducible exact H2_)|with_reducible exact H|(rw[hy198];exact H)|exact H
       have Ny198:=am hy198
       clear hy198
       have H':=am H
       clear H
       have hnb23:=NB193_194.out
       have hnc23:=NB194_193.out
       have hnb24:=NB193_196.out
       have hnc24:=NB196_193.out
       have hcz25_0:wr.cell? ⟨gb193,0,none⟩=some (.int .i64 a0_0):=(blk_cell BK193.out 0).trans rfl
       have hcz25_1:wr.cell? ⟨gb193,1,none⟩=some (.slice A0_1 l0_1.length c0_1):=(blk_cell BK193.out 1).trans rfl
       have hfz25_0:=blk_frozen BK193.out 0
       have hfz25_1:=blk_frozen BK193.out 1
       go_wp2_with (first|((with_reducible refine gate_callee (f:=25) rfl ?_);refine goesL_ (some 20) rfl rfl Try.func25 (by kernel_rfl) rfl #[.agg #[.int .i64 a0_0,.slice A0_1 l0_1.length c0_1],.int .i64 x15_1] rfl tl ?_;(with_reducible refine(impl_beatsAt.calls k1 a0_0 _ _ l0_1 x15_1 false _ ?side1 ?side2 A16.out).mono ?_);(case side1=>exact cup (Kd.C_below HR0_1.out HB.out));(case side2=>exact HC0_1.out);rintro e w26 ⟨rfl,hb⟩;refine⟨_,rfl,?_⟩;have n0_:=am (Kd.R_below (rup HO_197001.out) hb);have n1_:=am (blk_below (bup BK193.out) hb);have n2_:=am (blk_below (bup BK194.out) hb);have n3_:=am (blk_below (bup BK196.out) hb);have n4_:=am (below_step bl hb);clear HO_197001 BK193 BK194 BK196 HB;have HO_197001:=n0_;have BK193:=n1_;have BK194:=n2_;have BK196:=n3_;have HB:=n4_;clear n0_ n1_ n2_ n3_ n4_;(try clear hb);(try clear hb2);(try clear hk);(try clear hi);have hnb27:=NB196_194.out;have hnc27:=NB194_196.out;have hcz28_0:w26.cell? ⟨gb196,0,none⟩=some (.int .i64 a0_0):=(blk_cell BK196.out 0).trans rfl;have hcz28_1:w26.cell? ⟨gb196,1,none⟩=some (u197001):=(blk_cell BK196.out 1).trans rfl;have hfz28_0:=blk_frozen BK196.out 0;have hfz28_1:=blk_frozen BK196.out 1)|((with_reducible refine gate_builtin (b := .append) (xs := #[.tmp 23,.tmp 25]) rfl ?_);at_builtin;refine Kd.R_append (Kd.int .i64) (w0:=w) w.heap.size rfl (.tmp 23) (.tmp 25) 24 3 (.int .i64 0) 8 rfl Try.underlying24 info3 rfl (by decide) (by omega) u197001 x197001_1 x15_1 [.int .i64 x15_1] (fun _=>True) (fun _=>False) rfl rfl ?aP (fun _ hk=>hk.elim) ?aF ?aO ?aB ?aS ?aL ?_;(case aP=>exact rfl);(case aB=>exact bl);(case aF=>exact(fun _ _=>trivial));(case aO=>exact(rup HO_197001.out));(case aS=>exact(below_size bl));(case aL=>have:=LMc22.out;omega);intro v199 w29 ho hb hg hat;rw[← Ny198.out] at ho;have n0_:=am (blk_grown (bup BK193.out) hg (Kd.R_ne HO_197001.out BK193.out (by decide)));have n1_:=am (blk_grown (bup BK194.out) hg (Kd.R_ne HO_197001.out BK194.out (by decide)));have n2_:=am (blk_grown (bup BK196.out) hg (Kd.R_ne HO_197001.out BK196.out (by decide)));have n3_:=am (hb);have n4_:=am (ho);clear BK193 BK194 BK196 HB HO_197001;have BK193:=n0_;have BK194:=n1_;have BK196:=n2_;have HB:=n3_;have HO200:=n4_;clear n0_ n1_ n2_ n3_ n4_ ho hb hg hat;obtain⟨Ao30,co30,eo30⟩:=Kd.R_slice HO200.out;subst eo30;have hcz31_0:w29.cell? ⟨gb196,0,none⟩=some (.int .i64 a0_0):=(blk_cell BK196.out 0).trans rfl;have hcz31_1:w29.cell? ⟨gb196,1,none⟩=some (u197001):=(blk_cell BK196.out 1).trans rfl;have hfz31_0:=blk_frozen BK196.out 0;have hfz31_1:=blk_frozen BK196.out 1))
       go_roundg k1
       case measure=>have:=HK1.out;omega
       case rel=>exact⟨(wrap64 (x15_1+1)),(y198),(.slice Ao30 y198.length co30),fin2,H',⟨by have:=HK1.out;omega⟩,⟨rup (Kd.R_mono (Kd.R_far (p:=⟨gb196,1,none⟩) (Kd.R_types HO200.out BK196.out (by decide)) (fun _ hk=>hk.2) (.slice Ao30 y198.length co30)) (fun _ hk=>trivial))⟩,⟨by(with_reducible repeat(first|refine bN_ ?_ _|refine bD_ ?_|refine bA_ ?_ _));refine blk_far ?_ NB193_196.out _;exact bup BK193.out⟩,⟨by(with_reducible repeat(first|refine bN_ ?_ _|refine bD_ ?_|refine bA_ ?_ _));refine blk_far ?_ NB194_196.out _;exact bup BK194.out⟩,⟨by(with_reducible repeat(first|refine bN_ ?_ _|refine bD_ ?_|refine bA_ ?_ _));refine blk_put (cs := #[.int .i64 a0_0,u197001]) ?_ 1 _ rfl;exact bup BK196.out⟩,⟨bl⟩⟩
      ·rw[if_neg c22] at H
       exact absurd H (by simp)
    ·rw[if_neg c15] at H
     have c15b0:decide (x15_1<a0_0)=false:=decide_eq_false c15
     clear c15
     simp only[Option.some.injEq,Prod.mk.injEq] at H
     obtain⟨rfl,rfl,rfl⟩:=H
     have hnb32:=NB196_193.out
     have hnc32:=NB193_196.out
     have hnb33:=NB196_194.out
     have hnc33:=NB194_196.out
     have hcz34_0:wr.cell? ⟨gb196,0,none⟩=some (.int .i64 a0_0):=(blk_cell BK196.out 0).trans rfl
     have hcz34_1:wr.cell? ⟨gb196,1,none⟩=some (u197001):=(blk_cell BK196.out 1).trans rfl
     have hfz34_0:=blk_frozen BK196.out 0
     have hfz34_1:=blk_frozen BK196.out 1
     have hnb35:=NB194_193.out
     have hnc35:=NB193_194.out
     have hcz36_0:wr.cell? ⟨gb194,0,none⟩=some (.int .i64 0):=(blk_cell BK194.out 0).trans rfl
     have hcz36_1:wr.cell? ⟨gb194,1,none⟩=some (.slice none 0 0):=(blk_cell BK194.out 1).trans rfl
     have hfz36_0:=blk_frozen BK194.out 0
     have hfz36_1:=blk_frozen BK194.out 1
     obtain⟨Ao37,co37,eo37⟩:=Kd.R_slice HO_197001.out
     subst eo37
     go_wp2
     refine bodyPost_ret (results_ct rfl _ _ gb194 26 #[.int .i64 a0_0,.slice Ao37 x197001_1.length co37] (0,0) _ rfl (by(with_reducible repeat(first|refine bN_ ?_ _|refine bD_ ?_|refine bA_ ?_ _));refine blk_put (cs := #[.int .i64 a0_0,.slice none 0 0]) ?_ 1 _ rfl;(with_reducible repeat(first|refine bN_ ?_ _|refine bD_ ?_|refine bA_ ?_ _));refine blk_put (cs := #[.int .i64 0,.slice none 0 0]) ?_ 0 _ rfl;exact bup BK194.out) Try.underlying26 rfl (by kernel_rfl)) rfl ?_
     exact⟨_,fin1,rup (Kd.R_mono (Kd.R_far (p:=⟨gb194,1,none⟩) (Kd.R_far (p:=⟨gb194,0,none⟩) (Kd.R_types HO_197001.out BK194.out (by decide)) (fun _ hk=>hk.2) (.int .i64 a0_0)) (fun _ hk=>hk.2) (.slice Ao37 x197001_1.length co37)) (fun _ hk=>trivial)),bl⟩
 ·replace c3:=Bool.eq_false_iff.mpr c3
  subst c3
  have H1:(some (0,([]:List Int),false))=some (r1,r2,r3):=by rw[if_neg (show ¬ (false=true) by decide)] at H;exact H
  clear H
  have H:=H1
  clear H1
  simp only[Option.some.injEq,Prod.mk.injEq] at H
  obtain⟨rfl,rfl,rfl⟩:=H
  go_enter Try.func8,Try.ntmps8
  go_wp2_with (first|((with_reducible refine gate_dst (N:=1) rfl ?_);refine box_event ?hg (N:=1) ?hd (cs := #[.int .i64 a0_0,.slice A0_1 l0_1.length c0_1]) (t:=26) ?hr ?_;(case hd=>rfl);(case hg=>rfl);(case hr=>first|(go_simp;done)|(go_simp;rfl));intro gb193 hg w38 hbox hb;have n0_:=am (below_step bl hb);have n1_:=am (hbox);have n2_:=am (ge_ bl hg);have n3_:=am (ge_ bl hg);clear HB;have HB:=n0_;have BK193:=n1_;have GW193:=n2_;have GE193:=n3_;clear n0_ n1_ n2_ n3_ hb hbox hg)|((with_reducible refine gate_dst (N:=2) rfl ?_);refine box_event ?hg (N:=2) ?hd (cs := #[.int .i64 0,.slice none 0 0]) (t:=26) ?hr ?_;(case hd=>rfl);(case hg=>rfl);(case hr=>first|(go_simp;done)|(go_simp;rfl));intro gb194 hg w39 hbox hb;have n0_:=am (blk_below (bup BK193.out) hb);have n1_:=am (below_step bl hb);have n2_:=am (hbox);have n3_:=am (ge_ bl hg);have n4_:=am (ge_ bl hg);have n5_:=am (nl (bup BK193.out) hg);have n6_:=am (ng (bup BK193.out) hg);clear BK193 HB;have BK193:=n0_;have HB:=n1_;have BK194:=n2_;have GW194:=n3_;have GE194:=n4_;have NB193_194:=n5_;have NB194_193:=n6_;clear n0_ n1_ n2_ n3_ n4_ n5_ n6_ hb hbox hg;have hnb40:=NB193_194.out;have hnc40:=NB194_193.out;have hcz41_0:w39.cell? ⟨gb193,0,none⟩=some (.int .i64 a0_0):=(blk_cell BK193.out 0).trans rfl;have hcz41_1:w39.cell? ⟨gb193,1,none⟩=some (.slice A0_1 l0_1.length c0_1):=(blk_cell BK193.out 1).trans rfl;have hfz41_0:=blk_frozen BK193.out 0;have hfz41_1:=blk_frozen BK193.out 1)|((with_reducible refine gate_callee (f:=11) rfl ?_);refine goesL_ (some 7) rfl rfl Try.func11 (by kernel_rfl) rfl #[.agg #[.int .i64 a0_0,.slice A0_1 l0_1.length c0_1]] rfl tl ?_;(with_reducible refine(impl_IsPattern.calls k a0_0 _ _ l0_1 false _ ?side1 ?side2 A2.out).mono ?_);(case side1=>exact cup (Kd.C_below HR0_1.out HB.out));(case side2=>exact HC0_1.out);rintro e w42 ⟨rfl,hb⟩;refine⟨_,rfl,?_⟩;have n0_:=am (blk_below (bup BK193.out) hb);have n1_:=am (blk_below (bup BK194.out) hb);have n2_:=am (below_step bl hb);clear BK193 BK194 HB;have BK193:=n0_;have BK194:=n1_;have HB:=n2_;clear n0_ n1_ n2_;(try clear hb);(try clear hb2);(try clear hk);(try clear hi);have hcz43_0:w42.cell? ⟨gb194,0,none⟩=some (.int .i64 0):=(blk_cell BK194.out 0).trans rfl;have hcz43_1:w42.cell? ⟨gb194,1,none⟩=some (.slice none 0 0):=(blk_cell BK194.out 1).trans rfl;have hfz43_0:=blk_frozen BK194.out 0;have hfz43_1:=blk_frozen BK194.out 1))
  refine bodyPost_ret (results_ct rfl _ _ gb194 26 #[.int .i64 0,.slice none 0 0] (0,0) _ rfl (by(with_reducible repeat(first|refine bN_ ?_ _|refine bD_ ?_|refine bA_ ?_ _));refine blk_put (cs := #[.int .i64 0,.slice none 0 0]) ?_ 1 _ rfl;(with_reducible repeat(first|refine bN_ ?_ _|refine bD_ ?_|refine bA_ ?_ _));refine blk_put (cs := #[.int .i64 0,.slice none 0 0]) ?_ 0 _ rfl;exact bup BK194.out) Try.underlying26 rfl (by kernel_rfl)) rfl ?_
  exact⟨_,fin1,by first|exact Kd.R_nil _ _ _ _ _|exact Kd.N_nil _ _ _ _ _|exact Kd.V_nil _ _ _ _ _|exact Kd.Q_nil _ _ _ _ _|exact Kd.S_nil _ _ _ _ _,bl⟩

end Go.Proofs.Ytlhjjpdlfddflab.PFnPatterns
