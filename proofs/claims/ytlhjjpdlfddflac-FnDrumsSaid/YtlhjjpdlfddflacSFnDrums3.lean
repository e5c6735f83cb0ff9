/- The walks of functions that FnDrums reaches: what they return is what the plain functions of the same names say. Made by a program of this session after the kit's print. No conditions beyond the arguments' being read. -/
import Derived.Test.YtlhjjpdlfddflacSFnDrums0
import Derived.Test.YtlhjjpdlfddflacSFnDrums2
namespace Go.Proofs.Ytlhjjpdlfddflac.PFnDrums
open Go.RowKit Go.Proofs.YtlhjjpdlfddflacW.PrintWords Go.Proofs.YtlhjjpdlfddflacW.PrintLast Go.Proofs.YtlhjjpdlfddflacW.PrintMore
attribute [local go_sem] max2_int min2_int max_two min_two max_three min_three max_four min_four   -- for this text's walks alone
set_option linter.unusedVariables false
set_option linter.unusedSimpArgs false

/-! ### spec_l1Rising: function 38 -/
def spec_l1Rising.l0:Nat→List Int→Int→Int→List Int→Int→Int→Option (Bool)
 | 0,_,_,_,_,_,_=>none
 | k+1,x0,x1,x2,x9,x10,x11=>if x11<x10 then(if 0≤x11 then(if x11<(x9.length:Int) then((spec_l1In.f (rd x9 x11) x1 x2).bind fun t192=>(if t192=true then(if x11>0 then(if 0≤(wrap64 (x11 - 1)) then(if(wrap64 (x11 - 1))<(x0.length:Int) then(if(rd x0 (wrap64 (x11 - 1)))≥(rd x9 x11) then(some false) else(spec_l1Rising.l0 k x0 x1 x2 x9 x10 (wrap64 (x11+1)))) else(none)) else(none)) else(spec_l1Rising.l0 k x0 x1 x2 x9 x10 (wrap64 (x11+1)))) else(some false))) else(none)) else(none)) else(some true)
def spec_l1Rising.f (k:Nat) (l0:List Int) (a1:Int) (a2:Int):Option (Bool):=spec_l1Rising.l0 k l0 a1 a2 l0 (l0.length:Int) 0
set_option maxHeartbeats 8000000 in
set_option maxRecDepth 100000 in
theorem spec_l1Rising.calls (k:Nat) (A0:Option Addr) (c0:Nat) (l0:List Int) (a1:Int) (a2:Int) (r:Bool) (w:World) (hr0:Kd.C (Kd.int .i64) w A0 l0.length l0) (hc0:l0.length≤c0) (h:spec_l1Rising.f k l0 a1 a2=some r) :
  Calls Try.prog 38 #[.slice A0 l0.length c0,.int .i64 a1,.int .i64 a2] w fun e w'=>e = .returned (.bool r)∧Drawn0 w w':=by
 have HR0:=am hr0
 have HC0:=am hc0
 clear hr0 hc0
 have H:(spec_l1Rising.l0 k l0 a1 a2 l0 (l0.length:Int) 0)=some r:=h
 clear h
 have H':=am H
 clear H
 go_enter Try.func38,Try.ntmps38
 go_wp2
 go_loopg [11] k (fun kq v11 w'=>∃(x11_1:Int),v11 = .int .i64 x11_1∧Aside0 (spec_l1Rising.l0 kq l0 a1 a2 l0 (l0.length:Int) x11_1=some r)∧Aside0 (kq≤k)∧Drawn0 w w')
 case atStart=>exact⟨(0),fin2,H',⟨Nat.le_refl _⟩,by repeat(first|exact Drawn0.refl _|apply Drawn0.step)⟩
 case round =>
  clear H'
  try clear p2
  try clear c3
  obtain⟨x11_1,rfl,HA,HK1,⟨m1,rfl⟩⟩:=hrel
  cases gk with
  | zero=>exact absurd HA.out (by simp [spec_l1Rising.l0])
  | succ k1 =>
   have H:=HA.out
   clear HA
   simp only[spec_l1Rising.l0] at H
   by_cases c4:x11_1<(l0.length:Int)
   ·rw[if_pos c4] at H
    have c4b0:decide (x11_1<(l0.length:Int))=true:=decide_eq_true c4
    clear c4
    by_cases c5:0≤x11_1
    ·rw[if_pos c5] at H
     have c5b0:decide (0≤x11_1)=true:=decide_eq_true c5
     clear c5
     by_cases c6:x11_1<(l0.length:Int)
     ·rw[if_pos c6] at H
      have c6b0:decide (x11_1<(l0.length:Int))=true:=decide_eq_true c6
      clear c6
      replace H:=Option.bind_eq_some_iff.mp H
      obtain⟨t192,A70,H⟩:=H
      replace H:(if t192=true then(if x11_1>0 then(if 0≤(wrap64 (x11_1 - 1)) then(if(wrap64 (x11_1 - 1))<(l0.length:Int) then(if(rd l0 (wrap64 (x11_1 - 1)))≥(rd l0 x11_1) then(some false) else(spec_l1Rising.l0 k1 l0 a1 a2 l0 (l0.length:Int) (wrap64 (x11_1+1)))) else(none)) else(none)) else(spec_l1Rising.l0 k1 l0 a1 a2 l0 (l0.length:Int) (wrap64 (x11_1+1)))) else(some false))=some r:=H
      have A7:=am A70
      clear A70
      by_cases c8:t192=true
      ·subst c8
       have H1:(if x11_1>0 then(if 0≤(wrap64 (x11_1 - 1)) then(if(wrap64 (x11_1 - 1))<(l0.length:Int) then(if(rd l0 (wrap64 (x11_1 - 1)))≥(rd l0 x11_1) then(some false) else(spec_l1Rising.l0 k1 l0 a1 a2 l0 (l0.length:Int) (wrap64 (x11_1+1)))) else(none)) else(none)) else(spec_l1Rising.l0 k1 l0 a1 a2 l0 (l0.length:Int) (wrap64 (x11_1+1))))=some r:=by rw[if_pos rfl] at H;exact H
       clear H
       have H:=H1
       clear H1
       by_cases c9:x11_1>0
       ·rw[if_pos c9] at H
        have c9b0:decide (0<x11_1)=true:=decide_eq_true c9
        clear c9
        obtain⟨ji10,hji10⟩:∃ j_:Int,(wrap64 (x11_1 - 1))=j_:=⟨_,rfl⟩
        replace H:(if 0≤(ji10) then(if(ji10)<(l0.length:Int) then(if(rd l0 (ji10))≥(rd l0 x11_1) then(some false) else(spec_l1Rising.l0 k1 l0 a1 a2 l0 (l0.length:Int) (wrap64 (x11_1+1)))) else(none)) else(none))=some r:=by first|(rw[hji10] at H;exact H)|(simp only[hji10] at H ⊢;exact H)
        (try rw[hji10] at A7)
        have hji10w:(IntKind.i64.wrap (x11_1 - 1))=ji10:=(i64_w _).trans hji10
        by_cases c11:0≤(ji10)
        ·rw[if_pos c11] at H
         have c11b0:decide (0≤(ji10))=true:=decide_eq_true c11
         clear c11
         by_cases c12:(ji10)<(l0.length:Int)
         ·rw[if_pos c12] at H
          have c12b0:decide ((ji10)<(l0.length:Int))=true:=decide_eq_true c12
          clear c12
          by_cases c13:(rd l0 (ji10))≥(rd l0 x11_1)
          ·rw[if_pos c13] at H
           have c13b0:decide ((rd l0 x11_1)≤(rd l0 (ji10)))=true:=decide_eq_true c13
           clear c13
           obtain rfl:=Option.some.inj H
           have p191:0≤(x11_1:Int):=od
           have q191:x11_1<(l0.length:Int):=od
           obtain⟨ad191,e191,hx191_0⟩:=Kd.at_int HR0.out x11_1 p191 q191
           cases e191
           replace p191:=eq_true p191
           replace q191:=eq_true q191
           go_wp2_with (first|((with_reducible refine gate_callee (f:=25) rfl ?_);refine goesL_ (some 19) rfl rfl Try.func25 (by kernel_rfl) rfl #[.int .i64 (rd l0 x11_1),.int .i64 a1,.int .i64 a2] rfl tl ?_;(with_reducible refine(spec_l1In.calls (rd l0 x11_1) a1 a2 true _ A7.out).mono ?_);rintro e w' ⟨rfl,⟨nd,rfl⟩⟩;refine⟨_,rfl,?_⟩;have p193:0≤((ji10):Int):=od;have q193:(ji10)<(l0.length:Int):=od;obtain⟨ad193,e193,hx193_0⟩:=Kd.at_int HR0.out (ji10) p193 q193;obtain rfl:ad191=ad193:=(by injection e193);replace p193:=eq_true p193;replace q193:=eq_true q193))
           go_ret
           exact⟨by first|rfl|(simp;done)|(simp only[← hji10]<;>(first|rfl|simp))|(simp [*];done),by repeat(first|exact Drawn0.refl _|apply Drawn0.step)⟩
          ·rw[if_neg c13] at H
           have c13b0:decide ((rd l0 x11_1)≤(rd l0 (ji10)))=false:=decide_eq_false c13
           clear c13
           have H':=am H
           clear H
           have p191:0≤(x11_1:Int):=od
           have q191:x11_1<(l0.length:Int):=od
           obtain⟨ad191,e191,hx191_0⟩:=Kd.at_int HR0.out x11_1 p191 q191
           cases e191
           replace p191:=eq_true p191
           replace q191:=eq_true q191
           go_wp2_with (first|((with_reducible refine gate_callee (f:=25) rfl ?_);refine goesL_ (some 19) rfl rfl Try.func25 (by kernel_rfl) rfl #[.int .i64 (rd l0 x11_1),.int .i64 a1,.int .i64 a2] rfl tl ?_;(with_reducible refine(spec_l1In.calls (rd l0 x11_1) a1 a2 true _ A7.out).mono ?_);rintro e w' ⟨rfl,⟨nd,rfl⟩⟩;refine⟨_,rfl,?_⟩;have p193:0≤((ji10):Int):=od;have q193:(ji10)<(l0.length:Int):=od;obtain⟨ad193,e193,hx193_0⟩:=Kd.at_int HR0.out (ji10) p193 q193;obtain rfl:ad191=ad193:=(by injection e193);replace p193:=eq_true p193;replace q193:=eq_true q193))
           go_roundg k1
           case measure=>have:=HK1.out;omega
           case rel=>exact⟨(wrap64 (x11_1+1)),fin2,H',⟨by have:=HK1.out;omega⟩,by repeat(first|exact Drawn0.refl _|apply Drawn0.step)⟩
         ·rw[if_neg c12] at H
          exact absurd H (by simp)
        ·rw[if_neg c11] at H
         exact absurd H (by simp)
       ·rw[if_neg c9] at H
        have c9b0:decide (0<x11_1)=false:=decide_eq_false c9
        clear c9
        have H':=am H
        clear H
        have p191:0≤(x11_1:Int):=od
        have q191:x11_1<(l0.length:Int):=od
        obtain⟨ad191,e191,hx191_0⟩:=Kd.at_int HR0.out x11_1 p191 q191
        cases e191
        replace p191:=eq_true p191
        replace q191:=eq_true q191
        go_wp2_with (first|((with_reducible refine gate_callee (f:=25) rfl ?_);refine goesL_ (some 19) rfl rfl Try.func25 (by kernel_rfl) rfl #[.int .i64 (rd l0 x11_1),.int .i64 a1,.int .i64 a2] rfl tl ?_;(with_reducible refine(spec_l1In.calls (rd l0 x11_1) a1 a2 true _ A7.out).mono ?_);rintro e w' ⟨rfl,⟨nd,rfl⟩⟩;refine⟨_,rfl,?_⟩))
        go_roundg k1
        case measure=>have:=HK1.out;omega
        case rel=>exact⟨(wrap64 (x11_1+1)),fin2,H',⟨by have:=HK1.out;omega⟩,by repeat(first|exact Drawn0.refl _|apply Drawn0.step)⟩
      ·replace c8:=Bool.eq_false_iff.mpr c8
       subst c8
       have H1:(some false)=some r:=by rw[if_neg (show ¬ (false=true) by decide)] at H;exact H
       clear H
       have H:=H1
       clear H1
       obtain rfl:=Option.some.inj H
       have p191:0≤(x11_1:Int):=od
       have q191:x11_1<(l0.length:Int):=od
       obtain⟨ad191,e191,hx191_0⟩:=Kd.at_int HR0.out x11_1 p191 q191
       cases e191
       replace p191:=eq_true p191
       replace q191:=eq_true q191
       go_wp2_with (first|((with_reducible refine gate_callee (f:=25) rfl ?_);refine goesL_ (some 19) rfl rfl Try.func25 (by kernel_rfl) rfl #[.int .i64 (rd l0 x11_1),.int .i64 a1,.int .i64 a2] rfl tl ?_;(with_reducible refine(spec_l1In.calls (rd l0 x11_1) a1 a2 false _ A7.out).mono ?_);rintro e w' ⟨rfl,⟨nd,rfl⟩⟩;refine⟨_,rfl,?_⟩))
       go_ret
       exact⟨by first|rfl|(simp;done)|(simp [*];done),by repeat(first|exact Drawn0.refl _|apply Drawn0.step)⟩
     ·rw[if_neg c6] at H
      exact absurd H (by simp)
    ·rw[if_neg c5] at H
     exact absurd H (by simp)
   ·rw[if_neg c4] at H
    have c4b0:decide (x11_1<(l0.length:Int))=false:=decide_eq_false c4
    clear c4
    obtain rfl:=Option.some.inj H
    go_wp2
    go_ret
    exact⟨by first|rfl|(simp;done)|(simp [*];done),by repeat(first|exact Drawn0.refl _|apply Drawn0.step)⟩

/-! ### spec_drGood: function 24 -/
def spec_drGood.f (k:Nat) (a0_0:Int) (l0_1:List Int):Option (Bool):=(spec_l1In.f a0_0 1 24).bind fun t195=>(if t195=true then((spec_l1Rising.f k l0_1 0 (wrap64 (a0_0 - 1))).bind fun t196=>(some t196)) else(some false))
set_option maxHeartbeats 8000000 in
set_option maxRecDepth 100000 in
theorem spec_drGood.calls (k:Nat) (a0_0:Int) (A0_1:Option Addr) (c0_1:Nat) (l0_1:List Int) (r:Bool) (w:World) (hr0_1:Kd.C (Kd.int .i64) w A0_1 l0_1.length l0_1) (hc0_1:l0_1.length≤c0_1) (h:spec_drGood.f k a0_0 l0_1=some r) :
  Calls Try.prog 24 #[.agg #[.int .i64 a0_0,.slice A0_1 l0_1.length c0_1]] w fun e w'=>e = .returned (.bool r)∧Below w.heap.size w w':=by
 have hu26:=Try.underlying26
 have HR0_1:=am hr0_1
 have HC0_1:=am hc0_1
 clear hr0_1 hc0_1
 have HB:=am (Below.refl w.heap.size w)
 have H:((spec_l1In.f a0_0 1 24).bind fun t195=>(if t195=true then((spec_l1Rising.f k l0_1 0 (wrap64 (a0_0 - 1))).bind fun t196=>(some t196)) else(some false)))=some r:=h
 clear h
 replace H:=Option.bind_eq_some_iff.mp H
 obtain⟨t195,A20,H⟩:=H
 replace H:(if t195=true then((spec_l1Rising.f k l0_1 0 (wrap64 (a0_0 - 1))).bind fun t196=>(some t196)) else(some false))=some r:=H
 have A2:=am A20
 clear A20
 by_cases c3:t195=true
 ·subst c3
  have H1:((spec_l1Rising.f k l0_1 0 (wrap64 (a0_0 - 1))).bind fun t196=>(some t196))=some r:=by rw[if_pos rfl] at H;exact H
  clear H
  have H:=H1
  clear H1
  replace H:=Option.bind_eq_some_iff.mp H
  obtain⟨t196,A40,H⟩:=H
  replace H:(some t196)=some r:=H
  have A4:=am A40
  clear A40
  obtain rfl:=Option.some.inj H
  go_enter Try.func24,Try.ntmps24
  go_wp2_with (first|((with_reducible refine gate_dst (N:=1) rfl ?_);refine box_event ?hg (N:=1) ?hd (cs := #[.int .i64 a0_0,.slice A0_1 l0_1.length c0_1]) (t:=26) ?hr ?_;(case hd=>rfl);(case hg=>rfl);(case hr=>first|(go_simp;done)|(go_simp;rfl));intro gb194 hg w5 hbox hb;have n0_:=am (below_step bl hb);have n1_:=am (hbox);have n2_:=am (ge_ bl hg);have n3_:=am (ge_ bl hg);clear HB;have HB:=n0_;have BK194:=n1_;have GW194:=n2_;have GE194:=n3_;clear n0_ n1_ n2_ n3_ hb hbox hg;have hcz6_0:w5.cell? ⟨gb194,0,none⟩=some (.int .i64 a0_0):=(blk_cell BK194.out 0).trans rfl;have hcz6_1:w5.cell? ⟨gb194,1,none⟩=some (.slice A0_1 l0_1.length c0_1):=(blk_cell BK194.out 1).trans rfl;have hfz6_0:=blk_frozen BK194.out 0;have hfz6_1:=blk_frozen BK194.out 1)|((with_reducible refine gate_callee (f:=25) rfl ?_);refine goesL_ (some 5) rfl rfl Try.func25 (by kernel_rfl) rfl #[.int .i64 a0_0,.int .i64 1,.int .i64 24] rfl tl ?_;(with_reducible refine(spec_l1In.calls a0_0 1 24 true _ A2.out).mono ?_);rintro e w' ⟨rfl,⟨nd,rfl⟩⟩;refine⟨_,rfl,?_⟩)|(go_at_call 38;(with_reducible refine(spec_l1Rising.calls k _ _ l0_1 0 (wrap64 (a0_0 - 1)) t196 _ ?side1 ?side2 A4.out).mono ?_);(case side1=>repeat(first|exact(Kd.C_below HR0_1.out bl)|(with_reducible refine Kd.C_alloc ?_ _)|(with_reducible refine Kd.C_drewN ?_ _)|(with_reducible refine Kd.C_drew ?_)));(case side2=>exact HC0_1.out);rintro e w' ⟨rfl,⟨nd,rfl⟩⟩))
  go_ret
  exact⟨fin1,bl⟩
 ·replace c3:=Bool.eq_false_iff.mpr c3
  subst c3
  have H1:(some false)=some r:=by rw[if_neg (show ¬ (false=true) by decide)] at H;exact H
  clear H
  have H:=H1
  clear H1
  obtain rfl:=Option.some.inj H
  go_enter Try.func24,Try.ntmps24
  go_wp2_with (first|((with_reducible refine gate_dst (N:=1) rfl ?_);refine box_event ?hg (N:=1) ?hd (cs := #[.int .i64 a0_0,.slice A0_1 l0_1.length c0_1]) (t:=26) ?hr ?_;(case hd=>rfl);(case hg=>rfl);(case hr=>first|(go_simp;done)|(go_simp;rfl));intro gb194 hg w7 hbox hb;have n0_:=am (below_step bl hb);have n1_:=am (hbox);have n2_:=am (ge_ bl hg);have n3_:=am (ge_ bl hg);clear HB;have HB:=n0_;have BK194:=n1_;have GW194:=n2_;have GE194:=n3_;clear n0_ n1_ n2_ n3_ hb hbox hg;have hcz8_0:w7.cell? ⟨gb194,0,none⟩=some (.int .i64 a0_0):=(blk_cell BK194.out 0).trans rfl;have hcz8_1:w7.cell? ⟨gb194,1,none⟩=some (.slice A0_1 l0_1.length c0_1):=(blk_cell BK194.out 1).trans rfl;have hfz8_0:=blk_frozen BK194.out 0;have hfz8_1:=blk_frozen BK194.out 1)|((with_reducible refine gate_callee (f:=25) rfl ?_);refine goesL_ (some 5) rfl rfl Try.func25 (by kernel_rfl) rfl #[.int .i64 a0_0,.int .i64 1,.int .i64 24] rfl tl ?_;(with_reducible refine(spec_l1In.calls a0_0 1 24 false _ A2.out).mono ?_);rintro e w' ⟨rfl,⟨nd,rfl⟩⟩;refine⟨_,rfl,?_⟩))
  go_ret
  exact⟨fin1,bl⟩

/-! ### spec_l1Put: function 39 -/
def spec_l1Put.l0:Nat→List Int→Int→Int→Option (List Int)
 | 0,_,_,_=>none
 | k+1,x0,x1,x5=>if x5<(x0.length:Int) then(if 0≤x5 then(if(rd x0 x5)<x1 then(spec_l1Put.l0 k x0 x1 (wrap64 (x5+1))) else(if(rd x0 x5)=x1 then(some x0) else((some (([]:List Int):List Int)).bind fun y199=>(if x5≤(x0.length:Int) then((some (x0.take (x5:Int).toNat:List Int)).bind fun y202=>(if y199.length+y202.length<17592186044416 then((some (y199 ++ y202:List Int)).bind fun y206=>(if y206.length<17592186044416 then((some (y206 ++ [x1]:List Int)).bind fun y209=>((some (x0.drop (x5:Int).toNat:List Int)).bind fun y212=>(if y209.length+y212.length<17592186044416 then(some (y209 ++ y212)) else(none)))) else(none))) else(none))) else(none))))) else(none)) else((some (([]:List Int):List Int)).bind fun y219=>(if 0≤x5 then(if x5≤(x0.length:Int) then((some (x0.take (x5:Int).toNat:List Int)).bind fun y222=>(if y219.length+y222.length<17592186044416 then((some (y219 ++ y222:List Int)).bind fun y226=>(if y226.length<17592186044416 then((some (y226 ++ [x1]:List Int)).bind fun y229=>((some (x0.drop (x5:Int).toNat:List Int)).bind fun y232=>(if y229.length+y232.length<17592186044416 then(some (y229 ++ y232)) else(none)))) else(none))) else(none))) else(none)) else(none)))
def spec_l1Put.f (k:Nat) (l0:List Int) (a1:Int):Option (List Int):=spec_l1Put.l0 k l0 a1 0
set_option maxHeartbeats 8000000 in
set_option maxRecDepth 100000 in
theorem spec_l1Put.calls (k:Nat) (P0_:Nat→Prop) (u9000_:Value) (l0:List Int) (a1:Int) (r:List Int) (w0 w:World) (hB:Below w0.heap.size w0 w) (ho0:Kd.R (Kd.int .i64) 3 w w0.heap.size P0_ u9000_ l0) (h:spec_l1Put.f k l0 a1=some r) :
  Calls Try.prog 39 #[u9000_,.int .i64 a1] w fun e w'=>∃ v0_:Value,e = .returned (v0_)∧Kd.R (Kd.int .i64) 3 w' w0.heap.size (fun k_=>(P0_ k_∨w.heap.size≤k_)) v0_ r∧Below w0.heap.size w0 w'∧Kept w w' (fun k_=>P0_ k_):=by
 have HO0:=am (show Kd.R (Kd.int .i64) 3 w w0.heap.size (fun k_=>(P0_ k_∨w.heap.size≤k_)) u9000_ l0 from Kd.R_mono ho0 (fun k_ hk=>(.inl hk)))
 have HK:=am (Kept.refl w (fun k_=>P0_ k_))
 have HW0:=am hB.size
 have HB:=am hB
 clear hB
 have H:(spec_l1Put.l0 k l0 a1 0)=some r:=h
 clear h
 have H':=am H
 clear H
 go_enter Try.func39,Try.ntmps39
 go_wp2
 go_loopg [5] k (fun kq v5 w'=>∃(x5_1:Int),v5 = .int .i64 x5_1∧Aside0 (spec_l1Put.l0 kq l0 a1 x5_1=some r)∧Aside0 (kq≤k)∧Aside0 (Kd.R (Kd.int .i64) 3 w' w0.heap.size (fun k_=>(P0_ k_∨w.heap.size≤k_)) u9000_ l0)∧Aside0 (Kept w w' (fun k_=>P0_ k_))∧Aside0 (Below w0.heap.size w0 w'))
 case atStart=>exact⟨(0),fin2,H',⟨Nat.le_refl _⟩,⟨rup HO0.out⟩,⟨by repeat(first|(with_reducible first|exact HK.out|apply Kept.alloc|apply Kept.drewN|apply Kept.drew)|exact HK.out)⟩,⟨bl⟩⟩
 case round =>
  clear H'
  try clear p2
  obtain⟨x5_1,rfl,HA,HK1,HO_0,HK,HB⟩:=hrel
  cases gk with
  | zero=>exact absurd HA.out (by simp [spec_l1Put.l0])
  | succ k1 =>
   have H:=HA.out
   clear HA
   simp only[spec_l1Put.l0] at H
   by_cases c3:x5_1<(l0.length:Int)
   ·rw[if_pos c3] at H
    have c3b0:decide (x5_1<(l0.length:Int))=true:=decide_eq_true c3
    clear c3
    by_cases c4:0≤x5_1
    ·rw[if_pos c4] at H
     have c4b0:decide (0≤x5_1)=true:=decide_eq_true c4
     clear c4
     by_cases c5:(rd l0 x5_1)<a1
     ·rw[if_pos c5] at H
      have c5b0:decide ((rd l0 x5_1)<a1)=true:=decide_eq_true c5
      clear c5
      have H':=am H
      clear H
      obtain⟨Ao6,co6,eo6⟩:=Kd.R_slice HO_0.out
      subst eo6
      have p197:0≤(x5_1:Int):=od
      have q197:x5_1<(l0.length:Int):=od
      obtain⟨ad197,e197,hx197_0⟩:=Kd.at_int (Kd.R_reads' HO_0.out).2.2 x5_1 p197 q197
      cases e197
      replace p197:=eq_true p197
      replace q197:=eq_true q197
      go_wp2
      go_roundg k1
      case measure=>have:=HK1.out;omega
      case rel=>exact⟨(wrap64 (x5_1+1)),fin2,H',⟨by have:=HK1.out;omega⟩,⟨rup HO_0.out⟩,⟨by repeat(first|(with_reducible first|exact HK.out|apply Kept.alloc|apply Kept.drewN|apply Kept.drew)|exact HK.out)⟩,⟨bl⟩⟩
     ·rw[if_neg c5] at H
      have c5b0:decide ((rd l0 x5_1)<a1)=false:=decide_eq_false c5
      clear c5
      by_cases c7:(rd l0 x5_1)=a1
      ·rw[if_pos c7] at H
       have c7b0:((rd l0 x5_1) == a1)=true:=beq_iff_eq.mpr c7
       have c7b1:((rd l0 x5_1) != a1)=false:=bne_eq_false_iff_eq.mpr c7
       clear c7
       obtain rfl:=Option.some.inj H
       obtain⟨Ao8,co8,eo8⟩:=Kd.R_slice HO_0.out
       subst eo8
       have p197:0≤(x5_1:Int):=od
       have q197:x5_1<(l0.length:Int):=od
       obtain⟨ad197,e197,hx197_0⟩:=Kd.at_int (Kd.R_reads' HO_0.out).2.2 x5_1 p197 q197
       cases e197
       replace p197:=eq_true p197
       replace q197:=eq_true q197
       have p198:0≤(x5_1:Int):=od
       have q198:x5_1<(l0.length:Int):=od
       obtain⟨ad198,e198,hx198_0⟩:=Kd.at_int (Kd.R_reads' HO_0.out).2.2 x5_1 p198 q198
       obtain rfl:ad197=ad198:=(by injection e198)
       replace p198:=eq_true p198
       replace q198:=eq_true q198
       go_wp2
       go_ret
       exact⟨_,fin1,by(with_reducible repeat(first|apply Kd.R_alloc|apply Kd.R_drewN|apply Kd.R_drew));exact HO_0.out,by repeat(first|(with_reducible first|exact HB.out|apply below_alloc|apply pw_below_drewN|apply below_drew1)|exact HB.out),by repeat(first|(with_reducible first|exact HK.out|apply Kept.alloc|apply Kept.drewN|apply Kept.drew)|exact HK.out)⟩
      ·rw[if_neg c7] at H
       have c7b0:((rd l0 x5_1) == a1)=false:=beq_eq_false_iff_ne.mpr c7
       have c7b1:((rd l0 x5_1) != a1)=true:=bne_iff_ne.mpr c7
       obtain⟨y199,hy199⟩:∃ y_:List Int,y_=(([]:List Int)):=⟨_,rfl⟩
       replace H:(if x5_1≤(l0.length:Int) then((some (l0.take (x5_1:Int).toNat:List Int)).bind fun y202=>(if y199.length+y202.length<17592186044416 then((some (y199 ++ y202:List Int)).bind fun y206=>(if y206.length<17592186044416 then((some (y206 ++ [a1]:List Int)).bind fun y209=>((some (l0.drop (x5_1:Int).toNat:List Int)).bind fun y212=>(if y209.length+y212.length<17592186044416 then(some (y209 ++ y212)) else(none)))) else(none))) else(none))) else(none))=some r:=by first|(rw[hy199];with_reducible exact H)|(have H2_:=(Option.bind_some _ _).symm.trans H;rw[hy199];with_reducible exact H2_)|(have H2_:=(Option.bind_some _ _).symm.trans H;with_reducible exact H2_)|with_reducible exact H|(rw[hy199];exact H)|exact H
       have Ny199:=am hy199
       clear hy199
       have c9b0:=eq_true (od:0≤x5_1)
       by_cases c10:x5_1≤(l0.length:Int)
       ·rw[if_pos c10] at H
        have c10b0:=eq_true c10
        have c10b1:decide (x5_1≤(l0.length:Int))=true:=decide_eq_true c10
        clear c10
        obtain⟨y202,hy202⟩:∃ y_:List Int,y_=(l0.take (x5_1:Int).toNat):=⟨_,rfl⟩
        replace H:(if y199.length+y202.length<17592186044416 then((some (y199 ++ y202:List Int)).bind fun y206=>(if y206.length<17592186044416 then((some (y206 ++ [a1]:List Int)).bind fun y209=>((some (l0.drop (x5_1:Int).toNat:List Int)).bind fun y212=>(if y209.length+y212.length<17592186044416 then(some (y209 ++ y212)) else(none)))) else(none))) else(none))=some r:=by first|(rw[hy202];with_reducible exact H)|(have H2_:=(Option.bind_some _ _).symm.trans H;rw[hy202];with_reducible exact H2_)|(have H2_:=(Option.bind_some _ _).symm.trans H;with_reducible exact H2_)|with_reducible exact H|(rw[hy202];exact H)|exact H
        have Ny202:=am hy202
        clear hy202
        by_cases c11:y199.length+y202.length<17592186044416
        ·rw[if_pos c11] at H
         have LMc11:=am c11
         clear c11
         obtain⟨y206,hy206⟩:∃ y_:List Int,y_=(y199 ++ y202):=⟨_,rfl⟩
         replace H:(if y206.length<17592186044416 then((some (y206 ++ [a1]:List Int)).bind fun y209=>((some (l0.drop (x5_1:Int).toNat:List Int)).bind fun y212=>(if y209.length+y212.length<17592186044416 then(some (y209 ++ y212)) else(none)))) else(none))=some r:=by first|(rw[hy206];with_reducible exact H)|(have H2_:=(Option.bind_some _ _).symm.trans H;rw[hy206];with_reducible exact H2_)|(have H2_:=(Option.bind_some _ _).symm.trans H;with_reducible exact H2_)|with_reducible exact H|(rw[hy206];exact H)|exact H
         have Ny206:=am hy206
         clear hy206
         by_cases c12:y206.length<17592186044416
         ·rw[if_pos c12] at H
          have LMc12:=am c12
          clear c12
          obtain⟨y209,hy209⟩:∃ y_:List Int,y_=(y206 ++ [a1]):=⟨_,rfl⟩
          replace H:((some (l0.drop (x5_1:Int).toNat:List Int)).bind fun y212=>(if y209.length+y212.length<17592186044416 then(some (y209 ++ y212)) else(none)))=some r:=by first|(rw[hy209];with_reducible exact H)|(have H2_:=(Option.bind_some _ _).symm.trans H;rw[hy209];with_reducible exact H2_)|(have H2_:=(Option.bind_some _ _).symm.trans H;with_reducible exact H2_)|with_reducible exact H|(rw[hy209];exact H)|exact H
          have Ny209:=am hy209
          clear hy209
          have c13b0:=eq_true (od:0≤x5_1)
          have c14b0:=eq_true (od:x5_1≤(l0.length:Int))
          obtain⟨y212,hy212⟩:∃ y_:List Int,y_=(l0.drop (x5_1:Int).toNat):=⟨_,rfl⟩
          replace H:(if y209.length+y212.length<17592186044416 then(some (y209 ++ y212)) else(none))=some r:=by first|(rw[hy212];with_reducible exact H)|(have H2_:=(Option.bind_some _ _).symm.trans H;rw[hy212];with_reducible exact H2_)|(have H2_:=(Option.bind_some _ _).symm.trans H;with_reducible exact H2_)|with_reducible exact H|(rw[hy212];exact H)|exact H
          have Ny212:=am hy212
          clear hy212
          by_cases c15:y209.length+y212.length<17592186044416
          ·rw[if_pos c15] at H
           have LMc15:=am c15
           clear c15
           obtain⟨y216,hy216⟩:∃ y_:List Int,y_=(y209 ++ y212):=⟨_,rfl⟩
           replace H:(some y216)=some r:=by first|(rw[hy216];with_reducible exact H)|(have H2_:=(Option.bind_some _ _).symm.trans H;rw[hy216];with_reducible exact H2_)|(have H2_:=(Option.bind_some _ _).symm.trans H;with_reducible exact H2_)|with_reducible exact H|(rw[hy216];exact H)|exact H
           have Ny216:=am hy216
           clear hy216
           obtain rfl:=Option.some.inj H
           obtain⟨Ao16,co16,eo16⟩:=Kd.R_slice HO_0.out
           subst eo16
           have p197:0≤(x5_1:Int):=od
           have q197:x5_1<(l0.length:Int):=od
           obtain⟨ad197,e197,hx197_0⟩:=Kd.at_int (Kd.R_reads' HO_0.out).2.2 x5_1 p197 q197
           cases e197
           replace p197:=eq_true p197
           replace q197:=eq_true q197
           have p198:0≤(x5_1:Int):=od
           have q198:x5_1<(l0.length:Int):=od
           obtain⟨ad198,e198,hx198_0⟩:=Kd.at_int (Kd.R_reads' HO_0.out).2.2 x5_1 p198 q198
           obtain rfl:ad197=ad198:=(by injection e198)
           replace p198:=eq_true p198
           replace q198:=eq_true q198
           go_wp2_with (first|((with_reducible refine gate_dst (N:=34) rfl ?_);refine Kd.R_lit (Kd.int .i64) _ 3 ?hg (N:=34) ?hd (xs:=([]:List Int)) (inner:=[]) (ok:=fun _=>True) (okp:=fun _=>True) ?hr ?hp (fun _ hk=>hk) trivial (Below.refl _ _) (Nat.le_refl _) (by simp) ?_;(case hd=>rfl);(case hg=>rfl);(case hr=>first|(go_simp;done)|(go_simp;rfl));(case hp=>exact(Reps.none _ _));intro v200 w17 ho18 hb hg_ hnew_;clear hg_ hnew_;(first|rw[← Ny199.out] at ho18|(simp only[Int.reduceToNat] at ho18;rw[← Ny199.out] at ho18));have n0_:=am (Kd.R_elder' (rup HO_0.out) (Kd.R_base ho18) hb);have n1_:=am (Kd.R_lower (Kd.R_new' (Kd.R_newM (M:=fun k_=>(P0_ k_∨w.heap.size≤k_)) ho18 (by first|exact HK.out.1|exact(show Kept w _ (fun k_=>P0_ k_) from by repeat(first|(with_reducible first|exact HK.out|apply Kept.alloc|apply Kept.drewN|apply Kept.drew)|exact HK.out)).1) (fun k_ h_ => .inr h_)) (Kd.R_lt (rup HO_0.out))) (below_size bl));have n2_:=am (Kept.below (S:=(fun k_=>P0_ k_)) (by repeat(first|(with_reducible first|exact HK.out|apply Kept.alloc|apply Kept.drewN|apply Kept.drew)|exact HK.out)) hb);have n3_:=am (below_step bl hb);clear HO_0 HK HB;have HO_0:=n0_;have HO201:=n1_;have HK:=n2_;have HB:=n3_;clear n0_ n1_ n2_ n3_ hb ho18;have q19:(x5_1:Int)≤((l0.length:Int):Int):=od;obtain⟨i019,hi019,_,hsz19,_⟩:=info_parts info3;have hroom19:l0.length≤co16:=(Kd.R_reads' HO_0.out).2.1;have hC19:Kd.C (Kd.int .i64) _ (some ad197) l0.length l0:=(Kd.R_reads' HO_0.out).2.2;have hcut19:=cut_to (P:=Try.prog) 24 3 .i64 Try.underlying24 hi019 (some ad197) l0.length co16 x5_1 (od) q19 hroom19;have hr19:=Kd.C_take (m:=(x5_1:Int).toNat) hC19 (by omega);have hy19:y202.length=(x5_1:Int).toNat:=(by rw[Ny202.out,List.length_take];omega);rw[← Ny202.out] at hr19;rw[← hy19] at hcut19;have HR205:=am hr19;have HC205:=am (show y202.length≤co16 from by omega);clear hr19 hC19 hroom19 hi019 hsz19;have KY19:=am hy19;clear hy19;have KL19:=am (show(x5_1:Int).toNat≤l0.length from by omega);replace q19:=eq_true q19)|((with_reducible refine gate_builtin (b := .append) (xs := #[.tmp 34,.tmp 37]) rfl ?_);at_builtin;refine Kd.R_append_rows (Kd.int .i64) (w0:=w0) w0.heap.size rfl (.tmp 34) (.tmp 37) 24 3 (.int .i64 0) 8 rfl Try.underlying24 info3 rfl (by decide) (by omega) v200 y199 y202 _ _ _ (fun k_=>(P0_ k_∨w.heap.size≤k_)∧some k_≠(.slice (some ad197) l0.length co16:Value).ownBlock) (fun _=>False) rfl rfl ?aO ?aR (fun _ _ h=>h) (fun _ h=>h.elim) ?aF ?aB ?aS ?aL ?_;(case aR=>repeat(first|exact(by repeat(first|(with_reducible exact HR205.out)|(with_reducible refine Kd.C_alloc ?_ _)|(with_reducible refine Kd.C_drewN ?_ _)|(with_reducible refine Kd.C_drew ?_)|exact HR205.out))|(with_reducible refine Kd.C_alloc ?_ _)|(with_reducible refine Kd.C_drewN ?_ _)|(with_reducible refine Kd.C_drew ?_)));(case aB=>exact bl);(case aF=>exact(fun k_ hk=>⟨(.inr (Nat.le_trans (by first|exact HK.out.1|exact(show Kept w _ (fun k_=>P0_ k_) from by repeat(first|(with_reducible first|exact HK.out|apply Kept.alloc|apply Kept.drewN|apply Kept.drew)|exact HK.out)).1) hk)),Kd.fresh' (Kd.R_lt (rup HO_0.out)) k_ hk⟩));(case aO=>exact(rup (Kd.R_mono HO201.out (fun _ hk=>⟨hk.1.1,hk.2⟩))));(case aS=>exact(below_size bl));(case aL=>have:=LMc11.out;omega);intro v207 w20 ho hb hg hat;rw[← Ny206.out] at ho;have n0_:=am (Kd.R_after (ok:=(fun k_=>(P0_ k_∨w.heap.size≤k_))) (rup HO_0.out) hg hat);have n1_:=am (hb);have n2_:=am (Kept.of_grown (S:=(fun k_=>P0_ k_)) hg (by repeat(first|(with_reducible first|exact HK.out|apply Kept.alloc|apply Kept.drewN|apply Kept.drew)|exact HK.out)) (fun k_ e_=>(HO201.out.1 k_ e_).1.1));have n3_:=am ((show Kd.C (Kd.int .i64) w20 (some ad197) y202.length y202 from by rw[Ny202.out];exact Kd.C_take (m:=(x5_1:Int).toNat) ((Kd.R_reads' (Kd.R_after (ok:=(fun k_=>(P0_ k_∨w.heap.size≤k_))) (rup HO_0.out) hg hat)).2.2) KL19.out));have n4_:=am (ho);clear HO_0 HB HK HR205 HO201;have HO_0:=n0_;have HB:=n1_;have HK:=n2_;have HR205:=n3_;have HO208:=n4_;clear n0_ n1_ n2_ n3_ n4_ ho hb hg hat)|((with_reducible refine gate_builtin (b := .append) (xs := #[.tmp 39,.tmp 41]) rfl ?_);at_builtin;refine Kd.R_append (Kd.int .i64) (w0:=w0) w0.heap.size rfl (.tmp 39) (.tmp 41) 24 3 (.int .i64 0) 8 rfl Try.underlying24 info3 rfl (by decide) (by omega) v207 y206 a1 [.int .i64 a1] (fun k_=>(P0_ k_∨w.heap.size≤k_)∧some k_≠(.slice (some ad197) l0.length co16:Value).ownBlock) (fun _=>False) rfl rfl ?aP (fun _ hk=>hk.elim) ?aF ?aO ?aB ?aS ?aL ?_;(case aP=>exact rfl);(case aB=>exact bl);(case aF=>exact(fun k_ hk=>⟨(.inr (Nat.le_trans (by first|exact HK.out.1|exact(show Kept w _ (fun k_=>P0_ k_) from by repeat(first|(with_reducible first|exact HK.out|apply Kept.alloc|apply Kept.drewN|apply Kept.drew)|exact HK.out)).1) hk)),Kd.fresh' (Kd.R_lt (rup HO_0.out)) k_ hk⟩));(case aO=>exact(rup HO208.out));(case aS=>exact(below_size bl));(case aL=>have:=LMc12.out;omega);intro v210 w21 ho hb hg hat;rw[← Ny209.out] at ho;have n0_:=am (Kd.R_after (ok:=(fun k_=>(P0_ k_∨w.heap.size≤k_))) (rup HO_0.out) hg hat);have n1_:=am (hb);have n2_:=am (Kept.of_grown (S:=(fun k_=>P0_ k_)) hg (by repeat(first|(with_reducible first|exact HK.out|apply Kept.alloc|apply Kept.drewN|apply Kept.drew)|exact HK.out)) (fun k_ e_=>(HO208.out.1 k_ e_).1));have n3_:=am ((show Kd.C (Kd.int .i64) w21 (some ad197) y202.length y202 from by rw[Ny202.out];exact Kd.C_take (m:=(x5_1:Int).toNat) ((Kd.R_reads' (Kd.R_after (ok:=(fun k_=>(P0_ k_∨w.heap.size≤k_))) (rup HO_0.out) hg hat)).2.2) KL19.out));have n4_:=am (ho);clear HO_0 HB HK HR205 HO208;have HO_0:=n0_;have HB:=n1_;have HK:=n2_;have HR205:=n3_;have HO211:=n4_;clear n0_ n1_ n2_ n3_ n4_ ho hb hg hat;have q22:(x5_1:Int)≤((l0.length:Int):Int):=od;obtain⟨i022,hi022,_,hsz22,_⟩:=info_parts info3;have hroom22:l0.length≤co16:=(Kd.R_reads' HO_0.out).2.1;have hC22:Kd.C (Kd.int .i64) _ (some ad197) l0.length l0:=(Kd.R_reads' HO_0.out).2.2;have q022:(0:Int)≤(x5_1:Int):=od;have hcut22:=cut_from (P:=Try.prog) 24 3 .i64 Try.underlying24 hi022 1 hsz22 (some ad197) l0.length co16 x5_1 q022 q22;have hr22:=Kd.C_drop (m:=(x5_1:Int).toNat) (c:=co16) hC22 (by omega) hroom22;obtain⟨A22,hA22⟩:∃ A1,A1=(if co16=(x5_1:Int).toNat then(some ad197) else((some ad197):Option Addr).map (·.add ((x5_1:Int).toNat*1))):=⟨_,rfl⟩;obtain⟨c22,hc22⟩:∃ c1,c1=co16 - (x5_1:Int).toNat:=⟨_,rfl⟩;have hy22:y212.length=l0.length - (x5_1:Int).toNat:=(by rw[Ny212.out,List.length_drop]<;>omega);rw[show(l0).drop (x5_1:Int).toNat=y212 from Ny212.out.symm] at hr22;replace hr22:Kd.C (Kd.int .i64) _ A22 y212.length y212:=(by rw[hA22];exact hr22);rw[← hy22,← hA22,← hc22] at hcut22;have HR215:=am hr22;have HC215:=am (show y212.length≤c22 from by rw[hy22,hc22];exact Nat.sub_le_sub_right hroom22 _);clear hr22 hC22 hroom22 hi022 hsz22 hc22;have KY22:=am hy22;have KA22:=am hA22;clear hy22 hA22;have KL22:=am (show(x5_1:Int).toNat≤l0.length from by omega);replace q22:=eq_true q22)|((with_reducible refine gate_builtin (b := .append) (xs := #[.tmp 43,.tmp 46]) rfl ?_);at_builtin;refine Kd.R_append_rows (Kd.int .i64) (w0:=w0) w0.heap.size rfl (.tmp 43) (.tmp 46) 24 3 (.int .i64 0) 8 rfl Try.underlying24 info3 rfl (by decide) (by omega) v210 y209 y212 _ _ _ (fun k_=>(P0_ k_∨w.heap.size≤k_)∧some k_≠(.slice (some ad197) l0.length co16:Value).ownBlock) (fun _=>False) rfl rfl ?aO ?aR (fun _ _ h=>h) (fun _ h=>h.elim) ?aF ?aB ?aS ?aL ?_;(case aR=>repeat(first|exact(by repeat(first|(with_reducible exact HR215.out)|(with_reducible refine Kd.C_alloc ?_ _)|(with_reducible refine Kd.C_drewN ?_ _)|(with_reducible refine Kd.C_drew ?_)|exact HR215.out))|(with_reducible refine Kd.C_alloc ?_ _)|(with_reducible refine Kd.C_drewN ?_ _)|(with_reducible refine Kd.C_drew ?_)));(case aB=>exact bl);(case aF=>exact(fun k_ hk=>⟨(.inr (Nat.le_trans (by first|exact HK.out.1|exact(show Kept w _ (fun k_=>P0_ k_) from by repeat(first|(with_reducible first|exact HK.out|apply Kept.alloc|apply Kept.drewN|apply Kept.drew)|exact HK.out)).1) hk)),Kd.fresh' (Kd.R_lt (rup HO_0.out)) k_ hk⟩));(case aO=>exact(rup HO211.out));(case aS=>exact(below_size bl));(case aL=>have:=LMc15.out;omega);intro v217 w23 ho hb hg hat;rw[← Ny216.out] at ho;have n0_:=am (Kd.R_after (ok:=(fun k_=>(P0_ k_∨w.heap.size≤k_))) (rup HO_0.out) hg hat);have n1_:=am (hb);have n2_:=am (Kept.of_grown (S:=(fun k_=>P0_ k_)) hg (by repeat(first|(with_reducible first|exact HK.out|apply Kept.alloc|apply Kept.drewN|apply Kept.drew)|exact HK.out)) (fun k_ e_=>(HO211.out.1 k_ e_).1));have n3_:=am ((show Kd.C (Kd.int .i64) w23 (some ad197) y202.length y202 from by rw[Ny202.out];exact Kd.C_take (m:=(x5_1:Int).toNat) ((Kd.R_reads' (Kd.R_after (ok:=(fun k_=>(P0_ k_∨w.heap.size≤k_))) (rup HO_0.out) hg hat)).2.2) KL19.out));have n4_:=am ((show Kd.C (Kd.int .i64) w23 A22 y212.length y212 from by rw[Ny212.out,KA22.out];exact Kd.C_drop (m:=(x5_1:Int).toNat) (c:=co16) ((Kd.R_reads' (Kd.R_after (ok:=(fun k_=>(P0_ k_∨w.heap.size≤k_))) (rup HO_0.out) hg hat)).2.2) KL22.out ((Kd.R_reads' (Kd.R_after (ok:=(fun k_=>(P0_ k_∨w.heap.size≤k_))) (rup HO_0.out) hg hat)).2.1)));have n5_:=am (ho);clear HO_0 HB HK HR205 HR215 HO211;have HO_0:=n0_;have HB:=n1_;have HK:=n2_;have HR205:=n3_;have HR215:=n4_;have HO218:=n5_;clear n0_ n1_ n2_ n3_ n4_ n5_ ho hb hg hat))
           go_ret
           exact⟨_,fin1,rup (Kd.R_mono HO218.out (fun _ hk=>hk.1)),by repeat(first|(with_reducible first|exact HB.out|apply below_alloc|apply pw_below_drewN|apply below_drew1)|exact HB.out),by repeat(first|(with_reducible first|exact HK.out|apply Kept.alloc|apply Kept.drewN|apply Kept.drew)|exact HK.out)⟩
          ·rw[if_neg c15] at H
           exact absurd H (by simp)
         ·rw[if_neg c12] at H
          exact absurd H (by simp)
        ·rw[if_neg c11] at H
         exact absurd H (by simp)
       ·rw[if_neg c10] at H
        exact absurd H (by simp)
    ·rw[if_neg c4] at H
     exact absurd H (by simp)
   ·rw[if_neg c3] at H
    have c3b0:decide (x5_1<(l0.length:Int))=false:=decide_eq_false c3
    clear c3
    obtain⟨y219,hy219⟩:∃ y_:List Int,y_=(([]:List Int)):=⟨_,rfl⟩
    replace H:(if 0≤x5_1 then(if x5_1≤(l0.length:Int) then((some (l0.take (x5_1:Int).toNat:List Int)).bind fun y222=>(if y219.length+y222.length<17592186044416 then((some (y219 ++ y222:List Int)).bind fun y226=>(if y226.length<17592186044416 then((some (y226 ++ [a1]:List Int)).bind fun y229=>((some (l0.drop (x5_1:Int).toNat:List Int)).bind fun y232=>(if y229.length+y232.length<17592186044416 then(some (y229 ++ y232)) else(none)))) else(none))) else(none))) else(none)) else(none))=some r:=by first|(rw[hy219];with_reducible exact H)|(have H2_:=(Option.bind_some _ _).symm.trans H;rw[hy219];with_reducible exact H2_)|(have H2_:=(Option.bind_some _ _).symm.trans H;with_reducible exact H2_)|with_reducible exact H|(rw[hy219];exact H)|exact H
    have Ny219:=am hy219
    clear hy219
    by_cases c24:0≤x5_1
    ·rw[if_pos c24] at H
     have c24b0:=eq_true c24
     have c24b1:decide (0≤x5_1)=true:=decide_eq_true c24
     clear c24
     by_cases c25:x5_1≤(l0.length:Int)
     ·rw[if_pos c25] at H
      have c25b0:=eq_true c25
      have c25b1:decide (x5_1≤(l0.length:Int))=true:=decide_eq_true c25
      clear c25
      obtain⟨y222,hy222⟩:∃ y_:List Int,y_=(l0.take (x5_1:Int).toNat):=⟨_,rfl⟩
      replace H:(if y219.length+y222.length<17592186044416 then((some (y219 ++ y222:List Int)).bind fun y226=>(if y226.length<17592186044416 then((some (y226 ++ [a1]:List Int)).bind fun y229=>((some (l0.drop (x5_1:Int).toNat:List Int)).bind fun y232=>(if y229.length+y232.length<17592186044416 then(some (y229 ++ y232)) else(none)))) else(none))) else(none))=some r:=by first|(rw[hy222];with_reducible exact H)|(have H2_:=(Option.bind_some _ _).symm.trans H;rw[hy222];with_reducible exact H2_)|(have H2_:=(Option.bind_some _ _).symm.trans H;with_reducible exact H2_)|with_reducible exact H|(rw[hy222];exact H)|exact H
      have Ny222:=am hy222
      clear hy222
      by_cases c26:y219.length+y222.length<17592186044416
      ·rw[if_pos c26] at H
       have LMc26:=am c26
       clear c26
       obtain⟨y226,hy226⟩:∃ y_:List Int,y_=(y219 ++ y222):=⟨_,rfl⟩
       replace H:(if y226.length<17592186044416 then((some (y226 ++ [a1]:List Int)).bind fun y229=>((some (l0.drop (x5_1:Int).toNat:List Int)).bind fun y232=>(if y229.length+y232.length<17592186044416 then(some (y229 ++ y232)) else(none)))) else(none))=some r:=by first|(rw[hy226];with_reducible exact H)|(have H2_:=(Option.bind_some _ _).symm.trans H;rw[hy226];with_reducible exact H2_)|(have H2_:=(Option.bind_some _ _).symm.trans H;with_reducible exact H2_)|with_reducible exact H|(rw[hy226];exact H)|exact H
       have Ny226:=am hy226
       clear hy226
       by_cases c27:y226.length<17592186044416
       ·rw[if_pos c27] at H
        have LMc27:=am c27
        clear c27
        obtain⟨y229,hy229⟩:∃ y_:List Int,y_=(y226 ++ [a1]):=⟨_,rfl⟩
        replace H:((some (l0.drop (x5_1:Int).toNat:List Int)).bind fun y232=>(if y229.length+y232.length<17592186044416 then(some (y229 ++ y232)) else(none)))=some r:=by first|(rw[hy229];with_reducible exact H)|(have H2_:=(Option.bind_some _ _).symm.trans H;rw[hy229];with_reducible exact H2_)|(have H2_:=(Option.bind_some _ _).symm.trans H;with_reducible exact H2_)|with_reducible exact H|(rw[hy229];exact H)|exact H
        have Ny229:=am hy229
        clear hy229
        have c28b0:=eq_true (od:0≤x5_1)
        have c29b0:=eq_true (od:x5_1≤(l0.length:Int))
        obtain⟨y232,hy232⟩:∃ y_:List Int,y_=(l0.drop (x5_1:Int).toNat):=⟨_,rfl⟩
        replace H:(if y229.length+y232.length<17592186044416 then(some (y229 ++ y232)) else(none))=some r:=by first|(rw[hy232];with_reducible exact H)|(have H2_:=(Option.bind_some _ _).symm.trans H;rw[hy232];with_reducible exact H2_)|(have H2_:=(Option.bind_some _ _).symm.trans H;with_reducible exact H2_)|with_reducible exact H|(rw[hy232];exact H)|exact H
        have Ny232:=am hy232
        clear hy232
        by_cases c30:y229.length+y232.length<17592186044416
        ·rw[if_pos c30] at H
         have LMc30:=am c30
         clear c30
         obtain⟨y236,hy236⟩:∃ y_:List Int,y_=(y229 ++ y232):=⟨_,rfl⟩
         replace H:(some y236)=some r:=by first|(rw[hy236];with_reducible exact H)|(have H2_:=(Option.bind_some _ _).symm.trans H;rw[hy236];with_reducible exact H2_)|(have H2_:=(Option.bind_some _ _).symm.trans H;with_reducible exact H2_)|with_reducible exact H|(rw[hy236];exact H)|exact H
         have Ny236:=am hy236
         clear hy236
         obtain rfl:=Option.some.inj H
         obtain⟨Ao31,co31,eo31⟩:=Kd.R_slice HO_0.out
         subst eo31
         go_wp2_with (first|((with_reducible refine gate_dst (N:=34) rfl ?_);refine Kd.R_lit (Kd.int .i64) _ 3 ?hg (N:=34) ?hd (xs:=([]:List Int)) (inner:=[]) (ok:=fun _=>True) (okp:=fun _=>True) ?hr ?hp (fun _ hk=>hk) trivial (Below.refl _ _) (Nat.le_refl _) (by simp) ?_;(case hd=>rfl);(case hg=>rfl);(case hr=>first|(go_simp;done)|(go_simp;rfl));(case hp=>exact(Reps.none _ _));intro v220 w32 ho33 hb hg_ hnew_;clear hg_ hnew_;(first|rw[← Ny219.out] at ho33|(simp only[Int.reduceToNat] at ho33;rw[← Ny219.out] at ho33));have n0_:=am (Kd.R_elder' (rup HO_0.out) (Kd.R_base ho33) hb);have n1_:=am (Kd.R_lower (Kd.R_new' (Kd.R_newM (M:=fun k_=>(P0_ k_∨w.heap.size≤k_)) ho33 (by first|exact HK.out.1|exact(show Kept w _ (fun k_=>P0_ k_) from by repeat(first|(with_reducible first|exact HK.out|apply Kept.alloc|apply Kept.drewN|apply Kept.drew)|exact HK.out)).1) (fun k_ h_ => .inr h_)) (Kd.R_lt (rup HO_0.out))) (below_size bl));have n2_:=am (Kept.below (S:=(fun k_=>P0_ k_)) (by repeat(first|(with_reducible first|exact HK.out|apply Kept.alloc|apply Kept.drewN|apply Kept.drew)|exact HK.out)) hb);have n3_:=am (below_step bl hb);clear HO_0 HK HB;have HO_0:=n0_;have HO221:=n1_;have HK:=n2_;have HB:=n3_;clear n0_ n1_ n2_ n3_ hb ho33;have q34:(x5_1:Int)≤((l0.length:Int):Int):=od;obtain⟨i034,hi034,_,hsz34,_⟩:=info_parts info3;have hroom34:l0.length≤co31:=(Kd.R_reads' HO_0.out).2.1;have hC34:Kd.C (Kd.int .i64) _ Ao31 l0.length l0:=(Kd.R_reads' HO_0.out).2.2;have hcut34:=cut_to (P:=Try.prog) 24 3 .i64 Try.underlying24 hi034 Ao31 l0.length co31 x5_1 (od) q34 hroom34;have hr34:=Kd.C_take (m:=(x5_1:Int).toNat) hC34 (by omega);have hy34:y222.length=(x5_1:Int).toNat:=(by rw[Ny222.out,List.length_take];omega);rw[← Ny222.out] at hr34;rw[← hy34] at hcut34;have HR225:=am hr34;have HC225:=am (show y222.length≤co31 from by omega);clear hr34 hC34 hroom34 hi034 hsz34;have KY34:=am hy34;clear hy34;have KL34:=am (show(x5_1:Int).toNat≤l0.length from by omega);replace q34:=eq_true q34)|((with_reducible refine gate_builtin (b := .append) (xs := #[.tmp 34,.tmp 37]) rfl ?_);at_builtin;refine Kd.R_append_rows (Kd.int .i64) (w0:=w0) w0.heap.size rfl (.tmp 34) (.tmp 37) 24 3 (.int .i64 0) 8 rfl Try.underlying24 info3 rfl (by decide) (by omega) v220 y219 y222 _ _ _ (fun k_=>(P0_ k_∨w.heap.size≤k_)∧some k_≠(.slice Ao31 l0.length co31:Value).ownBlock) (fun _=>False) rfl rfl ?aO ?aR (fun _ _ h=>h) (fun _ h=>h.elim) ?aF ?aB ?aS ?aL ?_;(case aR=>repeat(first|exact(by repeat(first|(with_reducible exact HR225.out)|(with_reducible refine Kd.C_alloc ?_ _)|(with_reducible refine Kd.C_drewN ?_ _)|(with_reducible refine Kd.C_drew ?_)|exact HR225.out))|(with_reducible refine Kd.C_alloc ?_ _)|(with_reducible refine Kd.C_drewN ?_ _)|(with_reducible refine Kd.C_drew ?_)));(case aB=>exact bl);(case aF=>exact(fun k_ hk=>⟨(.inr (Nat.le_trans (by first|exact HK.out.1|exact(show Kept w _ (fun k_=>P0_ k_) from by repeat(first|(with_reducible first|exact HK.out|apply Kept.alloc|apply Kept.drewN|apply Kept.drew)|exact HK.out)).1) hk)),Kd.fresh' (Kd.R_lt (rup HO_0.out)) k_ hk⟩));(case aO=>exact(rup (Kd.R_mono HO221.out (fun _ hk=>⟨hk.1.1,hk.2⟩))));(case aS=>exact(below_size bl));(case aL=>have:=LMc26.out;omega);intro v227 w35 ho hb hg hat;rw[← Ny226.out] at ho;have n0_:=am (Kd.R_after (ok:=(fun k_=>(P0_ k_∨w.heap.size≤k_))) (rup HO_0.out) hg hat);have n1_:=am (hb);have n2_:=am (Kept.of_grown (S:=(fun k_=>P0_ k_)) hg (by repeat(first|(with_reducible first|exact HK.out|apply Kept.alloc|apply Kept.drewN|apply Kept.drew)|exact HK.out)) (fun k_ e_=>(HO221.out.1 k_ e_).1.1));have n3_:=am ((show Kd.C (Kd.int .i64) w35 Ao31 y222.length y222 from by rw[Ny222.out];exact Kd.C_take (m:=(x5_1:Int).toNat) ((Kd.R_reads' (Kd.R_after (ok:=(fun k_=>(P0_ k_∨w.heap.size≤k_))) (rup HO_0.out) hg hat)).2.2) KL34.out));have n4_:=am (ho);clear HO_0 HB HK HR225 HO221;have HO_0:=n0_;have HB:=n1_;have HK:=n2_;have HR225:=n3_;have HO228:=n4_;clear n0_ n1_ n2_ n3_ n4_ ho hb hg hat)|((with_reducible refine gate_builtin (b := .append) (xs := #[.tmp 39,.tmp 41]) rfl ?_);at_builtin;refine Kd.R_append (Kd.int .i64) (w0:=w0) w0.heap.size rfl (.tmp 39) (.tmp 41) 24 3 (.int .i64 0) 8 rfl Try.underlying24 info3 rfl (by decide) (by omega) v227 y226 a1 [.int .i64 a1] (fun k_=>(P0_ k_∨w.heap.size≤k_)∧some k_≠(.slice Ao31 l0.length co31:Value).ownBlock) (fun _=>False) rfl rfl ?aP (fun _ hk=>hk.elim) ?aF ?aO ?aB ?aS ?aL ?_;(case aP=>exact rfl);(case aB=>exact bl);(case aF=>exact(fun k_ hk=>⟨(.inr (Nat.le_trans (by first|exact HK.out.1|exact(show Kept w _ (fun k_=>P0_ k_) from by repeat(first|(with_reducible first|exact HK.out|apply Kept.alloc|apply Kept.drewN|apply Kept.drew)|exact HK.out)).1) hk)),Kd.fresh' (Kd.R_lt (rup HO_0.out)) k_ hk⟩));(case aO=>exact(rup HO228.out));(case aS=>exact(below_size bl));(case aL=>have:=LMc27.out;omega);intro v230 w36 ho hb hg hat;rw[← Ny229.out] at ho;have n0_:=am (Kd.R_after (ok:=(fun k_=>(P0_ k_∨w.heap.size≤k_))) (rup HO_0.out) hg hat);have n1_:=am (hb);have n2_:=am (Kept.of_grown (S:=(fun k_=>P0_ k_)) hg (by repeat(first|(with_reducible first|exact HK.out|apply Kept.alloc|apply Kept.drewN|apply Kept.drew)|exact HK.out)) (fun k_ e_=>(HO228.out.1 k_ e_).1));have n3_:=am ((show Kd.C (Kd.int .i64) w36 Ao31 y222.length y222 from by rw[Ny222.out];exact Kd.C_take (m:=(x5_1:Int).toNat) ((Kd.R_reads' (Kd.R_after (ok:=(fun k_=>(P0_ k_∨w.heap.size≤k_))) (rup HO_0.out) hg hat)).2.2) KL34.out));have n4_:=am (ho);clear HO_0 HB HK HR225 HO228;have HO_0:=n0_;have HB:=n1_;have HK:=n2_;have HR225:=n3_;have HO231:=n4_;clear n0_ n1_ n2_ n3_ n4_ ho hb hg hat;have q37:(x5_1:Int)≤((l0.length:Int):Int):=od;obtain⟨i037,hi037,_,hsz37,_⟩:=info_parts info3;have hroom37:l0.length≤co31:=(Kd.R_reads' HO_0.out).2.1;have hC37:Kd.C (Kd.int .i64) _ Ao31 l0.length l0:=(Kd.R_reads' HO_0.out).2.2;have q037:(0:Int)≤(x5_1:Int):=od;have hcut37:=cut_from (P:=Try.prog) 24 3 .i64 Try.underlying24 hi037 1 hsz37 Ao31 l0.length co31 x5_1 q037 q37;have hr37:=Kd.C_drop (m:=(x5_1:Int).toNat) (c:=co31) hC37 (by omega) hroom37;obtain⟨A37,hA37⟩:∃ A1,A1=(if co31=(x5_1:Int).toNat then Ao31 else(Ao31:Option Addr).map (·.add ((x5_1:Int).toNat*1))):=⟨_,rfl⟩;obtain⟨c37,hc37⟩:∃ c1,c1=co31 - (x5_1:Int).toNat:=⟨_,rfl⟩;have hy37:y232.length=l0.length - (x5_1:Int).toNat:=(by rw[Ny232.out,List.length_drop]<;>omega);rw[show(l0).drop (x5_1:Int).toNat=y232 from Ny232.out.symm] at hr37;replace hr37:Kd.C (Kd.int .i64) _ A37 y232.length y232:=(by rw[hA37];exact hr37);rw[← hy37,← hA37,← hc37] at hcut37;have HR235:=am hr37;have HC235:=am (show y232.length≤c37 from by rw[hy37,hc37];exact Nat.sub_le_sub_right hroom37 _);clear hr37 hC37 hroom37 hi037 hsz37 hc37;have KY37:=am hy37;have KA37:=am hA37;clear hy37 hA37;have KL37:=am (show(x5_1:Int).toNat≤l0.length from by omega);replace q37:=eq_true q37)|((with_reducible refine gate_builtin (b := .append) (xs := #[.tmp 43,.tmp 46]) rfl ?_);at_builtin;refine Kd.R_append_rows (Kd.int .i64) (w0:=w0) w0.heap.size rfl (.tmp 43) (.tmp 46) 24 3 (.int .i64 0) 8 rfl Try.underlying24 info3 rfl (by decide) (by omega) v230 y229 y232 _ _ _ (fun k_=>(P0_ k_∨w.heap.size≤k_)∧some k_≠(.slice Ao31 l0.length co31:Value).ownBlock) (fun _=>False) rfl rfl ?aO ?aR (fun _ _ h=>h) (fun _ h=>h.elim) ?aF ?aB ?aS ?aL ?_;(case aR=>repeat(first|exact(by repeat(first|(with_reducible exact HR235.out)|(with_reducible refine Kd.C_alloc ?_ _)|(with_reducible refine Kd.C_drewN ?_ _)|(with_reducible refine Kd.C_drew ?_)|exact HR235.out))|(with_reducible refine Kd.C_alloc ?_ _)|(with_reducible refine Kd.C_drewN ?_ _)|(with_reducible refine Kd.C_drew ?_)));(case aB=>exact bl);(case aF=>exact(fun k_ hk=>⟨(.inr (Nat.le_trans (by first|exact HK.out.1|exact(show Kept w _ (fun k_=>P0_ k_) from by repeat(first|(with_reducible first|exact HK.out|apply Kept.alloc|apply Kept.drewN|apply Kept.drew)|exact HK.out)).1) hk)),Kd.fresh' (Kd.R_lt (rup HO_0.out)) k_ hk⟩));(case aO=>exact(rup HO231.out));(case aS=>exact(below_size bl));(case aL=>have:=LMc30.out;omega);intro v237 w38 ho hb hg hat;rw[← Ny236.out] at ho;have n0_:=am (Kd.R_after (ok:=(fun k_=>(P0_ k_∨w.heap.size≤k_))) (rup HO_0.out) hg hat);have n1_:=am (hb);have n2_:=am (Kept.of_grown (S:=(fun k_=>P0_ k_)) hg (by repeat(first|(with_reducible first|exact HK.out|apply Kept.alloc|apply Kept.drewN|apply Kept.drew)|exact HK.out)) (fun k_ e_=>(HO231.out.1 k_ e_).1));have n3_:=am ((show Kd.C (Kd.int .i64) w38 Ao31 y222.length y222 from by rw[Ny222.out];exact Kd.C_take (m:=(x5_1:Int).toNat) ((Kd.R_reads' (Kd.R_after (ok:=(fun k_=>(P0_ k_∨w.heap.size≤k_))) (rup HO_0.out) hg hat)).2.2) KL34.out));have n4_:=am ((show Kd.C (Kd.int .i64) w38 A37 y232.length y232 from by rw[Ny232.out,KA37.out];exact Kd.C_drop (m:=(x5_1:Int).toNat) (c:=co31) ((Kd.R_reads' (Kd.R_after (ok:=(fun k_=>(P0_ k_∨w.heap.size≤k_))) (rup HO_0.out) hg hat)).2.2) KL37.out ((Kd.R_reads' (Kd.R_after (ok:=(fun k_=>(P0_ k_∨w.heap.size≤k_))) (rup HO_0.out) hg hat)).2.1)));have n5_:=am (ho);clear HO_0 HB HK HR225 HR235 HO231;have HO_0:=n0_;have HB:=n1_;have HK:=n2_;have HR225:=n3_;have HR235:=n4_;have HO238:=n5_;clear n0_ n1_ n2_ n3_ n4_ n5_ ho hb hg hat))
         go_ret
         exact⟨_,fin1,rup (Kd.R_mono HO238.out (fun _ hk=>hk.1)),by repeat(first|(with_reducible first|exact HB.out|apply below_alloc|apply pw_below_drewN|apply below_drew1)|exact HB.out),by repeat(first|(with_reducible first|exact HK.out|apply Kept.alloc|apply Kept.drewN|apply Kept.drew)|exact HK.out)⟩
        ·rw[if_neg c30] at H
         exact absurd H (by simp)
       ·rw[if_neg c27] at H
        exact absurd H (by simp)
      ·rw[if_neg c26] at H
       exact absurd H (by simp)
     ·rw[if_neg c25] at H
      exact absurd H (by simp)
    ·rw[if_neg c24] at H
     exact absurd H (by simp)

/-! ### spec_drTurn: function 26 -/
def spec_drTurn.l0:Nat→Int→List Int→Int→Int→Int→List Int→Int→List Int→Option (Int×List Int)
 | 0,_,_,_,_,_,_,_,_=>none
 | k+1,x1,x12,x13,x14,x240000,x240001,x242000,x242001=>if x14<x13 then(if 0≤x14 then(if x14<(x12.length:Int) then(if x240000=0 then(none) else((spec_l1Put.f k x242001 (Int.tmod (wrap64 ((rd x12 x14)+x1)) x240000)).bind fun t243=>(spec_drTurn.l0 k x1 x12 x13 (wrap64 (x14+1)) x240000 x240001 x242000 t243))) else(none)) else(none)) else(some (x242000,x242001))
def spec_drTurn.f (k:Nat) (a0_0:Int) (l0_1:List Int) (a1:Int):Option (Int×List Int):=spec_drTurn.l0 k a1 l0_1 (l0_1.length:Int) 0 a0_0 l0_1 a0_0 ([]:List Int)
def spec_drTurn.T5:Bool×List (List Nat×List Nat):=(true,[([],[]),([0],[0]),([],[]),([],[]),([2,3],[2,3]),([],[]),([5],[5]),([4,6],[4,6]),([1,7],[1,7]),([0,1,2,3,4,5,6,7,8],[]),([9,8,8,0,1,2,3,4,5,6,7,8],[8,9])])
def spec_drTurn.B5:List Nat:=[0,1,0,0,12,0,32,124,255,511,1023]
theorem spec_drTurn.tab5:rtab .any (opsOf Try.f26 5)=spec_drTurn.T5:=by kernel_rfl
theorem spec_drTurn.bits5:waitsOk spec_drTurn.T5.2 spec_drTurn.B5=true:=by kernel_rfl
set_option maxHeartbeats 8000000 in
set_option maxRecDepth 100000 in
theorem spec_drTurn.calls (k:Nat) (a0_0:Int) (A0_1:Option Addr) (c0_1:Nat) (l0_1:List Int) (a1:Int) (r1:Int) (r2:List Int) (w:World) (hr0_1:Kd.C (Kd.int .i64) w A0_1 l0_1.length l0_1) (hc0_1:l0_1.length≤c0_1) (h:spec_drTurn.f k a0_0 l0_1 a1=some (r1,r2)) :
  Calls Try.prog 26 #[.agg #[.int .i64 a0_0,.slice A0_1 l0_1.length c0_1],.int .i64 a1] w fun e w'=>∃ v1_:Value,e = .returned (.agg #[.int .i64 r1,v1_])∧Kd.R (Kd.int .i64) 3 w' w.heap.size (fun _=>True) v1_ r2∧Below w.heap.size w w':=by
 have hu26:=Try.underlying26
 have HR0_1:=am hr0_1
 have HC0_1:=am hc0_1
 clear hr0_1 hc0_1
 have HB:=am (Below.refl w.heap.size w)
 have H:(spec_drTurn.l0 k a1 l0_1 (l0_1.length:Int) 0 a0_0 l0_1 a0_0 ([]:List Int))=some (r1,r2):=h
 clear h
 have H':=am H
 clear H
 go_enter Try.func26,Try.ntmps26
 go_wp2_with (first|((with_reducible refine gate_dst (N:=2) rfl ?_);refine box_event ?hg (N:=2) ?hd (cs := #[.int .i64 a0_0,.slice A0_1 l0_1.length c0_1]) (t:=26) ?hr ?_;(case hd=>rfl);(case hg=>rfl);(case hr=>first|(go_simp;done)|(go_simp;rfl));intro gb239 hg w3 hbox hb;have n0_:=am (below_step bl hb);have n1_:=am (hbox);have n2_:=am (ge_ bl hg);have n3_:=am (ge_ bl hg);clear HB;have HB:=n0_;have BK239:=n1_;have GW239:=n2_;have GE239:=n3_;clear n0_ n1_ n2_ n3_ hb hbox hg)|((with_reducible refine gate_dst (N:=4) rfl ?_);refine box_event ?hg (N:=4) ?hd (cs := #[.int .i64 0,.slice none 0 0]) (t:=26) ?hr ?_;(case hd=>rfl);(case hg=>rfl);(case hr=>first|(go_simp;done)|(go_simp;rfl));intro gb240 hg w4 hbox hb;have n0_:=am (blk_below (bup BK239.out) hb);have n1_:=am (below_step bl hb);have n2_:=am (hbox);have n3_:=am (ge_ bl hg);have n4_:=am (ge_ bl hg);have n5_:=am (nl (bup BK239.out) hg);have n6_:=am (ng (bup BK239.out) hg);clear BK239 HB;have BK239:=n0_;have HB:=n1_;have BK240:=n2_;have GW240:=n3_;have GE240:=n4_;have NB239_240:=n5_;have NB240_239:=n6_;clear n0_ n1_ n2_ n3_ n4_ n5_ n6_ hb hbox hg;have hnb5:=NB239_240.out;have hnc5:=NB240_239.out;have hcz6_0:w4.cell? ⟨gb239,0,none⟩=some (.int .i64 a0_0):=(blk_cell BK239.out 0).trans rfl;have hcz6_1:w4.cell? ⟨gb239,1,none⟩=some (.slice A0_1 l0_1.length c0_1):=(blk_cell BK239.out 1).trans rfl;have hfz6_0:=blk_frozen BK239.out 0;have hfz6_1:=blk_frozen BK239.out 1)|((with_reducible refine gate_dst (N:=5) rfl ?_);refine box_event ?hg (N:=5) ?hd (cs := #[.int .i64 0,.slice none 0 0]) (t:=26) ?hr ?_;(case hd=>rfl);(case hg=>rfl);(case hr=>first|(go_simp;done)|(go_simp;rfl));intro gb241 hg w7 hbox hb;have n0_:=am (blk_below (bup BK239.out) hb);have n1_:=am (blk_below (bup BK240.out) hb);have n2_:=am (below_step bl hb);have n3_:=am (hbox);have n4_:=am (ge_ bl hg);have n5_:=am (ge_ bl hg);have n6_:=am (nl (bup BK239.out) hg);have n7_:=am (ng (bup BK239.out) hg);have n8_:=am (nl (bup BK240.out) hg);have n9_:=am (ng (bup BK240.out) hg);clear BK239 BK240 HB;have BK239:=n0_;have BK240:=n1_;have HB:=n2_;have BK241:=n3_;have GW241:=n4_;have GE241:=n5_;have NB239_241:=n6_;have NB241_239:=n7_;have NB240_241:=n8_;have NB241_240:=n9_;clear n0_ n1_ n2_ n3_ n4_ n5_ n6_ n7_ n8_ n9_ hb hbox hg;have hnb8:=NB241_239.out;have hnc8:=NB239_241.out;have hnb9:=NB241_240.out;have hnc9:=NB240_241.out;have hcz10_0:w7.cell? ⟨gb241,0,none⟩=some (.int .i64 0):=(blk_cell BK241.out 0).trans rfl;have hcz10_1:w7.cell? ⟨gb241,1,none⟩=some (.slice none 0 0):=(blk_cell BK241.out 1).trans rfl;have hfz10_0:=blk_frozen BK241.out 0;have hfz10_1:=blk_frozen BK241.out 1;have hcz11_0:w7.cell? ⟨gb239,0,none⟩=some (.int .i64 a0_0):=(blk_cell BK239.out 0).trans rfl;have hcz11_1:w7.cell? ⟨gb239,1,none⟩=some (.slice A0_1 l0_1.length c0_1):=(blk_cell BK239.out 1).trans rfl;have hfz11_0:=blk_frozen BK239.out 0;have hfz11_1:=blk_frozen BK239.out 1))
 go_loopg [14] k (fun kq v14 w'=>∃(x14_1:Int) (x242001_1:List Int) (u242001:Value),v14 = .int .i64 x14_1∧Aside0 (spec_drTurn.l0 kq a1 l0_1 (l0_1.length:Int) x14_1 a0_0 l0_1 a0_0 x242001_1=some (r1,r2))∧Aside0 (kq≤k)∧Aside0 (Kd.R (Kd.int .i64) 3 w' w.heap.size (fun _=>True) u242001 x242001_1)∧Aside0 (w'.heap[gb239]?=some (.cells #[.int .i64 a0_0,(.slice A0_1 l0_1.length c0_1)] 26 (0,0)))∧Aside0 (w'.heap[gb240]?=some (.cells #[.int .i64 0,(.slice none 0 0)] 26 (0,0)))∧Aside0 (w'.heap[gb241]?=some (.cells #[.int .i64 a0_0,u242001] 26 (0,0)))∧Aside0 (Below w.heap.size w w'))
 case atStart=>exact⟨(0),(([]:List Int)),(.slice none 0 0),fin2,H',⟨Nat.le_refl _⟩,⟨by first|exact Kd.R_nil _ _ _ _ _|exact Kd.N_nil _ _ _ _ _|exact Kd.V_nil _ _ _ _ _|exact Kd.Q_nil _ _ _ _ _|exact Kd.S_nil _ _ _ _ _⟩,⟨by(with_reducible repeat(first|refine bN_ ?_ _|refine bD_ ?_|refine bA_ ?_ _));refine blk_far ?_ NB239_241.out _;(with_reducible repeat(first|refine bN_ ?_ _|refine bD_ ?_|refine bA_ ?_ _));refine blk_far ?_ NB239_241.out _;exact bup BK239.out⟩,⟨by(with_reducible repeat(first|refine bN_ ?_ _|refine bD_ ?_|refine bA_ ?_ _));refine blk_far ?_ NB240_241.out _;(with_reducible repeat(first|refine bN_ ?_ _|refine bD_ ?_|refine bA_ ?_ _));refine blk_far ?_ NB240_241.out _;exact bup BK240.out⟩,⟨by(with_reducible repeat(first|refine bN_ ?_ _|refine bD_ ?_|refine bA_ ?_ _));refine blk_put (cs := #[.int .i64 a0_0,.slice none 0 0]) ?_ 1 _ rfl;(with_reducible repeat(first|refine bN_ ?_ _|refine bD_ ?_|refine bA_ ?_ _));refine blk_put (cs := #[.int .i64 0,.slice none 0 0]) ?_ 0 _ rfl;exact bup BK241.out⟩,⟨bl⟩⟩
 case round =>
  clear H'
  try clear c2
  try clear p2
  try clear c5
  try clear c8
  try clear c9
  try clear hcz10_0
  try clear hcz10_1
  try clear hcz11_0
  try clear hcz11_1
  try clear hcz6_0
  try clear hcz6_1
  try clear hfz10_0
  try clear hfz10_1
  try clear hfz11_0
  try clear hfz11_1
  try clear hfz6_0
  try clear hfz6_1
  obtain⟨x14_1,x242001_1,u242001,rfl,HA,HK1,HO_242001,BK239,BK240,BK241,HB⟩:=hrel
  cases gk with
  | zero=>exact absurd HA.out (by simp [spec_drTurn.l0])
  | succ k1 =>
   have H:=HA.out
   clear HA
   simp only[spec_drTurn.l0] at H
   by_cases c12:x14_1<(l0_1.length:Int)
   ·rw[if_pos c12] at H
    have c12b0:decide (x14_1<(l0_1.length:Int))=true:=decide_eq_true c12
    clear c12
    by_cases c13:0≤x14_1
    ·rw[if_pos c13] at H
     have c13b0:decide (0≤x14_1)=true:=decide_eq_true c13
     clear c13
     by_cases c14:x14_1<(l0_1.length:Int)
     ·rw[if_pos c14] at H
      have c14b0:decide (x14_1<(l0_1.length:Int))=true:=decide_eq_true c14
      clear c14
      by_cases c15:a0_0=0
      ·rw[if_pos c15] at H
       exact absurd H (by simp)
      ·rw[if_neg c15] at H
       have c15b0:(a0_0 == 0)=false:=beq_eq_false_iff_ne.mpr c15
       have c15b1:(a0_0 != 0)=true:=bne_iff_ne.mpr c15
       replace H:=Option.bind_eq_some_iff.mp H
       obtain⟨t243,A160,H⟩:=H
       replace H:(spec_drTurn.l0 k1 a1 l0_1 (l0_1.length:Int) (wrap64 (x14_1+1)) a0_0 l0_1 a0_0 t243)=some (r1,r2):=H
       have A16:=am A160
       clear A160
       have H':=am H
       clear H
       have p242:0≤(x14_1:Int):=od
       have q242:x14_1<(l0_1.length:Int):=od
       obtain⟨ad242,e242,hx242_0⟩:=Kd.at_int HR0_1.out x14_1 p242 q242
       cases e242
       replace hx242_0:=(HB.out.cell (World.block_lt_of_cell? w _ hx242_0)).trans hx242_0
       replace p242:=eq_true p242
       replace q242:=eq_true q242
       try go_wp2
       have n0_:=am (Kd.R_drew HO_242001.out)
       have n1_:=am (bD_ BK239.out)
       have n2_:=am (bD_ BK240.out)
       have n3_:=am (bD_ BK241.out)
       have n4_:=am (below_drew1 HB.out)
       clear HO_242001
       clear BK239
       clear BK240
       clear BK241
       clear HB
       have HO_242001:=n0_
       have BK239:=n1_
       have BK240:=n2_
       have BK241:=n3_
       have HB:=n4_
       clear n0_ n1_ n2_ n3_ n4_
       obtain⟨Ao18,co18,eo18⟩:=Kd.R_slice HO_242001.out
       (first|subst eo18|(injection eo18 with f1_ f2_ f3_;have f4_:=f1_.symm;have f5_:=f3_.symm;clear f1_ f2_ f3_;subst f4_;subst f5_))
       refine start_ (n:=11) (S:=fun w'=>w'.cell? ⟨gb241,0,none⟩=some (.int .i64 a0_0)∧w'.cell? ⟨gb241,1,none⟩=some (.slice Ao18 x242001_1.length co18)∧w'.cell? ⟨gb239,0,none⟩=some (.int .i64 a0_0)∧w'.cell? ⟨gb239,1,none⟩=some (.slice (some ad242) l0_1.length c0_1)) (ds:=[10]) #[false,false,false,false,false,false,false,false,false,false,false] (by kernel_rfl) rfl rfl ⟨(blk_cell BK241.out 0).trans rfl,(blk_cell BK241.out 1).trans rfl,(blk_cell BK239.out 0).trans rfl,(blk_cell BK239.out 1).trans rfl⟩ (fun hHeld=>?_);refine with_tabW spec_drTurn.tab5 spec_drTurn.bits5 (fun HT_ HW_=>?_)
       generalize wr.drew=w17 at HO_242001 BK239 BK240 BK241 HB hHeld ⊢
       refine pure_ (i:=0) (N:=some 18) (v:=?_) (a':=?_) #[true,false,false,false,false,false,false,false,false,false,false] rfl rfl (any_of HT_.out (by kernel_rfl)) (fun _ _ _ h=>h) (Or.inl ⟨by rfl,?_⟩) ?_ ?_
       rotate_left
       ·intro w'
        go_simp
        with_reducible rfl
       rotate_left
       ·simp only[Act.put,List.setIfInBounds_toArray,List.set_cons_zero,List.set_cons_succ,i64_w,i32_w]
        rfl
       refine pure_ (i:=2) (N:=some 20) (v:=?_) (a':=?_) #[true,false,true,false,false,false,false,false,false,false,false] rfl rfl (any_of HT_.out (by kernel_rfl)) (fun _ _ _ h=>h) (Or.inl ⟨by rfl,?_⟩) ?_ ?_
       rotate_left
       ·intro w'
        go_simp
        with_reducible rfl
       rotate_left
       ·simp only[Act.put,List.setIfInBounds_toArray,List.set_cons_zero,List.set_cons_succ,i64_w,i32_w]
        rfl
       refine pure_ (i:=3) (N:=some 21) (v:=?_) (a':=?_) #[true,false,true,true,false,false,false,false,false,false,false] rfl rfl (any_of HT_.out (by kernel_rfl)) (fun _ _ _ h=>h) (Or.inl ⟨by rfl,?_⟩) ?_ ?_
       rotate_left
       ·intro w'
        go_simp
        with_reducible rfl
       rotate_left
       ·simp only[Act.put,List.setIfInBounds_toArray,List.set_cons_zero,List.set_cons_succ,i64_w,i32_w]
        rfl
       refine pure_ (i:=4) (N:=some 22) (v:=?_) (a':=?_) #[true,false,true,true,true,false,false,false,false,false,false] rfl rfl (any_of HT_.out (by kernel_rfl)) (fun _ _ _ h=>h) (Or.inl ⟨by rfl,?_⟩) ?_ ?_
       rotate_left
       ·intro w'
        go_simp
        with_reducible rfl
       rotate_left
       ·simp only[Act.put,List.setIfInBounds_toArray,List.set_cons_zero,List.set_cons_succ,i64_w,i32_w]
        rfl
       refine pure_ (i:=5) (N:=some 23) (v:=?_) (a':=?_) #[true,false,true,true,true,true,false,false,false,false,false] rfl rfl (any_of HT_.out (by kernel_rfl)) (fun _ _ _ h=>h) (Or.inl ⟨by rfl,?_⟩) ?_ ?_
       rotate_left
       ·intro w'
        go_simp
        with_reducible rfl
       rotate_left
       ·simp only[Act.put,List.setIfInBounds_toArray,List.set_cons_zero,List.set_cons_succ,i64_w,i32_w]
        rfl
       refine take_ (i:=1) (N:=some 19) (v:=?_) (a':=?_) #[true,true,true,true,true,true,false,false,false,false,false] rfl rfl (take_ofW HT_.out HW_.out (by kernel_rfl)) (fun _ _ _ h=>h) (Or.inl ⟨by rfl,?_⟩) hHeld ?_ ?_
       rotate_left
       ·rintro w' ⟨s0,s1,s2,s3⟩
        go_simp
        with_reducible rfl
       rotate_left
       ·simp only[Act.put,List.setIfInBounds_toArray,List.set_cons_zero,List.set_cons_succ,i64_w,i32_w]
        rfl
       refine take_ (i:=6) (N:=some 24) (v:=?_) (a':=?_) #[true,true,true,true,true,true,true,false,false,false,false] rfl rfl (take_ofW HT_.out HW_.out (by kernel_rfl)) (fun _ _ _ h=>h) (Or.inl ⟨by rfl,?_⟩) hHeld ?_ ?_
       rotate_left
       ·rintro w' ⟨s0,s1,s2,s3⟩
        go_simp
        with_reducible rfl
       rotate_left
       ·simp only[Act.put,List.setIfInBounds_toArray,List.set_cons_zero,List.set_cons_succ,i64_w,i32_w]
        rfl
       refine pure_ (i:=7) (N:=some 25) (v:=?_) (a':=?_) #[true,true,true,true,true,true,true,true,false,false,false] rfl rfl (any_of HT_.out (by kernel_rfl)) (fun _ _ _ h=>h) (Or.inl ⟨by rfl,?_⟩) ?_ ?_
       rotate_left
       ·intro w'
        go_simp
        with_reducible rfl
       rotate_left
       ·simp only[Act.put,List.setIfInBounds_toArray,List.set_cons_zero,List.set_cons_succ,i64_w,i32_w]
        rfl
       refine one_ (i:=8) (N:=some 26) #[true,true,true,true,true,true,true,true,true,false,false] rfl rfl (one_of HT_.out (by kernel_rfl)) (by decide) (fun K hK=>?_)
       refine goes_ Try.func39 (by kernel_rfl) rfl #[.slice Ao18 x242001_1.length co18,.int .i64 (Int.tmod (wrap64 ((rd l0_1 x14_1)+a1)) a0_0)] (by rfl) rfl rfl tl ?_
       with_reducible refine(spec_l1Put.calls k1 (fun k_=>some k_=(.slice Ao18 x242001_1.length co18:Value).ownBlock) (.slice Ao18 x242001_1.length co18) x242001_1 (Int.tmod (wrap64 ((rd l0_1 x14_1)+a1)) a0_0) t243 w _ ?side1 ?side2 A16.out).mono ?_
       (case side1=>repeat(first|(with_reducible first|exact HB.out|apply below_alloc|apply pw_below_drewN|apply below_drew1|refine below_set ?_ GE239.out|refine below_set ?_ GE240.out|refine below_set ?_ GE241.out)|exact HB.out))
       (case side2=>exact Kd.R_tight rfl HO_242001.out)
       rintro e w19 ⟨v244,rfl,ho0,hb,hkp⟩
       refine⟨_,rfl,?_⟩
       have n0_:=am (blk_kept (bup BK239.out) hkp (fun hs_=>(fun e_=>(Kd.R_ne HO_242001.out BK239.out (by decide)) e_) hs_))
       have n1_:=am (blk_kept (bup BK240.out) hkp (fun hs_=>(fun e_=>(Kd.R_ne HO_242001.out BK240.out (by decide)) e_) hs_))
       have n2_:=am (blk_kept (bup BK241.out) hkp (fun hs_=>(fun e_=>(Kd.R_ne HO_242001.out BK241.out (by decide)) e_) hs_))
       have n3_:=am (Kd.R_mono (ok':=fun k_=>True) ho0 (fun k_ hk_=>trivial))
       have n4_:=am (hb)
       clear BK239
       clear BK240
       clear BK241
       clear HB
       clear HO_242001
       have BK239:=n0_
       have BK240:=n1_
       have BK241:=n2_
       have HO245:=n3_
       have HB:=n4_
       clear n0_ n1_ n2_ n3_ n4_
       (try clear hb)
       (try clear hkp)
       (try clear ho0)
       obtain⟨Ao20,co20,eo20⟩:=Kd.R_slice HO245.out
       (first|subst eo20|(injection eo20 with f1_ f2_ f3_;have f4_:=f1_.symm;have f5_:=f3_.symm;clear f1_ f2_ f3_;subst f4_;subst f5_))
       refine hK.out _ _ ⟨(blk_cell BK241.out 0).trans rfl,(blk_cell BK241.out 1).trans rfl,(blk_cell BK239.out 0).trans rfl,(blk_cell BK239.out 1).trans rfl⟩ (fun hHeld=>?_)
       clear hK K
       refine norm_ (a':=?_) ?_ ?_
       rotate_left
       ·show Act.put _ (some 26) _=_
        simp only[Act.put,List.setIfInBounds_toArray,List.set_cons_zero,List.set_cons_succ,i64_w,i32_w]
        rfl
       refine pure_ (i:=9) (N:=some 27) (v:=?_) (a':=?_) #[true,true,true,true,true,true,true,true,true,true,false] rfl rfl (any_of HT_.out (by kernel_rfl)) (fun _ _ _ h=>h) (Or.inl ⟨by rfl,?_⟩) ?_ ?_
       rotate_left
       ·intro w'
        go_simp
        with_reducible rfl
       rotate_left
       ·simp only[Act.put,List.setIfInBounds_toArray,List.set_cons_zero,List.set_cons_succ,i64_w,i32_w]
        rfl
       refine last_ (i:=10) (N:=none) #[true,true,true,true,true,true,true,true,true,true,true] rfl rfl (one_of HT_.out (by kernel_rfl)) (by decide) (fun K hK=>?_)
       have hs21:w19.cell? ⟨gb241,1,none⟩=some (.slice Ao18 x242001_1.length co18):=(blk_cell BK241.out 1).trans rfl
       have hfs21:=blk_frozen BK241.out 1
       have hns21_0:=NB239_241.out
       have hns21_1:=NB240_241.out
       have hms21_0:=NB241_239.out
       have hms21_1:=NB241_240.out
       refine skip_ (w1:=?_) (by rfl) rfl ?_ ?_
       rotate_left
       ·go_simp
        rfl
       refine hK.out _ _ ?_
       clear hK K
       refine done_ (done_of HT_.out (by kernel_rfl)) ?_
       try go_wp2
       go_roundg k1
       case measure=>have:=HK1.out;omega
       case rel=>exact⟨(wrap64 (x14_1+1)),(t243),(.slice Ao20 t243.length co20),fin2,H',⟨by have:=HK1.out;omega⟩,⟨rup (Kd.R_mono (Kd.R_far (p:=⟨gb241,1,none⟩) (Kd.R_types HO245.out BK241.out (by decide)) (fun _ hk=>hk.2) (.slice Ao20 t243.length co20)) (fun _ hk=>trivial))⟩,⟨by(with_reducible repeat(first|refine bN_ ?_ _|refine bD_ ?_|refine bA_ ?_ _));refine blk_far ?_ NB239_241.out _;exact bup BK239.out⟩,⟨by(with_reducible repeat(first|refine bN_ ?_ _|refine bD_ ?_|refine bA_ ?_ _));refine blk_far ?_ NB240_241.out _;exact bup BK240.out⟩,⟨by(with_reducible repeat(first|refine bN_ ?_ _|refine bD_ ?_|refine bA_ ?_ _));refine blk_put (cs := #[.int .i64 a0_0,.slice Ao18 x242001_1.length co18]) ?_ 1 _ rfl;exact bup BK241.out⟩,⟨bl⟩⟩
     ·rw[if_neg c14] at H
      exact absurd H (by simp)
    ·rw[if_neg c13] at H
     exact absurd H (by simp)
   ·rw[if_neg c12] at H
    have c12b0:decide (x14_1<(l0_1.length:Int))=false:=decide_eq_false c12
    clear c12
    simp only[Option.some.injEq,Prod.mk.injEq] at H
    obtain⟨rfl,rfl⟩:=H
    have hnb22:=NB241_239.out
    have hnc22:=NB239_241.out
    have hnb23:=NB241_240.out
    have hnc23:=NB240_241.out
    have hcz24_0:wr.cell? ⟨gb241,0,none⟩=some (.int .i64 a0_0):=(blk_cell BK241.out 0).trans rfl
    have hcz24_1:wr.cell? ⟨gb241,1,none⟩=some (u242001):=(blk_cell BK241.out 1).trans rfl
    have hfz24_0:=blk_frozen BK241.out 0
    have hfz24_1:=blk_frozen BK241.out 1
    have hnb25:=NB240_239.out
    have hnc25:=NB239_240.out
    have hcz26_0:wr.cell? ⟨gb240,0,none⟩=some (.int .i64 0):=(blk_cell BK240.out 0).trans rfl
    have hcz26_1:wr.cell? ⟨gb240,1,none⟩=some (.slice none 0 0):=(blk_cell BK240.out 1).trans rfl
    have hfz26_0:=blk_frozen BK240.out 0
    have hfz26_1:=blk_frozen BK240.out 1
    obtain⟨Ao27,co27,eo27⟩:=Kd.R_slice HO_242001.out
    subst eo27
    go_wp2
    refine bodyPost_ret (results_cell_row rfl _ _ gb240 26 #[.int .i64 a0_0,.slice Ao27 x242001_1.length co27] (0,0) _ rfl (by(with_reducible repeat(first|refine bN_ ?_ _|refine bD_ ?_|refine bA_ ?_ _));refine blk_put (cs := #[.int .i64 a0_0,.slice none 0 0]) ?_ 1 _ rfl;(with_reducible repeat(first|refine bN_ ?_ _|refine bD_ ?_|refine bA_ ?_ _));refine blk_put (cs := #[.int .i64 0,.slice none 0 0]) ?_ 0 _ rfl;exact bup BK240.out) Try.underlying26 rfl (by kernel_rfl)) rfl ?_
    exact⟨_,fin1,rup (Kd.R_mono (Kd.R_far (p:=⟨gb240,1,none⟩) (Kd.R_far (p:=⟨gb240,0,none⟩) (Kd.R_types HO_242001.out BK240.out (by decide)) (fun _ hk=>hk.2) (.int .i64 a0_0)) (fun _ hk=>hk.2) (.slice Ao27 x242001_1.length co27)) (fun _ hk=>trivial)),bl⟩

/-! ### spec_TurnPattern: function 7 -/
def spec_TurnPattern.f (k:Nat) (a0_0:Int) (l0_1:List Int) (a1:Int):Option (Int×List Int×Bool):=(spec_drGood.f k a0_0 l0_1).bind fun t248=>(if t248=true then((spec_l1In.f a1 0 24).bind fun t249=>(if t249=true then((spec_drTurn.f k a0_0 l0_1 a1).bind fun bt250=>(some (bt250.1,bt250.2,true))) else(some (0,([]:List Int),false)))) else(some (0,([]:List Int),false)))
set_option maxHeartbeats 8000000 in
set_option maxRecDepth 100000 in
theorem spec_TurnPattern.calls (k:Nat) (a0_0:Int) (A0_1:Option Addr) (c0_1:Nat) (l0_1:List Int) (a1:Int) (r1:Int) (r2:List Int) (r3:Bool) (w:World) (hr0_1:Kd.C (Kd.int .i64) w A0_1 l0_1.length l0_1) (hc0_1:l0_1.length≤c0_1) (h:spec_TurnPattern.f k a0_0 l0_1 a1=some (r1,r2,r3)) :
  Calls Try.prog 7 #[.agg #[.int .i64 a0_0,.slice A0_1 l0_1.length c0_1],.int .i64 a1] w fun e w'=>∃ v1_:Value,e = .returned (.tuple #[.agg #[.int .i64 r1,v1_],.bool r3])∧Kd.R (Kd.int .i64) 3 w' w.heap.size (fun _=>True) v1_ r2∧Below w.heap.size w w':=by
 have hu26:=Try.underlying26
 have HR0_1:=am hr0_1
 have HC0_1:=am hc0_1
 clear hr0_1 hc0_1
 have HB:=am (Below.refl w.heap.size w)
 have H:((spec_drGood.f k a0_0 l0_1).bind fun t248=>(if t248=true then((spec_l1In.f a1 0 24).bind fun t249=>(if t249=true then((spec_drTurn.f k a0_0 l0_1 a1).bind fun bt250=>(some (bt250.1,bt250.2,true))) else(some (0,([]:List Int),false)))) else(some (0,([]:List Int),false))))=some (r1,r2,r3):=h
 clear h
 replace H:=Option.bind_eq_some_iff.mp H
 obtain⟨t248,A30,H⟩:=H
 replace H:(if t248=true then((spec_l1In.f a1 0 24).bind fun t249=>(if t249=true then((spec_drTurn.f k a0_0 l0_1 a1).bind fun bt250=>(some (bt250.1,bt250.2,true))) else(some (0,([]:List Int),false)))) else(some (0,([]:List Int),false)))=some (r1,r2,r3):=H
 have A3:=am A30
 clear A30
 by_cases c4:t248=true
 ·subst c4
  have H1:((spec_l1In.f a1 0 24).bind fun t249=>(if t249=true then((spec_drTurn.f k a0_0 l0_1 a1).bind fun bt250=>(some (bt250.1,bt250.2,true))) else(some (0,([]:List Int),false))))=some (r1,r2,r3):=by rw[if_pos rfl] at H;exact H
  clear H
  have H:=H1
  clear H1
  replace H:=Option.bind_eq_some_iff.mp H
  obtain⟨t249,A50,H⟩:=H
  replace H:(if t249=true then((spec_drTurn.f k a0_0 l0_1 a1).bind fun bt250=>(some (bt250.1,bt250.2,true))) else(some (0,([]:List Int),false)))=some (r1,r2,r3):=H
  have A5:=am A50
  clear A50
  by_cases c6:t249=true
  ·subst c6
   have H1:((spec_drTurn.f k a0_0 l0_1 a1).bind fun bt250=>(some (bt250.1,bt250.2,true)))=some (r1,r2,r3):=by rw[if_pos rfl] at H;exact H
   clear H
   have H:=H1
   clear H1
   replace H:=Option.bind_eq_some_iff.mp H
   obtain⟨⟨t250,t251⟩,A70,H⟩:=H
   replace H:(some (t250,t251,true))=some (r1,r2,r3):=H
   have A7:=am A70
   clear A70
   simp only[Option.some.injEq,Prod.mk.injEq] at H
   obtain⟨rfl,rfl,rfl⟩:=H
   go_enter Try.func7,Try.ntmps7
   go_wp2_with (first|((with_reducible refine gate_dst (N:=2) rfl ?_);refine box_event ?hg (N:=2) ?hd (cs := #[.int .i64 a0_0,.slice A0_1 l0_1.length c0_1]) (t:=26) ?hr ?_;(case hd=>rfl);(case hg=>rfl);(case hr=>first|(go_simp;done)|(go_simp;rfl));intro gb246 hg w8 hbox hb;have n0_:=am (below_step bl hb);have n1_:=am (hbox);have n2_:=am (ge_ bl hg);have n3_:=am (ge_ bl hg);clear HB;have HB:=n0_;have BK246:=n1_;have GW246:=n2_;have GE246:=n3_;clear n0_ n1_ n2_ n3_ hb hbox hg)|((with_reducible refine gate_dst (N:=4) rfl ?_);refine box_event ?hg (N:=4) ?hd (cs := #[.int .i64 0,.slice none 0 0]) (t:=26) ?hr ?_;(case hd=>rfl);(case hg=>rfl);(case hr=>first|(go_simp;done)|(go_simp;rfl));intro gb247 hg w9 hbox hb;have n0_:=am (blk_below (bup BK246.out) hb);have n1_:=am (below_step bl hb);have n2_:=am (hbox);have n3_:=am (ge_ bl hg);have n4_:=am (ge_ bl hg);have n5_:=am (nl (bup BK246.out) hg);have n6_:=am (ng (bup BK246.out) hg);clear BK246 HB;have BK246:=n0_;have HB:=n1_;have BK247:=n2_;have GW247:=n3_;have GE247:=n4_;have NB246_247:=n5_;have NB247_246:=n6_;clear n0_ n1_ n2_ n3_ n4_ n5_ n6_ hb hbox hg;have hnb10:=NB246_247.out;have hnc10:=NB247_246.out;have hcz11_0:w9.cell? ⟨gb246,0,none⟩=some (.int .i64 a0_0):=(blk_cell BK246.out 0).trans rfl;have hcz11_1:w9.cell? ⟨gb246,1,none⟩=some (.slice A0_1 l0_1.length c0_1):=(blk_cell BK246.out 1).trans rfl;have hfz11_0:=blk_frozen BK246.out 0;have hfz11_1:=blk_frozen BK246.out 1)|((with_reducible refine gate_callee (f:=24) rfl ?_);refine goesL_ (some 7) rfl rfl Try.func24 (by kernel_rfl) rfl #[.agg #[.int .i64 a0_0,.slice A0_1 l0_1.length c0_1]] rfl tl ?_;(with_reducible refine(spec_drGood.calls k a0_0 _ _ l0_1 true _ ?side1 ?side2 A3.out).mono ?_);(case side1=>exact cup (Kd.C_below HR0_1.out HB.out));(case side2=>exact HC0_1.out);rintro e w12 ⟨rfl,hb⟩;refine⟨_,rfl,?_⟩;have n0_:=am (blk_below (bup BK246.out) hb);have n1_:=am (blk_below (bup BK247.out) hb);have n2_:=am (below_step bl hb);clear BK246 BK247 HB;have BK246:=n0_;have BK247:=n1_;have HB:=n2_;clear n0_ n1_ n2_;(try clear hb);(try clear hb2);(try clear hk);(try clear hi))|(go_at_call 25;(with_reducible refine(spec_l1In.calls a1 0 24 true _ A5.out).mono ?_);rintro e w' ⟨rfl,⟨nd,rfl⟩⟩;(try(rw[drewN_self w12];generalize hq_:World.drewN w12 _=w12;have n0_:Aside0 (w12.heap[gb246]?=some (.cells #[.int .i64 a0_0,.slice A0_1 l0_1.length c0_1] 26 (0,0))):=⟨by rw[← hq_];exact(bup BK246.out)⟩;have n1_:Aside0 (w12.heap[gb247]?=some (.cells #[.int .i64 0,.slice none 0 0] 26 (0,0))):=⟨by rw[← hq_];exact(bup BK247.out)⟩;have n2_:Aside0 (Below w.heap.size w w12):=⟨by rw[← hq_];exact bl⟩;clear BK246 BK247 HB hq_;have BK246:=n0_;have BK247:=n1_;have HB:=n2_;clear n0_ n1_ n2_));have hcz13_0:w12.cell? ⟨gb246,0,none⟩=some (.int .i64 a0_0):=(blk_cell BK246.out 0).trans rfl;have hcz13_1:w12.cell? ⟨gb246,1,none⟩=some (.slice A0_1 l0_1.length c0_1):=(blk_cell BK246.out 1).trans rfl;have hfz13_0:=blk_frozen BK246.out 0;have hfz13_1:=blk_frozen BK246.out 1)|((with_reducible refine gate_callee (f:=26) rfl ?_);refine goesL_ (some 17) rfl rfl Try.func26 (by kernel_rfl) rfl #[.agg #[.int .i64 a0_0,.slice A0_1 l0_1.length c0_1],.int .i64 a1] rfl tl ?_;(with_reducible refine(spec_drTurn.calls k a0_0 _ _ l0_1 a1 t250 t251 _ ?side1 ?side2 A7.out).mono ?_);(case side1=>exact cup (Kd.C_below HR0_1.out HB.out));(case side2=>exact HC0_1.out);rintro e w14 ⟨v252,rfl,ho0,hb⟩;refine⟨_,rfl,?_⟩;have n0_:=am (Kd.R_lower ho0 (below_size bl));have n1_:=am (blk_below (bup BK246.out) hb);have n2_:=am (blk_below (bup BK247.out) hb);have n3_:=am (below_step bl hb);clear BK246 BK247 HB;have HO253:=n0_;have BK246:=n1_;have BK247:=n2_;have HB:=n3_;clear n0_ n1_ n2_ n3_;(try clear hb);(try clear hb2);(try clear hk);(try clear hi);(try clear ho0);have hcz15_0:w14.cell? ⟨gb247,0,none⟩=some (.int .i64 0):=(blk_cell BK247.out 0).trans rfl;have hcz15_1:w14.cell? ⟨gb247,1,none⟩=some (.slice none 0 0):=(blk_cell BK247.out 1).trans rfl;have hfz15_0:=blk_frozen BK247.out 0;have hfz15_1:=blk_frozen BK247.out 1;obtain⟨Ao16,co16,eo16⟩:=Kd.R_slice HO253.out;subst eo16))
   refine bodyPost_ret (results_ct rfl _ _ gb247 26 #[.int .i64 t250,.slice Ao16 t251.length co16] (0,0) _ rfl (by(with_reducible repeat(first|refine bN_ ?_ _|refine bD_ ?_|refine bA_ ?_ _));refine blk_put (cs := #[.int .i64 t250,.slice none 0 0]) ?_ 1 _ rfl;(with_reducible repeat(first|refine bN_ ?_ _|refine bD_ ?_|refine bA_ ?_ _));refine blk_put (cs := #[.int .i64 0,.slice none 0 0]) ?_ 0 _ rfl;exact bup BK247.out) Try.underlying26 rfl (by kernel_rfl)) rfl ?_
   exact⟨_,fin1,rup (Kd.R_mono (Kd.R_far (p:=⟨gb247,1,none⟩) (Kd.R_far (p:=⟨gb247,0,none⟩) (Kd.R_types HO253.out BK247.out (by decide)) (fun _ hk=>hk.2) (.int .i64 t250)) (fun _ hk=>hk.2) (.slice Ao16 t251.length co16)) (fun _ hk=>trivial)),bl⟩
  ·replace c6:=Bool.eq_false_iff.mpr c6
   subst c6
   have H1:(some (0,([]:List Int),false))=some (r1,r2,r3):=by rw[if_neg (show ¬ (false=true) by decide)] at H;exact H
   clear H
   have H:=H1
   clear H1
   simp only[Option.some.injEq,Prod.mk.injEq] at H
   obtain⟨rfl,rfl,rfl⟩:=H
   go_enter Try.func7,Try.ntmps7
   go_wp2_with (first|((with_reducible refine gate_dst (N:=2) rfl ?_);refine box_event ?hg (N:=2) ?hd (cs := #[.int .i64 a0_0,.slice A0_1 l0_1.length c0_1]) (t:=26) ?hr ?_;(case hd=>rfl);(case hg=>rfl);(case hr=>first|(go_simp;done)|(go_simp;rfl));intro gb246 hg w17 hbox hb;have n0_:=am (below_step bl hb);have n1_:=am (hbox);have n2_:=am (ge_ bl hg);have n3_:=am (ge_ bl hg);clear HB;have HB:=n0_;have BK246:=n1_;have GW246:=n2_;have GE246:=n3_;clear n0_ n1_ n2_ n3_ hb hbox hg)|((with_reducible refine gate_dst (N:=4) rfl ?_);refine box_event ?hg (N:=4) ?hd (cs := #[.int .i64 0,.slice none 0 0]) (t:=26) ?hr ?_;(case hd=>rfl);(case hg=>rfl);(case hr=>first|(go_simp;done)|(go_simp;rfl));intro gb247 hg w18 hbox hb;have n0_:=am (blk_below (bup BK246.out) hb);have n1_:=am (below_step bl hb);have n2_:=am (hbox);have n3_:=am (ge_ bl hg);have n4_:=am (ge_ bl hg);have n5_:=am (nl (bup BK246.out) hg);have n6_:=am (ng (bup BK246.out) hg);clear BK246 HB;have BK246:=n0_;have HB:=n1_;have BK247:=n2_;have GW247:=n3_;have GE247:=n4_;have NB246_247:=n5_;have NB247_246:=n6_;clear n0_ n1_ n2_ n3_ n4_ n5_ n6_ hb hbox hg;have hnb19:=NB246_247.out;have hnc19:=NB247_246.out;have hcz20_0:w18.cell? ⟨gb246,0,none⟩=some (.int .i64 a0_0):=(blk_cell BK246.out 0).trans rfl;have hcz20_1:w18.cell? ⟨gb246,1,none⟩=some (.slice A0_1 l0_1.length c0_1):=(blk_cell BK246.out 1).trans rfl;have hfz20_0:=blk_frozen BK246.out 0;have hfz20_1:=blk_frozen BK246.out 1)|((with_reducible refine gate_callee (f:=24) rfl ?_);refine goesL_ (some 7) rfl rfl Try.func24 (by kernel_rfl) rfl #[.agg #[.int .i64 a0_0,.slice A0_1 l0_1.length c0_1]] rfl tl ?_;(with_reducible refine(spec_drGood.calls k a0_0 _ _ l0_1 true _ ?side1 ?side2 A3.out).mono ?_);(case side1=>exact cup (Kd.C_below HR0_1.out HB.out));(case side2=>exact HC0_1.out);rintro e w21 ⟨rfl,hb⟩;refine⟨_,rfl,?_⟩;have n0_:=am (blk_below (bup BK246.out) hb);have n1_:=am (blk_below (bup BK247.out) hb);have n2_:=am (below_step bl hb);clear BK246 BK247 HB;have BK246:=n0_;have BK247:=n1_;have HB:=n2_;clear n0_ n1_ n2_;(try clear hb);(try clear hb2);(try clear hk);(try clear hi))|(go_at_call 25;(with_reducible refine(spec_l1In.calls a1 0 24 false _ A5.out).mono ?_);rintro e w' ⟨rfl,⟨nd,rfl⟩⟩;(try(rw[drewN_self w21];generalize hq_:World.drewN w21 _=w21;have n0_:Aside0 (w21.heap[gb246]?=some (.cells #[.int .i64 a0_0,.slice A0_1 l0_1.length c0_1] 26 (0,0))):=⟨by rw[← hq_];exact(bup BK246.out)⟩;have n1_:Aside0 (w21.heap[gb247]?=some (.cells #[.int .i64 0,.slice none 0 0] 26 (0,0))):=⟨by rw[← hq_];exact(bup BK247.out)⟩;have n2_:Aside0 (Below w.heap.size w w21):=⟨by rw[← hq_];exact bl⟩;clear BK246 BK247 HB hq_;have BK246:=n0_;have BK247:=n1_;have HB:=n2_;clear n0_ n1_ n2_));have hcz22_0:w21.cell? ⟨gb247,0,none⟩=some (.int .i64 0):=(blk_cell BK247.out 0).trans rfl;have hcz22_1:w21.cell? ⟨gb247,1,none⟩=some (.slice none 0 0):=(blk_cell BK247.out 1).trans rfl;have hfz22_0:=blk_frozen BK247.out 0;have hfz22_1:=blk_frozen BK247.out 1))
   refine bodyPost_ret (results_ct rfl _ _ gb247 26 #[.int .i64 0,.slice none 0 0] (0,0) _ rfl (by(with_reducible repeat(first|refine bN_ ?_ _|refine bD_ ?_|refine bA_ ?_ _));refine blk_put (cs := #[.int .i64 0,.slice none 0 0]) ?_ 1 _ rfl;(with_reducible repeat(first|refine bN_ ?_ _|refine bD_ ?_|refine bA_ ?_ _));refine blk_put (cs := #[.int .i64 0,.slice none 0 0]) ?_ 0 _ rfl;exact bup BK247.out) Try.underlying26 rfl (by kernel_rfl)) rfl ?_
   exact⟨_,fin1,by first|exact Kd.R_nil _ _ _ _ _|exact Kd.N_nil _ _ _ _ _|exact Kd.V_nil _ _ _ _ _|exact Kd.Q_nil _ _ _ _ _|exact Kd.S_nil _ _ _ _ _,bl⟩
 ·replace c4:=Bool.eq_false_iff.mpr c4
  subst c4
  have H1:(some (0,([]:List Int),false))=some (r1,r2,r3):=by rw[if_neg (show ¬ (false=true) by decide)] at H;exact H
  clear H
  have H:=H1
  clear H1
  simp only[Option.some.injEq,Prod.mk.injEq] at H
  obtain⟨rfl,rfl,rfl⟩:=H
  go_enter Try.func7,Try.ntmps7
  go_wp2_with (first|((with_reducible refine gate_dst (N:=2) rfl ?_);refine box_event ?hg (N:=2) ?hd (cs := #[.int .i64 a0_0,.slice A0_1 l0_1.length c0_1]) (t:=26) ?hr ?_;(case hd=>rfl);(case hg=>rfl);(case hr=>first|(go_simp;done)|(go_simp;rfl));intro gb246 hg w23 hbox hb;have n0_:=am (below_step bl hb);have n1_:=am (hbox);have n2_:=am (ge_ bl hg);have n3_:=am (ge_ bl hg);clear HB;have HB:=n0_;have BK246:=n1_;have GW246:=n2_;have GE246:=n3_;clear n0_ n1_ n2_ n3_ hb hbox hg)|((with_reducible refine gate_dst (N:=4) rfl ?_);refine box_event ?hg (N:=4) ?hd (cs := #[.int .i64 0,.slice none 0 0]) (t:=26) ?hr ?_;(case hd=>rfl);(case hg=>rfl);(case hr=>first|(go_simp;done)|(go_simp;rfl));intro gb247 hg w24 hbox hb;have n0_:=am (blk_below (bup BK246.out) hb);have n1_:=am (below_step bl hb);have n2_:=am (hbox);have n3_:=am (ge_ bl hg);have n4_:=am (ge_ bl hg);have n5_:=am (nl (bup BK246.out) hg);have n6_:=am (ng (bup BK246.out) hg);clear BK246 HB;have BK246:=n0_;have HB:=n1_;have BK247:=n2_;have GW247:=n3_;have GE247:=n4_;have NB246_247:=n5_;have NB247_246:=n6_;clear n0_ n1_ n2_ n3_ n4_ n5_ n6_ hb hbox hg;have hnb25:=NB246_247.out;have hnc25:=NB247_246.out;have hcz26_0:w24.cell? ⟨gb246,0,none⟩=some (.int .i64 a0_0):=(blk_cell BK246.out 0).trans rfl;have hcz26_1:w24.cell? ⟨gb246,1,none⟩=some (.slice A0_1 l0_1.length c0_1):=(blk_cell BK246.out 1).trans rfl;have hfz26_0:=blk_frozen BK246.out 0;have hfz26_1:=blk_frozen BK246.out 1)|((with_reducible refine gate_callee (f:=24) rfl ?_);refine goesL_ (some 7) rfl rfl Try.func24 (by kernel_rfl) rfl #[.agg #[.int .i64 a0_0,.slice A0_1 l0_1.length c0_1]] rfl tl ?_;(with_reducible refine(spec_drGood.calls k a0_0 _ _ l0_1 false _ ?side1 ?side2 A3.out).mono ?_);(case side1=>exact cup (Kd.C_below HR0_1.out HB.out));(case side2=>exact HC0_1.out);rintro e w27 ⟨rfl,hb⟩;refine⟨_,rfl,?_⟩;have n0_:=am (blk_below (bup BK246.out) hb);have n1_:=am (blk_below (bup BK247.out) hb);have n2_:=am (below_step bl hb);clear BK246 BK247 HB;have BK246:=n0_;have BK247:=n1_;have HB:=n2_;clear n0_ n1_ n2_;(try clear hb);(try clear hb2);(try clear hk);(try clear hi);have hcz28_0:w27.cell? ⟨gb247,0,none⟩=some (.int .i64 0):=(blk_cell BK247.out 0).trans rfl;have hcz28_1:w27.cell? ⟨gb247,1,none⟩=some (.slice none 0 0):=(blk_cell BK247.out 1).trans rfl;have hfz28_0:=blk_frozen BK247.out 0;have hfz28_1:=blk_frozen BK247.out 1))
  refine bodyPost_ret (results_ct rfl _ _ gb247 26 #[.int .i64 0,.slice none 0 0] (0,0) _ rfl (by(with_reducible repeat(first|refine bN_ ?_ _|refine bD_ ?_|refine bA_ ?_ _));refine blk_put (cs := #[.int .i64 0,.slice none 0 0]) ?_ 1 _ rfl;(with_reducible repeat(first|refine bN_ ?_ _|refine bD_ ?_|refine bA_ ?_ _));refine blk_put (cs := #[.int .i64 0,.slice none 0 0]) ?_ 0 _ rfl;exact bup BK247.out) Try.underlying26 rfl (by kernel_rfl)) rfl ?_
  exact⟨_,fin1,by first|exact Kd.R_nil _ _ _ _ _|exact Kd.N_nil _ _ _ _ _|exact Kd.V_nil _ _ _ _ _|exact Kd.Q_nil _ _ _ _ _|exact Kd.S_nil _ _ _ _ _,bl⟩

end Go.Proofs.Ytlhjjpdlfddflac.PFnDrums
