/- The walks of functions that FnExactPassesVerifier reaches: what they return is what the plain functions of the same names say. Laid by a program of this session after the kit's print. No conditions beyond the arguments' being read. -/
import Derived.Test.YtipklbjbgbbgpaaSPassesVerifier0
namespace Go.Proofs.Ytipklbjbgbbgpaa.PFnExactPassesVerifier
open Go.RowKit Go.Proofs.YtipklbjbgbbgpaaW.PrintWords Go.Proofs.YtipklbjbgbbgpaaW.PrintLast Go.Proofs.YtipklbjbgbbgpaaW.PrintMore
attribute [local go_sem] max2_int min2_int max_two min_two max_three min_three max_four min_four   -- for this text's walks alone
set_option linter.unusedVariables false
set_option linter.unusedSimpArgs false

def laws_szIntS.f (l0:List Int) (a1:Int):Option (Int):=if(wrap64 (a1 - (l0.length:Int)))<0 then(some (-1)) else(some (wrap64 (a1 - (l0.length:Int))))
set_option maxHeartbeats 8000000 in
set_option maxRecDepth 100000 in
theorem laws_szIntS.calls (A0:Option Addr) (c0:Nat) (l0:List Int) (a1:Int) (r:Int) (w:World) (hr0:Kd.C (Kd.int .i64) w A0 l0.length l0) (hc0:l0.length≤c0) (h:laws_szIntS.f l0 a1=some r) :
  Calls Try.prog 28 #[.slice A0 l0.length c0,.int .i64 a1] w fun e w'=>e = .returned (.int .i64 r)∧Drawn0 w w':=by
 have HR0:=am hr0
 have HC0:=am hc0
 clear hr0 hc0
 have H:(if(wrap64 (a1 - (l0.length:Int)))<0 then(some (-1)) else(some (wrap64 (a1 - (l0.length:Int)))))=some r:=h
 clear h
 rcases itc H with⟨c3,H⟩|⟨c3,H⟩
 ·have c3b0:=decide_eq_true c3
  clear c3
  obtain rfl:=Option.some.inj H
  go_enter Try.func28,Try.ntmps28
  go_wp2
  go_ret
  exact⟨by first|rfl|(simp;done)|(simp [*];done),by repeat(first|exact Drawn0.refl _|apply Drawn0.step)⟩
 ·have c3b0:=decide_eq_false c3
  clear c3
  obtain rfl:=Option.some.inj H
  go_enter Try.func28,Try.ntmps28
  go_wp2
  go_ret
  exact⟨by first|rfl|(simp;done)|(simp [*];done),by repeat(first|exact Drawn0.refl _|apply Drawn0.step)⟩

def laws_szInstrument.f (l0_0:List Int) (a0_1:Int) (a1:Int):Option (Int):=(laws_szIntS.f l0_0 a1).bind fun t102=>(if t102<0 then(some (-1)) else(some t102))
set_option maxHeartbeats 8000000 in
set_option maxRecDepth 100000 in
theorem laws_szInstrument.calls (A0_0:Option Addr) (c0_0:Nat) (l0_0:List Int) (a0_1:Int) (a1:Int) (r:Int) (w:World) (hr0_0:Kd.C (Kd.int .i64) w A0_0 l0_0.length l0_0) (hc0_0:l0_0.length≤c0_0) (h:laws_szInstrument.f l0_0 a0_1 a1=some r) :
  Calls Try.prog 6 #[.agg #[.slice A0_0 l0_0.length c0_0,.int .i64 a0_1],.int .i64 a1] w fun e w'=>e = .returned (.int .i64 r)∧Below w.heap.size w w':=by
 have hu24:=Try.underlying24
 have HR0_0:=am hr0_0
 have HC0_0:=am hc0_0
 clear hr0_0 hc0_0
 have HB:=am (Below.refl w.heap.size w)
 have H:((laws_szIntS.f l0_0 a1).bind fun t102=>(if t102<0 then(some (-1)) else(some t102)))=some r:=h
 clear h
 obtain⟨t102,A3,H⟩:=bnd H
 rcases itc H with⟨c4,H⟩|⟨c4,H⟩
 ·have c4b0:=decide_eq_true c4
  clear c4
  obtain rfl:=Option.some.inj H
  go_enter Try.func6,Try.ntmps6
  go_wp2_with (first|((with_reducible refine gate_dst (N:=2) rfl ?_);refine box_event ?hg (N:=2) ?hd (cs := #[.slice A0_0 l0_0.length c0_0,.int .i64 a0_1]) (t:=24) ?hr ?_;(case hd=>rfl);(case hg=>rfl);(case hr=>first|(go_simp;done)|(go_simp;rfl));intro gb101 hg w5 hbox hb;have BK101:=am (hbox);have GW101:=am (ge_ bl hg);have GE101:=am (ge_ bl hg);replace HB:=am (below_step bl hb);clear hb hbox hg;have hcz6_0:=bc BK101.out 0;have hcz6_1:=bc BK101.out 1;have hfz6_0:=blk_frozen BK101.out 0;have hfz6_1:=blk_frozen BK101.out 1)|((with_reducible refine gate_callee (f:=28) rfl ?_);refine goesL_ (some 8) rfl rfl Try.func28 (by kernel_rfl) rfl #[.slice A0_0 l0_0.length c0_0,.int .i64 a1] rfl tl ?_;(with_reducible refine(laws_szIntS.calls _ _ l0_0 a1 t102 _ ?side1 ?side2 A3.out).mono ?_);(case side1=>exact cup (Kd.C_below HR0_0.out HB.out));(case side2=>exact HC0_0.out);rintro e w' ⟨rfl,⟨nd,rfl⟩⟩;refine⟨_,rfl,?_⟩))
  go_ret
  exact⟨fin1,bl⟩
 ·have c4b0:=decide_eq_false c4
  clear c4
  obtain rfl:=Option.some.inj H
  go_enter Try.func6,Try.ntmps6
  go_wp2_with (first|((with_reducible refine gate_dst (N:=2) rfl ?_);refine box_event ?hg (N:=2) ?hd (cs := #[.slice A0_0 l0_0.length c0_0,.int .i64 a0_1]) (t:=24) ?hr ?_;(case hd=>rfl);(case hg=>rfl);(case hr=>first|(go_simp;done)|(go_simp;rfl));intro gb101 hg w7 hbox hb;have BK101:=am (hbox);have GW101:=am (ge_ bl hg);have GE101:=am (ge_ bl hg);replace HB:=am (below_step bl hb);clear hb hbox hg;have hcz8_0:=bc BK101.out 0;have hcz8_1:=bc BK101.out 1;have hfz8_0:=blk_frozen BK101.out 0;have hfz8_1:=blk_frozen BK101.out 1)|((with_reducible refine gate_callee (f:=28) rfl ?_);refine goesL_ (some 8) rfl rfl Try.func28 (by kernel_rfl) rfl #[.slice A0_0 l0_0.length c0_0,.int .i64 a1] rfl tl ?_;(with_reducible refine(laws_szIntS.calls _ _ l0_0 a1 t102 _ ?side1 ?side2 A3.out).mono ?_);(case side1=>exact cup (Kd.C_below HR0_0.out HB.out));(case side2=>exact HC0_0.out);rintro e w' ⟨rfl,⟨nd,rfl⟩⟩;refine⟨_,rfl,?_⟩))
  go_ret
  exact⟨fin1,bl⟩

def laws_szNoteS.f (l0:List (S64)) (a1:Int):Option (Int):=if(wrap64 (a1 - (l0.length:Int)))<0 then(some (-1)) else(some (wrap64 (a1 - (l0.length:Int))))
set_option maxHeartbeats 8000000 in
set_option maxRecDepth 100000 in
theorem laws_szNoteS.calls (A0:Option Addr) (c0:Nat) (l0:List (S64)) (a1:Int) (r:Int) (w:World) (hr0:Kd.C k64 w A0 l0.length l0) (hc0:l0.length≤c0) (h:laws_szNoteS.f l0 a1=some r) :
  Calls Try.prog 7 #[.slice A0 l0.length c0,.int .i64 a1] w fun e w'=>e = .returned (.int .i64 r)∧Drawn0 w w':=by
 have HR0:=am hr0
 have HC0:=am hc0
 clear hr0 hc0
 have H:(if(wrap64 (a1 - (l0.length:Int)))<0 then(some (-1)) else(some (wrap64 (a1 - (l0.length:Int)))))=some r:=h
 clear h
 rcases itc H with⟨c3,H⟩|⟨c3,H⟩
 ·have c3b0:=decide_eq_true c3
  clear c3
  obtain rfl:=Option.some.inj H
  go_enter Try.func7,Try.ntmps7
  go_wp2
  go_ret
  exact⟨by first|rfl|(simp;done)|(simp [*];done),by repeat(first|exact Drawn0.refl _|apply Drawn0.step)⟩
 ·have c3b0:=decide_eq_false c3
  clear c3
  obtain rfl:=Option.some.inj H
  go_enter Try.func7,Try.ntmps7
  go_wp2
  go_ret
  exact⟨by first|rfl|(simp;done)|(simp [*];done),by repeat(first|exact Drawn0.refl _|apply Drawn0.step)⟩

def laws_szHoleS.f (l0:List (S68)) (a1:Int):Option (Int):=if(wrap64 (a1 - (l0.length:Int)))<0 then(some (-1)) else(some (wrap64 (a1 - (l0.length:Int))))
set_option maxHeartbeats 8000000 in
set_option maxRecDepth 100000 in
theorem laws_szHoleS.calls (A0:Option Addr) (c0:Nat) (l0:List (S68)) (a1:Int) (r:Int) (w:World) (hr0:Kd.C k68 w A0 l0.length l0) (hc0:l0.length≤c0) (h:laws_szHoleS.f l0 a1=some r) :
  Calls Try.prog 8 #[.slice A0 l0.length c0,.int .i64 a1] w fun e w'=>e = .returned (.int .i64 r)∧Drawn0 w w':=by
 have HR0:=am hr0
 have HC0:=am hc0
 clear hr0 hc0
 have H:(if(wrap64 (a1 - (l0.length:Int)))<0 then(some (-1)) else(some (wrap64 (a1 - (l0.length:Int)))))=some r:=h
 clear h
 rcases itc H with⟨c3,H⟩|⟨c3,H⟩
 ·have c3b0:=decide_eq_true c3
  clear c3
  obtain rfl:=Option.some.inj H
  go_enter Try.func8,Try.ntmps8
  go_wp2
  go_ret
  exact⟨by first|rfl|(simp;done)|(simp [*];done),by repeat(first|exact Drawn0.refl _|apply Drawn0.step)⟩
 ·have c3b0:=decide_eq_false c3
  clear c3
  obtain rfl:=Option.some.inj H
  go_enter Try.func8,Try.ntmps8
  go_wp2
  go_ret
  exact⟨by first|rfl|(simp;done)|(simp [*];done),by repeat(first|exact Drawn0.refl _|apply Drawn0.step)⟩

def spec_l1In.f (a0:Int) (a1:Int) (a2:Int):Option (Bool):=if a0≥a1 then(some (decide (a0≤a2))) else(some false)
set_option maxHeartbeats 8000000 in
set_option maxRecDepth 100000 in
theorem spec_l1In.calls (a0:Int) (a1:Int) (a2:Int) (r:Bool) (w:World) (h:spec_l1In.f a0 a1 a2=some r) :
  Calls Try.prog 61 #[.int .i64 a0,.int .i64 a1,.int .i64 a2] w fun e w'=>e = .returned (.bool r)∧Drawn0 w w':=by
 have H:(if a0≥a1 then(some (decide (a0≤a2))) else(some false))=some r:=h
 clear h
 rcases itc H with⟨c4,H⟩|⟨c4,H⟩
 ·have c4b0:decide (a1≤a0)=true:=decide_eq_true c4
  clear c4
  obtain rfl:=Option.some.inj H
  go_enter Try.func61,Try.ntmps61
  go_wp2
  go_ret
  exact⟨by first|rfl|(simp;done)|(simp [*];done),by repeat(first|exact Drawn0.refl _|apply Drawn0.step)⟩
 ·have c4b0:decide (a1≤a0)=false:=decide_eq_false c4
  clear c4
  obtain rfl:=Option.some.inj H
  go_enter Try.func61,Try.ntmps61
  go_wp2
  go_ret
  exact⟨by first|rfl|(simp;done)|(simp [*];done),by repeat(first|exact Drawn0.refl _|apply Drawn0.step)⟩

def spec_l1Rising.l0:Nat→List Int→Int→Int→List Int→Int→Int→Option (Bool)
 | 0,_,_,_,_,_,_=>none
 | k+1,x0,x1,x2,x9,x10,x11=>if x11<x10 then(if 0≤x11 then(if x11<(x9.length:Int) then((spec_l1In.f (rd x9 x11) x1 x2).bind fun t104=>(if t104=true then(if x11>0 then(if 0≤(wrap64 (x11 - 1)) then(if(wrap64 (x11 - 1))<(x0.length:Int) then(if(rd x0 (wrap64 (x11 - 1)))≥(rd x9 x11) then(some false) else(spec_l1Rising.l0 k x0 x1 x2 x9 x10 (wrap64 (x11+1)))) else(none)) else(none)) else(spec_l1Rising.l0 k x0 x1 x2 x9 x10 (wrap64 (x11+1)))) else(some false))) else(none)) else(none)) else(some true)
def spec_l1Rising.f (k:Nat) (l0:List Int) (a1:Int) (a2:Int):Option (Bool):=spec_l1Rising.l0 k l0 a1 a2 l0 (l0.length:Int) 0
set_option maxHeartbeats 8000000 in
set_option maxRecDepth 100000 in
theorem spec_l1Rising.calls (k:Nat) (A0:Option Addr) (c0:Nat) (l0:List Int) (a1:Int) (a2:Int) (r:Bool) (w:World) (hr0:Kd.C (Kd.int .i64) w A0 l0.length l0) (hc0:l0.length≤c0) (h:spec_l1Rising.f k l0 a1 a2=some r) :
  Calls Try.prog 90 #[.slice A0 l0.length c0,.int .i64 a1,.int .i64 a2] w fun e w'=>e = .returned (.bool r)∧Drawn0 w w':=by
 have HR0:=am hr0
 have HC0:=am hc0
 clear hr0 hc0
 have H:(spec_l1Rising.l0 k l0 a1 a2 l0 (l0.length:Int) 0)=some r:=h
 clear h
 have H':=am H
 clear H
 go_enter Try.func90,Try.ntmps90
 go_wp2
 go_loopg [11] k (fun kq v11 w'=>∃(x11_1:Int),v11 = .int .i64 x11_1∧Aside0 (spec_l1Rising.l0 kq l0 a1 a2 l0 (l0.length:Int) x11_1=some r)∧Aside0 (kq≤k)∧Drawn0 w w')
 case atStart=>exact⟨(0),fin2,H',⟨Nat.le_refl _⟩,by repeat(first|exact Drawn0.refl _|apply Drawn0.step)⟩
 case round =>
  clear H'
  try clear p2
  obtain⟨x11_1,rfl,HA,HK1,⟨m1,rfl⟩⟩:=hrel
  cases gk with
  | zero=>exact absurd HA.out (by simp [spec_l1Rising.l0])
  | succ k1 =>
   have H:=HA.out
   clear HA
   simp only[spec_l1Rising.l0] at H
   rcases itc H with⟨c4,H⟩|⟨c4,H⟩
   ·have c4b0:=decide_eq_true c4
    clear c4
    obtain⟨c5b0,H⟩:=ifb H
    obtain⟨c6b0,H⟩:=ifb H
    obtain⟨t104,A7,H⟩:=bnd H
    by_cases c8:t104=true
    ·subst c8
     replace H:=(if_pos rfl).symm.trans H
     rcases itc H with⟨c9,H⟩|⟨c9,H⟩
     ·have c9b0:decide (0<x11_1)=true:=decide_eq_true c9
      clear c9
      obtain⟨ji10,hji10⟩:∃ j_:Int,(wrap64 (x11_1 - 1))=j_:=⟨_,rfl⟩
      replace H:(if 0≤(ji10) then(if(ji10)<(l0.length:Int) then(if(rd l0 (ji10))≥(rd l0 x11_1) then(some false) else(spec_l1Rising.l0 k1 l0 a1 a2 l0 (l0.length:Int) (wrap64 (x11_1+1)))) else(none)) else(none))=some r:=by first|(rw[hji10] at H;exact H)|(simp only[hji10] at H ⊢;exact H)
      (try rw[hji10] at A7)
      have hji10w:(IntKind.i64.wrap (x11_1 - 1))=ji10:=(i64_w _).trans hji10
      obtain⟨c11b0,H⟩:=ifb H
      obtain⟨c12b0,H⟩:=ifb H
      rcases itc H with⟨c13,H⟩|⟨c13,H⟩
      ·have c13b0:decide ((rd l0 x11_1)≤(rd l0 (ji10)))=true:=decide_eq_true c13
       clear c13
       obtain rfl:=Option.some.inj H
       have p103:0≤(x11_1:Int):=od
       have q103:x11_1<(l0.length:Int):=od
       obtain⟨ad103,e103,hx103_0⟩:=Kd.at_int HR0.out x11_1 p103 q103
       cases e103
       replace p103:=eq_true p103
       replace q103:=eq_true q103
       go_wp2_with (first|((with_reducible refine gate_callee (f:=61) rfl ?_);refine goesL_ (some 19) rfl rfl Try.func61 (by kernel_rfl) rfl #[.int .i64 (rd l0 x11_1),.int .i64 a1,.int .i64 a2] rfl tl ?_;(with_reducible refine(spec_l1In.calls (rd l0 x11_1) a1 a2 true _ A7.out).mono ?_);rintro e w' ⟨rfl,⟨nd,rfl⟩⟩;refine⟨_,rfl,?_⟩;have p105:0≤((ji10):Int):=od;have q105:(ji10)<(l0.length:Int):=od;obtain⟨ad105,e105,hx105_0⟩:=Kd.at_int HR0.out (ji10) p105 q105;obtain rfl:ad103=ad105:=(by injection e105);replace p105:=eq_true p105;replace q105:=eq_true q105))
       go_ret
       exact⟨by first|rfl|(simp;done)|(simp only[← hji10]<;>(first|rfl|simp))|(simp [*];done),by repeat(first|exact Drawn0.refl _|apply Drawn0.step)⟩
      ·have c13b0:decide ((rd l0 x11_1)≤(rd l0 (ji10)))=false:=decide_eq_false c13
       clear c13
       have H':=am H
       clear H
       have p103:0≤(x11_1:Int):=od
       have q103:x11_1<(l0.length:Int):=od
       obtain⟨ad103,e103,hx103_0⟩:=Kd.at_int HR0.out x11_1 p103 q103
       cases e103
       replace p103:=eq_true p103
       replace q103:=eq_true q103
       go_wp2_with (first|((with_reducible refine gate_callee (f:=61) rfl ?_);refine goesL_ (some 19) rfl rfl Try.func61 (by kernel_rfl) rfl #[.int .i64 (rd l0 x11_1),.int .i64 a1,.int .i64 a2] rfl tl ?_;(with_reducible refine(spec_l1In.calls (rd l0 x11_1) a1 a2 true _ A7.out).mono ?_);rintro e w' ⟨rfl,⟨nd,rfl⟩⟩;refine⟨_,rfl,?_⟩;have p105:0≤((ji10):Int):=od;have q105:(ji10)<(l0.length:Int):=od;obtain⟨ad105,e105,hx105_0⟩:=Kd.at_int HR0.out (ji10) p105 q105;obtain rfl:ad103=ad105:=(by injection e105);replace p105:=eq_true p105;replace q105:=eq_true q105))
       go_roundg k1
       case measure=>have:=HK1.out;omega
       case rel=>exact⟨(wrap64 (x11_1+1)),fin2,H',⟨by have:=HK1.out;omega⟩,by repeat(first|exact Drawn0.refl _|apply Drawn0.step)⟩
     ·have c9b0:decide (0<x11_1)=false:=decide_eq_false c9
      clear c9
      have H':=am H
      clear H
      have p103:0≤(x11_1:Int):=od
      have q103:x11_1<(l0.length:Int):=od
      obtain⟨ad103,e103,hx103_0⟩:=Kd.at_int HR0.out x11_1 p103 q103
      cases e103
      replace p103:=eq_true p103
      replace q103:=eq_true q103
      go_wp2_with (first|((with_reducible refine gate_callee (f:=61) rfl ?_);refine goesL_ (some 19) rfl rfl Try.func61 (by kernel_rfl) rfl #[.int .i64 (rd l0 x11_1),.int .i64 a1,.int .i64 a2] rfl tl ?_;(with_reducible refine(spec_l1In.calls (rd l0 x11_1) a1 a2 true _ A7.out).mono ?_);rintro e w' ⟨rfl,⟨nd,rfl⟩⟩;refine⟨_,rfl,?_⟩))
      go_roundg k1
      case measure=>have:=HK1.out;omega
      case rel=>exact⟨(wrap64 (x11_1+1)),fin2,H',⟨by have:=HK1.out;omega⟩,by repeat(first|exact Drawn0.refl _|apply Drawn0.step)⟩
    ·replace c8:=Bool.eq_false_iff.mpr c8
     subst c8
     replace H:=(if_neg Bool.false_ne_true).symm.trans H
     obtain rfl:=Option.some.inj H
     have p103:0≤(x11_1:Int):=od
     have q103:x11_1<(l0.length:Int):=od
     obtain⟨ad103,e103,hx103_0⟩:=Kd.at_int HR0.out x11_1 p103 q103
     cases e103
     replace p103:=eq_true p103
     replace q103:=eq_true q103
     go_wp2_with (first|((with_reducible refine gate_callee (f:=61) rfl ?_);refine goesL_ (some 19) rfl rfl Try.func61 (by kernel_rfl) rfl #[.int .i64 (rd l0 x11_1),.int .i64 a1,.int .i64 a2] rfl tl ?_;(with_reducible refine(spec_l1In.calls (rd l0 x11_1) a1 a2 false _ A7.out).mono ?_);rintro e w' ⟨rfl,⟨nd,rfl⟩⟩;refine⟨_,rfl,?_⟩))
     go_ret
     exact⟨by first|rfl|(simp;done)|(simp [*];done),by repeat(first|exact Drawn0.refl _|apply Drawn0.step)⟩
   ·have c4b0:=decide_eq_false c4
    clear c4
    obtain rfl:=Option.some.inj H
    go_wp2
    go_ret
    exact⟨by first|rfl|(simp;done)|(simp [*];done),by repeat(first|exact Drawn0.refl _|apply Drawn0.step)⟩

def spec_inGood.f (k:Nat) (l0_0:List Int) (a0_1:Int):Option (Bool):=(spec_l1In.f (l0_0.length:Int) 1 20).bind fun t107=>(if t107=true then((spec_l1Rising.f k l0_0 24 96).bind fun t108=>(if t108=true then((spec_l1In.f a0_1 1 20).bind fun t109=>(some t109)) else(some false))) else(some false))
set_option maxHeartbeats 8000000 in
set_option maxRecDepth 100000 in
theorem spec_inGood.calls (k:Nat) (A0_0:Option Addr) (c0_0:Nat) (l0_0:List Int) (a0_1:Int) (r:Bool) (w:World) (hr0_0:Kd.C (Kd.int .i64) w A0_0 l0_0.length l0_0) (hc0_0:l0_0.length≤c0_0) (h:spec_inGood.f k l0_0 a0_1=some r) :
  Calls Try.prog 74 #[.agg #[.slice A0_0 l0_0.length c0_0,.int .i64 a0_1]] w fun e w'=>e = .returned (.bool r)∧Below w.heap.size w w':=by
 have hu34:=Try.underlying34
 have HR0_0:=am hr0_0
 have HC0_0:=am hc0_0
 clear hr0_0 hc0_0
 have HB:=am (Below.refl w.heap.size w)
 have H:((spec_l1In.f (l0_0.length:Int) 1 20).bind fun t107=>(if t107=true then((spec_l1Rising.f k l0_0 24 96).bind fun t108=>(if t108=true then((spec_l1In.f a0_1 1 20).bind fun t109=>(some t109)) else(some false))) else(some false)))=some r:=h
 clear h
 obtain⟨t107,A2,H⟩:=bnd H
 by_cases c3:t107=true
 ·subst c3
  replace H:=(if_pos rfl).symm.trans H
  obtain⟨t108,A4,H⟩:=bnd H
  by_cases c5:t108=true
  ·subst c5
   replace H:=(if_pos rfl).symm.trans H
   obtain⟨t109,A6,H⟩:=bnd H
   obtain rfl:=Option.some.inj H
   go_enter Try.func74,Try.ntmps74
   go_wp2_with (first|((with_reducible refine gate_dst (N:=1) rfl ?_);refine box_event ?hg (N:=1) ?hd (cs := #[.slice A0_0 l0_0.length c0_0,.int .i64 a0_1]) (t:=34) ?hr ?_;(case hd=>rfl);(case hg=>rfl);(case hr=>first|(go_simp;done)|(go_simp;rfl));intro gb106 hg w7 hbox hb;have BK106:=am (hbox);have GW106:=am (ge_ bl hg);have GE106:=am (ge_ bl hg);replace HB:=am (below_step bl hb);clear hb hbox hg;have hcz8_0:=bc BK106.out 0;have hcz8_1:=bc BK106.out 1;have hfz8_0:=blk_frozen BK106.out 0;have hfz8_1:=blk_frozen BK106.out 1)|((with_reducible refine gate_callee (f:=61) rfl ?_);refine goesL_ (some 6) rfl rfl Try.func61 (by kernel_rfl) rfl #[.int .i64 (l0_0.length:Int),.int .i64 1,.int .i64 20] rfl tl ?_;(with_reducible refine(spec_l1In.calls (l0_0.length:Int) 1 20 true _ A2.out).mono ?_);rintro e w' ⟨rfl,⟨nd,rfl⟩⟩;refine⟨_,rfl,?_⟩)|(go_at_call 90;(with_reducible refine(spec_l1Rising.calls k _ _ l0_0 24 96 true _ ?side1 ?side2 A4.out).mono ?_);(case side1=>repeat(first|exact(Kd.C_below HR0_0.out bl)|(with_reducible refine Kd.C_alloc ?_ _)|(with_reducible refine Kd.C_drewN ?_ _)|(with_reducible refine Kd.C_drew ?_)));(case side2=>exact HC0_0.out);rintro e w' ⟨rfl,⟨nd,rfl⟩⟩)|(go_at_call 61;(with_reducible refine(spec_l1In.calls a0_1 1 20 t109 _ A6.out).mono ?_);rintro e w' ⟨rfl,⟨nd,rfl⟩⟩))
   go_ret
   exact⟨fin1,bl⟩
  ·replace c5:=Bool.eq_false_iff.mpr c5
   subst c5
   replace H:=(if_neg Bool.false_ne_true).symm.trans H
   obtain rfl:=Option.some.inj H
   go_enter Try.func74,Try.ntmps74
   go_wp2_with (first|((with_reducible refine gate_dst (N:=1) rfl ?_);refine box_event ?hg (N:=1) ?hd (cs := #[.slice A0_0 l0_0.length c0_0,.int .i64 a0_1]) (t:=34) ?hr ?_;(case hd=>rfl);(case hg=>rfl);(case hr=>first|(go_simp;done)|(go_simp;rfl));intro gb106 hg w9 hbox hb;have BK106:=am (hbox);have GW106:=am (ge_ bl hg);have GE106:=am (ge_ bl hg);replace HB:=am (below_step bl hb);clear hb hbox hg;have hcz10_0:=bc BK106.out 0;have hcz10_1:=bc BK106.out 1;have hfz10_0:=blk_frozen BK106.out 0;have hfz10_1:=blk_frozen BK106.out 1)|((with_reducible refine gate_callee (f:=61) rfl ?_);refine goesL_ (some 6) rfl rfl Try.func61 (by kernel_rfl) rfl #[.int .i64 (l0_0.length:Int),.int .i64 1,.int .i64 20] rfl tl ?_;(with_reducible refine(spec_l1In.calls (l0_0.length:Int) 1 20 true _ A2.out).mono ?_);rintro e w' ⟨rfl,⟨nd,rfl⟩⟩;refine⟨_,rfl,?_⟩)|(go_at_call 90;(with_reducible refine(spec_l1Rising.calls k _ _ l0_0 24 96 false _ ?side1 ?side2 A4.out).mono ?_);(case side1=>repeat(first|exact(Kd.C_below HR0_0.out bl)|(with_reducible refine Kd.C_alloc ?_ _)|(with_reducible refine Kd.C_drewN ?_ _)|(with_reducible refine Kd.C_drew ?_)));(case side2=>exact HC0_0.out);rintro e w' ⟨rfl,⟨nd,rfl⟩⟩))
   go_ret
   exact⟨fin1,bl⟩
 ·replace c3:=Bool.eq_false_iff.mpr c3
  subst c3
  replace H:=(if_neg Bool.false_ne_true).symm.trans H
  obtain rfl:=Option.some.inj H
  go_enter Try.func74,Try.ntmps74
  go_wp2_with (first|((with_reducible refine gate_dst (N:=1) rfl ?_);refine box_event ?hg (N:=1) ?hd (cs := #[.slice A0_0 l0_0.length c0_0,.int .i64 a0_1]) (t:=34) ?hr ?_;(case hd=>rfl);(case hg=>rfl);(case hr=>first|(go_simp;done)|(go_simp;rfl));intro gb106 hg w11 hbox hb;have BK106:=am (hbox);have GW106:=am (ge_ bl hg);have GE106:=am (ge_ bl hg);replace HB:=am (below_step bl hb);clear hb hbox hg;have hcz12_0:=bc BK106.out 0;have hcz12_1:=bc BK106.out 1;have hfz12_0:=blk_frozen BK106.out 0;have hfz12_1:=blk_frozen BK106.out 1)|((with_reducible refine gate_callee (f:=61) rfl ?_);refine goesL_ (some 6) rfl rfl Try.func61 (by kernel_rfl) rfl #[.int .i64 (l0_0.length:Int),.int .i64 1,.int .i64 20] rfl tl ?_;(with_reducible refine(spec_l1In.calls (l0_0.length:Int) 1 20 false _ A2.out).mono ?_);rintro e w' ⟨rfl,⟨nd,rfl⟩⟩;refine⟨_,rfl,?_⟩))
  go_ret
  exact⟨fin1,bl⟩

def spec_ntPitch.f (a0:Int):Option (Bool):=(spec_l1In.f a0 24 96).bind fun t110=>(some t110)
set_option maxHeartbeats 8000000 in
set_option maxRecDepth 100000 in
theorem spec_ntPitch.calls (a0:Int) (r:Bool) (w:World) (h:spec_ntPitch.f a0=some r) :
  Calls Try.prog 99 #[.int .i64 a0] w fun e w'=>e = .returned (.bool r)∧Drawn0 w w':=by
 have H:((spec_l1In.f a0 24 96).bind fun t110=>(some t110))=some r:=h
 clear h
 obtain⟨t110,A2,H⟩:=bnd H
 obtain rfl:=Option.some.inj H
 go_enter Try.func99,Try.ntmps99
 go_wp2_with (first|((with_reducible refine gate_callee (f:=61) rfl ?_);refine goesL_ (some 4) rfl rfl Try.func61 (by kernel_rfl) rfl #[.int .i64 a0,.int .i64 24,.int .i64 96] rfl tl ?_;(with_reducible refine(spec_l1In.calls a0 24 96 t110 _ A2.out).mono ?_);rintro e w' ⟨rfl,⟨nd,rfl⟩⟩;refine⟨_,rfl,?_⟩))
 go_ret
 exact⟨by first|rfl|(simp;done)|(simp [*];done),by repeat(first|exact Drawn0.refl _|apply Drawn0.step)⟩

def spec_ntNote.f (a0_0:Int) (a0_1:Int) (a0_2:Int):Option (Bool):=(spec_ntPitch.f a0_0).bind fun t112=>(if t112=true then((spec_l1In.f a0_1 0 999).bind fun t113=>(if t113=true then((spec_l1In.f a0_2 1 99).bind fun t114=>(some t114)) else(some false))) else(some false))
set_option maxHeartbeats 8000000 in
set_option maxRecDepth 100000 in
theorem spec_ntNote.calls (a0_0:Int) (a0_1:Int) (a0_2:Int) (r:Bool) (w:World) (h:spec_ntNote.f a0_0 a0_1 a0_2=some r) :
  Calls Try.prog 91 #[.agg #[.int .i64 a0_0,.int .i64 a0_1,.int .i64 a0_2]] w fun e w'=>e = .returned (.bool r)∧Below w.heap.size w w':=by
 have hu62:=Try.underlying62
 have HB:=am (Below.refl w.heap.size w)
 have H:((spec_ntPitch.f a0_0).bind fun t112=>(if t112=true then((spec_l1In.f a0_1 0 999).bind fun t113=>(if t113=true then((spec_l1In.f a0_2 1 99).bind fun t114=>(some t114)) else(some false))) else(some false)))=some r:=h
 clear h
 obtain⟨t112,A2,H⟩:=bnd H
 by_cases c3:t112=true
 ·subst c3
  replace H:=(if_pos rfl).symm.trans H
  obtain⟨t113,A4,H⟩:=bnd H
  by_cases c5:t113=true
  ·subst c5
   replace H:=(if_pos rfl).symm.trans H
   obtain⟨t114,A6,H⟩:=bnd H
   obtain rfl:=Option.some.inj H
   go_enter Try.func91,Try.ntmps91
   go_wp2_with (first|((with_reducible refine gate_dst (N:=1) rfl ?_);refine box_event ?hg (N:=1) ?hd (cs := #[.int .i64 a0_0,.int .i64 a0_1,.int .i64 a0_2]) (t:=62) ?hr ?_;(case hd=>rfl);(case hg=>rfl);(case hr=>first|(go_simp;done)|(go_simp;rfl));intro gb111 hg w7 hbox hb;have BK111:=am (hbox);have GW111:=am (ge_ bl hg);have GE111:=am (ge_ bl hg);replace HB:=am (below_step bl hb);clear hb hbox hg;have hcz8_0:=bc BK111.out 0;have hcz8_1:=bc BK111.out 1;have hcz8_2:=bc BK111.out 2;have hfz8_0:=blk_frozen BK111.out 0;have hfz8_1:=blk_frozen BK111.out 1;have hfz8_2:=blk_frozen BK111.out 2)|((with_reducible refine gate_callee (f:=99) rfl ?_);refine goesL_ (some 5) rfl rfl Try.func99 (by kernel_rfl) rfl #[.int .i64 a0_0] rfl tl ?_;(with_reducible refine(spec_ntPitch.calls a0_0 true _ A2.out).mono ?_);rintro e w' ⟨rfl,⟨nd,rfl⟩⟩;refine⟨_,rfl,?_⟩)|(go_at_call 61;(with_reducible refine(spec_l1In.calls a0_1 0 999 true _ A4.out).mono ?_);rintro e w' ⟨rfl,⟨nd,rfl⟩⟩)|(go_at_call 61;(with_reducible refine(spec_l1In.calls a0_2 1 99 t114 _ A6.out).mono ?_);rintro e w' ⟨rfl,⟨nd,rfl⟩⟩))
   go_ret
   exact⟨fin1,bl⟩
  ·replace c5:=Bool.eq_false_iff.mpr c5
   subst c5
   replace H:=(if_neg Bool.false_ne_true).symm.trans H
   obtain rfl:=Option.some.inj H
   go_enter Try.func91,Try.ntmps91
   go_wp2_with (first|((with_reducible refine gate_dst (N:=1) rfl ?_);refine box_event ?hg (N:=1) ?hd (cs := #[.int .i64 a0_0,.int .i64 a0_1,.int .i64 a0_2]) (t:=62) ?hr ?_;(case hd=>rfl);(case hg=>rfl);(case hr=>first|(go_simp;done)|(go_simp;rfl));intro gb111 hg w9 hbox hb;have BK111:=am (hbox);have GW111:=am (ge_ bl hg);have GE111:=am (ge_ bl hg);replace HB:=am (below_step bl hb);clear hb hbox hg;have hcz10_0:=bc BK111.out 0;have hcz10_1:=bc BK111.out 1;have hcz10_2:=bc BK111.out 2;have hfz10_0:=blk_frozen BK111.out 0;have hfz10_1:=blk_frozen BK111.out 1;have hfz10_2:=blk_frozen BK111.out 2)|((with_reducible refine gate_callee (f:=99) rfl ?_);refine goesL_ (some 5) rfl rfl Try.func99 (by kernel_rfl) rfl #[.int .i64 a0_0] rfl tl ?_;(with_reducible refine(spec_ntPitch.calls a0_0 true _ A2.out).mono ?_);rintro e w' ⟨rfl,⟨nd,rfl⟩⟩;refine⟨_,rfl,?_⟩)|(go_at_call 61;(with_reducible refine(spec_l1In.calls a0_1 0 999 false _ A4.out).mono ?_);rintro e w' ⟨rfl,⟨nd,rfl⟩⟩))
   go_ret
   exact⟨fin1,bl⟩
 ·replace c3:=Bool.eq_false_iff.mpr c3
  subst c3
  replace H:=(if_neg Bool.false_ne_true).symm.trans H
  obtain rfl:=Option.some.inj H
  go_enter Try.func91,Try.ntmps91
  go_wp2_with (first|((with_reducible refine gate_dst (N:=1) rfl ?_);refine box_event ?hg (N:=1) ?hd (cs := #[.int .i64 a0_0,.int .i64 a0_1,.int .i64 a0_2]) (t:=62) ?hr ?_;(case hd=>rfl);(case hg=>rfl);(case hr=>first|(go_simp;done)|(go_simp;rfl));intro gb111 hg w11 hbox hb;have BK111:=am (hbox);have GW111:=am (ge_ bl hg);have GE111:=am (ge_ bl hg);replace HB:=am (below_step bl hb);clear hb hbox hg;have hcz12_0:=bc BK111.out 0;have hcz12_1:=bc BK111.out 1;have hcz12_2:=bc BK111.out 2;have hfz12_0:=blk_frozen BK111.out 0;have hfz12_1:=blk_frozen BK111.out 1;have hfz12_2:=blk_frozen BK111.out 2)|((with_reducible refine gate_callee (f:=99) rfl ?_);refine goesL_ (some 5) rfl rfl Try.func99 (by kernel_rfl) rfl #[.int .i64 a0_0] rfl tl ?_;(with_reducible refine(spec_ntPitch.calls a0_0 false _ A2.out).mono ?_);rintro e w' ⟨rfl,⟨nd,rfl⟩⟩;refine⟨_,rfl,?_⟩))
  go_ret
  exact⟨fin1,bl⟩

def spec_ntBefore.f (a0_0:Int) (a0_1:Int) (a0_2:Int) (a1_0:Int) (a1_1:Int) (a1_2:Int):Option (Bool):=if a0_1<a1_1 then(some true) else(if a0_1=a1_1 then(some (decide (a0_0<a1_0))) else(some false))
set_option maxHeartbeats 8000000 in
set_option maxRecDepth 100000 in
theorem spec_ntBefore.calls (a0_0:Int) (a0_1:Int) (a0_2:Int) (a1_0:Int) (a1_1:Int) (a1_2:Int) (r:Bool) (w:World) (h:spec_ntBefore.f a0_0 a0_1 a0_2 a1_0 a1_1 a1_2=some r) :
  Calls Try.prog 92 #[.agg #[.int .i64 a0_0,.int .i64 a0_1,.int .i64 a0_2],.agg #[.int .i64 a1_0,.int .i64 a1_1,.int .i64 a1_2]] w fun e w'=>e = .returned (.bool r)∧Below w.heap.size w w':=by
 have hu62:=Try.underlying62
 have HB:=am (Below.refl w.heap.size w)
 have H:(if a0_1<a1_1 then(some true) else(if a0_1=a1_1 then(some (decide (a0_0<a1_0))) else(some false)))=some r:=h
 clear h
 rcases itc H with⟨c3,H⟩|⟨c3,H⟩
 ·have c3b0:=decide_eq_true c3
  clear c3
  obtain rfl:=Option.some.inj H
  go_enter Try.func92,Try.ntmps92
  go_wp2_with (first|((with_reducible refine gate_dst (N:=2) rfl ?_);refine box_event ?hg (N:=2) ?hd (cs := #[.int .i64 a0_0,.int .i64 a0_1,.int .i64 a0_2]) (t:=62) ?hr ?_;(case hd=>rfl);(case hg=>rfl);(case hr=>first|(go_simp;done)|(go_simp;rfl));intro gb115 hg w4 hbox hb;have BK115:=am (hbox);have GW115:=am (ge_ bl hg);have GE115:=am (ge_ bl hg);replace HB:=am (below_step bl hb);clear hb hbox hg)|((with_reducible refine gate_dst (N:=3) rfl ?_);refine box_event ?hg (N:=3) ?hd (cs := #[.int .i64 a1_0,.int .i64 a1_1,.int .i64 a1_2]) (t:=62) ?hr ?_;(case hd=>rfl);(case hg=>rfl);(case hr=>first|(go_simp;done)|(go_simp;rfl));intro gb116 hg w5 hbox hb;have BK116:=am (hbox);have GW116:=am (ge_ bl hg);have GE116:=am (ge_ bl hg);replace HB:=am (below_step bl hb);have NB115_116:=am (nl (bup BK115.out) hg);have NB116_115:=am (ng (bup BK115.out) hg);replace BK115:=am (blk_below (bup BK115.out) hb);clear hb hbox hg;have hnb6:=NB115_116.out;have hnc6:=NB116_115.out;have hcz7_0:=bc BK115.out 0;have hcz7_1:=bc BK115.out 1;have hcz7_2:=bc BK115.out 2;have hfz7_0:=blk_frozen BK115.out 0;have hfz7_1:=blk_frozen BK115.out 1;have hfz7_2:=blk_frozen BK115.out 2;have hcz8_0:=bc BK116.out 0;have hcz8_1:=bc BK116.out 1;have hcz8_2:=bc BK116.out 2;have hfz8_0:=blk_frozen BK116.out 0;have hfz8_1:=blk_frozen BK116.out 1;have hfz8_2:=blk_frozen BK116.out 2))
  go_ret
  exact⟨fin1,bl⟩
 ·have c3b0:=decide_eq_false c3
  clear c3
  rcases itc H with⟨c9,H⟩|⟨c9,H⟩
  ·have c9b0:(a0_1 == a1_1)=true:=beq_iff_eq.mpr c9
   have c9b1:(a0_1 != a1_1)=false:=bne_eq_false_iff_eq.mpr c9
   clear c9
   obtain rfl:=Option.some.inj H
   go_enter Try.func92,Try.ntmps92
   go_wp2_with (first|((with_reducible refine gate_dst (N:=2) rfl ?_);refine box_event ?hg (N:=2) ?hd (cs := #[.int .i64 a0_0,.int .i64 a0_1,.int .i64 a0_2]) (t:=62) ?hr ?_;(case hd=>rfl);(case hg=>rfl);(case hr=>first|(go_simp;done)|(go_simp;rfl));intro gb115 hg w10 hbox hb;have BK115:=am (hbox);have GW115:=am (ge_ bl hg);have GE115:=am (ge_ bl hg);replace HB:=am (below_step bl hb);clear hb hbox hg)|((with_reducible refine gate_dst (N:=3) rfl ?_);refine box_event ?hg (N:=3) ?hd (cs := #[.int .i64 a1_0,.int .i64 a1_1,.int .i64 a1_2]) (t:=62) ?hr ?_;(case hd=>rfl);(case hg=>rfl);(case hr=>first|(go_simp;done)|(go_simp;rfl));intro gb116 hg w11 hbox hb;have BK116:=am (hbox);have GW116:=am (ge_ bl hg);have GE116:=am (ge_ bl hg);replace HB:=am (below_step bl hb);have NB115_116:=am (nl (bup BK115.out) hg);have NB116_115:=am (ng (bup BK115.out) hg);replace BK115:=am (blk_below (bup BK115.out) hb);clear hb hbox hg;have hnb12:=NB115_116.out;have hnc12:=NB116_115.out;have hcz13_0:=bc BK115.out 0;have hcz13_1:=bc BK115.out 1;have hcz13_2:=bc BK115.out 2;have hfz13_0:=blk_frozen BK115.out 0;have hfz13_1:=blk_frozen BK115.out 1;have hfz13_2:=blk_frozen BK115.out 2;have hcz14_0:=bc BK116.out 0;have hcz14_1:=bc BK116.out 1;have hcz14_2:=bc BK116.out 2;have hfz14_0:=blk_frozen BK116.out 0;have hfz14_1:=blk_frozen BK116.out 1;have hfz14_2:=blk_frozen BK116.out 2))
   go_ret
   exact⟨fin1,bl⟩
  ·have c9b0:(a0_1 == a1_1)=false:=beq_eq_false_iff_ne.mpr c9
   have c9b1:(a0_1 != a1_1)=true:=bne_iff_ne.mpr c9
   obtain rfl:=Option.some.inj H
   go_enter Try.func92,Try.ntmps92
   go_wp2_with (first|((with_reducible refine gate_dst (N:=2) rfl ?_);refine box_event ?hg (N:=2) ?hd (cs := #[.int .i64 a0_0,.int .i64 a0_1,.int .i64 a0_2]) (t:=62) ?hr ?_;(case hd=>rfl);(case hg=>rfl);(case hr=>first|(go_simp;done)|(go_simp;rfl));intro gb115 hg w15 hbox hb;have BK115:=am (hbox);have GW115:=am (ge_ bl hg);have GE115:=am (ge_ bl hg);replace HB:=am (below_step bl hb);clear hb hbox hg)|((with_reducible refine gate_dst (N:=3) rfl ?_);refine box_event ?hg (N:=3) ?hd (cs := #[.int .i64 a1_0,.int .i64 a1_1,.int .i64 a1_2]) (t:=62) ?hr ?_;(case hd=>rfl);(case hg=>rfl);(case hr=>first|(go_simp;done)|(go_simp;rfl));intro gb116 hg w16 hbox hb;have BK116:=am (hbox);have GW116:=am (ge_ bl hg);have GE116:=am (ge_ bl hg);replace HB:=am (below_step bl hb);have NB115_116:=am (nl (bup BK115.out) hg);have NB116_115:=am (ng (bup BK115.out) hg);replace BK115:=am (blk_below (bup BK115.out) hb);clear hb hbox hg;have hnb17:=NB115_116.out;have hnc17:=NB116_115.out;have hcz18_0:=bc BK115.out 0;have hcz18_1:=bc BK115.out 1;have hcz18_2:=bc BK115.out 2;have hfz18_0:=blk_frozen BK115.out 0;have hfz18_1:=blk_frozen BK115.out 1;have hfz18_2:=blk_frozen BK115.out 2;have hcz19_0:=bc BK116.out 0;have hcz19_1:=bc BK116.out 1;have hcz19_2:=bc BK116.out 2;have hfz19_0:=blk_frozen BK116.out 0;have hfz19_1:=blk_frozen BK116.out 1;have hfz19_2:=blk_frozen BK116.out 2))
   go_ret
   exact⟨fin1,bl⟩

def spec_ntMeet.f (a0_0:Int) (a0_1:Int) (a0_2:Int) (a1_0:Int) (a1_1:Int) (a1_2:Int):Option (Bool):=if a0_0=a1_0 then(if a0_1<(wrap64 (a1_1+a1_2)) then(some (decide (a1_1<(wrap64 (a0_1+a0_2))))) else(some false)) else(some false)
set_option maxHeartbeats 8000000 in
set_option maxRecDepth 100000 in
theorem spec_ntMeet.calls (a0_0:Int) (a0_1:Int) (a0_2:Int) (a1_0:Int) (a1_1:Int) (a1_2:Int) (r:Bool) (w:World) (h:spec_ntMeet.f a0_0 a0_1 a0_2 a1_0 a1_1 a1_2=some r) :
  Calls Try.prog 93 #[.agg #[.int .i64 a0_0,.int .i64 a0_1,.int .i64 a0_2],.agg #[.int .i64 a1_0,.int .i64 a1_1,.int .i64 a1_2]] w fun e w'=>e = .returned (.bool r)∧Below w.heap.size w w':=by
 have hu62:=Try.underlying62
 have HB:=am (Below.refl w.heap.size w)
 have H:(if a0_0=a1_0 then(if a0_1<(wrap64 (a1_1+a1_2)) then(some (decide (a1_1<(wrap64 (a0_1+a0_2))))) else(some false)) else(some false))=some r:=h
 clear h
 rcases itc H with⟨c3,H⟩|⟨c3,H⟩
 ·have c3b0:(a0_0 == a1_0)=true:=beq_iff_eq.mpr c3
  have c3b1:(a0_0 != a1_0)=false:=bne_eq_false_iff_eq.mpr c3
  clear c3
  rcases itc H with⟨c4,H⟩|⟨c4,H⟩
  ·have c4b0:=decide_eq_true c4
   clear c4
   obtain rfl:=Option.some.inj H
   go_enter Try.func93,Try.ntmps93
   go_wp2_with (first|((with_reducible refine gate_dst (N:=2) rfl ?_);refine box_event ?hg (N:=2) ?hd (cs := #[.int .i64 a0_0,.int .i64 a0_1,.int .i64 a0_2]) (t:=62) ?hr ?_;(case hd=>rfl);(case hg=>rfl);(case hr=>first|(go_simp;done)|(go_simp;rfl));intro gb117 hg w5 hbox hb;have BK117:=am (hbox);have GW117:=am (ge_ bl hg);have GE117:=am (ge_ bl hg);replace HB:=am (below_step bl hb);clear hb hbox hg)|((with_reducible refine gate_dst (N:=3) rfl ?_);refine box_event ?hg (N:=3) ?hd (cs := #[.int .i64 a1_0,.int .i64 a1_1,.int .i64 a1_2]) (t:=62) ?hr ?_;(case hd=>rfl);(case hg=>rfl);(case hr=>first|(go_simp;done)|(go_simp;rfl));intro gb118 hg w6 hbox hb;have BK118:=am (hbox);have GW118:=am (ge_ bl hg);have GE118:=am (ge_ bl hg);replace HB:=am (below_step bl hb);have NB117_118:=am (nl (bup BK117.out) hg);have NB118_117:=am (ng (bup BK117.out) hg);replace BK117:=am (blk_below (bup BK117.out) hb);clear hb hbox hg;have hnb7:=NB117_118.out;have hnc7:=NB118_117.out;have hcz8_0:=bc BK117.out 0;have hcz8_1:=bc BK117.out 1;have hcz8_2:=bc BK117.out 2;have hfz8_0:=blk_frozen BK117.out 0;have hfz8_1:=blk_frozen BK117.out 1;have hfz8_2:=blk_frozen BK117.out 2;have hcz9_0:=bc BK118.out 0;have hcz9_1:=bc BK118.out 1;have hcz9_2:=bc BK118.out 2;have hfz9_0:=blk_frozen BK118.out 0;have hfz9_1:=blk_frozen BK118.out 1;have hfz9_2:=blk_frozen BK118.out 2))
   go_ret
   exact⟨fin1,bl⟩
  ·have c4b0:=decide_eq_false c4
   clear c4
   obtain rfl:=Option.some.inj H
   go_enter Try.func93,Try.ntmps93
   go_wp2_with (first|((with_reducible refine gate_dst (N:=2) rfl ?_);refine box_event ?hg (N:=2) ?hd (cs := #[.int .i64 a0_0,.int .i64 a0_1,.int .i64 a0_2]) (t:=62) ?hr ?_;(case hd=>rfl);(case hg=>rfl);(case hr=>first|(go_simp;done)|(go_simp;rfl));intro gb117 hg w10 hbox hb;have BK117:=am (hbox);have GW117:=am (ge_ bl hg);have GE117:=am (ge_ bl hg);replace HB:=am (below_step bl hb);clear hb hbox hg)|((with_reducible refine gate_dst (N:=3) rfl ?_);refine box_event ?hg (N:=3) ?hd (cs := #[.int .i64 a1_0,.int .i64 a1_1,.int .i64 a1_2]) (t:=62) ?hr ?_;(case hd=>rfl);(case hg=>rfl);(case hr=>first|(go_simp;done)|(go_simp;rfl));intro gb118 hg w11 hbox hb;have BK118:=am (hbox);have GW118:=am (ge_ bl hg);have GE118:=am (ge_ bl hg);replace HB:=am (below_step bl hb);have NB117_118:=am (nl (bup BK117.out) hg);have NB118_117:=am (ng (bup BK117.out) hg);replace BK117:=am (blk_below (bup BK117.out) hb);clear hb hbox hg;have hnb12:=NB117_118.out;have hnc12:=NB118_117.out;have hcz13_0:=bc BK117.out 0;have hcz13_1:=bc BK117.out 1;have hcz13_2:=bc BK117.out 2;have hfz13_0:=blk_frozen BK117.out 0;have hfz13_1:=blk_frozen BK117.out 1;have hfz13_2:=blk_frozen BK117.out 2;have hcz14_0:=bc BK118.out 0;have hcz14_1:=bc BK118.out 1;have hcz14_2:=bc BK118.out 2;have hfz14_0:=blk_frozen BK118.out 0;have hfz14_1:=blk_frozen BK118.out 1;have hfz14_2:=blk_frozen BK118.out 2))
   go_ret
   exact⟨fin1,bl⟩
 ·have c3b0:(a0_0 == a1_0)=false:=beq_eq_false_iff_ne.mpr c3
  have c3b1:(a0_0 != a1_0)=true:=bne_iff_ne.mpr c3
  obtain rfl:=Option.some.inj H
  go_enter Try.func93,Try.ntmps93
  go_wp2_with (first|((with_reducible refine gate_dst (N:=2) rfl ?_);refine box_event ?hg (N:=2) ?hd (cs := #[.int .i64 a0_0,.int .i64 a0_1,.int .i64 a0_2]) (t:=62) ?hr ?_;(case hd=>rfl);(case hg=>rfl);(case hr=>first|(go_simp;done)|(go_simp;rfl));intro gb117 hg w15 hbox hb;have BK117:=am (hbox);have GW117:=am (ge_ bl hg);have GE117:=am (ge_ bl hg);replace HB:=am (below_step bl hb);clear hb hbox hg)|((with_reducible refine gate_dst (N:=3) rfl ?_);refine box_event ?hg (N:=3) ?hd (cs := #[.int .i64 a1_0,.int .i64 a1_1,.int .i64 a1_2]) (t:=62) ?hr ?_;(case hd=>rfl);(case hg=>rfl);(case hr=>first|(go_simp;done)|(go_simp;rfl));intro gb118 hg w16 hbox hb;have BK118:=am (hbox);have GW118:=am (ge_ bl hg);have GE118:=am (ge_ bl hg);replace HB:=am (below_step bl hb);have NB117_118:=am (nl (bup BK117.out) hg);have NB118_117:=am (ng (bup BK117.out) hg);replace BK117:=am (blk_below (bup BK117.out) hb);clear hb hbox hg;have hnb17:=NB117_118.out;have hnc17:=NB118_117.out;have hcz18_0:=bc BK117.out 0;have hcz18_1:=bc BK117.out 1;have hcz18_2:=bc BK117.out 2;have hfz18_0:=blk_frozen BK117.out 0;have hfz18_1:=blk_frozen BK117.out 1;have hfz18_2:=blk_frozen BK117.out 2;have hcz19_0:=bc BK118.out 0;have hcz19_1:=bc BK118.out 1;have hcz19_2:=bc BK118.out 2;have hfz19_0:=blk_frozen BK118.out 0;have hfz19_1:=blk_frozen BK118.out 1;have hfz19_2:=blk_frozen BK118.out 2))
  go_ret
  exact⟨fin1,bl⟩

end Go.Proofs.Ytipklbjbgbbgpaa.PFnExactPassesVerifier
