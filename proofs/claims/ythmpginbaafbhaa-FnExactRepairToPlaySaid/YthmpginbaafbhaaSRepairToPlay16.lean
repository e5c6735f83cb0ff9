/- The walks of functions that FnExactRepairToPlay reaches: what they return is what the plain functions of the same names say. Laid by a program of this session after the kit's print. No conditions beyond the arguments' being read. -/
import Derived.Test.YthmpginbaafbhaaSRepairToPlay0
import Derived.Test.YthmpginbaafbhaaSRepairToPlay7
import Derived.Test.YthmpginbaafbhaaSRepairToPlay15
namespace Go.Proofs.Ythmpginbaafbhaa.PFnExactRepairToPlay
open Go.RowKit Go.Proofs.YthmpginbaafbhaaW.PrintWords Go.Proofs.YthmpginbaafbhaaW.PrintLast Go.Proofs.YthmpginbaafbhaaW.PrintMore
attribute [local go_sem] max2_int min2_int max_two min_two max_three min_three max_four min_four   -- for this text's walks alone
set_option linter.unusedVariables false
set_option linter.unusedSimpArgs false

def impl_isCost.f (a0:Int):Option (Bool):=if a0≥0 then(some (decide (a0≤100))) else(some false)
set_option maxHeartbeats 8000000 in
set_option maxRecDepth 100000 in
theorem impl_isCost.calls (a0:Int) (r:Bool) (w:World) (h:impl_isCost.f a0=some r) :
  Calls Try.prog 48 #[.int .i64 a0] w fun e w'=>e = .returned (.bool r)∧Drawn0 w w':=by
 have H:(if a0≥0 then(some (decide (a0≤100))) else(some false))=some r:=h
 clear h
 rcases itc H with⟨c2,H⟩|⟨c2,H⟩
 ·have c2b0:decide (0≤a0)=true:=decide_eq_true c2
  clear c2
  obtain rfl:=Option.some.inj H
  go_enter Try.func48,Try.ntmps48
  go_wp2
  go_ret
  exact⟨by first|rfl|(simp;done)|(simp [*];done),by repeat(first|exact Drawn0.refl _|apply Drawn0.step)⟩
 ·have c2b0:decide (0≤a0)=false:=decide_eq_false c2
  clear c2
  obtain rfl:=Option.some.inj H
  go_enter Try.func48,Try.ntmps48
  go_wp2
  go_ret
  exact⟨by first|rfl|(simp;done)|(simp [*];done),by repeat(first|exact Drawn0.refl _|apply Drawn0.step)⟩

def impl_canRepair.f (k:Nat) (l0:List (S51)) (l1:List (S51)) (a2:Int) (a3:Int):Option (Bool):=(impl_IsSheet.f k l0).bind fun t397=>(if t397=true then((impl_IsSheet.f k l1).bind fun t398=>(if t398=true then((impl_isCost.f a2).bind fun t399=>(if t399=true then((impl_isCost.f a3).bind fun t400=>(some t400)) else(some false))) else(some false))) else(some false))
set_option maxHeartbeats 8000000 in
set_option maxRecDepth 100000 in
theorem impl_canRepair.calls (k:Nat) (A0:Option Addr) (c0:Nat) (l0:List (S51)) (A1:Option Addr) (c1:Nat) (l1:List (S51)) (a2:Int) (a3:Int) (r:Bool) (w:World) (hr0:Kd.C k51 w A0 l0.length l0) (hc0:l0.length≤c0) (hr1:Kd.C k51 w A1 l1.length l1) (hc1:l1.length≤c1) (h:impl_canRepair.f k l0 l1 a2 a3=some r) :
  Calls Try.prog 26 #[.slice A0 l0.length c0,.slice A1 l1.length c1,.int .i64 a2,.int .i64 a3] w fun e w'=>e = .returned (.bool r)∧Below w.heap.size w w':=by
 have HR0:=am hr0
 have HC0:=am hc0
 clear hr0 hc0
 have HR1:=am hr1
 have HC1:=am hc1
 clear hr1 hc1
 have HB:=am (Below.refl w.heap.size w)
 have H:((impl_IsSheet.f k l0).bind fun t397=>(if t397=true then((impl_IsSheet.f k l1).bind fun t398=>(if t398=true then((impl_isCost.f a2).bind fun t399=>(if t399=true then((impl_isCost.f a3).bind fun t400=>(some t400)) else(some false))) else(some false))) else(some false)))=some r:=h
 clear h
 obtain⟨t397,A5,H⟩:=bnd H
 by_cases c6:t397=true
 ·subst c6
  replace H:=(if_pos rfl).symm.trans H
  obtain⟨t398,A7,H⟩:=bnd H
  by_cases c8:t398=true
  ·subst c8
   replace H:=(if_pos rfl).symm.trans H
   obtain⟨t399,A9,H⟩:=bnd H
   by_cases c10:t399=true
   ·subst c10
    replace H:=(if_pos rfl).symm.trans H
    obtain⟨t400,A11,H⟩:=bnd H
    obtain rfl:=Option.some.inj H
    go_enter Try.func26,Try.ntmps26
    go_wp2_with (first|((with_reducible refine gate_callee (f:=47) rfl ?_);refine goesL_ (some 10) rfl rfl Try.func47 (by kernel_rfl) rfl #[.slice A0 l0.length c0] rfl tl ?_;(with_reducible refine(impl_IsSheet.calls k _ _ l0 true _ ?side1 ?side2 A5.out).mono ?_);(case side1=>repeat(first|exact HR0.out|(with_reducible refine Kd.C_alloc ?_ _)|(with_reducible refine Kd.C_drewN ?_ _)|(with_reducible refine Kd.C_drew ?_)));(case side2=>exact HC0.out);rintro e w12 ⟨rfl,hb⟩;refine⟨_,rfl,?_⟩;replace HB:=am (below_step bl hb);(try clear hb))|(go_at_call 47;(with_reducible refine(impl_IsSheet.calls k _ _ l1 true _ ?side1 ?side2 A7.out).mono ?_);(case side1=>exact cup (Kd.C_below HR1.out HB.out));(case side2=>exact HC1.out);rintro e w13 ⟨rfl,hb⟩;replace HB:=am (below_step bl hb);(try clear hb))|(go_at_call 48;(with_reducible refine(impl_isCost.calls a2 true _ A9.out).mono ?_);rintro e w' ⟨rfl,⟨nd,rfl⟩⟩)|(go_at_call 48;(with_reducible refine(impl_isCost.calls a3 t400 _ A11.out).mono ?_);rintro e w' ⟨rfl,⟨nd,rfl⟩⟩))
    go_ret
    exact⟨fin1,bl⟩
   ·replace c10:=Bool.eq_false_iff.mpr c10
    subst c10
    replace H:=(if_neg Bool.false_ne_true).symm.trans H
    obtain rfl:=Option.some.inj H
    go_enter Try.func26,Try.ntmps26
    go_wp2_with (first|((with_reducible refine gate_callee (f:=47) rfl ?_);refine goesL_ (some 10) rfl rfl Try.func47 (by kernel_rfl) rfl #[.slice A0 l0.length c0] rfl tl ?_;(with_reducible refine(impl_IsSheet.calls k _ _ l0 true _ ?side1 ?side2 A5.out).mono ?_);(case side1=>repeat(first|exact HR0.out|(with_reducible refine Kd.C_alloc ?_ _)|(with_reducible refine Kd.C_drewN ?_ _)|(with_reducible refine Kd.C_drew ?_)));(case side2=>exact HC0.out);rintro e w14 ⟨rfl,hb⟩;refine⟨_,rfl,?_⟩;replace HB:=am (below_step bl hb);(try clear hb))|(go_at_call 47;(with_reducible refine(impl_IsSheet.calls k _ _ l1 true _ ?side1 ?side2 A7.out).mono ?_);(case side1=>exact cup (Kd.C_below HR1.out HB.out));(case side2=>exact HC1.out);rintro e w15 ⟨rfl,hb⟩;replace HB:=am (below_step bl hb);(try clear hb))|(go_at_call 48;(with_reducible refine(impl_isCost.calls a2 false _ A9.out).mono ?_);rintro e w' ⟨rfl,⟨nd,rfl⟩⟩))
    go_ret
    exact⟨fin1,bl⟩
  ·replace c8:=Bool.eq_false_iff.mpr c8
   subst c8
   replace H:=(if_neg Bool.false_ne_true).symm.trans H
   obtain rfl:=Option.some.inj H
   go_enter Try.func26,Try.ntmps26
   go_wp2_with (first|((with_reducible refine gate_callee (f:=47) rfl ?_);refine goesL_ (some 10) rfl rfl Try.func47 (by kernel_rfl) rfl #[.slice A0 l0.length c0] rfl tl ?_;(with_reducible refine(impl_IsSheet.calls k _ _ l0 true _ ?side1 ?side2 A5.out).mono ?_);(case side1=>repeat(first|exact HR0.out|(with_reducible refine Kd.C_alloc ?_ _)|(with_reducible refine Kd.C_drewN ?_ _)|(with_reducible refine Kd.C_drew ?_)));(case side2=>exact HC0.out);rintro e w16 ⟨rfl,hb⟩;refine⟨_,rfl,?_⟩;replace HB:=am (below_step bl hb);(try clear hb))|(go_at_call 47;(with_reducible refine(impl_IsSheet.calls k _ _ l1 false _ ?side1 ?side2 A7.out).mono ?_);(case side1=>exact cup (Kd.C_below HR1.out HB.out));(case side2=>exact HC1.out);rintro e w17 ⟨rfl,hb⟩;replace HB:=am (below_step bl hb);(try clear hb)))
   go_ret
   exact⟨fin1,bl⟩
 ·replace c6:=Bool.eq_false_iff.mpr c6
  subst c6
  replace H:=(if_neg Bool.false_ne_true).symm.trans H
  obtain rfl:=Option.some.inj H
  go_enter Try.func26,Try.ntmps26
  go_wp2_with (first|((with_reducible refine gate_callee (f:=47) rfl ?_);refine goesL_ (some 10) rfl rfl Try.func47 (by kernel_rfl) rfl #[.slice A0 l0.length c0] rfl tl ?_;(with_reducible refine(impl_IsSheet.calls k _ _ l0 false _ ?side1 ?side2 A5.out).mono ?_);(case side1=>repeat(first|exact HR0.out|(with_reducible refine Kd.C_alloc ?_ _)|(with_reducible refine Kd.C_drewN ?_ _)|(with_reducible refine Kd.C_drew ?_)));(case side2=>exact HC0.out);rintro e w18 ⟨rfl,hb⟩;refine⟨_,rfl,?_⟩;replace HB:=am (below_step bl hb);(try clear hb)))
  go_ret
  exact⟨fin1,bl⟩

def slices_Index_int_int.l0:Nat→List Int→Int→Int→Int→Option (Int)
 | 0,_,_,_,_=>none
 | k+1,x0,x1,x7,x8=>if x8<x7 then(if 0≤x8 then(if x8<(x0.length:Int) then(if x1=(rd x0 x8) then(some x8) else(slices_Index_int_int.l0 k x0 x1 x7 (wrap64 (x8+1)))) else(none)) else(none)) else(some (-1))
def slices_Index_int_int.f (k:Nat) (l0:List Int) (a1:Int):Option (Int):=slices_Index_int_int.l0 k l0 a1 (l0.length:Int) 0
set_option maxHeartbeats 8000000 in
set_option maxRecDepth 100000 in
theorem slices_Index_int_int.calls (k:Nat) (A0:Option Addr) (c0:Nat) (l0:List Int) (a1:Int) (r:Int) (w:World) (hr0:Kd.C (Kd.int .i64) w A0 l0.length l0) (hc0:l0.length≤c0) (h:slices_Index_int_int.f k l0 a1=some r) :
  Calls Try.prog 68 #[.slice A0 l0.length c0,.int .i64 a1] w fun e w'=>e = .returned (.int .i64 r)∧Drawn0 w w':=by
 have HR0:=am hr0
 have HC0:=am hc0
 clear hr0 hc0
 have H:(slices_Index_int_int.l0 k l0 a1 (l0.length:Int) 0)=some r:=h
 clear h
 have H':=am H
 clear H
 go_enter Try.func68,Try.ntmps68
 go_wp2
 go_loopg [8] k (fun kq v8 w'=>∃(x8_1:Int),v8 = .int .i64 x8_1∧Aside0 (slices_Index_int_int.l0 kq l0 a1 (l0.length:Int) x8_1=some r)∧Aside0 (kq≤k)∧Drawn0 w w')
 case atStart=>exact⟨(0),fin2,H',⟨Nat.le_refl _⟩,by repeat(first|exact Drawn0.refl _|apply Drawn0.step)⟩
 case round =>
  clear H'
  try clear p2
  obtain⟨x8_1,rfl,HA,HK1,⟨m1,rfl⟩⟩:=hrel
  cases gk with
  | zero=>exact absurd HA.out (by simp [slices_Index_int_int.l0])
  | succ k1 =>
   have H:=HA.out
   clear HA
   simp only[slices_Index_int_int.l0] at H
   rcases itc H with⟨c3,H⟩|⟨c3,H⟩
   ·have c3b0:=decide_eq_true c3
    clear c3
    obtain⟨c4b0,H⟩:=ifb H
    obtain⟨c5b0,H⟩:=ifb H
    rcases itc H with⟨c6,H⟩|⟨c6,H⟩
    ·have c6b0:(a1 == (rd l0 x8_1))=true:=beq_iff_eq.mpr c6
     have c6b1:(a1 != (rd l0 x8_1))=false:=bne_eq_false_iff_eq.mpr c6
     clear c6
     obtain rfl:=Option.some.inj H
     have p401:0≤(x8_1:Int):=od
     have q401:x8_1<(l0.length:Int):=od
     obtain⟨ad401,e401,hx401_0⟩:=Kd.at_int HR0.out x8_1 p401 q401
     cases e401
     replace p401:=eq_true p401
     replace q401:=eq_true q401
     go_wp2
     go_ret
     exact⟨by first|rfl|(simp;done)|(simp [*];done),by repeat(first|exact Drawn0.refl _|apply Drawn0.step)⟩
    ·have c6b0:(a1 == (rd l0 x8_1))=false:=beq_eq_false_iff_ne.mpr c6
     have c6b1:(a1 != (rd l0 x8_1))=true:=bne_iff_ne.mpr c6
     have H':=am H
     clear H
     have p401:0≤(x8_1:Int):=od
     have q401:x8_1<(l0.length:Int):=od
     obtain⟨ad401,e401,hx401_0⟩:=Kd.at_int HR0.out x8_1 p401 q401
     cases e401
     replace p401:=eq_true p401
     replace q401:=eq_true q401
     go_wp2
     go_roundg k1
     case measure=>have:=HK1.out;omega
     case rel=>exact⟨(wrap64 (x8_1+1)),fin2,H',⟨by have:=HK1.out;omega⟩,by repeat(first|exact Drawn0.refl _|apply Drawn0.step)⟩
   ·have c3b0:=decide_eq_false c3
    clear c3
    obtain rfl:=Option.some.inj H
    go_wp2
    go_ret
    exact⟨by first|rfl|(simp;done)|(simp [*];done),by repeat(first|exact Drawn0.refl _|apply Drawn0.step)⟩

def slices_Contains_int_int.f (k:Nat) (l0:List Int) (a1:Int):Option (Bool):=(slices_Index_int_int.f k l0 a1).bind fun t402=>(some (decide (t402≥0)))
set_option maxHeartbeats 8000000 in
set_option maxRecDepth 100000 in
theorem slices_Contains_int_int.calls (k:Nat) (A0:Option Addr) (c0:Nat) (l0:List Int) (a1:Int) (r:Bool) (w:World) (hr0:Kd.C (Kd.int .i64) w A0 l0.length l0) (hc0:l0.length≤c0) (h:slices_Contains_int_int.f k l0 a1=some r) :
  Calls Try.prog 66 #[.slice A0 l0.length c0,.int .i64 a1] w fun e w'=>e = .returned (.bool r)∧Drawn0 w w':=by
 have HR0:=am hr0
 have HC0:=am hc0
 clear hr0 hc0
 have H:((slices_Index_int_int.f k l0 a1).bind fun t402=>(some (decide (t402≥0))))=some r:=h
 clear h
 obtain⟨t402,A3,H⟩:=bnd H
 obtain rfl:=Option.some.inj H
 go_enter Try.func66,Try.ntmps66
 go_wp2_with (first|((with_reducible refine gate_callee (f:=68) rfl ?_);refine goesL_ (some 7) rfl rfl Try.func68 (by kernel_rfl) rfl #[.slice A0 l0.length c0,.int .i64 a1] rfl tl ?_;(with_reducible refine(slices_Index_int_int.calls k _ _ l0 a1 t402 _ ?side1 ?side2 A3.out).mono ?_);(case side1=>repeat(first|exact HR0.out|(with_reducible refine Kd.C_alloc ?_ _)|(with_reducible refine Kd.C_drewN ?_ _)|(with_reducible refine Kd.C_drew ?_)));(case side2=>exact HC0.out);rintro e w' ⟨rfl,⟨nd,rfl⟩⟩;refine⟨_,rfl,?_⟩))
 go_ret
 exact⟨by first|rfl|(simp;done)|(simp [*];done),by repeat(first|exact Drawn0.refl _|apply Drawn0.step)⟩

mutual
def impl_fastRepeats.l0:Nat→List (S55)→Int→List (List Int)→List (S55)→Int→Int→Option ((List (List Int)))
 | 0,_,_,_,_,_,_=>none
 | k+1,x0,x1,x5,x10,x11,x12=>if x12<x11 then(if 0≤x12 then(if x12<(x10.length:Int) then(impl_fastRepeats.l1 k x0 x1 x5 x12 (wrap64 (x12 - 1)) x10 x11 x12 ((rd_T55 x10 x12).f0) ((rd_T55 x10 x12).f1) ((rd_T55 x10 x12).f2)) else(none)) else(none)) else(some x5)
def impl_fastRepeats.l1:Nat→List (S55)→Int→List (List Int)→Int→Int→List (S55)→Int→Int→Int→Int→Int→Option ((List (List Int)))
 | 0,_,_,_,_,_,_,_,_,_,_,_=>none
 | k+1,x0,x1,x5,x6,x8,x10,x11,x12,x408000,x408001,x408002=>if x8≥0 then(if 0≤x8 then(if x8<(x0.length:Int) then(if((rd_T55 x0 x8).f0)=x408000 then(if(wrap64 (x408001 - ((rd_T55 x0 x8).f1)))<x1 then(if x5.length<5864062014805 then(impl_fastRepeats.l0 k x0 x1 (x5 ++ [(([x8,x6]:List Int))]) x10 x11 (wrap64 (x12+1))) else(none)) else(impl_fastRepeats.l0 k x0 x1 x5 x10 x11 (wrap64 (x12+1)))) else(impl_fastRepeats.l1 k x0 x1 x5 x6 (wrap64 (x8 - 1)) x10 x11 x12 x408000 x408001 x408002)) else(none)) else(none)) else(impl_fastRepeats.l0 k x0 x1 x5 x10 x11 (wrap64 (x12+1)))
end
def impl_fastRepeats.f (k:Nat) (l0:List (S55)) (a1:Int):Option ((List (List Int))):=impl_fastRepeats.l0 k l0 a1 (([]:List (List Int))) l0 (l0.length:Int) 0
set_option maxHeartbeats 8000000 in
set_option maxRecDepth 100000 in
theorem impl_fastRepeats.calls (k:Nat) (A0:Option Addr) (c0:Nat) (l0:List (S55)) (a1:Int) (r:List (List Int)) (w:World) (hr0:Kd.C k55 w A0 l0.length l0) (hc0:l0.length≤c0) (h:impl_fastRepeats.f k l0 a1=some r) :
  Calls Try.prog 67 #[.slice A0 l0.length c0,.int .i64 a1] w fun e w'=>∃ v0_:Value,e = .returned (v0_)∧Kd.S (Kd.slice 3 (Kd.int .i64)) 22 w' w.heap.size (fun _=>True) v0_ r∧Below w.heap.size w w':=by
 have hu55:=Try.underlying55
 have HR0:=am hr0
 have HC0:=am hc0
 clear hr0 hc0
 have HB:=am (Below.refl w.heap.size w)
 have H:(impl_fastRepeats.l0 k l0 a1 (([]:List (List Int))) l0 (l0.length:Int) 0)=some r:=h
 clear h
 obtain⟨y403,hy403⟩:∃ y_:List (List Int),y_=(([]:List (List Int))):=⟨_,rfl⟩
 replace H:(impl_fastRepeats.l0 k l0 a1 y403 l0 (l0.length:Int) 0)=some r:=by subst hy403;exact H
 have Ny403:=am hy403
 clear hy403
 have H':=am H
 clear H
 go_enter Try.func67,Try.ntmps67
 iterate 3 ((try go_quiet (fail));(try go_wp2_with (first|((with_reducible refine gate_dst (N:=9) rfl ?_);refine Kd.S_lit (Kd.slice 3 (Kd.int .i64)) _ 22 ?hg (N:=9) ?hd (xs:=([]:List (List Int))) (inner:=[]) (ok:=fun _=>True) (okp:=fun _=>True) ?hr ?hp (fun _ hk=>hk) trivial (Below.refl _ _) (Nat.le_refl _) (by simp) ?_;(case hd=>rfl);(case hg=>rfl);(case hr=>first|(go_simp;done)|(go_simp;rfl));(case hp=>exact(Reps.none _ _));intro v404 w3 ho4 hb hg_ hnew_;clear hg_ hnew_;(first|rw[← Ny403.out] at ho4|(simp only[Int.reduceToNat] at ho4;rw[← Ny403.out] at ho4));have HO405:=am (Kd.S_lower ho4 (below_size bl));replace HB:=am (below_step bl hb);clear hb ho4))))
 go_loopg [5,12] k (fun kq v5 v12 w'=>∃(x5_1:List (List Int)) (x12_1:Int),v12 = .int .i64 x12_1∧Aside0 (impl_fastRepeats.l0 kq l0 a1 x5_1 l0 (l0.length:Int) x12_1=some r)∧Aside0 (kq≤k)∧Aside0 (Kd.S (Kd.slice 3 (Kd.int .i64)) 22 w' w.heap.size (fun _=>True) v5 x5_1)∧Aside0 (Below w.heap.size w w'))
 case atStart=>exact⟨(y403),(0),fin2,H',⟨Nat.le_refl _⟩,⟨by(with_reducible repeat(first|apply Kd.S_alloc|apply Kd.S_drewN|apply Kd.S_drew));exact HO405.out⟩,⟨bl⟩⟩
 case round =>
  clear H'
  try clear p2
  obtain⟨x5_1,x12_1,rfl,HA,HK1,HO_5,HB⟩:=hrel
  cases gk with
  | zero=>exact absurd HA.out (by simp [impl_fastRepeats.l0])
  | succ k1 =>
   have H:=HA.out
   clear HA
   simp only[impl_fastRepeats.l0] at H
   rcases itc H with⟨c5,H⟩|⟨c5,H⟩
   ·have c5b0:=decide_eq_true c5
    clear c5
    obtain⟨c6b0,H⟩:=ifb H
    obtain⟨c7b0,H⟩:=ifb H
    have H':=am H
    clear H
    have p406:0≤(x12_1:Int):=od
    have q406:x12_1<(l0.length:Int):=od
    obtain⟨ad406,e406,hx406_0,hx406_1,hx406_2⟩:=at_T55 HR0.out x12_1 p406 q406
    cases e406
    replace hx406_0:=(HB.out.cell (World.block_lt_of_cell? w _ hx406_0)).trans hx406_0
    replace hx406_1:=(HB.out.cell (World.block_lt_of_cell? w _ hx406_1)).trans hx406_1
    replace hx406_2:=(HB.out.cell (World.block_lt_of_cell? w _ hx406_2)).trans hx406_2
    replace p406:=eq_true p406
    replace q406:=eq_true q406
    iterate 3 ((try go_quiet (fail));(try go_wp2_with (first|((with_reducible refine gate_dst (N:=7) rfl ?_);refine box_event ?hg (N:=7) ?hd (cs := #[.int .i64 0,.int .i64 0,.int .i64 0]) (t:=55) ?hr ?_;(case hd=>rfl);(case hg=>rfl);(case hr=>first|(go_simp;done)|(go_simp;rfl));intro gb407 hg w8 hbox hb;replace HO_5:=am (Kd.S_below (by(with_reducible repeat(first|apply Kd.S_alloc|apply Kd.S_drewN|apply Kd.S_drew));exact HO_5.out) hb);have BK407:=am (hbox);have GW407:=am (ge_ bl hg);have GE407:=am (ge_ bl hg);replace HB:=am (below_step bl hb);clear hb hbox hg;have hcz9_0:w8.cell? ⟨gb407,0,none⟩=some (.int .i64 0):=(blk_cell BK407.out 0).trans rfl;have hcz9_1:w8.cell? ⟨gb407,1,none⟩=some (.int .i64 0):=(blk_cell BK407.out 1).trans rfl;have hcz9_2:w8.cell? ⟨gb407,2,none⟩=some (.int .i64 0):=(blk_cell BK407.out 2).trans rfl;have hfz9_0:=blk_frozen BK407.out 0;have hfz9_1:=blk_frozen BK407.out 1;have hfz9_2:=blk_frozen BK407.out 2))))
    go_loopg [5,8] k1 (fun kq v5 v8 w'=>∃(x5_2:List (List Int)) (x8_2:Int),v8 = .int .i64 x8_2∧Aside0 (impl_fastRepeats.l1 kq l0 a1 x5_2 x12_1 x8_2 l0 (l0.length:Int) x12_1 ((rd_T55 l0 x12_1).f0) ((rd_T55 l0 x12_1).f1) ((rd_T55 l0 x12_1).f2)=some r)∧Aside0 (kq≤k1)∧Aside0 (Kd.S (Kd.slice 3 (Kd.int .i64)) 22 w' w.heap.size (fun _=>True) v5 x5_2)∧Aside0 (w'.heap[gb407]?=some (.cells #[.int .i64 ((rd_T55 l0 x12_1).f0),.int .i64 ((rd_T55 l0 x12_1).f1),.int .i64 ((rd_T55 l0 x12_1).f2)] 55 (0,0)))∧Aside0 (Below w.heap.size w w'))
    case atStart=>exact⟨(x5_1),(wrap64 (x12_1 - 1)),fin2,H',⟨Nat.le_refl _⟩,⟨by(with_reducible repeat(first|apply Kd.S_alloc|apply Kd.S_drewN|apply Kd.S_drew));exact Kd.S_mono (Kd.S_far (p:=⟨gb407,2,none⟩) (Kd.S_far (p:=⟨gb407,1,none⟩) (Kd.S_far (p:=⟨gb407,0,none⟩) (Kd.S_types HO_5.out BK407.out (by decide)) (fun _ hk=>hk.2) (.int .i64 ((rd_T55 l0 x12_1).f0))) (fun _ hk=>hk.2) (.int .i64 ((rd_T55 l0 x12_1).f1))) (fun _ hk=>hk.2) (.int .i64 ((rd_T55 l0 x12_1).f2))) (fun _ hk=>trivial)⟩,⟨by(with_reducible repeat(first|refine bN_ ?_ _|refine bD_ ?_|refine bA_ ?_ _));refine blk_put (cs := #[.int .i64 ((rd_T55 l0 x12_1).f0),.int .i64 ((rd_T55 l0 x12_1).f1),.int .i64 0]) ?_ 2 _ rfl;(with_reducible repeat(first|refine bN_ ?_ _|refine bD_ ?_|refine bA_ ?_ _));refine blk_put (cs := #[.int .i64 ((rd_T55 l0 x12_1).f0),.int .i64 0,.int .i64 0]) ?_ 1 _ rfl;(with_reducible repeat(first|refine bN_ ?_ _|refine bD_ ?_|refine bA_ ?_ _));refine blk_put (cs := #[.int .i64 0,.int .i64 0,.int .i64 0]) ?_ 0 _ rfl;exact bup BK407.out⟩,⟨bl⟩⟩
    case round =>
     clear H'
     try clear p2
     try clear p4
     try clear q4
     try clear hx4
     try clear c5
     try clear c5b0
     try clear c6
     try clear c6b0
     try clear p6
     try clear c7
     try clear c7b0
     try clear hcz9_0
     try clear hcz9_1
     try clear hcz9_2
     try clear hfz9_0
     try clear hfz9_1
     try clear hfz9_2
     try clear hx406_0
     try clear hx406_1
     try clear hx406_2
     try clear p2
     try clear p406
     try clear q406
     obtain⟨x5_2,x8_2,rfl,HA,HK2,HO_5,BK407,HB⟩:=hrel
     cases gk with
     | zero=>exact absurd HA.out (by simp [impl_fastRepeats.l1])
     | succ k2 =>
      have H:=HA.out
      clear HA
      simp only[impl_fastRepeats.l1] at H
      rcases itc H with⟨c10,H⟩|⟨c10,H⟩
      ·have c10b0:decide (0≤x8_2)=true:=decide_eq_true c10
       clear c10
       obtain⟨c11b0,H⟩:=ifb H
       obtain⟨c12b0,H⟩:=ifb H
       rcases itc H with⟨c13,H⟩|⟨c13,H⟩
       ·have c13b0:(((rd_T55 l0 x8_2).f0) == ((rd_T55 l0 x12_1).f0))=true:=beq_iff_eq.mpr c13
        have c13b1:(((rd_T55 l0 x8_2).f0) != ((rd_T55 l0 x12_1).f0))=false:=bne_eq_false_iff_eq.mpr c13
        clear c13
        rcases itc H with⟨c14,H⟩|⟨c14,H⟩
        ·have c14b0:=decide_eq_true c14
         clear c14
         obtain⟨y410,hy410⟩:∃ y_:List Int,y_=(([x8_2,x12_1]:List Int)):=⟨_,rfl⟩
         replace H:(if x5_2.length<5864062014805 then(impl_fastRepeats.l0 k2 l0 a1 (x5_2 ++ [y410]) l0 (l0.length:Int) (wrap64 (x12_1+1))) else(none))=some r:=by subst hy410;exact H
         have Ny410:=am hy410
         clear hy410
         obtain⟨c15,H⟩:=ifp H
         have LMc15:=am c15
         clear c15
         obtain⟨y413,hy413⟩:∃ y_:List (List Int),y_=(x5_2 ++ [y410]):=⟨_,rfl⟩
         replace H:(impl_fastRepeats.l0 k2 l0 a1 y413 l0 (l0.length:Int) (wrap64 (x12_1+1)))=some r:=by subst hy413;exact H
         have Ny413:=am hy413
         clear hy413
         have H':=am H
         clear H
         have p408:0≤(x8_2:Int):=od
         have q408:x8_2<(l0.length:Int):=od
         obtain⟨ad408,e408,hx408_0,hx408_1,hx408_2⟩:=at_T55 HR0.out x8_2 p408 q408
         obtain rfl:ad406=ad408:=(by injection e408)
         replace hx408_0:=(HB.out.cell (World.block_lt_of_cell? w _ hx408_0)).trans hx408_0
         replace hx408_1:=(HB.out.cell (World.block_lt_of_cell? w _ hx408_1)).trans hx408_1
         replace hx408_2:=(HB.out.cell (World.block_lt_of_cell? w _ hx408_2)).trans hx408_2
         replace p408:=eq_true p408
         replace q408:=eq_true q408
         have hcz16_0:wr.cell? ⟨gb407,0,none⟩=some (.int .i64 ((rd_T55 l0 x12_1).f0)):=(blk_cell BK407.out 0).trans rfl
         have hcz16_1:wr.cell? ⟨gb407,1,none⟩=some (.int .i64 ((rd_T55 l0 x12_1).f1)):=(blk_cell BK407.out 1).trans rfl
         have hcz16_2:wr.cell? ⟨gb407,2,none⟩=some (.int .i64 ((rd_T55 l0 x12_1).f2)):=(blk_cell BK407.out 2).trans rfl
         have hfz16_0:=blk_frozen BK407.out 0
         have hfz16_1:=blk_frozen BK407.out 1
         have hfz16_2:=blk_frozen BK407.out 2
         have p409:0≤(x8_2:Int):=od
         have q409:x8_2<(l0.length:Int):=od
         obtain⟨ad409,e409,hx409_0,hx409_1,hx409_2⟩:=at_T55 HR0.out x8_2 p409 q409
         obtain rfl:ad406=ad409:=(by injection e409)
         replace hx409_0:=(HB.out.cell (World.block_lt_of_cell? w _ hx409_0)).trans hx409_0
         replace hx409_1:=(HB.out.cell (World.block_lt_of_cell? w _ hx409_1)).trans hx409_1
         replace hx409_2:=(HB.out.cell (World.block_lt_of_cell? w _ hx409_2)).trans hx409_2
         replace p409:=eq_true p409
         replace q409:=eq_true q409
         iterate 3 ((try go_quiet (fail));(try go_wp2_with (first|((with_reducible refine gate_dst (N:=44) rfl ?_);refine Kd.R_lit (Kd.int .i64) _ 3 ?hg (N:=44) ?hd (xs:=([x8_2,x12_1]:List Int)) (inner:=[.int .i64 x8_2,.int .i64 x12_1]) (ok:=fun _=>True) (okp:=fun _=>True) ?hr ?hp (fun _ hk=>hk) trivial (Below.refl _ _) (Nat.le_refl _) (by simp) ?_;(case hd=>rfl);(case hg=>rfl);(case hr=>first|(go_simp;done)|(go_simp;rfl));(case hp=>exact(Reps.one (show Kd.M (Kd.int .i64) _ _ _ x8_2 [.int .i64 x8_2] from rfl) (Reps.one (show Kd.M (Kd.int .i64) _ _ _ x12_1 [.int .i64 x12_1] from rfl) (Reps.none _ _))));intro v411 w17 ho18 hb hg_ hnew_;clear hg_ hnew_;(first|rw[← Ny410.out] at ho18|(simp only[Int.reduceToNat] at ho18;rw[← Ny410.out] at ho18));replace HO_5:=am (Kd.S_elder' (by(with_reducible repeat(first|apply Kd.S_alloc|apply Kd.S_drewN|apply Kd.S_drew));exact HO_5.out) (Kd.R_base ho18) hb);have HO412:=am (Kd.R_lower ho18 (below_size bl));replace BK407:=am (blk_below (bup BK407.out) hb);replace HB:=am (below_step bl hb);clear hb ho18;obtain⟨Ao20,co20,eo20⟩:=Kd.R_slice HO412.out;subst eo20)|((with_reducible refine gate_builtin (b := .append) (xs := #[.tmp 41,.tmp 45]) rfl ?_);at_builtin;refine Kd.S_append (Kd.slice 3 (Kd.int .i64)) (w0:=w) w.heap.size rfl (.tmp 41) (.tmp 45) 71 22 (.slice none 0 0) 24 rfl Try.underlying71 info22 rfl (by decide) (by omega) u5 x5_2 y410 [.slice Ao20 y410.length co20] (fun _=>True) (fun k_=>some k_=(.slice Ao20 y410.length co20:Value).ownBlock) rfl rfl ?aP (fun k_ hk_=>((Kd.R_mono (ok':=fun k_=>((fun _=>True)) k_∧some k_≠(u5:Value).ownBlock) (Kd.R_apart' (HO412.out) (Kd.S_typed HO_5.out) (by decide)) (fun k_ hk=>⟨trivial,hk.2⟩))).1 k_ hk_.symm) ?aF ?aO ?aB ?aS ?aL ?_;(case aP=>exact Kd.M_row (Kd.R_mono (Kd.R_tight rfl (Kd.R_mono (ok':=fun k_=>((fun _=>True)) k_∧some k_≠(u5:Value).ownBlock) (Kd.R_apart' (HO412.out) (Kd.S_typed HO_5.out) (by decide)) (fun k_ hk=>⟨trivial,hk.2⟩))) (fun _ h_=>h_)));(case aB=>exact bl);(case aF=>exact(fun _ _=>trivial));(case aO=>exact(by(with_reducible repeat(first|apply Kd.S_alloc|apply Kd.S_drewN|apply Kd.S_drew));exact Kd.S_mono HO_5.out (fun k_ hk=>⟨trivial,fun e_=>hk.2 e_⟩)));(case aS=>exact(below_size bl));(case aL=>have:=LMc15.out;omega);intro v414 w19 ho hb hg hat;rw[← Ny413.out] at ho;replace BK407:=am (blk_grown (bup BK407.out) hg (Kd.S_ne HO_5.out BK407.out (by decide)));replace HB:=am (hb);have HO415:=am (ho);clear HO_5 HO412 ho hb hg hat))))
         go_roundg k2
         case measure=>have:=HK1.out;have:=HK2.out;omega
         case rel=>exact⟨(y413),(wrap64 (x12_1+1)),fin2,H',⟨by have:=HK1.out;have:=HK2.out;omega⟩,⟨by(with_reducible repeat(first|apply Kd.S_alloc|apply Kd.S_drewN|apply Kd.S_drew));exact HO415.out⟩,⟨bl⟩⟩
        ·have c14b0:=decide_eq_false c14
         clear c14
         have H':=am H
         clear H
         have p408:0≤(x8_2:Int):=od
         have q408:x8_2<(l0.length:Int):=od
         obtain⟨ad408,e408,hx408_0,hx408_1,hx408_2⟩:=at_T55 HR0.out x8_2 p408 q408
         obtain rfl:ad406=ad408:=(by injection e408)
         replace hx408_0:=(HB.out.cell (World.block_lt_of_cell? w _ hx408_0)).trans hx408_0
         replace hx408_1:=(HB.out.cell (World.block_lt_of_cell? w _ hx408_1)).trans hx408_1
         replace hx408_2:=(HB.out.cell (World.block_lt_of_cell? w _ hx408_2)).trans hx408_2
         replace p408:=eq_true p408
         replace q408:=eq_true q408
         have hcz21_0:wr.cell? ⟨gb407,0,none⟩=some (.int .i64 ((rd_T55 l0 x12_1).f0)):=(blk_cell BK407.out 0).trans rfl
         have hcz21_1:wr.cell? ⟨gb407,1,none⟩=some (.int .i64 ((rd_T55 l0 x12_1).f1)):=(blk_cell BK407.out 1).trans rfl
         have hcz21_2:wr.cell? ⟨gb407,2,none⟩=some (.int .i64 ((rd_T55 l0 x12_1).f2)):=(blk_cell BK407.out 2).trans rfl
         have hfz21_0:=blk_frozen BK407.out 0
         have hfz21_1:=blk_frozen BK407.out 1
         have hfz21_2:=blk_frozen BK407.out 2
         have p409:0≤(x8_2:Int):=od
         have q409:x8_2<(l0.length:Int):=od
         obtain⟨ad409,e409,hx409_0,hx409_1,hx409_2⟩:=at_T55 HR0.out x8_2 p409 q409
         obtain rfl:ad406=ad409:=(by injection e409)
         replace hx409_0:=(HB.out.cell (World.block_lt_of_cell? w _ hx409_0)).trans hx409_0
         replace hx409_1:=(HB.out.cell (World.block_lt_of_cell? w _ hx409_1)).trans hx409_1
         replace hx409_2:=(HB.out.cell (World.block_lt_of_cell? w _ hx409_2)).trans hx409_2
         replace p409:=eq_true p409
         replace q409:=eq_true q409
         go_wp2
         repeat(go_quiet (fail);try go_wp2)
         go_roundg k2
         case measure=>have:=HK1.out;have:=HK2.out;omega
         case rel=>exact⟨(x5_2),(wrap64 (x12_1+1)),fin2,H',⟨by have:=HK1.out;have:=HK2.out;omega⟩,⟨by(with_reducible repeat(first|apply Kd.S_alloc|apply Kd.S_drewN|apply Kd.S_drew));exact HO_5.out⟩,⟨bl⟩⟩
       ·have c13b0:(((rd_T55 l0 x8_2).f0) == ((rd_T55 l0 x12_1).f0))=false:=beq_eq_false_iff_ne.mpr c13
        have c13b1:(((rd_T55 l0 x8_2).f0) != ((rd_T55 l0 x12_1).f0))=true:=bne_iff_ne.mpr c13
        have H':=am H
        clear H
        have p408:0≤(x8_2:Int):=od
        have q408:x8_2<(l0.length:Int):=od
        obtain⟨ad408,e408,hx408_0,hx408_1,hx408_2⟩:=at_T55 HR0.out x8_2 p408 q408
        obtain rfl:ad406=ad408:=(by injection e408)
        replace hx408_0:=(HB.out.cell (World.block_lt_of_cell? w _ hx408_0)).trans hx408_0
        replace hx408_1:=(HB.out.cell (World.block_lt_of_cell? w _ hx408_1)).trans hx408_1
        replace hx408_2:=(HB.out.cell (World.block_lt_of_cell? w _ hx408_2)).trans hx408_2
        replace p408:=eq_true p408
        replace q408:=eq_true q408
        have hcz22_0:wr.cell? ⟨gb407,0,none⟩=some (.int .i64 ((rd_T55 l0 x12_1).f0)):=(blk_cell BK407.out 0).trans rfl
        have hcz22_1:wr.cell? ⟨gb407,1,none⟩=some (.int .i64 ((rd_T55 l0 x12_1).f1)):=(blk_cell BK407.out 1).trans rfl
        have hcz22_2:wr.cell? ⟨gb407,2,none⟩=some (.int .i64 ((rd_T55 l0 x12_1).f2)):=(blk_cell BK407.out 2).trans rfl
        have hfz22_0:=blk_frozen BK407.out 0
        have hfz22_1:=blk_frozen BK407.out 1
        have hfz22_2:=blk_frozen BK407.out 2
        go_wp2
        repeat(go_quiet (fail);try go_wp2)
        go_roundg k2
        case measure=>have:=HK1.out;have:=HK2.out;omega
        case rel=>exact⟨(x5_2),(wrap64 (x8_2 - 1)),fin2,H',⟨by have:=HK1.out;have:=HK2.out;omega⟩,⟨by(with_reducible repeat(first|apply Kd.S_alloc|apply Kd.S_drewN|apply Kd.S_drew));exact HO_5.out⟩,⟨bup BK407.out⟩,⟨bl⟩⟩
      ·have c10b0:decide (0≤x8_2)=false:=decide_eq_false c10
       clear c10
       have H':=am H
       clear H
       go_wp2
       repeat(go_quiet (fail);try go_wp2)
       go_roundg k2
       case measure=>have:=HK1.out;have:=HK2.out;omega
       case rel=>exact⟨(x5_2),(wrap64 (x12_1+1)),fin2,H',⟨by have:=HK1.out;have:=HK2.out;omega⟩,⟨by(with_reducible repeat(first|apply Kd.S_alloc|apply Kd.S_drewN|apply Kd.S_drew));exact HO_5.out⟩,⟨bl⟩⟩
   ·have c5b0:=decide_eq_false c5
    clear c5
    obtain rfl:=Option.some.inj H
    go_wp2
    repeat(go_quiet (fail);try go_wp2)
    go_ret
    exact⟨_,fin1,by(with_reducible repeat(first|apply Kd.S_alloc|apply Kd.S_drewN|apply Kd.S_drew));exact HO_5.out,bl⟩

def impl_canPlay.l0:Nat→List (S55)→List (S55)→Int→Int→List Int→Int→Option (Bool)
 | 0,_,_,_,_,_,_=>none
 | k+1,x1,x7,x8,x9,x417000,x417001=>if x9<x8 then(if 0≤x9 then(if x9<(x7.length:Int) then((slices_Contains_int_int.f k x417000 ((rd_T55 x7 x9).f0)).bind fun t419=>(if t419=true then(impl_canPlay.l0 k x1 x7 x8 (wrap64 (x9+1)) x417000 x417001) else(some false))) else(none)) else(none)) else((impl_fastRepeats.f k x1 x417001).bind fun t420=>(some ((t420.length:Int) == 0)))
def impl_canPlay.f (k:Nat) (l0_0:List Int) (a0_1:Int) (l1:List (S55)):Option (Bool):=impl_canPlay.l0 k l1 l1 (l1.length:Int) 0 l0_0 a0_1
set_option maxHeartbeats 8000000 in
set_option maxRecDepth 100000 in
theorem impl_canPlay.calls (k:Nat) (A0_0:Option Addr) (c0_0:Nat) (l0_0:List Int) (a0_1:Int) (A1:Option Addr) (c1:Nat) (l1:List (S55)) (r:Bool) (w:World) (hr0_0:Kd.C (Kd.int .i64) w A0_0 l0_0.length l0_0) (hc0_0:l0_0.length≤c0_0) (hr1:Kd.C k55 w A1 l1.length l1) (hc1:l1.length≤c1) (h:impl_canPlay.f k l0_0 a0_1 l1=some r) :
  Calls Try.prog 49 #[.agg #[.slice A0_0 l0_0.length c0_0,.int .i64 a0_1],.slice A1 l1.length c1] w fun e w'=>e = .returned (.bool r)∧Below w.heap.size w w':=by
 have hu32:=Try.underlying32
 have hu55:=Try.underlying55
 have HR0_0:=am hr0_0
 have HC0_0:=am hc0_0
 clear hr0_0 hc0_0
 have HR1:=am hr1
 have HC1:=am hc1
 clear hr1 hc1
 have HB:=am (Below.refl w.heap.size w)
 have H:(impl_canPlay.l0 k l1 l1 (l1.length:Int) 0 l0_0 a0_1)=some r:=h
 clear h
 have H':=am H
 clear H
 go_enter Try.func49,Try.ntmps49
 go_wp2_with (first|((with_reducible refine gate_dst (N:=2) rfl ?_);refine box_event ?hg (N:=2) ?hd (cs := #[.slice A0_0 l0_0.length c0_0,.int .i64 a0_1]) (t:=32) ?hr ?_;(case hd=>rfl);(case hg=>rfl);(case hr=>first|(go_simp;done)|(go_simp;rfl));intro gb416 hg w3 hbox hb;have BK416:=am (hbox);have GW416:=am (ge_ bl hg);have GE416:=am (ge_ bl hg);replace HB:=am (below_step bl hb);clear hb hbox hg))
 go_loopg [9] k (fun kq v9 w'=>∃(x9_1:Int),v9 = .int .i64 x9_1∧Aside0 (impl_canPlay.l0 kq l1 l1 (l1.length:Int) x9_1 l0_0 a0_1=some r)∧Aside0 (kq≤k)∧Aside0 (w'.heap[gb416]?=some (.cells #[(.slice A0_0 l0_0.length c0_0),.int .i64 a0_1] 32 (0,0)))∧Aside0 (Below w.heap.size w w'))
 case atStart=>exact⟨(0),fin2,H',⟨Nat.le_refl _⟩,⟨bup BK416.out⟩,⟨bl⟩⟩
 case round =>
  clear H'
  try clear c1
  try clear p2
  obtain⟨x9_1,rfl,HA,HK1,BK416,HB⟩:=hrel
  cases gk with
  | zero=>exact absurd HA.out (by simp [impl_canPlay.l0])
  | succ k1 =>
   have H:=HA.out
   clear HA
   simp only[impl_canPlay.l0] at H
   rcases itc H with⟨c4,H⟩|⟨c4,H⟩
   ·have c4b0:=decide_eq_true c4
    clear c4
    obtain⟨c5b0,H⟩:=ifb H
    obtain⟨c6b0,H⟩:=ifb H
    obtain⟨t419,A7,H⟩:=bnd H
    by_cases c8:t419=true
    ·subst c8
     replace H:=(if_pos rfl).symm.trans H
     have H':=am H
     clear H
     have p417:0≤(x9_1:Int):=od
     have q417:x9_1<(l1.length:Int):=od
     obtain⟨ad417,e417,hx417_0,hx417_1,hx417_2⟩:=at_T55 HR1.out x9_1 p417 q417
     cases e417
     replace hx417_0:=(HB.out.cell (World.block_lt_of_cell? w _ hx417_0)).trans hx417_0
     replace hx417_1:=(HB.out.cell (World.block_lt_of_cell? w _ hx417_1)).trans hx417_1
     replace hx417_2:=(HB.out.cell (World.block_lt_of_cell? w _ hx417_2)).trans hx417_2
     replace p417:=eq_true p417
     replace q417:=eq_true q417
     go_wp2_with (first|((with_reducible refine gate_dst (N:=6) rfl ?_);refine box_event ?hg (N:=6) ?hd (cs := #[.int .i64 0,.int .i64 0,.int .i64 0]) (t:=55) ?hr ?_;(case hd=>rfl);(case hg=>rfl);(case hr=>first|(go_simp;done)|(go_simp;rfl));intro gb418 hg w9 hbox hb;have BK418:=am (hbox);have GW418:=am (ge_ bl hg);have GE418:=am (ge_ bl hg);replace HB:=am (below_step bl hb);have NB416_418:=am (nl (bup BK416.out) hg);have NB418_416:=am (ng (bup BK416.out) hg);replace BK416:=am (blk_below (bup BK416.out) hb);clear hb hbox hg;have hnb10:=NB418_416.out;have hnc10:=NB416_418.out;have hcz11_0:w9.cell? ⟨gb418,0,none⟩=some (.int .i64 0):=(blk_cell BK418.out 0).trans rfl;have hcz11_1:w9.cell? ⟨gb418,1,none⟩=some (.int .i64 0):=(blk_cell BK418.out 1).trans rfl;have hcz11_2:w9.cell? ⟨gb418,2,none⟩=some (.int .i64 0):=(blk_cell BK418.out 2).trans rfl;have hfz11_0:=blk_frozen BK418.out 0;have hfz11_1:=blk_frozen BK418.out 1;have hfz11_2:=blk_frozen BK418.out 2;have hcz12_0:w9.cell? ⟨gb416,0,none⟩=some (.slice A0_0 l0_0.length c0_0):=(blk_cell BK416.out 0).trans rfl;have hcz12_1:w9.cell? ⟨gb416,1,none⟩=some (.int .i64 a0_1):=(blk_cell BK416.out 1).trans rfl;have hfz12_0:=blk_frozen BK416.out 0;have hfz12_1:=blk_frozen BK416.out 1)|((with_reducible refine gate_callee (f:=66) rfl ?_);refine goesL_ (some 17) rfl rfl Try.func66 (by kernel_rfl) rfl #[.slice A0_0 l0_0.length c0_0,.int .i64 ((rd_T55 l1 x9_1).f0)] rfl tl ?_;(with_reducible refine(slices_Contains_int_int.calls k1 _ _ l0_0 ((rd_T55 l1 x9_1).f0) true _ ?side1 ?side2 A7.out).mono ?_);(case side1=>exact Kd.C_below HR0_0.out bl);(case side2=>exact HC0_0.out);rintro e w' ⟨rfl,⟨nd,rfl⟩⟩;refine⟨_,rfl,?_⟩))
     go_roundg k1
     case measure=>have:=HK1.out;omega
     case rel=>exact⟨(wrap64 (x9_1+1)),fin2,H',⟨by have:=HK1.out;omega⟩,⟨by(with_reducible repeat(first|refine bN_ ?_ _|refine bD_ ?_|refine bA_ ?_ _));refine blk_far ?_ NB416_418.out _;(with_reducible repeat(first|refine bN_ ?_ _|refine bD_ ?_|refine bA_ ?_ _));refine blk_far ?_ NB416_418.out _;(with_reducible repeat(first|refine bN_ ?_ _|refine bD_ ?_|refine bA_ ?_ _));refine blk_far ?_ NB416_418.out _;exact bup BK416.out⟩,⟨bl⟩⟩
    ·replace c8:=Bool.eq_false_iff.mpr c8
     subst c8
     replace H:=(if_neg Bool.false_ne_true).symm.trans H
     obtain rfl:=Option.some.inj H
     have p417:0≤(x9_1:Int):=od
     have q417:x9_1<(l1.length:Int):=od
     obtain⟨ad417,e417,hx417_0,hx417_1,hx417_2⟩:=at_T55 HR1.out x9_1 p417 q417
     cases e417
     replace hx417_0:=(HB.out.cell (World.block_lt_of_cell? w _ hx417_0)).trans hx417_0
     replace hx417_1:=(HB.out.cell (World.block_lt_of_cell? w _ hx417_1)).trans hx417_1
     replace hx417_2:=(HB.out.cell (World.block_lt_of_cell? w _ hx417_2)).trans hx417_2
     replace p417:=eq_true p417
     replace q417:=eq_true q417
     go_wp2_with (first|((with_reducible refine gate_dst (N:=6) rfl ?_);refine box_event ?hg (N:=6) ?hd (cs := #[.int .i64 0,.int .i64 0,.int .i64 0]) (t:=55) ?hr ?_;(case hd=>rfl);(case hg=>rfl);(case hr=>first|(go_simp;done)|(go_simp;rfl));intro gb418 hg w13 hbox hb;have BK418:=am (hbox);have GW418:=am (ge_ bl hg);have GE418:=am (ge_ bl hg);replace HB:=am (below_step bl hb);have NB416_418:=am (nl (bup BK416.out) hg);have NB418_416:=am (ng (bup BK416.out) hg);replace BK416:=am (blk_below (bup BK416.out) hb);clear hb hbox hg;have hnb14:=NB418_416.out;have hnc14:=NB416_418.out;have hcz15_0:w13.cell? ⟨gb418,0,none⟩=some (.int .i64 0):=(blk_cell BK418.out 0).trans rfl;have hcz15_1:w13.cell? ⟨gb418,1,none⟩=some (.int .i64 0):=(blk_cell BK418.out 1).trans rfl;have hcz15_2:w13.cell? ⟨gb418,2,none⟩=some (.int .i64 0):=(blk_cell BK418.out 2).trans rfl;have hfz15_0:=blk_frozen BK418.out 0;have hfz15_1:=blk_frozen BK418.out 1;have hfz15_2:=blk_frozen BK418.out 2;have hcz16_0:w13.cell? ⟨gb416,0,none⟩=some (.slice A0_0 l0_0.length c0_0):=(blk_cell BK416.out 0).trans rfl;have hcz16_1:w13.cell? ⟨gb416,1,none⟩=some (.int .i64 a0_1):=(blk_cell BK416.out 1).trans rfl;have hfz16_0:=blk_frozen BK416.out 0;have hfz16_1:=blk_frozen BK416.out 1)|((with_reducible refine gate_callee (f:=66) rfl ?_);refine goesL_ (some 17) rfl rfl Try.func66 (by kernel_rfl) rfl #[.slice A0_0 l0_0.length c0_0,.int .i64 ((rd_T55 l1 x9_1).f0)] rfl tl ?_;(with_reducible refine(slices_Contains_int_int.calls k1 _ _ l0_0 ((rd_T55 l1 x9_1).f0) false _ ?side1 ?side2 A7.out).mono ?_);(case side1=>exact Kd.C_below HR0_0.out bl);(case side2=>exact HC0_0.out);rintro e w' ⟨rfl,⟨nd,rfl⟩⟩;refine⟨_,rfl,?_⟩))
     go_ret
     exact⟨fin1,bl⟩
   ·have c4b0:=decide_eq_false c4
    clear c4
    obtain⟨t420,A17,H⟩:=bnd H
    obtain rfl:=Option.some.inj H
    have hcz18_0:wr.cell? ⟨gb416,0,none⟩=some (.slice A0_0 l0_0.length c0_0):=(blk_cell BK416.out 0).trans rfl
    have hcz18_1:wr.cell? ⟨gb416,1,none⟩=some (.int .i64 a0_1):=(blk_cell BK416.out 1).trans rfl
    have hfz18_0:=blk_frozen BK416.out 0
    have hfz18_1:=blk_frozen BK416.out 1
    go_wp2_with (first|((with_reducible refine gate_callee (f:=67) rfl ?_);refine goesL_ (some 23) rfl rfl Try.func67 (by kernel_rfl) rfl #[.slice A1 l1.length c1,.int .i64 a0_1] rfl tl ?_;(with_reducible refine(impl_fastRepeats.calls k1 _ _ l1 a0_1 t420 _ ?side1 ?side2 A17.out).mono ?_);(case side1=>exact cup (Kd.C_below HR1.out HB.out));(case side2=>exact HC1.out);rintro e w19 ⟨v421,rfl,ho0,hb⟩;refine⟨_,rfl,?_⟩;have HO422:=am (Kd.S_lower ho0 (below_size bl));replace BK416:=am (blk_below (bup BK416.out) hb);replace HB:=am (below_step bl hb);(try clear hb);(try clear ho0);obtain⟨Ao20,co20,eo20⟩:=Kd.S_slice HO422.out;subst eo20))
    go_ret
    exact⟨fin1,bl⟩

end Go.Proofs.Ythmpginbaafbhaa.PFnExactRepairToPlay
