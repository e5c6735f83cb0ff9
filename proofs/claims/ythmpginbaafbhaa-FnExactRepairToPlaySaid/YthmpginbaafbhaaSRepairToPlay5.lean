/- The walks of functions that FnExactRepairToPlay reaches: what they return is what the plain functions of the same names say. Laid by a program of this session after the kit's print. No conditions beyond the arguments' being read. -/
import Derived.Test.YthmpginbaafbhaaSRepairToPlay0
import Derived.Test.YthmpginbaafbhaaSRepairToPlay1
import Derived.Test.YthmpginbaafbhaaSRepairToPlay7
namespace Go.Proofs.Ythmpginbaafbhaa.PFnExactRepairToPlay
open Go.RowKit Go.Proofs.YthmpginbaafbhaaW.PrintWords Go.Proofs.YthmpginbaafbhaaW.PrintLast Go.Proofs.YthmpginbaafbhaaW.PrintMore
attribute [local go_sem] max2_int min2_int max_two min_two max_three min_three max_four min_four   -- for this text's walks alone
set_option linter.unusedVariables false
set_option linter.unusedSimpArgs false

def spec_rpCosts.f (a0:Int) (a1:Int):Option (Bool):=(spec_l1In.f a0 0 100).bind fun t151=>(if t151=true then((spec_l1In.f a1 0 100).bind fun t152=>(some t152)) else(some false))
set_option maxHeartbeats 8000000 in
set_option maxRecDepth 100000 in
theorem spec_rpCosts.calls (a0:Int) (a1:Int) (r:Bool) (w:World) (h:spec_rpCosts.f a0 a1=some r) :
  Calls Try.prog 18 #[.int .i64 a0,.int .i64 a1] w fun e w'=>e = .returned (.bool r)∧Drawn0 w w':=by
 have H:((spec_l1In.f a0 0 100).bind fun t151=>(if t151=true then((spec_l1In.f a1 0 100).bind fun t152=>(some t152)) else(some false)))=some r:=h
 clear h
 obtain⟨t151,A3,H⟩:=bnd H
 by_cases c4:t151=true
 ·subst c4
  replace H:=(if_pos rfl).symm.trans H
  obtain⟨t152,A5,H⟩:=bnd H
  obtain rfl:=Option.some.inj H
  go_enter Try.func18,Try.ntmps18
  go_wp2_with (first|((with_reducible refine gate_callee (f:=37) rfl ?_);refine goesL_ (some 6) rfl rfl Try.func37 (by kernel_rfl) rfl #[.int .i64 a0,.int .i64 0,.int .i64 100] rfl tl ?_;(with_reducible refine(spec_l1In.calls a0 0 100 true _ A3.out).mono ?_);rintro e w' ⟨rfl,⟨nd,rfl⟩⟩;refine⟨_,rfl,?_⟩)|(go_at_call 37;(with_reducible refine(spec_l1In.calls a1 0 100 t152 _ A5.out).mono ?_);rintro e w' ⟨rfl,⟨nd,rfl⟩⟩))
  go_ret
  exact⟨by first|rfl|(simp;done)|(simp [*];done),by repeat(first|exact Drawn0.refl _|apply Drawn0.step)⟩
 ·replace c4:=Bool.eq_false_iff.mpr c4
  subst c4
  replace H:=(if_neg Bool.false_ne_true).symm.trans H
  obtain rfl:=Option.some.inj H
  go_enter Try.func18,Try.ntmps18
  go_wp2_with (first|((with_reducible refine gate_callee (f:=37) rfl ?_);refine goesL_ (some 6) rfl rfl Try.func37 (by kernel_rfl) rfl #[.int .i64 a0,.int .i64 0,.int .i64 100] rfl tl ?_;(with_reducible refine(spec_l1In.calls a0 0 100 false _ A3.out).mono ?_);rintro e w' ⟨rfl,⟨nd,rfl⟩⟩;refine⟨_,rfl,?_⟩))
  go_ret
  exact⟨by first|rfl|(simp;done)|(simp [*];done),by repeat(first|exact Drawn0.refl _|apply Drawn0.step)⟩

def spec_inTrack.l0:Nat→Int→List Int→Int→Int→Option (Int)
 | 0,_,_,_,_=>none
 | k+1,x1,x8,x9,x10=>if x10<x9 then(if 0≤x10 then(if x10<(x8.length:Int) then(if(rd x8 x10)=x1 then(some x10) else(spec_inTrack.l0 k x1 x8 x9 (wrap64 (x10+1)))) else(none)) else(none)) else(some (-1))
def spec_inTrack.f (k:Nat) (l0_0:List Int) (a0_1:Int) (a1:Int):Option (Int):=spec_inTrack.l0 k a1 l0_0 (l0_0.length:Int) 0
set_option maxHeartbeats 8000000 in
set_option maxRecDepth 100000 in
theorem spec_inTrack.calls (k:Nat) (A0_0:Option Addr) (c0_0:Nat) (l0_0:List Int) (a0_1:Int) (a1:Int) (r:Int) (w:World) (hr0_0:Kd.C (Kd.int .i64) w A0_0 l0_0.length l0_0) (hc0_0:l0_0.length≤c0_0) (h:spec_inTrack.f k l0_0 a0_1 a1=some r) :
  Calls Try.prog 60 #[.agg #[.slice A0_0 l0_0.length c0_0,.int .i64 a0_1],.int .i64 a1] w fun e w'=>e = .returned (.int .i64 r)∧Below w.heap.size w w':=by
 have hu32:=Try.underlying32
 have HR0_0:=am hr0_0
 have HC0_0:=am hc0_0
 clear hr0_0 hc0_0
 have HB:=am (Below.refl w.heap.size w)
 have H:(spec_inTrack.l0 k a1 l0_0 (l0_0.length:Int) 0)=some r:=h
 clear h
 have H':=am H
 clear H
 go_enter Try.func60,Try.ntmps60
 go_wp2_with (first|((with_reducible refine gate_dst (N:=2) rfl ?_);refine box_event ?hg (N:=2) ?hd (cs := #[.slice A0_0 l0_0.length c0_0,.int .i64 a0_1]) (t:=32) ?hr ?_;(case hd=>rfl);(case hg=>rfl);(case hr=>first|(go_simp;done)|(go_simp;rfl));intro gb153 hg w3 hbox hb;have BK153:=am (hbox);have GW153:=am (ge_ bl hg);have GE153:=am (ge_ bl hg);replace HB:=am (below_step bl hb);clear hb hbox hg;have hcz4_0:w3.cell? ⟨gb153,0,none⟩=some (.slice A0_0 l0_0.length c0_0):=(blk_cell BK153.out 0).trans rfl;have hcz4_1:w3.cell? ⟨gb153,1,none⟩=some (.int .i64 a0_1):=(blk_cell BK153.out 1).trans rfl;have hfz4_0:=blk_frozen BK153.out 0;have hfz4_1:=blk_frozen BK153.out 1))
 go_loopg [10] k (fun kq v10 w'=>∃(x10_1:Int),v10 = .int .i64 x10_1∧Aside0 (spec_inTrack.l0 kq a1 l0_0 (l0_0.length:Int) x10_1=some r)∧Aside0 (kq≤k)∧Aside0 (w'.heap[gb153]?=some (.cells #[(.slice A0_0 l0_0.length c0_0),.int .i64 a0_1] 32 (0,0)))∧Aside0 (Below w.heap.size w w'))
 case atStart=>exact⟨(0),fin2,H',⟨Nat.le_refl _⟩,⟨bup BK153.out⟩,⟨bl⟩⟩
 case round =>
  clear H'
  try clear p2
  try clear hcz4_0
  try clear hcz4_1
  try clear hfz4_0
  try clear hfz4_1
  obtain⟨x10_1,rfl,HA,HK1,BK153,HB⟩:=hrel
  cases gk with
  | zero=>exact absurd HA.out (by simp [spec_inTrack.l0])
  | succ k1 =>
   have H:=HA.out
   clear HA
   simp only[spec_inTrack.l0] at H
   rcases itc H with⟨c5,H⟩|⟨c5,H⟩
   ·have c5b0:=decide_eq_true c5
    clear c5
    obtain⟨c6b0,H⟩:=ifb H
    obtain⟨c7b0,H⟩:=ifb H
    rcases itc H with⟨c8,H⟩|⟨c8,H⟩
    ·have c8b0:((rd l0_0 x10_1) == a1)=true:=beq_iff_eq.mpr c8
     have c8b1:((rd l0_0 x10_1) != a1)=false:=bne_eq_false_iff_eq.mpr c8
     clear c8
     obtain rfl:=Option.some.inj H
     have p154:0≤(x10_1:Int):=od
     have q154:x10_1<(l0_0.length:Int):=od
     obtain⟨ad154,e154,hx154_0⟩:=Kd.at_int HR0_0.out x10_1 p154 q154
     cases e154
     replace hx154_0:=(HB.out.cell (World.block_lt_of_cell? w _ hx154_0)).trans hx154_0
     replace p154:=eq_true p154
     replace q154:=eq_true q154
     go_wp2
     go_ret
     exact⟨fin1,bl⟩
    ·have c8b0:((rd l0_0 x10_1) == a1)=false:=beq_eq_false_iff_ne.mpr c8
     have c8b1:((rd l0_0 x10_1) != a1)=true:=bne_iff_ne.mpr c8
     have H':=am H
     clear H
     have p154:0≤(x10_1:Int):=od
     have q154:x10_1<(l0_0.length:Int):=od
     obtain⟨ad154,e154,hx154_0⟩:=Kd.at_int HR0_0.out x10_1 p154 q154
     cases e154
     replace hx154_0:=(HB.out.cell (World.block_lt_of_cell? w _ hx154_0)).trans hx154_0
     replace p154:=eq_true p154
     replace q154:=eq_true q154
     go_wp2
     go_roundg k1
     case measure=>have:=HK1.out;omega
     case rel=>exact⟨(wrap64 (x10_1+1)),fin2,H',⟨by have:=HK1.out;omega⟩,⟨bup BK153.out⟩,⟨bl⟩⟩
   ·have c5b0:=decide_eq_false c5
    clear c5
    obtain rfl:=Option.some.inj H
    go_wp2
    go_ret
    exact⟨fin1,bl⟩

def spec_l1Put.l0:Nat→List Int→Int→Int→Option (List Int)
 | 0,_,_,_=>none
 | k+1,x0,x1,x5=>if x5<(x0.length:Int) then(if 0≤x5 then(if(rd x0 x5)<x1 then(spec_l1Put.l0 k x0 x1 (wrap64 (x5+1))) else(if(rd x0 x5)=x1 then(some x0) else((some (([]:List Int):List Int)).bind fun y157=>(if x5≤(x0.length:Int) then((some (x0.take (x5:Int).toNat:List Int)).bind fun y160=>(if y157.length+y160.length<17592186044416 then((some (y157 ++ y160:List Int)).bind fun y164=>(if y164.length<17592186044416 then((some (y164 ++ [x1]:List Int)).bind fun y167=>((some (x0.drop (x5:Int).toNat:List Int)).bind fun y170=>(if y167.length+y170.length<17592186044416 then(some (y167 ++ y170)) else(none)))) else(none))) else(none))) else(none))))) else(none)) else((some (([]:List Int):List Int)).bind fun y177=>(if 0≤x5 then(if x5≤(x0.length:Int) then((some (x0.take (x5:Int).toNat:List Int)).bind fun y180=>(if y177.length+y180.length<17592186044416 then((some (y177 ++ y180:List Int)).bind fun y184=>(if y184.length<17592186044416 then((some (y184 ++ [x1]:List Int)).bind fun y187=>((some (x0.drop (x5:Int).toNat:List Int)).bind fun y190=>(if y187.length+y190.length<17592186044416 then(some (y187 ++ y190)) else(none)))) else(none))) else(none))) else(none)) else(none)))
def spec_l1Put.f (k:Nat) (l0:List Int) (a1:Int):Option (List Int):=spec_l1Put.l0 k l0 a1 0
set_option maxHeartbeats 8000000 in
set_option maxRecDepth 100000 in
theorem spec_l1Put.calls (k:Nat) (P0_:Nat→Prop) (u9000_:Value) (l0:List Int) (a1:Int) (r:List Int) (w0 w:World) (hB:Below w0.heap.size w0 w) (ho0:Kd.R (Kd.int .i64) 3 w w0.heap.size P0_ u9000_ l0) (h:spec_l1Put.f k l0 a1=some r) :
  Calls Try.prog 75 #[u9000_,.int .i64 a1] w fun e w'=>∃ v0_:Value,e = .returned (v0_)∧Kd.R (Kd.int .i64) 3 w' w0.heap.size (fun k_=>(P0_ k_∨w.heap.size≤k_)) v0_ r∧Below w0.heap.size w0 w'∧Kept w w' (fun k_=>P0_ k_):=by
 have HO0:=am (show Kd.R (Kd.int .i64) 3 w w0.heap.size (fun k_=>(P0_ k_∨w.heap.size≤k_)) u9000_ l0 from Kd.R_mono ho0 (fun k_ hk=>(.inl hk)))
 have HK:=am (Kept.refl w (fun k_=>P0_ k_))
 have HW0:=am hB.size
 have HB:=am hB
 clear hB
 have H:(spec_l1Put.l0 k l0 a1 0)=some r:=h
 clear h
 have H':=am H
 clear H
 go_enter Try.func75,Try.ntmps75
 go_wp2
 go_loopg [5] k (fun kq v5 w'=>∃(x5_1:Int),v5 = .int .i64 x5_1∧Aside0 (spec_l1Put.l0 kq l0 a1 x5_1=some r)∧Aside0 (kq≤k)∧Aside0 (Kd.R (Kd.int .i64) 3 w' w0.heap.size (fun k_=>(P0_ k_∨w.heap.size≤k_)) u9000_ l0)∧Aside0 (Kept w w' (fun k_=>P0_ k_))∧Aside0 (Below w0.heap.size w0 w'))
 case atStart=>exact⟨(0),fin2,H',⟨Nat.le_refl _⟩,⟨rup HO0.out⟩,⟨by repeat(first|(with_reducible first|exact HK.out|apply Kept.alloc|apply Kept.drewN|apply Kept.drew)|exact HK.out)⟩,⟨bl⟩⟩
 case round =>
  clear H'
  try clear p2
  obtain⟨x5_1,rfl,HA,HK1,HO_0,HK,HB⟩:=hrel
  cases gk with
  | zero=>exact absurd HA.out (by simp [spec_l1Put.l0])
  | succ k1 =>
   have H:=HA.out
   clear HA
   simp only[spec_l1Put.l0] at H
   rcases itc H with⟨c3,H⟩|⟨c3,H⟩
   ·have c3b0:=decide_eq_true c3
    clear c3
    obtain⟨c4b0,H⟩:=ifb H
    rcases itc H with⟨c5,H⟩|⟨c5,H⟩
    ·have c5b0:=decide_eq_true c5
     clear c5
     have H':=am H
     clear H
     obtain⟨Ao6,co6,eo6⟩:=Kd.R_slice HO_0.out
     subst eo6
     have p155:0≤(x5_1:Int):=od
     have q155:x5_1<(l0.length:Int):=od
     obtain⟨ad155,e155,hx155_0⟩:=Kd.at_int (Kd.R_reads' HO_0.out).2.2 x5_1 p155 q155
     cases e155
     replace p155:=eq_true p155
     replace q155:=eq_true q155
     go_wp2
     go_roundg k1
     case measure=>have:=HK1.out;omega
     case rel=>exact⟨(wrap64 (x5_1+1)),fin2,H',⟨by have:=HK1.out;omega⟩,⟨rup HO_0.out⟩,⟨by repeat(first|(with_reducible first|exact HK.out|apply Kept.alloc|apply Kept.drewN|apply Kept.drew)|exact HK.out)⟩,⟨bl⟩⟩
    ·have c5b0:=decide_eq_false c5
     clear c5
     rcases itc H with⟨c7,H⟩|⟨c7,H⟩
     ·have c7b0:((rd l0 x5_1) == a1)=true:=beq_iff_eq.mpr c7
      have c7b1:((rd l0 x5_1) != a1)=false:=bne_eq_false_iff_eq.mpr c7
      clear c7
      obtain rfl:=Option.some.inj H
      obtain⟨Ao8,co8,eo8⟩:=Kd.R_slice HO_0.out
      subst eo8
      have p155:0≤(x5_1:Int):=od
      have q155:x5_1<(l0.length:Int):=od
      obtain⟨ad155,e155,hx155_0⟩:=Kd.at_int (Kd.R_reads' HO_0.out).2.2 x5_1 p155 q155
      cases e155
      replace p155:=eq_true p155
      replace q155:=eq_true q155
      have p156:0≤(x5_1:Int):=od
      have q156:x5_1<(l0.length:Int):=od
      obtain⟨ad156,e156,hx156_0⟩:=Kd.at_int (Kd.R_reads' HO_0.out).2.2 x5_1 p156 q156
      obtain rfl:ad155=ad156:=(by injection e156)
      replace p156:=eq_true p156
      replace q156:=eq_true q156
      go_wp2
      go_ret
      exact⟨_,fin1,by(with_reducible repeat(first|apply Kd.R_alloc|apply Kd.R_drewN|apply Kd.R_drew));exact HO_0.out,by repeat(first|(with_reducible first|exact HB.out|apply below_alloc|apply pw_below_drewN|apply below_drew1)|exact HB.out),by repeat(first|(with_reducible first|exact HK.out|apply Kept.alloc|apply Kept.drewN|apply Kept.drew)|exact HK.out)⟩
     ·have c7b0:((rd l0 x5_1) == a1)=false:=beq_eq_false_iff_ne.mpr c7
      have c7b1:((rd l0 x5_1) != a1)=true:=bne_iff_ne.mpr c7
      obtain⟨y157,hy157⟩:∃ y_:List Int,y_=(([]:List Int)):=⟨_,rfl⟩
      replace H:(if x5_1≤(l0.length:Int) then((some (l0.take (x5_1:Int).toNat:List Int)).bind fun y160=>(if y157.length+y160.length<17592186044416 then((some (y157 ++ y160:List Int)).bind fun y164=>(if y164.length<17592186044416 then((some (y164 ++ [a1]:List Int)).bind fun y167=>((some (l0.drop (x5_1:Int).toNat:List Int)).bind fun y170=>(if y167.length+y170.length<17592186044416 then(some (y167 ++ y170)) else(none)))) else(none))) else(none))) else(none))=some r:=by subst hy157;exact H
      have Ny157:=am hy157
      clear hy157
      have c9b0:=eq_true (od:0≤x5_1)
      obtain⟨c10,H⟩:=ifp H
      have c10b0:=eq_true c10
      have c10b1:decide (x5_1≤(l0.length:Int))=true:=decide_eq_true c10
      clear c10
      obtain⟨y160,hy160⟩:∃ y_:List Int,y_=(l0.take (x5_1:Int).toNat):=⟨_,rfl⟩
      replace H:(if y157.length+y160.length<17592186044416 then((some (y157 ++ y160:List Int)).bind fun y164=>(if y164.length<17592186044416 then((some (y164 ++ [a1]:List Int)).bind fun y167=>((some (l0.drop (x5_1:Int).toNat:List Int)).bind fun y170=>(if y167.length+y170.length<17592186044416 then(some (y167 ++ y170)) else(none)))) else(none))) else(none))=some r:=by subst hy160;exact H
      have Ny160:=am hy160
      clear hy160
      obtain⟨c11,H⟩:=ifp H
      have LMc11:=am c11
      clear c11
      obtain⟨y164,hy164⟩:∃ y_:List Int,y_=(y157 ++ y160):=⟨_,rfl⟩
      replace H:(if y164.length<17592186044416 then((some (y164 ++ [a1]:List Int)).bind fun y167=>((some (l0.drop (x5_1:Int).toNat:List Int)).bind fun y170=>(if y167.length+y170.length<17592186044416 then(some (y167 ++ y170)) else(none)))) else(none))=some r:=by subst hy164;exact H
      have Ny164:=am hy164
      clear hy164
      obtain⟨c12,H⟩:=ifp H
      have LMc12:=am c12
      clear c12
      obtain⟨y167,hy167⟩:∃ y_:List Int,y_=(y164 ++ [a1]):=⟨_,rfl⟩
      replace H:((some (l0.drop (x5_1:Int).toNat:List Int)).bind fun y170=>(if y167.length+y170.length<17592186044416 then(some (y167 ++ y170)) else(none)))=some r:=by subst hy167;exact H
      have Ny167:=am hy167
      clear hy167
      have c13b0:=eq_true (od:0≤x5_1)
      have c14b0:=eq_true (od:x5_1≤(l0.length:Int))
      obtain⟨y170,hy170⟩:∃ y_:List Int,y_=(l0.drop (x5_1:Int).toNat):=⟨_,rfl⟩
      replace H:(if y167.length+y170.length<17592186044416 then(some (y167 ++ y170)) else(none))=some r:=by subst hy170;exact H
      have Ny170:=am hy170
      clear hy170
      obtain⟨c15,H⟩:=ifp H
      have LMc15:=am c15
      clear c15
      obtain⟨y174,hy174⟩:∃ y_:List Int,y_=(y167 ++ y170):=⟨_,rfl⟩
      replace H:(some y174)=some r:=by subst hy174;exact H
      have Ny174:=am hy174
      clear hy174
      obtain rfl:=Option.some.inj H
      obtain⟨Ao16,co16,eo16⟩:=Kd.R_slice HO_0.out
      subst eo16
      have p155:0≤(x5_1:Int):=od
      have q155:x5_1<(l0.length:Int):=od
      obtain⟨ad155,e155,hx155_0⟩:=Kd.at_int (Kd.R_reads' HO_0.out).2.2 x5_1 p155 q155
      cases e155
      replace p155:=eq_true p155
      replace q155:=eq_true q155
      have p156:0≤(x5_1:Int):=od
      have q156:x5_1<(l0.length:Int):=od
      obtain⟨ad156,e156,hx156_0⟩:=Kd.at_int (Kd.R_reads' HO_0.out).2.2 x5_1 p156 q156
      obtain rfl:ad155=ad156:=(by injection e156)
      replace p156:=eq_true p156
      replace q156:=eq_true q156
      go_wp2_with (first|((with_reducible refine gate_dst (N:=34) rfl ?_);refine Kd.R_lit (Kd.int .i64) _ 3 ?hg (N:=34) ?hd (xs:=([]:List Int)) (inner:=[]) (ok:=fun _=>True) (okp:=fun _=>True) ?hr ?hp (fun _ hk=>hk) trivial (Below.refl _ _) (Nat.le_refl _) (by simp) ?_;(case hd=>rfl);(case hg=>rfl);(case hr=>first|(go_simp;done)|(go_simp;rfl));(case hp=>exact(Reps.none _ _));intro v158 w17 ho18 hb hg_ hnew_;clear hg_ hnew_;(first|rw[← Ny157.out] at ho18|(simp only[Int.reduceToNat] at ho18;rw[← Ny157.out] at ho18));have HO159:=am (Kd.R_lower (Kd.R_new' (Kd.R_newM (M:=fun k_=>(P0_ k_∨w.heap.size≤k_)) ho18 (by first|exact HK.out.1|exact(show Kept w _ (fun k_=>P0_ k_) from by repeat(first|(with_reducible first|exact HK.out|apply Kept.alloc|apply Kept.drewN|apply Kept.drew)|exact HK.out)).1) (fun k_ h_ => .inr h_)) (Kd.R_lt (rup HO_0.out))) (below_size bl));replace HO_0:=am (Kd.R_elder' (rup HO_0.out) (Kd.R_base ho18) hb);replace HK:=am (Kept.below (S:=(fun k_=>P0_ k_)) (by repeat(first|(with_reducible first|exact HK.out|apply Kept.alloc|apply Kept.drewN|apply Kept.drew)|exact HK.out)) hb);replace HB:=am (below_step bl hb);clear hb ho18;have q19:(x5_1:Int)≤((l0.length:Int):Int):=od;obtain⟨i019,hi019,_,hsz19,_⟩:=info_parts info3;have hroom19:l0.length≤co16:=(Kd.R_reads' HO_0.out).2.1;have hC19:Kd.C (Kd.int .i64) _ (some ad155) l0.length l0:=(Kd.R_reads' HO_0.out).2.2;have hcut19:=cut_to (P:=Try.prog) 22 3 .i64 Try.underlying22 hi019 (some ad155) l0.length co16 x5_1 (od) q19 hroom19;have hr19:=Kd.C_take (m:=(x5_1:Int).toNat) hC19 (by omega);have hy19:y160.length=(x5_1:Int).toNat:=(by rw[Ny160.out,List.length_take];omega);rw[← Ny160.out] at hr19;rw[← hy19] at hcut19;have HR163:=am hr19;have HC163:=am (show y160.length≤co16 from by omega);clear hr19 hC19 hroom19 hi019 hsz19;have KY19:=am hy19;clear hy19;have KL19:=am (show(x5_1:Int).toNat≤l0.length from by omega);replace q19:=eq_true q19)|((with_reducible refine gate_builtin (b := .append) (xs := #[.tmp 34,.tmp 37]) rfl ?_);at_builtin;refine Kd.R_append_rows (Kd.int .i64) (w0:=w0) w0.heap.size rfl (.tmp 34) (.tmp 37) 22 3 (.int .i64 0) 8 rfl Try.underlying22 info3 rfl (by decide) (by omega) v158 y157 y160 _ _ _ (fun k_=>(P0_ k_∨w.heap.size≤k_)∧some k_≠(.slice (some ad155) l0.length co16:Value).ownBlock) (fun _=>False) rfl rfl ?aO ?aR (fun _ _ h=>h) (fun _ h=>h.elim) ?aF ?aB ?aS ?aL ?_;(case aR=>repeat(first|exact(by repeat(first|(with_reducible exact HR163.out)|(with_reducible refine Kd.C_alloc ?_ _)|(with_reducible refine Kd.C_drewN ?_ _)|(with_reducible refine Kd.C_drew ?_)|exact HR163.out))|(with_reducible refine Kd.C_alloc ?_ _)|(with_reducible refine Kd.C_drewN ?_ _)|(with_reducible refine Kd.C_drew ?_)));(case aB=>exact bl);(case aF=>exact(fun k_ hk=>⟨(.inr (Nat.le_trans (by first|exact HK.out.1|exact(show Kept w _ (fun k_=>P0_ k_) from by repeat(first|(with_reducible first|exact HK.out|apply Kept.alloc|apply Kept.drewN|apply Kept.drew)|exact HK.out)).1) hk)),Kd.fresh' (Kd.R_lt (rup HO_0.out)) k_ hk⟩));(case aO=>exact(rup (Kd.R_mono HO159.out (fun _ hk=>⟨hk.1.1,hk.2⟩))));(case aS=>exact(below_size bl));(case aL=>have:=LMc11.out;omega);intro v165 w20 ho hb hg hat;rw[← Ny164.out] at ho;replace HB:=am (hb);replace HK:=am (Kept.of_grown (S:=(fun k_=>P0_ k_)) hg (by repeat(first|(with_reducible first|exact HK.out|apply Kept.alloc|apply Kept.drewN|apply Kept.drew)|exact HK.out)) (fun k_ e_=>(HO159.out.1 k_ e_).1.1));replace HR163:=am ((show Kd.C (Kd.int .i64) w20 (some ad155) y160.length y160 from by rw[Ny160.out];exact Kd.C_take (m:=(x5_1:Int).toNat) ((Kd.R_reads' (Kd.R_after (ok:=(fun k_=>(P0_ k_∨w.heap.size≤k_))) (rup HO_0.out) hg hat)).2.2) KL19.out));replace HO_0:=am (Kd.R_after (ok:=(fun k_=>(P0_ k_∨w.heap.size≤k_))) (rup HO_0.out) hg hat);have HO166:=am (ho);clear HO159 ho hb hg hat)|((with_reducible refine gate_builtin (b := .append) (xs := #[.tmp 39,.tmp 41]) rfl ?_);at_builtin;refine Kd.R_append (Kd.int .i64) (w0:=w0) w0.heap.size rfl (.tmp 39) (.tmp 41) 22 3 (.int .i64 0) 8 rfl Try.underlying22 info3 rfl (by decide) (by omega) v165 y164 a1 [.int .i64 a1] (fun k_=>(P0_ k_∨w.heap.size≤k_)∧some k_≠(.slice (some ad155) l0.length co16:Value).ownBlock) (fun _=>False) rfl rfl ?aP (fun _ hk=>hk.elim) ?aF ?aO ?aB ?aS ?aL ?_;(case aP=>exact rfl);(case aB=>exact bl);(case aF=>exact(fun k_ hk=>⟨(.inr (Nat.le_trans (by first|exact HK.out.1|exact(show Kept w _ (fun k_=>P0_ k_) from by repeat(first|(with_reducible first|exact HK.out|apply Kept.alloc|apply Kept.drewN|apply Kept.drew)|exact HK.out)).1) hk)),Kd.fresh' (Kd.R_lt (rup HO_0.out)) k_ hk⟩));(case aO=>exact(rup HO166.out));(case aS=>exact(below_size bl));(case aL=>have:=LMc12.out;omega);intro v168 w21 ho hb hg hat;rw[← Ny167.out] at ho;replace HB:=am (hb);replace HK:=am (Kept.of_grown (S:=(fun k_=>P0_ k_)) hg (by repeat(first|(with_reducible first|exact HK.out|apply Kept.alloc|apply Kept.drewN|apply Kept.drew)|exact HK.out)) (fun k_ e_=>(HO166.out.1 k_ e_).1));replace HR163:=am ((show Kd.C (Kd.int .i64) w21 (some ad155) y160.length y160 from by rw[Ny160.out];exact Kd.C_take (m:=(x5_1:Int).toNat) ((Kd.R_reads' (Kd.R_after (ok:=(fun k_=>(P0_ k_∨w.heap.size≤k_))) (rup HO_0.out) hg hat)).2.2) KL19.out));replace HO_0:=am (Kd.R_after (ok:=(fun k_=>(P0_ k_∨w.heap.size≤k_))) (rup HO_0.out) hg hat);have HO169:=am (ho);clear HO166 ho hb hg hat;have q22:(x5_1:Int)≤((l0.length:Int):Int):=od;obtain⟨i022,hi022,_,hsz22,_⟩:=info_parts info3;have hroom22:l0.length≤co16:=(Kd.R_reads' HO_0.out).2.1;have hC22:Kd.C (Kd.int .i64) _ (some ad155) l0.length l0:=(Kd.R_reads' HO_0.out).2.2;have q022:(0:Int)≤(x5_1:Int):=od;have hcut22:=cut_from (P:=Try.prog) 22 3 .i64 Try.underlying22 hi022 1 hsz22 (some ad155) l0.length co16 x5_1 q022 q22;have hr22:=Kd.C_drop (m:=(x5_1:Int).toNat) (c:=co16) hC22 (by omega) hroom22;obtain⟨A22,hA22⟩:∃ A1,A1=(if co16=(x5_1:Int).toNat then(some ad155) else((some ad155):Option Addr).map (·.add ((x5_1:Int).toNat*1))):=⟨_,rfl⟩;obtain⟨c22,hc22⟩:∃ c1,c1=co16 - (x5_1:Int).toNat:=⟨_,rfl⟩;have hy22:y170.length=l0.length - (x5_1:Int).toNat:=(by rw[Ny170.out,List.length_drop]<;>omega);rw[show(l0).drop (x5_1:Int).toNat=y170 from Ny170.out.symm] at hr22;replace hr22:Kd.C (Kd.int .i64) _ A22 y170.length y170:=(by rw[hA22];exact hr22);rw[← hy22,← hA22,← hc22] at hcut22;have HR173:=am hr22;have HC173:=am (show y170.length≤c22 from by rw[hy22,hc22];exact Nat.sub_le_sub_right hroom22 _);clear hr22 hC22 hroom22 hi022 hsz22 hc22;have KY22:=am hy22;have KA22:=am hA22;clear hy22 hA22;have KL22:=am (show(x5_1:Int).toNat≤l0.length from by omega);replace q22:=eq_true q22)|((with_reducible refine gate_builtin (b := .append) (xs := #[.tmp 43,.tmp 46]) rfl ?_);at_builtin;refine Kd.R_append_rows (Kd.int .i64) (w0:=w0) w0.heap.size rfl (.tmp 43) (.tmp 46) 22 3 (.int .i64 0) 8 rfl Try.underlying22 info3 rfl (by decide) (by omega) v168 y167 y170 _ _ _ (fun k_=>(P0_ k_∨w.heap.size≤k_)∧some k_≠(.slice (some ad155) l0.length co16:Value).ownBlock) (fun _=>False) rfl rfl ?aO ?aR (fun _ _ h=>h) (fun _ h=>h.elim) ?aF ?aB ?aS ?aL ?_;(case aR=>repeat(first|exact(by repeat(first|(with_reducible exact HR173.out)|(with_reducible refine Kd.C_alloc ?_ _)|(with_reducible refine Kd.C_drewN ?_ _)|(with_reducible refine Kd.C_drew ?_)|exact HR173.out))|(with_reducible refine Kd.C_alloc ?_ _)|(with_reducible refine Kd.C_drewN ?_ _)|(with_reducible refine Kd.C_drew ?_)));(case aB=>exact bl);(case aF=>exact(fun k_ hk=>⟨(.inr (Nat.le_trans (by first|exact HK.out.1|exact(show Kept w _ (fun k_=>P0_ k_) from by repeat(first|(with_reducible first|exact HK.out|apply Kept.alloc|apply Kept.drewN|apply Kept.drew)|exact HK.out)).1) hk)),Kd.fresh' (Kd.R_lt (rup HO_0.out)) k_ hk⟩));(case aO=>exact(rup HO169.out));(case aS=>exact(below_size bl));(case aL=>have:=LMc15.out;omega);intro v175 w23 ho hb hg hat;rw[← Ny174.out] at ho;replace HB:=am (hb);replace HK:=am (Kept.of_grown (S:=(fun k_=>P0_ k_)) hg (by repeat(first|(with_reducible first|exact HK.out|apply Kept.alloc|apply Kept.drewN|apply Kept.drew)|exact HK.out)) (fun k_ e_=>(HO169.out.1 k_ e_).1));replace HR163:=am ((show Kd.C (Kd.int .i64) w23 (some ad155) y160.length y160 from by rw[Ny160.out];exact Kd.C_take (m:=(x5_1:Int).toNat) ((Kd.R_reads' (Kd.R_after (ok:=(fun k_=>(P0_ k_∨w.heap.size≤k_))) (rup HO_0.out) hg hat)).2.2) KL19.out));replace HR173:=am ((show Kd.C (Kd.int .i64) w23 A22 y170.length y170 from by rw[Ny170.out,KA22.out];exact Kd.C_drop (m:=(x5_1:Int).toNat) (c:=co16) ((Kd.R_reads' (Kd.R_after (ok:=(fun k_=>(P0_ k_∨w.heap.size≤k_))) (rup HO_0.out) hg hat)).2.2) KL22.out ((Kd.R_reads' (Kd.R_after (ok:=(fun k_=>(P0_ k_∨w.heap.size≤k_))) (rup HO_0.out) hg hat)).2.1)));replace HO_0:=am (Kd.R_after (ok:=(fun k_=>(P0_ k_∨w.heap.size≤k_))) (rup HO_0.out) hg hat);have HO176:=am (ho);clear HO169 ho hb hg hat))
      go_ret
      exact⟨_,fin1,rup (Kd.R_mono HO176.out (fun _ hk=>hk.1)),by repeat(first|(with_reducible first|exact HB.out|apply below_alloc|apply pw_below_drewN|apply below_drew1)|exact HB.out),by repeat(first|(with_reducible first|exact HK.out|apply Kept.alloc|apply Kept.drewN|apply Kept.drew)|exact HK.out)⟩
   ·have c3b0:=decide_eq_false c3
    clear c3
    obtain⟨y177,hy177⟩:∃ y_:List Int,y_=(([]:List Int)):=⟨_,rfl⟩
    replace H:(if 0≤x5_1 then(if x5_1≤(l0.length:Int) then((some (l0.take (x5_1:Int).toNat:List Int)).bind fun y180=>(if y177.length+y180.length<17592186044416 then((some (y177 ++ y180:List Int)).bind fun y184=>(if y184.length<17592186044416 then((some (y184 ++ [a1]:List Int)).bind fun y187=>((some (l0.drop (x5_1:Int).toNat:List Int)).bind fun y190=>(if y187.length+y190.length<17592186044416 then(some (y187 ++ y190)) else(none)))) else(none))) else(none))) else(none)) else(none))=some r:=by subst hy177;exact H
    have Ny177:=am hy177
    clear hy177
    obtain⟨c24,H⟩:=ifp H
    have c24b0:=eq_true c24
    have c24b1:decide (0≤x5_1)=true:=decide_eq_true c24
    clear c24
    obtain⟨c25,H⟩:=ifp H
    have c25b0:=eq_true c25
    have c25b1:decide (x5_1≤(l0.length:Int))=true:=decide_eq_true c25
    clear c25
    obtain⟨y180,hy180⟩:∃ y_:List Int,y_=(l0.take (x5_1:Int).toNat):=⟨_,rfl⟩
    replace H:(if y177.length+y180.length<17592186044416 then((some (y177 ++ y180:List Int)).bind fun y184=>(if y184.length<17592186044416 then((some (y184 ++ [a1]:List Int)).bind fun y187=>((some (l0.drop (x5_1:Int).toNat:List Int)).bind fun y190=>(if y187.length+y190.length<17592186044416 then(some (y187 ++ y190)) else(none)))) else(none))) else(none))=some r:=by subst hy180;exact H
    have Ny180:=am hy180
    clear hy180
    obtain⟨c26,H⟩:=ifp H
    have LMc26:=am c26
    clear c26
    obtain⟨y184,hy184⟩:∃ y_:List Int,y_=(y177 ++ y180):=⟨_,rfl⟩
    replace H:(if y184.length<17592186044416 then((some (y184 ++ [a1]:List Int)).bind fun y187=>((some (l0.drop (x5_1:Int).toNat:List Int)).bind fun y190=>(if y187.length+y190.length<17592186044416 then(some (y187 ++ y190)) else(none)))) else(none))=some r:=by subst hy184;exact H
    have Ny184:=am hy184
    clear hy184
    obtain⟨c27,H⟩:=ifp H
    have LMc27:=am c27
    clear c27
    obtain⟨y187,hy187⟩:∃ y_:List Int,y_=(y184 ++ [a1]):=⟨_,rfl⟩
    replace H:((some (l0.drop (x5_1:Int).toNat:List Int)).bind fun y190=>(if y187.length+y190.length<17592186044416 then(some (y187 ++ y190)) else(none)))=some r:=by subst hy187;exact H
    have Ny187:=am hy187
    clear hy187
    have c28b0:=eq_true (od:0≤x5_1)
    have c29b0:=eq_true (od:x5_1≤(l0.length:Int))
    obtain⟨y190,hy190⟩:∃ y_:List Int,y_=(l0.drop (x5_1:Int).toNat):=⟨_,rfl⟩
    replace H:(if y187.length+y190.length<17592186044416 then(some (y187 ++ y190)) else(none))=some r:=by subst hy190;exact H
    have Ny190:=am hy190
    clear hy190
    obtain⟨c30,H⟩:=ifp H
    have LMc30:=am c30
    clear c30
    obtain⟨y194,hy194⟩:∃ y_:List Int,y_=(y187 ++ y190):=⟨_,rfl⟩
    replace H:(some y194)=some r:=by subst hy194;exact H
    have Ny194:=am hy194
    clear hy194
    obtain rfl:=Option.some.inj H
    obtain⟨Ao31,co31,eo31⟩:=Kd.R_slice HO_0.out
    subst eo31
    go_wp2_with (first|((with_reducible refine gate_dst (N:=34) rfl ?_);refine Kd.R_lit (Kd.int .i64) _ 3 ?hg (N:=34) ?hd (xs:=([]:List Int)) (inner:=[]) (ok:=fun _=>True) (okp:=fun _=>True) ?hr ?hp (fun _ hk=>hk) trivial (Below.refl _ _) (Nat.le_refl _) (by simp) ?_;(case hd=>rfl);(case hg=>rfl);(case hr=>first|(go_simp;done)|(go_simp;rfl));(case hp=>exact(Reps.none _ _));intro v178 w32 ho33 hb hg_ hnew_;clear hg_ hnew_;(first|rw[← Ny177.out] at ho33|(simp only[Int.reduceToNat] at ho33;rw[← Ny177.out] at ho33));have HO179:=am (Kd.R_lower (Kd.R_new' (Kd.R_newM (M:=fun k_=>(P0_ k_∨w.heap.size≤k_)) ho33 (by first|exact HK.out.1|exact(show Kept w _ (fun k_=>P0_ k_) from by repeat(first|(with_reducible first|exact HK.out|apply Kept.alloc|apply Kept.drewN|apply Kept.drew)|exact HK.out)).1) (fun k_ h_ => .inr h_)) (Kd.R_lt (rup HO_0.out))) (below_size bl));replace HO_0:=am (Kd.R_elder' (rup HO_0.out) (Kd.R_base ho33) hb);replace HK:=am (Kept.below (S:=(fun k_=>P0_ k_)) (by repeat(first|(with_reducible first|exact HK.out|apply Kept.alloc|apply Kept.drewN|apply Kept.drew)|exact HK.out)) hb);replace HB:=am (below_step bl hb);clear hb ho33;have q34:(x5_1:Int)≤((l0.length:Int):Int):=od;obtain⟨i034,hi034,_,hsz34,_⟩:=info_parts info3;have hroom34:l0.length≤co31:=(Kd.R_reads' HO_0.out).2.1;have hC34:Kd.C (Kd.int .i64) _ Ao31 l0.length l0:=(Kd.R_reads' HO_0.out).2.2;have hcut34:=cut_to (P:=Try.prog) 22 3 .i64 Try.underlying22 hi034 Ao31 l0.length co31 x5_1 (od) q34 hroom34;have hr34:=Kd.C_take (m:=(x5_1:Int).toNat) hC34 (by omega);have hy34:y180.length=(x5_1:Int).toNat:=(by rw[Ny180.out,List.length_take];omega);rw[← Ny180.out] at hr34;rw[← hy34] at hcut34;have HR183:=am hr34;have HC183:=am (show y180.length≤co31 from by omega);clear hr34 hC34 hroom34 hi034 hsz34;have KY34:=am hy34;clear hy34;have KL34:=am (show(x5_1:Int).toNat≤l0.length from by omega);replace q34:=eq_true q34)|((with_reducible refine gate_builtin (b := .append) (xs := #[.tmp 34,.tmp 37]) rfl ?_);at_builtin;refine Kd.R_append_rows (Kd.int .i64) (w0:=w0) w0.heap.size rfl (.tmp 34) (.tmp 37) 22 3 (.int .i64 0) 8 rfl Try.underlying22 info3 rfl (by decide) (by omega) v178 y177 y180 _ _ _ (fun k_=>(P0_ k_∨w.heap.size≤k_)∧some k_≠(.slice Ao31 l0.length co31:Value).ownBlock) (fun _=>False) rfl rfl ?aO ?aR (fun _ _ h=>h) (fun _ h=>h.elim) ?aF ?aB ?aS ?aL ?_;(case aR=>repeat(first|exact(by repeat(first|(with_reducible exact HR183.out)|(with_reducible refine Kd.C_alloc ?_ _)|(with_reducible refine Kd.C_drewN ?_ _)|(with_reducible refine Kd.C_drew ?_)|exact HR183.out))|(with_reducible refine Kd.C_alloc ?_ _)|(with_reducible refine Kd.C_drewN ?_ _)|(with_reducible refine Kd.C_drew ?_)));(case aB=>exact bl);(case aF=>exact(fun k_ hk=>⟨(.inr (Nat.le_trans (by first|exact HK.out.1|exact(show Kept w _ (fun k_=>P0_ k_) from by repeat(first|(with_reducible first|exact HK.out|apply Kept.alloc|apply Kept.drewN|apply Kept.drew)|exact HK.out)).1) hk)),Kd.fresh' (Kd.R_lt (rup HO_0.out)) k_ hk⟩));(case aO=>exact(rup (Kd.R_mono HO179.out (fun _ hk=>⟨hk.1.1,hk.2⟩))));(case aS=>exact(below_size bl));(case aL=>have:=LMc26.out;omega);intro v185 w35 ho hb hg hat;rw[← Ny184.out] at ho;replace HB:=am (hb);replace HK:=am (Kept.of_grown (S:=(fun k_=>P0_ k_)) hg (by repeat(first|(with_reducible first|exact HK.out|apply Kept.alloc|apply Kept.drewN|apply Kept.drew)|exact HK.out)) (fun k_ e_=>(HO179.out.1 k_ e_).1.1));replace HR183:=am ((show Kd.C (Kd.int .i64) w35 Ao31 y180.length y180 from by rw[Ny180.out];exact Kd.C_take (m:=(x5_1:Int).toNat) ((Kd.R_reads' (Kd.R_after (ok:=(fun k_=>(P0_ k_∨w.heap.size≤k_))) (rup HO_0.out) hg hat)).2.2) KL34.out));replace HO_0:=am (Kd.R_after (ok:=(fun k_=>(P0_ k_∨w.heap.size≤k_))) (rup HO_0.out) hg hat);have HO186:=am (ho);clear HO179 ho hb hg hat)|((with_reducible refine gate_builtin (b := .append) (xs := #[.tmp 39,.tmp 41]) rfl ?_);at_builtin;refine Kd.R_append (Kd.int .i64) (w0:=w0) w0.heap.size rfl (.tmp 39) (.tmp 41) 22 3 (.int .i64 0) 8 rfl Try.underlying22 info3 rfl (by decide) (by omega) v185 y184 a1 [.int .i64 a1] (fun k_=>(P0_ k_∨w.heap.size≤k_)∧some k_≠(.slice Ao31 l0.length co31:Value).ownBlock) (fun _=>False) rfl rfl ?aP (fun _ hk=>hk.elim) ?aF ?aO ?aB ?aS ?aL ?_;(case aP=>exact rfl);(case aB=>exact bl);(case aF=>exact(fun k_ hk=>⟨(.inr (Nat.le_trans (by first|exact HK.out.1|exact(show Kept w _ (fun k_=>P0_ k_) from by repeat(first|(with_reducible first|exact HK.out|apply Kept.alloc|apply Kept.drewN|apply Kept.drew)|exact HK.out)).1) hk)),Kd.fresh' (Kd.R_lt (rup HO_0.out)) k_ hk⟩));(case aO=>exact(rup HO186.out));(case aS=>exact(below_size bl));(case aL=>have:=LMc27.out;omega);intro v188 w36 ho hb hg hat;rw[← Ny187.out] at ho;replace HB:=am (hb);replace HK:=am (Kept.of_grown (S:=(fun k_=>P0_ k_)) hg (by repeat(first|(with_reducible first|exact HK.out|apply Kept.alloc|apply Kept.drewN|apply Kept.drew)|exact HK.out)) (fun k_ e_=>(HO186.out.1 k_ e_).1));replace HR183:=am ((show Kd.C (Kd.int .i64) w36 Ao31 y180.length y180 from by rw[Ny180.out];exact Kd.C_take (m:=(x5_1:Int).toNat) ((Kd.R_reads' (Kd.R_after (ok:=(fun k_=>(P0_ k_∨w.heap.size≤k_))) (rup HO_0.out) hg hat)).2.2) KL34.out));replace HO_0:=am (Kd.R_after (ok:=(fun k_=>(P0_ k_∨w.heap.size≤k_))) (rup HO_0.out) hg hat);have HO189:=am (ho);clear HO186 ho hb hg hat;have q37:(x5_1:Int)≤((l0.length:Int):Int):=od;obtain⟨i037,hi037,_,hsz37,_⟩:=info_parts info3;have hroom37:l0.length≤co31:=(Kd.R_reads' HO_0.out).2.1;have hC37:Kd.C (Kd.int .i64) _ Ao31 l0.length l0:=(Kd.R_reads' HO_0.out).2.2;have q037:(0:Int)≤(x5_1:Int):=od;have hcut37:=cut_from (P:=Try.prog) 22 3 .i64 Try.underlying22 hi037 1 hsz37 Ao31 l0.length co31 x5_1 q037 q37;have hr37:=Kd.C_drop (m:=(x5_1:Int).toNat) (c:=co31) hC37 (by omega) hroom37;obtain⟨A37,hA37⟩:∃ A1,A1=(if co31=(x5_1:Int).toNat then Ao31 else(Ao31:Option Addr).map (·.add ((x5_1:Int).toNat*1))):=⟨_,rfl⟩;obtain⟨c37,hc37⟩:∃ c1,c1=co31 - (x5_1:Int).toNat:=⟨_,rfl⟩;have hy37:y190.length=l0.length - (x5_1:Int).toNat:=(by rw[Ny190.out,List.length_drop]<;>omega);rw[show(l0).drop (x5_1:Int).toNat=y190 from Ny190.out.symm] at hr37;replace hr37:Kd.C (Kd.int .i64) _ A37 y190.length y190:=(by rw[hA37];exact hr37);rw[← hy37,← hA37,← hc37] at hcut37;have HR193:=am hr37;have HC193:=am (show y190.length≤c37 from by rw[hy37,hc37];exact Nat.sub_le_sub_right hroom37 _);clear hr37 hC37 hroom37 hi037 hsz37 hc37;have KY37:=am hy37;have KA37:=am hA37;clear hy37 hA37;have KL37:=am (show(x5_1:Int).toNat≤l0.length from by omega);replace q37:=eq_true q37)|((with_reducible refine gate_builtin (b := .append) (xs := #[.tmp 43,.tmp 46]) rfl ?_);at_builtin;refine Kd.R_append_rows (Kd.int .i64) (w0:=w0) w0.heap.size rfl (.tmp 43) (.tmp 46) 22 3 (.int .i64 0) 8 rfl Try.underlying22 info3 rfl (by decide) (by omega) v188 y187 y190 _ _ _ (fun k_=>(P0_ k_∨w.heap.size≤k_)∧some k_≠(.slice Ao31 l0.length co31:Value).ownBlock) (fun _=>False) rfl rfl ?aO ?aR (fun _ _ h=>h) (fun _ h=>h.elim) ?aF ?aB ?aS ?aL ?_;(case aR=>repeat(first|exact(by repeat(first|(with_reducible exact HR193.out)|(with_reducible refine Kd.C_alloc ?_ _)|(with_reducible refine Kd.C_drewN ?_ _)|(with_reducible refine Kd.C_drew ?_)|exact HR193.out))|(with_reducible refine Kd.C_alloc ?_ _)|(with_reducible refine Kd.C_drewN ?_ _)|(with_reducible refine Kd.C_drew ?_)));(case aB=>exact bl);(case aF=>exact(fun k_ hk=>⟨(.inr (Nat.le_trans (by first|exact HK.out.1|exact(show Kept w _ (fun k_=>P0_ k_) from by repeat(first|(with_reducible first|exact HK.out|apply Kept.alloc|apply Kept.drewN|apply Kept.drew)|exact HK.out)).1) hk)),Kd.fresh' (Kd.R_lt (rup HO_0.out)) k_ hk⟩));(case aO=>exact(rup HO189.out));(case aS=>exact(below_size bl));(case aL=>have:=LMc30.out;omega);intro v195 w38 ho hb hg hat;rw[← Ny194.out] at ho;replace HB:=am (hb);replace HK:=am (Kept.of_grown (S:=(fun k_=>P0_ k_)) hg (by repeat(first|(with_reducible first|exact HK.out|apply Kept.alloc|apply Kept.drewN|apply Kept.drew)|exact HK.out)) (fun k_ e_=>(HO189.out.1 k_ e_).1));replace HR183:=am ((show Kd.C (Kd.int .i64) w38 Ao31 y180.length y180 from by rw[Ny180.out];exact Kd.C_take (m:=(x5_1:Int).toNat) ((Kd.R_reads' (Kd.R_after (ok:=(fun k_=>(P0_ k_∨w.heap.size≤k_))) (rup HO_0.out) hg hat)).2.2) KL34.out));replace HR193:=am ((show Kd.C (Kd.int .i64) w38 A37 y190.length y190 from by rw[Ny190.out,KA37.out];exact Kd.C_drop (m:=(x5_1:Int).toNat) (c:=co31) ((Kd.R_reads' (Kd.R_after (ok:=(fun k_=>(P0_ k_∨w.heap.size≤k_))) (rup HO_0.out) hg hat)).2.2) KL37.out ((Kd.R_reads' (Kd.R_after (ok:=(fun k_=>(P0_ k_∨w.heap.size≤k_))) (rup HO_0.out) hg hat)).2.1)));replace HO_0:=am (Kd.R_after (ok:=(fun k_=>(P0_ k_∨w.heap.size≤k_))) (rup HO_0.out) hg hat);have HO196:=am (ho);clear HO189 ho hb hg hat))
    go_ret
    exact⟨_,fin1,rup (Kd.R_mono HO196.out (fun _ hk=>hk.1)),by repeat(first|(with_reducible first|exact HB.out|apply below_alloc|apply pw_below_drewN|apply below_drew1)|exact HB.out),by repeat(first|(with_reducible first|exact HK.out|apply Kept.alloc|apply Kept.drewN|apply Kept.drew)|exact HK.out)⟩

def spec_inMissing.l0:Nat→List Int→List (S55)→Int→Int→List Int→Int→Option (List Int)
 | 0,_,_,_,_,_,_=>none
 | k+1,x5,x8,x9,x10,x198000,x198001=>if x10<x9 then(if 0≤x10 then(if x10<(x8.length:Int) then((spec_inTrack.f k x198000 x198001 ((rd_T55 x8 x10).f0)).bind fun t200=>(if t200<0 then((spec_l1Put.f k x5 ((rd_T55 x8 x10).f0)).bind fun t201=>(spec_inMissing.l0 k t201 x8 x9 (wrap64 (x10+1)) x198000 x198001)) else(spec_inMissing.l0 k x5 x8 x9 (wrap64 (x10+1)) x198000 x198001))) else(none)) else(none)) else(some x5)
def spec_inMissing.f (k:Nat) (l0_0:List Int) (a0_1:Int) (l1:List (S55)):Option (List Int):=spec_inMissing.l0 k ([]:List Int) l1 (l1.length:Int) 0 l0_0 a0_1
set_option maxHeartbeats 8000000 in
set_option maxRecDepth 100000 in
theorem spec_inMissing.calls (k:Nat) (A0_0:Option Addr) (c0_0:Nat) (l0_0:List Int) (a0_1:Int) (A1:Option Addr) (c1:Nat) (l1:List (S55)) (r:List Int) (w:World) (hr0_0:Kd.C (Kd.int .i64) w A0_0 l0_0.length l0_0) (hc0_0:l0_0.length≤c0_0) (hr1:Kd.C k55 w A1 l1.length l1) (hc1:l1.length≤c1) (h:spec_inMissing.f k l0_0 a0_1 l1=some r) :
  Calls Try.prog 58 #[.agg #[.slice A0_0 l0_0.length c0_0,.int .i64 a0_1],.slice A1 l1.length c1] w fun e w'=>∃ v0_:Value,e = .returned (v0_)∧Kd.R (Kd.int .i64) 3 w' w.heap.size (fun _=>True) v0_ r∧Below w.heap.size w w':=by
 have hu32:=Try.underlying32
 have hu55:=Try.underlying55
 have HR0_0:=am hr0_0
 have HC0_0:=am hc0_0
 clear hr0_0 hc0_0
 have HR1:=am hr1
 have HC1:=am hc1
 clear hr1 hc1
 have HB:=am (Below.refl w.heap.size w)
 have H:(spec_inMissing.l0 k ([]:List Int) l1 (l1.length:Int) 0 l0_0 a0_1)=some r:=h
 clear h
 have H':=am H
 clear H
 go_enter Try.func58,Try.ntmps58
 go_wp2_with (first|((with_reducible refine gate_dst (N:=2) rfl ?_);refine box_event ?hg (N:=2) ?hd (cs := #[.slice A0_0 l0_0.length c0_0,.int .i64 a0_1]) (t:=32) ?hr ?_;(case hd=>rfl);(case hg=>rfl);(case hr=>first|(go_simp;done)|(go_simp;rfl));intro gb197 hg w3 hbox hb;have BK197:=am (hbox);have GW197:=am (ge_ bl hg);have GE197:=am (ge_ bl hg);replace HB:=am (below_step bl hb);clear hb hbox hg))
 go_loopg [5,10] k (fun kq v5 v10 w'=>∃(x5_1:List Int) (x10_1:Int),v10 = .int .i64 x10_1∧Aside0 (spec_inMissing.l0 kq x5_1 l1 (l1.length:Int) x10_1 l0_0 a0_1=some r)∧Aside0 (kq≤k)∧Aside0 (Kd.R (Kd.int .i64) 3 w' w.heap.size (fun _=>True) v5 x5_1)∧Aside0 (w'.heap[gb197]?=some (.cells #[(.slice A0_0 l0_0.length c0_0),.int .i64 a0_1] 32 (0,0)))∧Aside0 (Below w.heap.size w w'))
 case atStart=>exact⟨(([]:List Int)),(0),fin2,H',⟨Nat.le_refl _⟩,⟨by first|exact Kd.R_nil _ _ _ _ _|exact Kd.N_nil _ _ _ _ _|exact Kd.V_nil _ _ _ _ _|exact Kd.Q_nil _ _ _ _ _|exact Kd.S_nil _ _ _ _ _⟩,⟨bup BK197.out⟩,⟨bl⟩⟩
 case round =>
  clear H'
  try clear c1
  try clear p2
  obtain⟨x5_1,x10_1,rfl,HA,HK1,HO_5,BK197,HB⟩:=hrel
  cases gk with
  | zero=>exact absurd HA.out (by simp [spec_inMissing.l0])
  | succ k1 =>
   have H:=HA.out
   clear HA
   simp only[spec_inMissing.l0] at H
   rcases itc H with⟨c4,H⟩|⟨c4,H⟩
   ·have c4b0:=decide_eq_true c4
    clear c4
    obtain⟨c5b0,H⟩:=ifb H
    obtain⟨c6b0,H⟩:=ifb H
    obtain⟨t200,A7,H⟩:=bnd H
    rcases itc H with⟨c8,H⟩|⟨c8,H⟩
    ·have c8b0:=decide_eq_true c8
     clear c8
     obtain⟨t201,A9,H⟩:=bnd H
     have H':=am H
     clear H
     have p198:0≤(x10_1:Int):=od
     have q198:x10_1<(l1.length:Int):=od
     obtain⟨ad198,e198,hx198_0,hx198_1,hx198_2⟩:=at_T55 HR1.out x10_1 p198 q198
     cases e198
     replace hx198_0:=(HB.out.cell (World.block_lt_of_cell? w _ hx198_0)).trans hx198_0
     replace hx198_1:=(HB.out.cell (World.block_lt_of_cell? w _ hx198_1)).trans hx198_1
     replace hx198_2:=(HB.out.cell (World.block_lt_of_cell? w _ hx198_2)).trans hx198_2
     replace p198:=eq_true p198
     replace q198:=eq_true q198
     go_wp2_with (first|((with_reducible refine gate_dst (N:=7) rfl ?_);refine box_event ?hg (N:=7) ?hd (cs := #[.int .i64 0,.int .i64 0,.int .i64 0]) (t:=55) ?hr ?_;(case hd=>rfl);(case hg=>rfl);(case hr=>first|(go_simp;done)|(go_simp;rfl));intro gb199 hg w10 hbox hb;replace HO_5:=am (Kd.R_below (rup HO_5.out) hb);have BK199:=am (hbox);have GW199:=am (ge_ bl hg);have GE199:=am (ge_ bl hg);replace HB:=am (below_step bl hb);have NB197_199:=am (nl (bup BK197.out) hg);have NB199_197:=am (ng (bup BK197.out) hg);replace BK197:=am (blk_below (bup BK197.out) hb);clear hb hbox hg;have hnb11:=NB199_197.out;have hnc11:=NB197_199.out;have hcz12_0:w10.cell? ⟨gb199,0,none⟩=some (.int .i64 0):=(blk_cell BK199.out 0).trans rfl;have hcz12_1:w10.cell? ⟨gb199,1,none⟩=some (.int .i64 0):=(blk_cell BK199.out 1).trans rfl;have hcz12_2:w10.cell? ⟨gb199,2,none⟩=some (.int .i64 0):=(blk_cell BK199.out 2).trans rfl;have hfz12_0:=blk_frozen BK199.out 0;have hfz12_1:=blk_frozen BK199.out 1;have hfz12_2:=blk_frozen BK199.out 2;have hcz13_0:w10.cell? ⟨gb197,0,none⟩=some (.slice A0_0 l0_0.length c0_0):=(blk_cell BK197.out 0).trans rfl;have hcz13_1:w10.cell? ⟨gb197,1,none⟩=some (.int .i64 a0_1):=(blk_cell BK197.out 1).trans rfl;have hfz13_0:=blk_frozen BK197.out 0;have hfz13_1:=blk_frozen BK197.out 1)|((with_reducible refine gate_callee (f:=60) rfl ?_);refine goesL_ (some 17) rfl rfl Try.func60 (by kernel_rfl) rfl #[.agg #[.slice A0_0 l0_0.length c0_0,.int .i64 a0_1],.int .i64 ((rd_T55 l1 x10_1).f0)] rfl tl ?_;(with_reducible refine(spec_inTrack.calls k1 _ _ l0_0 a0_1 ((rd_T55 l1 x10_1).f0) t200 _ ?side1 ?side2 A7.out).mono ?_);(case side1=>exact Kd.C_below HR0_0.out bl);(case side2=>exact HC0_0.out);rintro e w14 ⟨rfl,hb⟩;refine⟨_,rfl,?_⟩;replace HO_5:=am (Kd.R_below (by(with_reducible repeat(first|apply Kd.R_alloc|apply Kd.R_drewN|apply Kd.R_drew));exact(Kd.R_mono (Kd.R_far (p:=⟨gb199,2,none⟩) (Kd.R_far (p:=⟨gb199,1,none⟩) (Kd.R_far (p:=⟨gb199,0,none⟩) (Kd.R_types HO_5.out BK199.out (by decide)) (fun _ hk=>hk.2) (.int .i64 ((rd_T55 l1 x10_1).f0))) (fun _ hk=>hk.2) (.int .i64 ((rd_T55 l1 x10_1).f1))) (fun _ hk=>hk.2) (.int .i64 ((rd_T55 l1 x10_1).f2))) (fun _ h_=>h_.1))) hb);replace BK197:=am (blk_below (g:=gb197) (o := .cells #[.slice A0_0 l0_0.length c0_0,.int .i64 a0_1] 32 (0,0)) (by(with_reducible repeat(first|refine bN_ ?_ _|refine bD_ ?_|refine bA_ ?_ _));refine blk_far ?_ NB197_199.out _;(with_reducible repeat(first|refine bN_ ?_ _|refine bD_ ?_|refine bA_ ?_ _));refine blk_far ?_ NB197_199.out _;(with_reducible repeat(first|refine bN_ ?_ _|refine bD_ ?_|refine bA_ ?_ _));refine blk_far ?_ NB197_199.out _;exact bup BK197.out) hb);replace BK199:=am (blk_below (g:=gb199) (o := .cells #[.int .i64 ((rd_T55 l1 x10_1).f0),.int .i64 ((rd_T55 l1 x10_1).f1),.int .i64 ((rd_T55 l1 x10_1).f2)] 55 (0,0)) (by(with_reducible repeat(first|refine bN_ ?_ _|refine bD_ ?_|refine bA_ ?_ _));refine blk_put (cs := #[.int .i64 ((rd_T55 l1 x10_1).f0),.int .i64 ((rd_T55 l1 x10_1).f1),.int .i64 0]) ?_ 2 _ rfl;(with_reducible repeat(first|refine bN_ ?_ _|refine bD_ ?_|refine bA_ ?_ _));refine blk_put (cs := #[.int .i64 ((rd_T55 l1 x10_1).f0),.int .i64 0,.int .i64 0]) ?_ 1 _ rfl;(with_reducible repeat(first|refine bN_ ?_ _|refine bD_ ?_|refine bA_ ?_ _));refine blk_put (cs := #[.int .i64 0,.int .i64 0,.int .i64 0]) ?_ 0 _ rfl;exact bup BK199.out) hb);replace HB:=am (below_step bl hb);(try clear hb);(try clear hk);have hcz15_0:w14.cell? ⟨gb199,0,none⟩=some (.int .i64 ((rd_T55 l1 x10_1).f0)):=(blk_cell BK199.out 0).trans rfl;have hcz15_1:w14.cell? ⟨gb199,1,none⟩=some (.int .i64 ((rd_T55 l1 x10_1).f1)):=(blk_cell BK199.out 1).trans rfl;have hcz15_2:w14.cell? ⟨gb199,2,none⟩=some (.int .i64 ((rd_T55 l1 x10_1).f2)):=(blk_cell BK199.out 2).trans rfl;have hfz15_0:=blk_frozen BK199.out 0;have hfz15_1:=blk_frozen BK199.out 1;have hfz15_2:=blk_frozen BK199.out 2;obtain⟨Ao16,co16,eo16⟩:=Kd.R_slice HO_5.out;subst eo16)|((with_reducible refine gate_callee (f:=75) rfl ?_);refine goesL_ (some 22) rfl rfl Try.func75 (by kernel_rfl) rfl #[.slice Ao16 x5_1.length co16,.int .i64 ((rd_T55 l1 x10_1).f0)] rfl tl ?_;(with_reducible refine(spec_l1Put.calls k1 (fun k_=>some k_=(.slice Ao16 x5_1.length co16:Value).ownBlock) (.slice Ao16 x5_1.length co16) x5_1 ((rd_T55 l1 x10_1).f0) t201 w _ ?side1 ?side2 A9.out).mono ?_);(case side1=>repeat(first|(with_reducible first|exact HB.out|apply below_alloc|apply pw_below_drewN|apply below_drew1|refine below_set ?_ GE197.out|refine below_set ?_ GE199.out)|exact HB.out));(case side2=>exact Kd.R_tight rfl HO_5.out);rintro e w17 ⟨v202,rfl,ho0,hb,hkp⟩;refine⟨_,rfl,?_⟩;replace BK197:=am (blk_kept (bup BK197.out) hkp (fun hs_=>(fun e_=>(Kd.R_ne HO_5.out BK197.out (by decide)) e_) hs_));replace BK199:=am (blk_kept (bup BK199.out) hkp (fun hs_=>(fun e_=>(Kd.R_ne HO_5.out BK199.out (by decide)) e_) hs_));have HO203:=am (Kd.R_mono (ok':=fun k_=>True) ho0 (fun k_ hk_=>trivial));replace HB:=am (hb);clear HO_5;(try clear hb);(try clear hkp);(try clear ho0)))
     go_roundg k1
     case measure=>have:=HK1.out;omega
     case rel=>exact⟨(t201),(wrap64 (x10_1+1)),fin2,H',⟨by have:=HK1.out;omega⟩,⟨rup HO203.out⟩,⟨bup BK197.out⟩,⟨bl⟩⟩
    ·have c8b0:=decide_eq_false c8
     clear c8
     have H':=am H
     clear H
     have p198:0≤(x10_1:Int):=od
     have q198:x10_1<(l1.length:Int):=od
     obtain⟨ad198,e198,hx198_0,hx198_1,hx198_2⟩:=at_T55 HR1.out x10_1 p198 q198
     cases e198
     replace hx198_0:=(HB.out.cell (World.block_lt_of_cell? w _ hx198_0)).trans hx198_0
     replace hx198_1:=(HB.out.cell (World.block_lt_of_cell? w _ hx198_1)).trans hx198_1
     replace hx198_2:=(HB.out.cell (World.block_lt_of_cell? w _ hx198_2)).trans hx198_2
     replace p198:=eq_true p198
     replace q198:=eq_true q198
     go_wp2_with (first|((with_reducible refine gate_dst (N:=7) rfl ?_);refine box_event ?hg (N:=7) ?hd (cs := #[.int .i64 0,.int .i64 0,.int .i64 0]) (t:=55) ?hr ?_;(case hd=>rfl);(case hg=>rfl);(case hr=>first|(go_simp;done)|(go_simp;rfl));intro gb199 hg w18 hbox hb;replace HO_5:=am (Kd.R_below (rup HO_5.out) hb);have BK199:=am (hbox);have GW199:=am (ge_ bl hg);have GE199:=am (ge_ bl hg);replace HB:=am (below_step bl hb);have NB197_199:=am (nl (bup BK197.out) hg);have NB199_197:=am (ng (bup BK197.out) hg);replace BK197:=am (blk_below (bup BK197.out) hb);clear hb hbox hg;have hnb19:=NB199_197.out;have hnc19:=NB197_199.out;have hcz20_0:w18.cell? ⟨gb199,0,none⟩=some (.int .i64 0):=(blk_cell BK199.out 0).trans rfl;have hcz20_1:w18.cell? ⟨gb199,1,none⟩=some (.int .i64 0):=(blk_cell BK199.out 1).trans rfl;have hcz20_2:w18.cell? ⟨gb199,2,none⟩=some (.int .i64 0):=(blk_cell BK199.out 2).trans rfl;have hfz20_0:=blk_frozen BK199.out 0;have hfz20_1:=blk_frozen BK199.out 1;have hfz20_2:=blk_frozen BK199.out 2;have hcz21_0:w18.cell? ⟨gb197,0,none⟩=some (.slice A0_0 l0_0.length c0_0):=(blk_cell BK197.out 0).trans rfl;have hcz21_1:w18.cell? ⟨gb197,1,none⟩=some (.int .i64 a0_1):=(blk_cell BK197.out 1).trans rfl;have hfz21_0:=blk_frozen BK197.out 0;have hfz21_1:=blk_frozen BK197.out 1)|((with_reducible refine gate_callee (f:=60) rfl ?_);refine goesL_ (some 17) rfl rfl Try.func60 (by kernel_rfl) rfl #[.agg #[.slice A0_0 l0_0.length c0_0,.int .i64 a0_1],.int .i64 ((rd_T55 l1 x10_1).f0)] rfl tl ?_;(with_reducible refine(spec_inTrack.calls k1 _ _ l0_0 a0_1 ((rd_T55 l1 x10_1).f0) t200 _ ?side1 ?side2 A7.out).mono ?_);(case side1=>exact Kd.C_below HR0_0.out bl);(case side2=>exact HC0_0.out);rintro e w22 ⟨rfl,hb⟩;refine⟨_,rfl,?_⟩;replace HO_5:=am (Kd.R_below (by(with_reducible repeat(first|apply Kd.R_alloc|apply Kd.R_drewN|apply Kd.R_drew));exact(Kd.R_mono (Kd.R_far (p:=⟨gb199,2,none⟩) (Kd.R_far (p:=⟨gb199,1,none⟩) (Kd.R_far (p:=⟨gb199,0,none⟩) (Kd.R_types HO_5.out BK199.out (by decide)) (fun _ hk=>hk.2) (.int .i64 ((rd_T55 l1 x10_1).f0))) (fun _ hk=>hk.2) (.int .i64 ((rd_T55 l1 x10_1).f1))) (fun _ hk=>hk.2) (.int .i64 ((rd_T55 l1 x10_1).f2))) (fun _ h_=>h_.1))) hb);replace BK197:=am (blk_below (g:=gb197) (o := .cells #[.slice A0_0 l0_0.length c0_0,.int .i64 a0_1] 32 (0,0)) (by(with_reducible repeat(first|refine bN_ ?_ _|refine bD_ ?_|refine bA_ ?_ _));refine blk_far ?_ NB197_199.out _;(with_reducible repeat(first|refine bN_ ?_ _|refine bD_ ?_|refine bA_ ?_ _));refine blk_far ?_ NB197_199.out _;(with_reducible repeat(first|refine bN_ ?_ _|refine bD_ ?_|refine bA_ ?_ _));refine blk_far ?_ NB197_199.out _;exact bup BK197.out) hb);replace BK199:=am (blk_below (g:=gb199) (o := .cells #[.int .i64 ((rd_T55 l1 x10_1).f0),.int .i64 ((rd_T55 l1 x10_1).f1),.int .i64 ((rd_T55 l1 x10_1).f2)] 55 (0,0)) (by(with_reducible repeat(first|refine bN_ ?_ _|refine bD_ ?_|refine bA_ ?_ _));refine blk_put (cs := #[.int .i64 ((rd_T55 l1 x10_1).f0),.int .i64 ((rd_T55 l1 x10_1).f1),.int .i64 0]) ?_ 2 _ rfl;(with_reducible repeat(first|refine bN_ ?_ _|refine bD_ ?_|refine bA_ ?_ _));refine blk_put (cs := #[.int .i64 ((rd_T55 l1 x10_1).f0),.int .i64 0,.int .i64 0]) ?_ 1 _ rfl;(with_reducible repeat(first|refine bN_ ?_ _|refine bD_ ?_|refine bA_ ?_ _));refine blk_put (cs := #[.int .i64 0,.int .i64 0,.int .i64 0]) ?_ 0 _ rfl;exact bup BK199.out) hb);replace HB:=am (below_step bl hb);(try clear hb);(try clear hk)))
     go_roundg k1
     case measure=>have:=HK1.out;omega
     case rel=>exact⟨(x5_1),(wrap64 (x10_1+1)),fin2,H',⟨by have:=HK1.out;omega⟩,⟨rup HO_5.out⟩,⟨bup BK197.out⟩,⟨bl⟩⟩
   ·have c4b0:=decide_eq_false c4
    clear c4
    obtain rfl:=Option.some.inj H
    go_wp2
    go_ret
    exact⟨_,fin1,by(with_reducible repeat(first|apply Kd.R_alloc|apply Kd.R_drewN|apply Kd.R_drew));exact HO_5.out,bl⟩

def spec_inLast.l0:Nat→List (S55)→Int→Int→Option (Int)
 | 0,_,_,_=>none
 | k+1,x0,x1,x5=>if x5≥0 then(if 0≤x5 then(if x5<(x0.length:Int) then(if 0≤x1 then(if x1<(x0.length:Int) then(if((rd_T55 x0 x5).f0)=((rd_T55 x0 x1).f0) then(some x5) else(spec_inLast.l0 k x0 x1 (wrap64 (x5 - 1)))) else(none)) else(none)) else(none)) else(none)) else(some (-1))
def spec_inLast.f (k:Nat) (l0:List (S55)) (a1:Int):Option (Int):=spec_inLast.l0 k l0 a1 (wrap64 (a1 - 1))
set_option maxHeartbeats 8000000 in
set_option maxRecDepth 100000 in
theorem spec_inLast.calls (k:Nat) (A0:Option Addr) (c0:Nat) (l0:List (S55)) (a1:Int) (r:Int) (w:World) (hr0:Kd.C k55 w A0 l0.length l0) (hc0:l0.length≤c0) (h:spec_inLast.f k l0 a1=some r) :
  Calls Try.prog 76 #[.slice A0 l0.length c0,.int .i64 a1] w fun e w'=>e = .returned (.int .i64 r)∧Drawn0 w w':=by
 have HR0:=am hr0
 have HC0:=am hc0
 clear hr0 hc0
 have H:(spec_inLast.l0 k l0 a1 (wrap64 (a1 - 1)))=some r:=h
 clear h
 have H':=am H
 clear H
 go_enter Try.func76,Try.ntmps76
 go_wp2
 repeat(go_quiet (fail);try go_wp2)
 go_loopg [5] k (fun kq v5 w'=>∃(x5_1:Int),v5 = .int .i64 x5_1∧Aside0 (spec_inLast.l0 kq l0 a1 x5_1=some r)∧Aside0 (kq≤k)∧Drawn0 w w')
 case atStart=>exact⟨(wrap64 (a1 - 1)),fin2,H',⟨Nat.le_refl _⟩,by repeat(first|exact Drawn0.refl _|apply Drawn0.step)⟩
 case round =>
  clear H'
  try clear p2
  obtain⟨x5_1,rfl,HA,HK1,⟨m1,rfl⟩⟩:=hrel
  cases gk with
  | zero=>exact absurd HA.out (by simp [spec_inLast.l0])
  | succ k1 =>
   have H:=HA.out
   clear HA
   simp only[spec_inLast.l0] at H
   rcases itc H with⟨c3,H⟩|⟨c3,H⟩
   ·have c3b0:decide (0≤x5_1)=true:=decide_eq_true c3
    clear c3
    obtain⟨c4b0,H⟩:=ifb H
    obtain⟨c5b0,H⟩:=ifb H
    obtain⟨c6b0,H⟩:=ifb H
    obtain⟨c7b0,H⟩:=ifb H
    rcases itc H with⟨c8,H⟩|⟨c8,H⟩
    ·have c8b0:(((rd_T55 l0 x5_1).f0) == ((rd_T55 l0 a1).f0))=true:=beq_iff_eq.mpr c8
     have c8b1:(((rd_T55 l0 x5_1).f0) != ((rd_T55 l0 a1).f0))=false:=bne_eq_false_iff_eq.mpr c8
     clear c8
     obtain rfl:=Option.some.inj H
     have p204:0≤(x5_1:Int):=od
     have q204:x5_1<(l0.length:Int):=od
     obtain⟨ad204,e204,hx204_0,hx204_1,hx204_2⟩:=at_T55 HR0.out x5_1 p204 q204
     cases e204
     replace p204:=eq_true p204
     replace q204:=eq_true q204
     have p205:0≤(a1:Int):=od
     have q205:a1<(l0.length:Int):=od
     obtain⟨ad205,e205,hx205_0,hx205_1,hx205_2⟩:=at_T55 HR0.out a1 p205 q205
     obtain rfl:ad204=ad205:=(by injection e205)
     replace p205:=eq_true p205
     replace q205:=eq_true q205
     go_wp2
     repeat(go_quiet (fail);try go_wp2)
     go_ret
     exact⟨by first|rfl|(simp;done)|(simp [*];done),by repeat(first|exact Drawn0.refl _|apply Drawn0.step)⟩
    ·have c8b0:(((rd_T55 l0 x5_1).f0) == ((rd_T55 l0 a1).f0))=false:=beq_eq_false_iff_ne.mpr c8
     have c8b1:(((rd_T55 l0 x5_1).f0) != ((rd_T55 l0 a1).f0))=true:=bne_iff_ne.mpr c8
     have H':=am H
     clear H
     have p204:0≤(x5_1:Int):=od
     have q204:x5_1<(l0.length:Int):=od
     obtain⟨ad204,e204,hx204_0,hx204_1,hx204_2⟩:=at_T55 HR0.out x5_1 p204 q204
     cases e204
     replace p204:=eq_true p204
     replace q204:=eq_true q204
     have p205:0≤(a1:Int):=od
     have q205:a1<(l0.length:Int):=od
     obtain⟨ad205,e205,hx205_0,hx205_1,hx205_2⟩:=at_T55 HR0.out a1 p205 q205
     obtain rfl:ad204=ad205:=(by injection e205)
     replace p205:=eq_true p205
     replace q205:=eq_true q205
     go_wp2
     repeat(go_quiet (fail);try go_wp2)
     go_roundg k1
     case measure=>have:=HK1.out;omega
     case rel=>exact⟨(wrap64 (x5_1 - 1)),fin2,H',⟨by have:=HK1.out;omega⟩,by repeat(first|exact Drawn0.refl _|apply Drawn0.step)⟩
   ·have c3b0:decide (0≤x5_1)=false:=decide_eq_false c3
    clear c3
    obtain rfl:=Option.some.inj H
    go_wp2
    repeat(go_quiet (fail);try go_wp2)
    go_ret
    exact⟨by first|rfl|(simp;done)|(simp [*];done),by repeat(first|exact Drawn0.refl _|apply Drawn0.step)⟩

def spec_inFast.l0:Nat→List (S55)→Int→List (List Int)→List (S55)→Int→Int→Option ((List (List Int)))
 | 0,_,_,_,_,_,_=>none
 | k+1,x0,x1,x5,x9,x10,x11=>if x11<x10 then(if 0≤x11 then(if x11<(x9.length:Int) then((spec_inLast.f k x0 x11).bind fun t208=>(if t208≥0 then(if 0≤t208 then(if t208<(x0.length:Int) then(if(wrap64 (((rd_T55 x9 x11).f1) - ((rd_T55 x0 t208).f1)))<x1 then(if x5.length<5864062014805 then(spec_inFast.l0 k x0 x1 (x5 ++ [(([t208,x11]:List Int))]) x9 x10 (wrap64 (x11+1))) else(none)) else(spec_inFast.l0 k x0 x1 x5 x9 x10 (wrap64 (x11+1)))) else(none)) else(none)) else(spec_inFast.l0 k x0 x1 x5 x9 x10 (wrap64 (x11+1))))) else(none)) else(none)) else(some x5)
def spec_inFast.f (k:Nat) (l0:List (S55)) (a1:Int):Option ((List (List Int))):=spec_inFast.l0 k l0 a1 ([]:List (List Int)) l0 (l0.length:Int) 0
set_option maxHeartbeats 8000000 in
set_option maxRecDepth 100000 in
theorem spec_inFast.calls (k:Nat) (A0:Option Addr) (c0:Nat) (l0:List (S55)) (a1:Int) (r:List (List Int)) (w:World) (hr0:Kd.C k55 w A0 l0.length l0) (hc0:l0.length≤c0) (h:spec_inFast.f k l0 a1=some r) :
  Calls Try.prog 59 #[.slice A0 l0.length c0,.int .i64 a1] w fun e w'=>∃ v0_:Value,e = .returned (v0_)∧Kd.S (Kd.slice 3 (Kd.int .i64)) 22 w' w.heap.size (fun _=>True) v0_ r∧Below w.heap.size w w':=by
 have hu55:=Try.underlying55
 have HR0:=am hr0
 have HC0:=am hc0
 clear hr0 hc0
 have HB:=am (Below.refl w.heap.size w)
 have H:(spec_inFast.l0 k l0 a1 ([]:List (List Int)) l0 (l0.length:Int) 0)=some r:=h
 clear h
 have H':=am H
 clear H
 go_enter Try.func59,Try.ntmps59
 go_wp2
 repeat(go_quiet (fail);try go_wp2)
 go_loopg [5,11] k (fun kq v5 v11 w'=>∃(x5_1:List (List Int)) (x11_1:Int),v11 = .int .i64 x11_1∧Aside0 (spec_inFast.l0 kq l0 a1 x5_1 l0 (l0.length:Int) x11_1=some r)∧Aside0 (kq≤k)∧Aside0 (Kd.S (Kd.slice 3 (Kd.int .i64)) 22 w' w.heap.size (fun _=>True) v5 x5_1)∧Aside0 (Below w.heap.size w w'))
 case atStart=>exact⟨(([]:List (List Int))),(0),fin2,H',⟨Nat.le_refl _⟩,⟨by first|exact Kd.S_nil _ _ _ _ _|exact Kd.N_nil _ _ _ _ _|exact Kd.V_nil _ _ _ _ _|exact Kd.Q_nil _ _ _ _ _|exact Kd.R_nil _ _ _ _ _⟩,⟨bl⟩⟩
 case round =>
  clear H'
  try clear p2
  obtain⟨x5_1,x11_1,rfl,HA,HK1,HO_5,HB⟩:=hrel
  cases gk with
  | zero=>exact absurd HA.out (by simp [spec_inFast.l0])
  | succ k1 =>
   have H:=HA.out
   clear HA
   simp only[spec_inFast.l0] at H
   rcases itc H with⟨c3,H⟩|⟨c3,H⟩
   ·have c3b0:=decide_eq_true c3
    clear c3
    obtain⟨c4b0,H⟩:=ifb H
    obtain⟨c5b0,H⟩:=ifb H
    obtain⟨t208,A6,H⟩:=bnd H
    rcases itc H with⟨c7,H⟩|⟨c7,H⟩
    ·have c7b0:decide (0≤t208)=true:=decide_eq_true c7
     clear c7
     obtain⟨c8b0,H⟩:=ifb H
     obtain⟨c9b0,H⟩:=ifb H
     rcases itc H with⟨c10,H⟩|⟨c10,H⟩
     ·have c10b0:=decide_eq_true c10
      clear c10
      obtain⟨y210,hy210⟩:∃ y_:List Int,y_=(([t208,x11_1]:List Int)):=⟨_,rfl⟩
      replace H:(if x5_1.length<5864062014805 then(spec_inFast.l0 k1 l0 a1 (x5_1 ++ [y210]) l0 (l0.length:Int) (wrap64 (x11_1+1))) else(none))=some r:=by subst hy210;exact H
      have Ny210:=am hy210
      clear hy210
      obtain⟨c11,H⟩:=ifp H
      have LMc11:=am c11
      clear c11
      obtain⟨y213,hy213⟩:∃ y_:List (List Int),y_=(x5_1 ++ [y210]):=⟨_,rfl⟩
      replace H:(spec_inFast.l0 k1 l0 a1 y213 l0 (l0.length:Int) (wrap64 (x11_1+1)))=some r:=by subst hy213;exact H
      have Ny213:=am hy213
      clear hy213
      have H':=am H
      clear H
      have p206:0≤(x11_1:Int):=od
      have q206:x11_1<(l0.length:Int):=od
      obtain⟨ad206,e206,hx206_0,hx206_1,hx206_2⟩:=at_T55 HR0.out x11_1 p206 q206
      cases e206
      replace hx206_0:=(HB.out.cell (World.block_lt_of_cell? w _ hx206_0)).trans hx206_0
      replace hx206_1:=(HB.out.cell (World.block_lt_of_cell? w _ hx206_1)).trans hx206_1
      replace hx206_2:=(HB.out.cell (World.block_lt_of_cell? w _ hx206_2)).trans hx206_2
      replace p206:=eq_true p206
      replace q206:=eq_true q206
      iterate 3 ((try go_quiet (fail));(try go_wp2_with (first|((with_reducible refine gate_dst (N:=7) rfl ?_);refine box_event ?hg (N:=7) ?hd (cs := #[.int .i64 0,.int .i64 0,.int .i64 0]) (t:=55) ?hr ?_;(case hd=>rfl);(case hg=>rfl);(case hr=>first|(go_simp;done)|(go_simp;rfl));intro gb207 hg w12 hbox hb;replace HO_5:=am (Kd.S_below (by(with_reducible repeat(first|apply Kd.S_alloc|apply Kd.S_drewN|apply Kd.S_drew));exact HO_5.out) hb);have BK207:=am (hbox);have GW207:=am (ge_ bl hg);have GE207:=am (ge_ bl hg);replace HB:=am (below_step bl hb);clear hb hbox hg;have hcz13_0:w12.cell? ⟨gb207,0,none⟩=some (.int .i64 0):=(blk_cell BK207.out 0).trans rfl;have hcz13_1:w12.cell? ⟨gb207,1,none⟩=some (.int .i64 0):=(blk_cell BK207.out 1).trans rfl;have hcz13_2:w12.cell? ⟨gb207,2,none⟩=some (.int .i64 0):=(blk_cell BK207.out 2).trans rfl;have hfz13_0:=blk_frozen BK207.out 0;have hfz13_1:=blk_frozen BK207.out 1;have hfz13_2:=blk_frozen BK207.out 2)|(go_at_call 76;(with_reducible refine(spec_inLast.calls k1 _ _ l0 x11_1 t208 _ ?side1 ?side2 A6.out).mono ?_);(case side1=>exact Kd.C_below HR0.out bl);(case side2=>exact HC0.out);rintro e w' ⟨rfl,⟨nd,rfl⟩⟩;(try first|exact⟨rfl,_,World.drewN_drewN _ _ _⟩|exact⟨rfl,_,Eq.trans (World.drewN_drewN _ _ _) (congrArg (World.drewN _) (Nat.add_assoc _ _ _))⟩);have p209:0≤(t208:Int):=od;have q209:t208<(l0.length:Int):=od;obtain⟨ad209,e209,hx209_0,hx209_1,hx209_2⟩:=at_T55 HR0.out t208 p209 q209;obtain rfl:ad206=ad209:=(by injection e209);have hn209_0:ad206.block≠gb207:=Nat.ne_of_lt (Nat.lt_of_lt_of_le (by have:=World.block_lt_of_cell? _ _ hx209_0;first|rwa [add_block] at this|exact this) GW207.out);have hn209_1:ad206.block≠gb207:=Nat.ne_of_lt (Nat.lt_of_lt_of_le (by have:=World.block_lt_of_cell? _ _ hx209_0;first|rwa [add_block] at this|exact this) GW207.out);have hn209_2:ad206.block≠gb207:=Nat.ne_of_lt (Nat.lt_of_lt_of_le (by have:=World.block_lt_of_cell? _ _ hx209_0;first|rwa [add_block] at this|exact this) GW207.out);replace hx209_0:=(HB.out.cell (World.block_lt_of_cell? w _ hx209_0)).trans hx209_0;replace hx209_1:=(HB.out.cell (World.block_lt_of_cell? w _ hx209_1)).trans hx209_1;replace hx209_2:=(HB.out.cell (World.block_lt_of_cell? w _ hx209_2)).trans hx209_2;replace hx209_0:=(cell_far (p:=⟨gb207,0,none⟩) (by first|(rw[add_block];exact hn209_0)|(show(Addr.add _ _).block≠_;rw[add_block];exact hn209_0)|exact hn209_0) (.int .i64 ((rd_T55 l0 x11_1).f0))).trans hx209_0;replace hx209_1:=(cell_far (p:=⟨gb207,0,none⟩) (by first|(rw[add_block];exact hn209_0)|(show(Addr.add _ _).block≠_;rw[add_block];exact hn209_0)|exact hn209_0) (.int .i64 ((rd_T55 l0 x11_1).f0))).trans hx209_1;replace hx209_2:=(cell_far (p:=⟨gb207,0,none⟩) (by first|(rw[add_block];exact hn209_0)|(show(Addr.add _ _).block≠_;rw[add_block];exact hn209_0)|exact hn209_0) (.int .i64 ((rd_T55 l0 x11_1).f0))).trans hx209_2;replace hx209_0:=(cell_far (p:=⟨gb207,1,none⟩) (by first|(rw[add_block];exact hn209_1)|(show(Addr.add _ _).block≠_;rw[add_block];exact hn209_1)|exact hn209_1) (.int .i64 ((rd_T55 l0 x11_1).f1))).trans hx209_0;replace hx209_1:=(cell_far (p:=⟨gb207,1,none⟩) (by first|(rw[add_block];exact hn209_1)|(show(Addr.add _ _).block≠_;rw[add_block];exact hn209_1)|exact hn209_1) (.int .i64 ((rd_T55 l0 x11_1).f1))).trans hx209_1;replace hx209_2:=(cell_far (p:=⟨gb207,1,none⟩) (by first|(rw[add_block];exact hn209_1)|(show(Addr.add _ _).block≠_;rw[add_block];exact hn209_1)|exact hn209_1) (.int .i64 ((rd_T55 l0 x11_1).f1))).trans hx209_2;replace hx209_0:=(cell_far (p:=⟨gb207,2,none⟩) (by first|(rw[add_block];exact hn209_2)|(show(Addr.add _ _).block≠_;rw[add_block];exact hn209_2)|exact hn209_2) (.int .i64 ((rd_T55 l0 x11_1).f2))).trans hx209_0;replace hx209_1:=(cell_far (p:=⟨gb207,2,none⟩) (by first|(rw[add_block];exact hn209_2)|(show(Addr.add _ _).block≠_;rw[add_block];exact hn209_2)|exact hn209_2) (.int .i64 ((rd_T55 l0 x11_1).f2))).trans hx209_1;replace hx209_2:=(cell_far (p:=⟨gb207,2,none⟩) (by first|(rw[add_block];exact hn209_2)|(show(Addr.add _ _).block≠_;rw[add_block];exact hn209_2)|exact hn209_2) (.int .i64 ((rd_T55 l0 x11_1).f2))).trans hx209_2;(try have hy209_0:=fun(n_:Nat)=>(show(((((w12.drewN n_).setCell ⟨gb207,0,none⟩ (.int .i64 ((rd_T55 l0 x11_1).f0))).setCell ⟨gb207,1,none⟩ (.int .i64 ((rd_T55 l0 x11_1).f1))).setCell ⟨gb207,2,none⟩ (.int .i64 ((rd_T55 l0 x11_1).f2)))).cell? _=some _ from hx209_0));(try have hy209_1:=fun(n_:Nat)=>(show(((((w12.drewN n_).setCell ⟨gb207,0,none⟩ (.int .i64 ((rd_T55 l0 x11_1).f0))).setCell ⟨gb207,1,none⟩ (.int .i64 ((rd_T55 l0 x11_1).f1))).setCell ⟨gb207,2,none⟩ (.int .i64 ((rd_T55 l0 x11_1).f2)))).cell? _=some _ from hx209_1));(try have hy209_2:=fun(n_:Nat)=>(show(((((w12.drewN n_).setCell ⟨gb207,0,none⟩ (.int .i64 ((rd_T55 l0 x11_1).f0))).setCell ⟨gb207,1,none⟩ (.int .i64 ((rd_T55 l0 x11_1).f1))).setCell ⟨gb207,2,none⟩ (.int .i64 ((rd_T55 l0 x11_1).f2)))).cell? _=some _ from hx209_2));clear hn209_0 hn209_1 hn209_2;replace p209:=eq_true p209;replace q209:=eq_true q209)|((with_reducible refine gate_dst (N:=36) rfl ?_);refine Kd.R_lit (Kd.int .i64) _ 3 ?hg (N:=36) ?hd (xs:=([t208,x11_1]:List Int)) (inner:=[.int .i64 t208,.int .i64 x11_1]) (ok:=fun _=>True) (okp:=fun _=>True) ?hr ?hp (fun _ hk=>hk) trivial (Below.refl _ _) (Nat.le_refl _) (by simp) ?_;(case hd=>rfl);(case hg=>rfl);(case hr=>first|(go_simp;done)|(go_simp;rfl));(case hp=>exact(Reps.one (show Kd.M (Kd.int .i64) _ _ _ t208 [.int .i64 t208] from rfl) (Reps.one (show Kd.M (Kd.int .i64) _ _ _ x11_1 [.int .i64 x11_1] from rfl) (Reps.none _ _))));intro v211 w14 ho15 hb hg_ hnew_;clear hg_ hnew_;(first|rw[← Ny210.out] at ho15|(simp only[Int.reduceToNat] at ho15;rw[← Ny210.out] at ho15));replace HO_5:=am (Kd.S_elder' (by(with_reducible repeat(first|apply Kd.S_alloc|apply Kd.S_drewN|apply Kd.S_drew));exact(Kd.S_mono (Kd.S_far (p:=⟨gb207,2,none⟩) (Kd.S_far (p:=⟨gb207,1,none⟩) (Kd.S_far (p:=⟨gb207,0,none⟩) (Kd.S_types HO_5.out BK207.out (by decide)) (fun _ hk=>hk.2) (.int .i64 ((rd_T55 l0 x11_1).f0))) (fun _ hk=>hk.2) (.int .i64 ((rd_T55 l0 x11_1).f1))) (fun _ hk=>hk.2) (.int .i64 ((rd_T55 l0 x11_1).f2))) (fun _ h_=>h_.1))) (Kd.R_base ho15) hb);have HO212:=am (Kd.R_lower ho15 (below_size bl));replace BK207:=am (blk_below (g:=gb207) (o := .cells #[.int .i64 ((rd_T55 l0 x11_1).f0),.int .i64 ((rd_T55 l0 x11_1).f1),.int .i64 ((rd_T55 l0 x11_1).f2)] 55 (0,0)) (by(with_reducible repeat(first|refine bN_ ?_ _|refine bD_ ?_|refine bA_ ?_ _));refine blk_put (cs := #[.int .i64 ((rd_T55 l0 x11_1).f0),.int .i64 ((rd_T55 l0 x11_1).f1),.int .i64 0]) ?_ 2 _ rfl;(with_reducible repeat(first|refine bN_ ?_ _|refine bD_ ?_|refine bA_ ?_ _));refine blk_put (cs := #[.int .i64 ((rd_T55 l0 x11_1).f0),.int .i64 0,.int .i64 0]) ?_ 1 _ rfl;(with_reducible repeat(first|refine bN_ ?_ _|refine bD_ ?_|refine bA_ ?_ _));refine blk_put (cs := #[.int .i64 0,.int .i64 0,.int .i64 0]) ?_ 0 _ rfl;exact bup BK207.out) hb);replace HB:=am (below_step bl hb);clear hb ho15;obtain⟨Ao17,co17,eo17⟩:=Kd.R_slice HO212.out;subst eo17)|((with_reducible refine gate_builtin (b := .append) (xs := #[.tmp 33,.tmp 37]) rfl ?_);at_builtin;refine Kd.S_append (Kd.slice 3 (Kd.int .i64)) (w0:=w) w.heap.size rfl (.tmp 33) (.tmp 37) 71 22 (.slice none 0 0) 24 rfl Try.underlying71 info22 rfl (by decide) (by omega) u5 x5_1 y210 [.slice Ao17 y210.length co17] (fun _=>True) (fun k_=>some k_=(.slice Ao17 y210.length co17:Value).ownBlock) rfl rfl ?aP (fun k_ hk_=>((Kd.R_mono (ok':=fun k_=>((fun _=>True)) k_∧some k_≠(u5:Value).ownBlock) (Kd.R_apart' (HO212.out) (Kd.S_typed HO_5.out) (by decide)) (fun k_ hk=>⟨trivial,hk.2⟩))).1 k_ hk_.symm) ?aF ?aO ?aB ?aS ?aL ?_;(case aP=>exact Kd.M_row (Kd.R_mono (Kd.R_tight rfl (Kd.R_mono (ok':=fun k_=>((fun _=>True)) k_∧some k_≠(u5:Value).ownBlock) (Kd.R_apart' (HO212.out) (Kd.S_typed HO_5.out) (by decide)) (fun k_ hk=>⟨trivial,hk.2⟩))) (fun _ h_=>h_)));(case aB=>exact bl);(case aF=>exact(fun _ _=>trivial));(case aO=>exact(by(with_reducible repeat(first|apply Kd.S_alloc|apply Kd.S_drewN|apply Kd.S_drew));exact Kd.S_mono HO_5.out (fun k_ hk=>⟨trivial,fun e_=>hk.2 e_⟩)));(case aS=>exact(below_size bl));(case aL=>have:=LMc11.out;omega);intro v214 w16 ho hb hg hat;rw[← Ny213.out] at ho;replace BK207:=am (blk_grown (bup BK207.out) hg (Kd.S_ne HO_5.out BK207.out (by decide)));replace HB:=am (hb);have HO215:=am (ho);clear HO_5 HO212 ho hb hg hat))))
      go_roundg k1
      case measure=>have:=HK1.out;omega
      case rel=>exact⟨(y213),(wrap64 (x11_1+1)),fin2,H',⟨by have:=HK1.out;omega⟩,⟨by(with_reducible repeat(first|apply Kd.S_alloc|apply Kd.S_drewN|apply Kd.S_drew));exact HO215.out⟩,⟨bl⟩⟩
     ·have c10b0:=decide_eq_false c10
      clear c10
      have H':=am H
      clear H
      have p206:0≤(x11_1:Int):=od
      have q206:x11_1<(l0.length:Int):=od
      obtain⟨ad206,e206,hx206_0,hx206_1,hx206_2⟩:=at_T55 HR0.out x11_1 p206 q206
      cases e206
      replace hx206_0:=(HB.out.cell (World.block_lt_of_cell? w _ hx206_0)).trans hx206_0
      replace hx206_1:=(HB.out.cell (World.block_lt_of_cell? w _ hx206_1)).trans hx206_1
      replace hx206_2:=(HB.out.cell (World.block_lt_of_cell? w _ hx206_2)).trans hx206_2
      replace p206:=eq_true p206
      replace q206:=eq_true q206
      iterate 3 ((try go_quiet (fail));(try go_wp2_with (first|((with_reducible refine gate_dst (N:=7) rfl ?_);refine box_event ?hg (N:=7) ?hd (cs := #[.int .i64 0,.int .i64 0,.int .i64 0]) (t:=55) ?hr ?_;(case hd=>rfl);(case hg=>rfl);(case hr=>first|(go_simp;done)|(go_simp;rfl));intro gb207 hg w18 hbox hb;replace HO_5:=am (Kd.S_below (by(with_reducible repeat(first|apply Kd.S_alloc|apply Kd.S_drewN|apply Kd.S_drew));exact HO_5.out) hb);have BK207:=am (hbox);have GW207:=am (ge_ bl hg);have GE207:=am (ge_ bl hg);replace HB:=am (below_step bl hb);clear hb hbox hg;have hcz19_0:w18.cell? ⟨gb207,0,none⟩=some (.int .i64 0):=(blk_cell BK207.out 0).trans rfl;have hcz19_1:w18.cell? ⟨gb207,1,none⟩=some (.int .i64 0):=(blk_cell BK207.out 1).trans rfl;have hcz19_2:w18.cell? ⟨gb207,2,none⟩=some (.int .i64 0):=(blk_cell BK207.out 2).trans rfl;have hfz19_0:=blk_frozen BK207.out 0;have hfz19_1:=blk_frozen BK207.out 1;have hfz19_2:=blk_frozen BK207.out 2)|(go_at_call 76;(with_reducible refine(spec_inLast.calls k1 _ _ l0 x11_1 t208 _ ?side1 ?side2 A6.out).mono ?_);(case side1=>exact Kd.C_below HR0.out bl);(case side2=>exact HC0.out);rintro e w' ⟨rfl,⟨nd,rfl⟩⟩;(try first|exact⟨rfl,_,World.drewN_drewN _ _ _⟩|exact⟨rfl,_,Eq.trans (World.drewN_drewN _ _ _) (congrArg (World.drewN _) (Nat.add_assoc _ _ _))⟩);have p209:0≤(t208:Int):=od;have q209:t208<(l0.length:Int):=od;obtain⟨ad209,e209,hx209_0,hx209_1,hx209_2⟩:=at_T55 HR0.out t208 p209 q209;obtain rfl:ad206=ad209:=(by injection e209);have hn209_0:ad206.block≠gb207:=Nat.ne_of_lt (Nat.lt_of_lt_of_le (by have:=World.block_lt_of_cell? _ _ hx209_0;first|rwa [add_block] at this|exact this) GW207.out);have hn209_1:ad206.block≠gb207:=Nat.ne_of_lt (Nat.lt_of_lt_of_le (by have:=World.block_lt_of_cell? _ _ hx209_0;first|rwa [add_block] at this|exact this) GW207.out);have hn209_2:ad206.block≠gb207:=Nat.ne_of_lt (Nat.lt_of_lt_of_le (by have:=World.block_lt_of_cell? _ _ hx209_0;first|rwa [add_block] at this|exact this) GW207.out);replace hx209_0:=(HB.out.cell (World.block_lt_of_cell? w _ hx209_0)).trans hx209_0;replace hx209_1:=(HB.out.cell (World.block_lt_of_cell? w _ hx209_1)).trans hx209_1;replace hx209_2:=(HB.out.cell (World.block_lt_of_cell? w _ hx209_2)).trans hx209_2;replace hx209_0:=(cell_far (p:=⟨gb207,0,none⟩) (by first|(rw[add_block];exact hn209_0)|(show(Addr.add _ _).block≠_;rw[add_block];exact hn209_0)|exact hn209_0) (.int .i64 ((rd_T55 l0 x11_1).f0))).trans hx209_0;replace hx209_1:=(cell_far (p:=⟨gb207,0,none⟩) (by first|(rw[add_block];exact hn209_0)|(show(Addr.add _ _).block≠_;rw[add_block];exact hn209_0)|exact hn209_0) (.int .i64 ((rd_T55 l0 x11_1).f0))).trans hx209_1;replace hx209_2:=(cell_far (p:=⟨gb207,0,none⟩) (by first|(rw[add_block];exact hn209_0)|(show(Addr.add _ _).block≠_;rw[add_block];exact hn209_0)|exact hn209_0) (.int .i64 ((rd_T55 l0 x11_1).f0))).trans hx209_2;replace hx209_0:=(cell_far (p:=⟨gb207,1,none⟩) (by first|(rw[add_block];exact hn209_1)|(show(Addr.add _ _).block≠_;rw[add_block];exact hn209_1)|exact hn209_1) (.int .i64 ((rd_T55 l0 x11_1).f1))).trans hx209_0;replace hx209_1:=(cell_far (p:=⟨gb207,1,none⟩) (by first|(rw[add_block];exact hn209_1)|(show(Addr.add _ _).block≠_;rw[add_block];exact hn209_1)|exact hn209_1) (.int .i64 ((rd_T55 l0 x11_1).f1))).trans hx209_1;replace hx209_2:=(cell_far (p:=⟨gb207,1,none⟩) (by first|(rw[add_block];exact hn209_1)|(show(Addr.add _ _).block≠_;rw[add_block];exact hn209_1)|exact hn209_1) (.int .i64 ((rd_T55 l0 x11_1).f1))).trans hx209_2;replace hx209_0:=(cell_far (p:=⟨gb207,2,none⟩) (by first|(rw[add_block];exact hn209_2)|(show(Addr.add _ _).block≠_;rw[add_block];exact hn209_2)|exact hn209_2) (.int .i64 ((rd_T55 l0 x11_1).f2))).trans hx209_0;replace hx209_1:=(cell_far (p:=⟨gb207,2,none⟩) (by first|(rw[add_block];exact hn209_2)|(show(Addr.add _ _).block≠_;rw[add_block];exact hn209_2)|exact hn209_2) (.int .i64 ((rd_T55 l0 x11_1).f2))).trans hx209_1;replace hx209_2:=(cell_far (p:=⟨gb207,2,none⟩) (by first|(rw[add_block];exact hn209_2)|(show(Addr.add _ _).block≠_;rw[add_block];exact hn209_2)|exact hn209_2) (.int .i64 ((rd_T55 l0 x11_1).f2))).trans hx209_2;(try have hy209_0:=fun(n_:Nat)=>(show(((((w18.drewN n_).setCell ⟨gb207,0,none⟩ (.int .i64 ((rd_T55 l0 x11_1).f0))).setCell ⟨gb207,1,none⟩ (.int .i64 ((rd_T55 l0 x11_1).f1))).setCell ⟨gb207,2,none⟩ (.int .i64 ((rd_T55 l0 x11_1).f2)))).cell? _=some _ from hx209_0));(try have hy209_1:=fun(n_:Nat)=>(show(((((w18.drewN n_).setCell ⟨gb207,0,none⟩ (.int .i64 ((rd_T55 l0 x11_1).f0))).setCell ⟨gb207,1,none⟩ (.int .i64 ((rd_T55 l0 x11_1).f1))).setCell ⟨gb207,2,none⟩ (.int .i64 ((rd_T55 l0 x11_1).f2)))).cell? _=some _ from hx209_1));(try have hy209_2:=fun(n_:Nat)=>(show(((((w18.drewN n_).setCell ⟨gb207,0,none⟩ (.int .i64 ((rd_T55 l0 x11_1).f0))).setCell ⟨gb207,1,none⟩ (.int .i64 ((rd_T55 l0 x11_1).f1))).setCell ⟨gb207,2,none⟩ (.int .i64 ((rd_T55 l0 x11_1).f2)))).cell? _=some _ from hx209_2));clear hn209_0 hn209_1 hn209_2;replace p209:=eq_true p209;replace q209:=eq_true q209))))
      go_roundg k1
      case measure=>have:=HK1.out;omega
      case rel=>exact⟨(x5_1),(wrap64 (x11_1+1)),fin2,H',⟨by have:=HK1.out;omega⟩,⟨by(with_reducible repeat(first|apply Kd.S_alloc|apply Kd.S_drewN|apply Kd.S_drew));exact Kd.S_mono (Kd.S_far (p:=⟨gb207,2,none⟩) (Kd.S_far (p:=⟨gb207,1,none⟩) (Kd.S_far (p:=⟨gb207,0,none⟩) (Kd.S_types HO_5.out BK207.out (by decide)) (fun _ hk=>hk.2) (.int .i64 ((rd_T55 l0 x11_1).f0))) (fun _ hk=>hk.2) (.int .i64 ((rd_T55 l0 x11_1).f1))) (fun _ hk=>hk.2) (.int .i64 ((rd_T55 l0 x11_1).f2))) (fun _ hk=>trivial)⟩,⟨bl⟩⟩
    ·have c7b0:decide (0≤t208)=false:=decide_eq_false c7
     clear c7
     have H':=am H
     clear H
     have p206:0≤(x11_1:Int):=od
     have q206:x11_1<(l0.length:Int):=od
     obtain⟨ad206,e206,hx206_0,hx206_1,hx206_2⟩:=at_T55 HR0.out x11_1 p206 q206
     cases e206
     replace hx206_0:=(HB.out.cell (World.block_lt_of_cell? w _ hx206_0)).trans hx206_0
     replace hx206_1:=(HB.out.cell (World.block_lt_of_cell? w _ hx206_1)).trans hx206_1
     replace hx206_2:=(HB.out.cell (World.block_lt_of_cell? w _ hx206_2)).trans hx206_2
     replace p206:=eq_true p206
     replace q206:=eq_true q206
     iterate 3 ((try go_quiet (fail));(try go_wp2_with (first|((with_reducible refine gate_dst (N:=7) rfl ?_);refine box_event ?hg (N:=7) ?hd (cs := #[.int .i64 0,.int .i64 0,.int .i64 0]) (t:=55) ?hr ?_;(case hd=>rfl);(case hg=>rfl);(case hr=>first|(go_simp;done)|(go_simp;rfl));intro gb207 hg w20 hbox hb;replace HO_5:=am (Kd.S_below (by(with_reducible repeat(first|apply Kd.S_alloc|apply Kd.S_drewN|apply Kd.S_drew));exact HO_5.out) hb);have BK207:=am (hbox);have GW207:=am (ge_ bl hg);have GE207:=am (ge_ bl hg);replace HB:=am (below_step bl hb);clear hb hbox hg;have hcz21_0:w20.cell? ⟨gb207,0,none⟩=some (.int .i64 0):=(blk_cell BK207.out 0).trans rfl;have hcz21_1:w20.cell? ⟨gb207,1,none⟩=some (.int .i64 0):=(blk_cell BK207.out 1).trans rfl;have hcz21_2:w20.cell? ⟨gb207,2,none⟩=some (.int .i64 0):=(blk_cell BK207.out 2).trans rfl;have hfz21_0:=blk_frozen BK207.out 0;have hfz21_1:=blk_frozen BK207.out 1;have hfz21_2:=blk_frozen BK207.out 2)|(go_at_call 76;(with_reducible refine(spec_inLast.calls k1 _ _ l0 x11_1 t208 _ ?side1 ?side2 A6.out).mono ?_);(case side1=>exact Kd.C_below HR0.out bl);(case side2=>exact HC0.out);rintro e w' ⟨rfl,⟨nd,rfl⟩⟩;(try first|exact⟨rfl,_,World.drewN_drewN _ _ _⟩|exact⟨rfl,_,Eq.trans (World.drewN_drewN _ _ _) (congrArg (World.drewN _) (Nat.add_assoc _ _ _))⟩)))))
     go_roundg k1
     case measure=>have:=HK1.out;omega
     case rel=>exact⟨(x5_1),(wrap64 (x11_1+1)),fin2,H',⟨by have:=HK1.out;omega⟩,⟨by(with_reducible repeat(first|apply Kd.S_alloc|apply Kd.S_drewN|apply Kd.S_drew));exact Kd.S_mono (Kd.S_far (p:=⟨gb207,2,none⟩) (Kd.S_far (p:=⟨gb207,1,none⟩) (Kd.S_far (p:=⟨gb207,0,none⟩) (Kd.S_types HO_5.out BK207.out (by decide)) (fun _ hk=>hk.2) (.int .i64 ((rd_T55 l0 x11_1).f0))) (fun _ hk=>hk.2) (.int .i64 ((rd_T55 l0 x11_1).f1))) (fun _ hk=>hk.2) (.int .i64 ((rd_T55 l0 x11_1).f2))) (fun _ hk=>trivial)⟩,⟨bl⟩⟩
   ·have c3b0:=decide_eq_false c3
    clear c3
    obtain rfl:=Option.some.inj H
    go_wp2
    repeat(go_quiet (fail);try go_wp2)
    go_ret
    exact⟨_,fin1,by(with_reducible repeat(first|apply Kd.S_alloc|apply Kd.S_drewN|apply Kd.S_drew));exact HO_5.out,bl⟩

end Go.Proofs.Ythmpginbaafbhaa.PFnExactRepairToPlay
