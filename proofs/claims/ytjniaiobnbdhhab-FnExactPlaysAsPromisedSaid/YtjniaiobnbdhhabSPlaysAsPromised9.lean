/- The walks of functions that FnExactPlaysAsPromised reaches: what they return is what the plain functions of the same names say. Made by a program of this session after the kit's print. No conditions beyond the arguments' being read. -/
import Derived.Test.YtjniaiobnbdhhabSPlaysAsPromised0
namespace Go.Proofs.Ytjniaiobnbdhhab.PFnExactPlaysAsPromised
open Go.RowKit Go.Proofs.YtjniaiobnbdhhabW.PrintWords Go.Proofs.YtjniaiobnbdhhabW.PrintLast Go.Proofs.YtjniaiobnbdhhabW.PrintMore
attribute [local go_sem] max2_int min2_int max_two min_two max_three min_three max_four min_four   -- for this text's walks alone
set_option linter.unusedVariables false
set_option linter.unusedSimpArgs false

/-! ### impl_isPitch: function 109 -/
def impl_isPitch.f (a0:Int):Option (Bool):=if a0≥24 then(some (decide (a0≤96))) else(some false)
set_option maxHeartbeats 8000000 in
set_option maxRecDepth 100000 in
theorem impl_isPitch.calls (a0:Int) (r:Bool) (w:World) (h:impl_isPitch.f a0=some r) :
  Calls Try.prog 109 #[.int .i64 a0] w fun e w'=>e = .returned (.bool r)∧Drawn0 w w':=by
 have H:(if a0≥24 then(some (decide (a0≤96))) else(some false))=some r:=h
 clear h
 by_cases c2:a0≥24
 ·rw[if_pos c2] at H
  have c2b0:decide (24≤a0)=true:=decide_eq_true c2
  clear c2
  obtain rfl:=Option.some.inj H
  go_enter Try.func109,Try.ntmps109
  go_wp2
  go_ret
  exact⟨by first|rfl|(simp;done)|(simp [*];done),by repeat(first|exact Drawn0.refl _|apply Drawn0.step)⟩
 ·rw[if_neg c2] at H
  have c2b0:decide (24≤a0)=false:=decide_eq_false c2
  clear c2
  obtain rfl:=Option.some.inj H
  go_enter Try.func109,Try.ntmps109
  go_wp2
  go_ret
  exact⟨by first|rfl|(simp;done)|(simp [*];done),by repeat(first|exact Drawn0.refl _|apply Drawn0.step)⟩

/-! ### impl_IsInstrument: function 96 -/
mutual
def impl_IsInstrument.j0:Nat→Bool→List Int→Int→Option (Bool)
 | 0,_,_,_=>none
 | k+1,x24,x283000,x283001=>if x24=true then(some false) else(impl_IsInstrument.l0 k x283000 (x283000.length:Int) 0 x283000 x283001)
def impl_IsInstrument.l0:Nat→List Int→Int→Int→List Int→Int→Option (Bool)
 | 0,_,_,_,_,_=>none
 | k+1,x26,x27,x28,x283000,x283001=>if x28<x27 then(if 0≤x28 then(if x28<(x26.length:Int) then((impl_isPitch.f (rd x26 x28)).bind fun t284=>(if t284=true then(if x28>0 then(if 0≤(wrap64 (x28 - 1)) then(if(wrap64 (x28 - 1))<(x283000.length:Int) then(if(rd x26 x28)≤(rd x283000 (wrap64 (x28 - 1))) then(some false) else(impl_IsInstrument.l0 k x26 x27 (wrap64 (x28+1)) x283000 x283001)) else(none)) else(none)) else(impl_IsInstrument.l0 k x26 x27 (wrap64 (x28+1)) x283000 x283001)) else(some false))) else(none)) else(none)) else(some true)
end
def impl_IsInstrument.f (k:Nat) (l0_0:List Int) (a0_1:Int):Option (Bool):=if(l0_0.length:Int)<1 then(impl_IsInstrument.j0 k true l0_0 a0_1) else(if(l0_0.length:Int)>20 then(impl_IsInstrument.j0 k true l0_0 a0_1) else(if a0_1<1 then(impl_IsInstrument.j0 k true l0_0 a0_1) else(impl_IsInstrument.j0 k (decide (a0_1>20)) l0_0 a0_1)))
set_option maxHeartbeats 8000000 in
set_option maxRecDepth 100000 in
theorem impl_IsInstrument.calls (k:Nat) (A0_0:Option Addr) (c0_0:Nat) (l0_0:List Int) (a0_1:Int) (r:Bool) (w:World) (hr0_0:Kd.C (Kd.int .i64) w A0_0 l0_0.length l0_0) (hc0_0:l0_0.length≤c0_0) (h:impl_IsInstrument.f k l0_0 a0_1=some r) :
  Calls Try.prog 96 #[.agg #[.slice A0_0 l0_0.length c0_0,.int .i64 a0_1]] w fun e w'=>e = .returned (.bool r)∧Below w.heap.size w w':=by
 have hu44:=Try.underlying44
 have HR0_0:=am hr0_0
 have HC0_0:=am hc0_0
 clear hr0_0 hc0_0
 have HB:=am (Below.refl w.heap.size w)
 have H:(if(l0_0.length:Int)<1 then(impl_IsInstrument.j0 k true l0_0 a0_1) else(if(l0_0.length:Int)>20 then(impl_IsInstrument.j0 k true l0_0 a0_1) else(if a0_1<1 then(impl_IsInstrument.j0 k true l0_0 a0_1) else(impl_IsInstrument.j0 k (decide (a0_1>20)) l0_0 a0_1))))=some r:=h
 clear h
 have HC2:=am H
 clear H
 go_enter Try.func96,Try.ntmps96
 go_upto_region 1 with(first|((with_reducible refine gate_dst (N:=1) rfl ?_);(try(refine gate_guard (by rfl) ?_;dsimp only));refine box_event ?hg (N:=1) ?hd (cs := #[.slice A0_0 l0_0.length c0_0,.int .i64 a0_1]) (t:=44) ?hr ?_;(case hd=>rfl);(case hg=>rfl);(case hr=>first|(go_simp;done)|(go_simp;rfl));intro gb282 hg w3 hbox hb;have n0_:=am (below_step bl hb);have n1_:=am (hbox);have n2_:=am ((by rw[hg];exact(below_size bl):w.heap.size≤gb282));have n3_:=am ((by rw[hg];exact(below_size bl):w.heap.size≤gb282));clear HB;have HB:=n0_;have BK282:=n1_;have GW282:=n2_;have GE282:=n3_;clear n0_ n1_ n2_ n3_ hb hbox hg))
 (try simp only[Act.put,List.setIfInBounds_toArray,List.set_cons_zero,List.set_cons_succ])
 go_cut [24] (fun v24 wc=>∃(kq:Nat) (x24_1:Bool),v24 = .bool x24_1∧Aside0 (impl_IsInstrument.j0 kq x24_1 l0_0 a0_1=some r)∧Aside0 (kq≤k)∧Aside0 (wc.heap[gb282]?=some (.cells #[(.slice A0_0 l0_0.length c0_0),.int .i64 a0_1] 44 (0,0)))∧Aside0 (Below w.heap.size w wc))
 case first =>
  have H:=HC2.out
  clear HC2
  by_cases c4:(l0_0.length:Int)<1
  ·rw[if_pos c4] at H
   have c4b0:decide ((l0_0.length:Int)<1)=true:=decide_eq_true c4
   have c4b1:decide (l0_0.length<1)=true:=decide_eq_true (by omega)
   clear c4
   (first|rw[c4b0]|(simp only[i64_w,i32_w];rw[c4b0])|skip)
   have H':=am H
   clear H
   have hcz5_0:w3.cell? ⟨gb282,0,none⟩=some (.slice A0_0 l0_0.length c0_0):=(blk_cell BK282.out 0).trans rfl
   have hcz5_1:w3.cell? ⟨gb282,1,none⟩=some (.int .i64 a0_1):=(blk_cell BK282.out 1).trans rfl
   have hfz5_0:=blk_frozen BK282.out 0
   have hfz5_1:=blk_frozen BK282.out 1
   go_wp2
   go_meet
   case rel=>exact⟨_,(true),fin2,H',⟨by first|omega|exact Nat.le_refl _⟩,⟨bup BK282.out⟩,⟨bl⟩⟩
  ·rw[if_neg c4] at H
   have c4b0:decide ((l0_0.length:Int)<1)=false:=decide_eq_false c4
   have c4b1:decide (l0_0.length<1)=false:=decide_eq_false (by omega)
   clear c4
   (first|rw[c4b0]|(simp only[i64_w,i32_w];rw[c4b0])|skip)
   by_cases c6:(l0_0.length:Int)>20
   ·rw[if_pos c6] at H
    have c6b0:decide (20<(l0_0.length:Int))=true:=decide_eq_true c6
    have c6b1:decide (20<l0_0.length)=true:=decide_eq_true (by omega)
    clear c6
    have H':=am H
    clear H
    have hcz7_0:w3.cell? ⟨gb282,0,none⟩=some (.slice A0_0 l0_0.length c0_0):=(blk_cell BK282.out 0).trans rfl
    have hcz7_1:w3.cell? ⟨gb282,1,none⟩=some (.int .i64 a0_1):=(blk_cell BK282.out 1).trans rfl
    have hfz7_0:=blk_frozen BK282.out 0
    have hfz7_1:=blk_frozen BK282.out 1
    go_wp2
    go_meet
    case rel=>exact⟨_,(true),fin2,H',⟨by first|omega|exact Nat.le_refl _⟩,⟨bup BK282.out⟩,⟨bl⟩⟩
   ·rw[if_neg c6] at H
    have c6b0:decide (20<(l0_0.length:Int))=false:=decide_eq_false c6
    have c6b1:decide (20<l0_0.length)=false:=decide_eq_false (by omega)
    clear c6
    by_cases c8:a0_1<1
    ·rw[if_pos c8] at H
     have c8b0:decide (a0_1<1)=true:=decide_eq_true c8
     clear c8
     have H':=am H
     clear H
     have hcz9_0:w3.cell? ⟨gb282,0,none⟩=some (.slice A0_0 l0_0.length c0_0):=(blk_cell BK282.out 0).trans rfl
     have hcz9_1:w3.cell? ⟨gb282,1,none⟩=some (.int .i64 a0_1):=(blk_cell BK282.out 1).trans rfl
     have hfz9_0:=blk_frozen BK282.out 0
     have hfz9_1:=blk_frozen BK282.out 1
     go_wp2
     go_meet
     case rel=>exact⟨_,(true),fin2,H',⟨by first|omega|exact Nat.le_refl _⟩,⟨bup BK282.out⟩,⟨bl⟩⟩
    ·rw[if_neg c8] at H
     have c8b0:decide (a0_1<1)=false:=decide_eq_false c8
     clear c8
     have H':=am H
     clear H
     have hcz10_0:w3.cell? ⟨gb282,0,none⟩=some (.slice A0_0 l0_0.length c0_0):=(blk_cell BK282.out 0).trans rfl
     have hcz10_1:w3.cell? ⟨gb282,1,none⟩=some (.int .i64 a0_1):=(blk_cell BK282.out 1).trans rfl
     have hfz10_0:=blk_frozen BK282.out 0
     have hfz10_1:=blk_frozen BK282.out 1
     go_wp2
     go_meet
     case rel=>exact⟨_,(decide (a0_1>20)),fin2,H',⟨by first|omega|exact Nat.le_refl _⟩,⟨bup BK282.out⟩,⟨bl⟩⟩
 case rest =>
  clear HC2
  try clear p2
  try clear c4
  try clear c4b0
  try clear c4b1
  try clear c6
  try clear c6b0
  try clear c6b1
  try clear c8
  try clear c8b0
  try clear c9
  try clear hcz10_0
  try clear hcz10_1
  try clear hcz5_0
  try clear hcz5_1
  try clear hcz7_0
  try clear hcz7_1
  try clear hcz9_0
  try clear hcz9_1
  try clear hfz10_0
  try clear hfz10_1
  try clear hfz5_0
  try clear hfz5_1
  try clear hfz7_0
  try clear hfz7_1
  try clear hfz9_0
  try clear hfz9_1
  obtain⟨kq,x24_1,rfl,HA,HJ1,BK282,HB⟩:=hcut
  cases kq with
  | zero=>exact absurd HA.out (by simp [impl_IsInstrument.j0])
  | succ kj1 =>
   have H:=HA.out
   clear HA
   simp only[impl_IsInstrument.j0] at H
   by_cases c11:x24_1=true
   ·subst c11
    have H1:(some false)=some r:=by rw[if_pos rfl] at H;exact H
    clear H
    have H:=H1
    clear H1
    obtain rfl:=Option.some.inj H
    go_wp2
    go_ret
    exact⟨fin1,bl⟩
   ·replace c11:=Bool.eq_false_iff.mpr c11
    subst c11
    have H1:(impl_IsInstrument.l0 kj1 l0_0 (l0_0.length:Int) 0 l0_0 a0_1)=some r:=by rw[if_neg (show ¬ (false=true) by decide)] at H;exact H
    clear H
    have H:=H1
    clear H1
    have H':=am H
    clear H
    have hcz12_0:wc.cell? ⟨gb282,0,none⟩=some (.slice A0_0 l0_0.length c0_0):=(blk_cell BK282.out 0).trans rfl
    have hcz12_1:wc.cell? ⟨gb282,1,none⟩=some (.int .i64 a0_1):=(blk_cell BK282.out 1).trans rfl
    have hfz12_0:=blk_frozen BK282.out 0
    have hfz12_1:=blk_frozen BK282.out 1
    go_wp2
    go_loopg [28] kj1 (fun kq v28 w'=>∃(x28_2:Int),v28 = .int .i64 x28_2∧Aside0 (impl_IsInstrument.l0 kq l0_0 (l0_0.length:Int) x28_2 l0_0 a0_1=some r)∧Aside0 (kq≤kj1)∧Aside0 (w'.heap[gb282]?=some (.cells #[(.slice A0_0 l0_0.length c0_0),.int .i64 a0_1] 44 (0,0)))∧Aside0 (Below w.heap.size w w'))
    case atStart=>exact⟨(0),fin2,H',⟨Nat.le_refl _⟩,⟨bup BK282.out⟩,⟨bl⟩⟩
    case round =>
     clear H'
     try clear c1
     try clear p2
     try clear c4
     try clear c4b0
     try clear c4b1
     try clear c6
     try clear c6b0
     try clear c6b1
     try clear c8
     try clear c8b0
     try clear c9
     try clear c11
     try clear hcz10_0
     try clear hcz10_1
     try clear hcz12_0
     try clear hcz12_1
     try clear hcz5_0
     try clear hcz5_1
     try clear hcz7_0
     try clear hcz7_1
     try clear hcz9_0
     try clear hcz9_1
     try clear hfz10_0
     try clear hfz10_1
     try clear hfz12_0
     try clear hfz12_1
     try clear hfz5_0
     try clear hfz5_1
     try clear hfz7_0
     try clear hfz7_1
     try clear hfz9_0
     try clear hfz9_1
     try clear p2
     obtain⟨x28_2,rfl,HA,HK2,BK282,HB⟩:=hrel
     cases gk with
     | zero=>exact absurd HA.out (by simp [impl_IsInstrument.l0])
     | succ k2 =>
      have H:=HA.out
      clear HA
      simp only[impl_IsInstrument.l0] at H
      by_cases c13:x28_2<(l0_0.length:Int)
      ·rw[if_pos c13] at H
       have c13b0:decide (x28_2<(l0_0.length:Int))=true:=decide_eq_true c13
       clear c13
       by_cases c14:0≤x28_2
       ·rw[if_pos c14] at H
        have c14b0:decide (0≤x28_2)=true:=decide_eq_true c14
        clear c14
        by_cases c15:x28_2<(l0_0.length:Int)
        ·rw[if_pos c15] at H
         have c15b0:decide (x28_2<(l0_0.length:Int))=true:=decide_eq_true c15
         clear c15
         replace H:=Option.bind_eq_some_iff.mp H
         obtain⟨t284,A160,H⟩:=H
         replace H:(if t284=true then(if x28_2>0 then(if 0≤(wrap64 (x28_2 - 1)) then(if(wrap64 (x28_2 - 1))<(l0_0.length:Int) then(if(rd l0_0 x28_2)≤(rd l0_0 (wrap64 (x28_2 - 1))) then(some false) else(impl_IsInstrument.l0 k2 l0_0 (l0_0.length:Int) (wrap64 (x28_2+1)) l0_0 a0_1)) else(none)) else(none)) else(impl_IsInstrument.l0 k2 l0_0 (l0_0.length:Int) (wrap64 (x28_2+1)) l0_0 a0_1)) else(some false))=some r:=H
         have A16:=am A160
         clear A160
         by_cases c17:t284=true
         ·subst c17
          have H1:(if x28_2>0 then(if 0≤(wrap64 (x28_2 - 1)) then(if(wrap64 (x28_2 - 1))<(l0_0.length:Int) then(if(rd l0_0 x28_2)≤(rd l0_0 (wrap64 (x28_2 - 1))) then(some false) else(impl_IsInstrument.l0 k2 l0_0 (l0_0.length:Int) (wrap64 (x28_2+1)) l0_0 a0_1)) else(none)) else(none)) else(impl_IsInstrument.l0 k2 l0_0 (l0_0.length:Int) (wrap64 (x28_2+1)) l0_0 a0_1))=some r:=by rw[if_pos rfl] at H;exact H
          clear H
          have H:=H1
          clear H1
          by_cases c18:x28_2>0
          ·rw[if_pos c18] at H
           have c18b0:decide (0<x28_2)=true:=decide_eq_true c18
           clear c18
           obtain⟨ji19,hji19⟩:∃ j_:Int,(wrap64 (x28_2 - 1))=j_:=⟨_,rfl⟩
           replace H:(if 0≤(ji19) then(if(ji19)<(l0_0.length:Int) then(if(rd l0_0 x28_2)≤(rd l0_0 (ji19)) then(some false) else(impl_IsInstrument.l0 k2 l0_0 (l0_0.length:Int) (wrap64 (x28_2+1)) l0_0 a0_1)) else(none)) else(none))=some r:=by first|(rw[hji19] at H;exact H)|(simp only[hji19] at H ⊢;exact H)
           (try rw[hji19] at A16)
           have hji19w:(IntKind.i64.wrap (x28_2 - 1))=ji19:=(i64_w _).trans hji19
           by_cases c20:0≤(ji19)
           ·rw[if_pos c20] at H
            have c20b0:decide (0≤(ji19))=true:=decide_eq_true c20
            clear c20
            by_cases c21:(ji19)<(l0_0.length:Int)
            ·rw[if_pos c21] at H
             have c21b0:decide ((ji19)<(l0_0.length:Int))=true:=decide_eq_true c21
             clear c21
             by_cases c22:(rd l0_0 x28_2)≤(rd l0_0 (ji19))
             ·rw[if_pos c22] at H
              have c22b0:decide ((rd l0_0 x28_2)≤(rd l0_0 (ji19)))=true:=decide_eq_true c22
              clear c22
              obtain rfl:=Option.some.inj H
              have p283:0≤(x28_2:Int):=od
              have q283:x28_2<(l0_0.length:Int):=od
              obtain⟨ad283,e283,hx283_0⟩:=Kd.at_int HR0_0.out x28_2 p283 q283
              cases e283
              replace hx283_0:=(HB.out.cell (World.block_lt_of_cell? w _ hx283_0)).trans hx283_0
              replace p283:=eq_true p283
              replace q283:=eq_true q283
              go_wp2_with (first|((with_reducible refine gate_callee (f:=109) rfl ?_);refine goesL_ (some 34) rfl rfl Try.func109 (by kernel_rfl) rfl #[.int .i64 (rd l0_0 x28_2)] rfl (by(try simp only[List.map_toArray,List.map_cons,List.map_nil]);first|done|rfl|(simp only[List.length_drop,List.length_take];rfl)) ?_;(with_reducible refine(impl_isPitch.calls (rd l0_0 x28_2) true _ A16.out).mono ?_);rintro e w' ⟨rfl,⟨nd,rfl⟩⟩;refine⟨_,rfl,?_⟩;have hcz23_0:wr.cell? ⟨gb282,0,none⟩=some (.slice (some ad283) l0_0.length c0_0):=(blk_cell BK282.out 0).trans rfl;have hcz23_1:wr.cell? ⟨gb282,1,none⟩=some (.int .i64 a0_1):=(blk_cell BK282.out 1).trans rfl;have hfz23_0:=blk_frozen BK282.out 0;have hfz23_1:=blk_frozen BK282.out 1;have p285:0≤((ji19):Int):=od;have q285:(ji19)<(l0_0.length:Int):=od;obtain⟨ad285,e285,hx285_0⟩:=Kd.at_int HR0_0.out (ji19) p285 q285;obtain rfl:ad283=ad285:=(by injection e285);replace hx285_0:=(HB.out.cell (World.block_lt_of_cell? w _ hx285_0)).trans hx285_0;replace p285:=eq_true p285;replace q285:=eq_true q285))
              go_ret
              exact⟨by first|rfl|(simp [errW_none,errW_some]<;>rfl)|(simp only[← hji19];first|rfl|(simp [errW_none,errW_some]<;>rfl))|(simp [*,errW_none,errW_some]<;>rfl),bl⟩
             ·rw[if_neg c22] at H
              have c22b0:decide ((rd l0_0 x28_2)≤(rd l0_0 (ji19)))=false:=decide_eq_false c22
              clear c22
              have H':=am H
              clear H
              have p283:0≤(x28_2:Int):=od
              have q283:x28_2<(l0_0.length:Int):=od
              obtain⟨ad283,e283,hx283_0⟩:=Kd.at_int HR0_0.out x28_2 p283 q283
              cases e283
              replace hx283_0:=(HB.out.cell (World.block_lt_of_cell? w _ hx283_0)).trans hx283_0
              replace p283:=eq_true p283
              replace q283:=eq_true q283
              go_wp2_with (first|((with_reducible refine gate_callee (f:=109) rfl ?_);refine goesL_ (some 34) rfl rfl Try.func109 (by kernel_rfl) rfl #[.int .i64 (rd l0_0 x28_2)] rfl (by(try simp only[List.map_toArray,List.map_cons,List.map_nil]);first|done|rfl|(simp only[List.length_drop,List.length_take];rfl)) ?_;(with_reducible refine(impl_isPitch.calls (rd l0_0 x28_2) true _ A16.out).mono ?_);rintro e w' ⟨rfl,⟨nd,rfl⟩⟩;refine⟨_,rfl,?_⟩;have hcz24_0:wr.cell? ⟨gb282,0,none⟩=some (.slice (some ad283) l0_0.length c0_0):=(blk_cell BK282.out 0).trans rfl;have hcz24_1:wr.cell? ⟨gb282,1,none⟩=some (.int .i64 a0_1):=(blk_cell BK282.out 1).trans rfl;have hfz24_0:=blk_frozen BK282.out 0;have hfz24_1:=blk_frozen BK282.out 1;have p285:0≤((ji19):Int):=od;have q285:(ji19)<(l0_0.length:Int):=od;obtain⟨ad285,e285,hx285_0⟩:=Kd.at_int HR0_0.out (ji19) p285 q285;obtain rfl:ad283=ad285:=(by injection e285);replace hx285_0:=(HB.out.cell (World.block_lt_of_cell? w _ hx285_0)).trans hx285_0;replace p285:=eq_true p285;replace q285:=eq_true q285))
              go_roundg k2
              case measure=>have:=HJ1.out;have:=HK2.out;omega
              case rel=>exact⟨(wrap64 (x28_2+1)),fin2,H',⟨by have:=HJ1.out;have:=HK2.out;omega⟩,⟨bup BK282.out⟩,⟨bl⟩⟩
            ·rw[if_neg c21] at H
             exact absurd H (by simp)
           ·rw[if_neg c20] at H
            exact absurd H (by simp)
          ·rw[if_neg c18] at H
           have c18b0:decide (0<x28_2)=false:=decide_eq_false c18
           clear c18
           have H':=am H
           clear H
           have p283:0≤(x28_2:Int):=od
           have q283:x28_2<(l0_0.length:Int):=od
           obtain⟨ad283,e283,hx283_0⟩:=Kd.at_int HR0_0.out x28_2 p283 q283
           cases e283
           replace hx283_0:=(HB.out.cell (World.block_lt_of_cell? w _ hx283_0)).trans hx283_0
           replace p283:=eq_true p283
           replace q283:=eq_true q283
           go_wp2_with (first|((with_reducible refine gate_callee (f:=109) rfl ?_);refine goesL_ (some 34) rfl rfl Try.func109 (by kernel_rfl) rfl #[.int .i64 (rd l0_0 x28_2)] rfl (by(try simp only[List.map_toArray,List.map_cons,List.map_nil]);first|done|rfl|(simp only[List.length_drop,List.length_take];rfl)) ?_;(with_reducible refine(impl_isPitch.calls (rd l0_0 x28_2) true _ A16.out).mono ?_);rintro e w' ⟨rfl,⟨nd,rfl⟩⟩;refine⟨_,rfl,?_⟩))
           go_roundg k2
           case measure=>have:=HJ1.out;have:=HK2.out;omega
           case rel=>exact⟨(wrap64 (x28_2+1)),fin2,H',⟨by have:=HJ1.out;have:=HK2.out;omega⟩,⟨bup BK282.out⟩,⟨bl⟩⟩
         ·replace c17:=Bool.eq_false_iff.mpr c17
          subst c17
          have H1:(some false)=some r:=by rw[if_neg (show ¬ (false=true) by decide)] at H;exact H
          clear H
          have H:=H1
          clear H1
          obtain rfl:=Option.some.inj H
          have p283:0≤(x28_2:Int):=od
          have q283:x28_2<(l0_0.length:Int):=od
          obtain⟨ad283,e283,hx283_0⟩:=Kd.at_int HR0_0.out x28_2 p283 q283
          cases e283
          replace hx283_0:=(HB.out.cell (World.block_lt_of_cell? w _ hx283_0)).trans hx283_0
          replace p283:=eq_true p283
          replace q283:=eq_true q283
          go_wp2_with (first|((with_reducible refine gate_callee (f:=109) rfl ?_);refine goesL_ (some 34) rfl rfl Try.func109 (by kernel_rfl) rfl #[.int .i64 (rd l0_0 x28_2)] rfl (by(try simp only[List.map_toArray,List.map_cons,List.map_nil]);first|done|rfl|(simp only[List.length_drop,List.length_take];rfl)) ?_;(with_reducible refine(impl_isPitch.calls (rd l0_0 x28_2) false _ A16.out).mono ?_);rintro e w' ⟨rfl,⟨nd,rfl⟩⟩;refine⟨_,rfl,?_⟩))
          go_ret
          exact⟨fin1,bl⟩
        ·rw[if_neg c15] at H
         exact absurd H (by simp)
       ·rw[if_neg c14] at H
        exact absurd H (by simp)
      ·rw[if_neg c13] at H
       have c13b0:decide (x28_2<(l0_0.length:Int))=false:=decide_eq_false c13
       clear c13
       obtain rfl:=Option.some.inj H
       go_wp2
       go_ret
       exact⟨fin1,bl⟩

/-! ### impl_noteEnd: function 101 -/
def impl_noteEnd.f (a0_0:Int) (a0_1:Int) (a0_2:Int):Option (Int):=some (wrap64 (a0_1+a0_2))
set_option maxHeartbeats 8000000 in
set_option maxRecDepth 100000 in
theorem impl_noteEnd.calls (a0_0:Int) (a0_1:Int) (a0_2:Int) (r:Int) (w:World) (h:impl_noteEnd.f a0_0 a0_1 a0_2=some r) :
  Calls Try.prog 101 #[.agg #[.int .i64 a0_0,.int .i64 a0_1,.int .i64 a0_2]] w fun e w'=>e = .returned (.int .i64 r)∧Below w.heap.size w w':=by
 have hu95:=Try.underlying95
 have HB:=am (Below.refl w.heap.size w)
 have H:(some (wrap64 (a0_1+a0_2)))=some r:=h
 clear h
 obtain rfl:=Option.some.inj H
 go_enter Try.func101,Try.ntmps101
 go_wp2_with (first|((with_reducible refine gate_dst (N:=1) rfl ?_);refine box_event ?hg (N:=1) ?hd (cs := #[.int .i64 a0_0,.int .i64 a0_1,.int .i64 a0_2]) (t:=95) ?hr ?_;(case hd=>rfl);(case hg=>rfl);(case hr=>first|(go_simp;done)|(go_simp;rfl));intro gb286 hg w2 hbox hb;have n0_:=am (below_step bl hb);have n1_:=am (hbox);have n2_:=am ((by rw[hg];exact(below_size bl):w.heap.size≤gb286));have n3_:=am ((by rw[hg];exact(below_size bl):w.heap.size≤gb286));clear HB;have HB:=n0_;have BK286:=n1_;have GW286:=n2_;have GE286:=n3_;clear n0_ n1_ n2_ n3_ hb hbox hg;have hcz3_0:w2.cell? ⟨gb286,0,none⟩=some (.int .i64 a0_0):=(blk_cell BK286.out 0).trans rfl;have hcz3_1:w2.cell? ⟨gb286,1,none⟩=some (.int .i64 a0_1):=(blk_cell BK286.out 1).trans rfl;have hcz3_2:w2.cell? ⟨gb286,2,none⟩=some (.int .i64 a0_2):=(blk_cell BK286.out 2).trans rfl;have hfz3_0:=blk_frozen BK286.out 0;have hfz3_1:=blk_frozen BK286.out 1;have hfz3_2:=blk_frozen BK286.out 2))
 go_ret
 exact⟨fin1,bl⟩

/-! ### impl_IsNote: function 110 -/
def impl_IsNote.f (a0_0:Int) (a0_1:Int) (a0_2:Int):Option (Bool):=if a0_0≥24 then(if a0_0≤96 then(if a0_1≥0 then(if a0_1≤999 then(if a0_2≥1 then(some (decide (a0_2≤99))) else(some false)) else(some false)) else(some false)) else(some false)) else(some false)
set_option maxHeartbeats 8000000 in
set_option maxRecDepth 100000 in
theorem impl_IsNote.calls (a0_0:Int) (a0_1:Int) (a0_2:Int) (r:Bool) (w:World) (h:impl_IsNote.f a0_0 a0_1 a0_2=some r) :
  Calls Try.prog 110 #[.agg #[.int .i64 a0_0,.int .i64 a0_1,.int .i64 a0_2]] w fun e w'=>e = .returned (.bool r)∧Below w.heap.size w w':=by
 have hu95:=Try.underlying95
 have HB:=am (Below.refl w.heap.size w)
 have H:(if a0_0≥24 then(if a0_0≤96 then(if a0_1≥0 then(if a0_1≤999 then(if a0_2≥1 then(some (decide (a0_2≤99))) else(some false)) else(some false)) else(some false)) else(some false)) else(some false))=some r:=h
 clear h
 by_cases c2:a0_0≥24
 ·rw[if_pos c2] at H
  have c2b0:decide (24≤a0_0)=true:=decide_eq_true c2
  clear c2
  by_cases c3:a0_0≤96
  ·rw[if_pos c3] at H
   have c3b0:decide (a0_0≤96)=true:=decide_eq_true c3
   clear c3
   by_cases c4:a0_1≥0
   ·rw[if_pos c4] at H
    have c4b0:decide (0≤a0_1)=true:=decide_eq_true c4
    clear c4
    by_cases c5:a0_1≤999
    ·rw[if_pos c5] at H
     have c5b0:decide (a0_1≤999)=true:=decide_eq_true c5
     clear c5
     by_cases c6:a0_2≥1
     ·rw[if_pos c6] at H
      have c6b0:decide (1≤a0_2)=true:=decide_eq_true c6
      clear c6
      obtain rfl:=Option.some.inj H
      go_enter Try.func110,Try.ntmps110
      go_wp2_with (first|((with_reducible refine gate_dst (N:=1) rfl ?_);refine box_event ?hg (N:=1) ?hd (cs := #[.int .i64 a0_0,.int .i64 a0_1,.int .i64 a0_2]) (t:=95) ?hr ?_;(case hd=>rfl);(case hg=>rfl);(case hr=>first|(go_simp;done)|(go_simp;rfl));intro gb287 hg w7 hbox hb;have n0_:=am (below_step bl hb);have n1_:=am (hbox);have n2_:=am ((by rw[hg];exact(below_size bl):w.heap.size≤gb287));have n3_:=am ((by rw[hg];exact(below_size bl):w.heap.size≤gb287));clear HB;have HB:=n0_;have BK287:=n1_;have GW287:=n2_;have GE287:=n3_;clear n0_ n1_ n2_ n3_ hb hbox hg;have hcz8_0:w7.cell? ⟨gb287,0,none⟩=some (.int .i64 a0_0):=(blk_cell BK287.out 0).trans rfl;have hcz8_1:w7.cell? ⟨gb287,1,none⟩=some (.int .i64 a0_1):=(blk_cell BK287.out 1).trans rfl;have hcz8_2:w7.cell? ⟨gb287,2,none⟩=some (.int .i64 a0_2):=(blk_cell BK287.out 2).trans rfl;have hfz8_0:=blk_frozen BK287.out 0;have hfz8_1:=blk_frozen BK287.out 1;have hfz8_2:=blk_frozen BK287.out 2))
      go_ret
      exact⟨fin1,bl⟩
     ·rw[if_neg c6] at H
      have c6b0:decide (1≤a0_2)=false:=decide_eq_false c6
      clear c6
      obtain rfl:=Option.some.inj H
      go_enter Try.func110,Try.ntmps110
      go_wp2_with (first|((with_reducible refine gate_dst (N:=1) rfl ?_);refine box_event ?hg (N:=1) ?hd (cs := #[.int .i64 a0_0,.int .i64 a0_1,.int .i64 a0_2]) (t:=95) ?hr ?_;(case hd=>rfl);(case hg=>rfl);(case hr=>first|(go_simp;done)|(go_simp;rfl));intro gb287 hg w9 hbox hb;have n0_:=am (below_step bl hb);have n1_:=am (hbox);have n2_:=am ((by rw[hg];exact(below_size bl):w.heap.size≤gb287));have n3_:=am ((by rw[hg];exact(below_size bl):w.heap.size≤gb287));clear HB;have HB:=n0_;have BK287:=n1_;have GW287:=n2_;have GE287:=n3_;clear n0_ n1_ n2_ n3_ hb hbox hg;have hcz10_0:w9.cell? ⟨gb287,0,none⟩=some (.int .i64 a0_0):=(blk_cell BK287.out 0).trans rfl;have hcz10_1:w9.cell? ⟨gb287,1,none⟩=some (.int .i64 a0_1):=(blk_cell BK287.out 1).trans rfl;have hcz10_2:w9.cell? ⟨gb287,2,none⟩=some (.int .i64 a0_2):=(blk_cell BK287.out 2).trans rfl;have hfz10_0:=blk_frozen BK287.out 0;have hfz10_1:=blk_frozen BK287.out 1;have hfz10_2:=blk_frozen BK287.out 2))
      go_ret
      exact⟨fin1,bl⟩
    ·rw[if_neg c5] at H
     have c5b0:decide (a0_1≤999)=false:=decide_eq_false c5
     clear c5
     obtain rfl:=Option.some.inj H
     go_enter Try.func110,Try.ntmps110
     go_wp2_with (first|((with_reducible refine gate_dst (N:=1) rfl ?_);refine box_event ?hg (N:=1) ?hd (cs := #[.int .i64 a0_0,.int .i64 a0_1,.int .i64 a0_2]) (t:=95) ?hr ?_;(case hd=>rfl);(case hg=>rfl);(case hr=>first|(go_simp;done)|(go_simp;rfl));intro gb287 hg w11 hbox hb;have n0_:=am (below_step bl hb);have n1_:=am (hbox);have n2_:=am ((by rw[hg];exact(below_size bl):w.heap.size≤gb287));have n3_:=am ((by rw[hg];exact(below_size bl):w.heap.size≤gb287));clear HB;have HB:=n0_;have BK287:=n1_;have GW287:=n2_;have GE287:=n3_;clear n0_ n1_ n2_ n3_ hb hbox hg;have hcz12_0:w11.cell? ⟨gb287,0,none⟩=some (.int .i64 a0_0):=(blk_cell BK287.out 0).trans rfl;have hcz12_1:w11.cell? ⟨gb287,1,none⟩=some (.int .i64 a0_1):=(blk_cell BK287.out 1).trans rfl;have hcz12_2:w11.cell? ⟨gb287,2,none⟩=some (.int .i64 a0_2):=(blk_cell BK287.out 2).trans rfl;have hfz12_0:=blk_frozen BK287.out 0;have hfz12_1:=blk_frozen BK287.out 1;have hfz12_2:=blk_frozen BK287.out 2))
     go_ret
     exact⟨fin1,bl⟩
   ·rw[if_neg c4] at H
    have c4b0:decide (0≤a0_1)=false:=decide_eq_false c4
    clear c4
    obtain rfl:=Option.some.inj H
    go_enter Try.func110,Try.ntmps110
    go_wp2_with (first|((with_reducible refine gate_dst (N:=1) rfl ?_);refine box_event ?hg (N:=1) ?hd (cs := #[.int .i64 a0_0,.int .i64 a0_1,.int .i64 a0_2]) (t:=95) ?hr ?_;(case hd=>rfl);(case hg=>rfl);(case hr=>first|(go_simp;done)|(go_simp;rfl));intro gb287 hg w13 hbox hb;have n0_:=am (below_step bl hb);have n1_:=am (hbox);have n2_:=am ((by rw[hg];exact(below_size bl):w.heap.size≤gb287));have n3_:=am ((by rw[hg];exact(below_size bl):w.heap.size≤gb287));clear HB;have HB:=n0_;have BK287:=n1_;have GW287:=n2_;have GE287:=n3_;clear n0_ n1_ n2_ n3_ hb hbox hg;have hcz14_0:w13.cell? ⟨gb287,0,none⟩=some (.int .i64 a0_0):=(blk_cell BK287.out 0).trans rfl;have hcz14_1:w13.cell? ⟨gb287,1,none⟩=some (.int .i64 a0_1):=(blk_cell BK287.out 1).trans rfl;have hcz14_2:w13.cell? ⟨gb287,2,none⟩=some (.int .i64 a0_2):=(blk_cell BK287.out 2).trans rfl;have hfz14_0:=blk_frozen BK287.out 0;have hfz14_1:=blk_frozen BK287.out 1;have hfz14_2:=blk_frozen BK287.out 2))
    go_ret
    exact⟨fin1,bl⟩
  ·rw[if_neg c3] at H
   have c3b0:decide (a0_0≤96)=false:=decide_eq_false c3
   clear c3
   obtain rfl:=Option.some.inj H
   go_enter Try.func110,Try.ntmps110
   go_wp2_with (first|((with_reducible refine gate_dst (N:=1) rfl ?_);refine box_event ?hg (N:=1) ?hd (cs := #[.int .i64 a0_0,.int .i64 a0_1,.int .i64 a0_2]) (t:=95) ?hr ?_;(case hd=>rfl);(case hg=>rfl);(case hr=>first|(go_simp;done)|(go_simp;rfl));intro gb287 hg w15 hbox hb;have n0_:=am (below_step bl hb);have n1_:=am (hbox);have n2_:=am ((by rw[hg];exact(below_size bl):w.heap.size≤gb287));have n3_:=am ((by rw[hg];exact(below_size bl):w.heap.size≤gb287));clear HB;have HB:=n0_;have BK287:=n1_;have GW287:=n2_;have GE287:=n3_;clear n0_ n1_ n2_ n3_ hb hbox hg;have hcz16_0:w15.cell? ⟨gb287,0,none⟩=some (.int .i64 a0_0):=(blk_cell BK287.out 0).trans rfl;have hcz16_1:w15.cell? ⟨gb287,1,none⟩=some (.int .i64 a0_1):=(blk_cell BK287.out 1).trans rfl;have hcz16_2:w15.cell? ⟨gb287,2,none⟩=some (.int .i64 a0_2):=(blk_cell BK287.out 2).trans rfl;have hfz16_0:=blk_frozen BK287.out 0;have hfz16_1:=blk_frozen BK287.out 1;have hfz16_2:=blk_frozen BK287.out 2))
   go_ret
   exact⟨fin1,bl⟩
 ·rw[if_neg c2] at H
  have c2b0:decide (24≤a0_0)=false:=decide_eq_false c2
  clear c2
  obtain rfl:=Option.some.inj H
  go_enter Try.func110,Try.ntmps110
  go_wp2_with (first|((with_reducible refine gate_dst (N:=1) rfl ?_);refine box_event ?hg (N:=1) ?hd (cs := #[.int .i64 a0_0,.int .i64 a0_1,.int .i64 a0_2]) (t:=95) ?hr ?_;(case hd=>rfl);(case hg=>rfl);(case hr=>first|(go_simp;done)|(go_simp;rfl));intro gb287 hg w17 hbox hb;have n0_:=am (below_step bl hb);have n1_:=am (hbox);have n2_:=am ((by rw[hg];exact(below_size bl):w.heap.size≤gb287));have n3_:=am ((by rw[hg];exact(below_size bl):w.heap.size≤gb287));clear HB;have HB:=n0_;have BK287:=n1_;have GW287:=n2_;have GE287:=n3_;clear n0_ n1_ n2_ n3_ hb hbox hg;have hcz18_0:w17.cell? ⟨gb287,0,none⟩=some (.int .i64 a0_0):=(blk_cell BK287.out 0).trans rfl;have hcz18_1:w17.cell? ⟨gb287,1,none⟩=some (.int .i64 a0_1):=(blk_cell BK287.out 1).trans rfl;have hcz18_2:w17.cell? ⟨gb287,2,none⟩=some (.int .i64 a0_2):=(blk_cell BK287.out 2).trans rfl;have hfz18_0:=blk_frozen BK287.out 0;have hfz18_1:=blk_frozen BK287.out 1;have hfz18_2:=blk_frozen BK287.out 2))
  go_ret
  exact⟨fin1,bl⟩

/-! ### impl_noteLess: function 111 -/
def impl_noteLess.f (a0_0:Int) (a0_1:Int) (a0_2:Int) (a1_0:Int) (a1_1:Int) (a1_2:Int):Option (Bool):=if a0_1=a1_1 then(some (decide (a0_0<a1_0))) else(some (decide (a0_1<a1_1)))
set_option maxHeartbeats 8000000 in
set_option maxRecDepth 100000 in
theorem impl_noteLess.calls (a0_0:Int) (a0_1:Int) (a0_2:Int) (a1_0:Int) (a1_1:Int) (a1_2:Int) (r:Bool) (w:World) (h:impl_noteLess.f a0_0 a0_1 a0_2 a1_0 a1_1 a1_2=some r) :
  Calls Try.prog 111 #[.agg #[.int .i64 a0_0,.int .i64 a0_1,.int .i64 a0_2],.agg #[.int .i64 a1_0,.int .i64 a1_1,.int .i64 a1_2]] w fun e w'=>e = .returned (.bool r)∧Below w.heap.size w w':=by
 have hu95:=Try.underlying95
 have HB:=am (Below.refl w.heap.size w)
 have H:(if a0_1=a1_1 then(some (decide (a0_0<a1_0))) else(some (decide (a0_1<a1_1))))=some r:=h
 clear h
 by_cases c3:a0_1=a1_1
 ·rw[if_pos c3] at H
  have c3b0:(a0_1 == a1_1)=true:=beq_iff_eq.mpr c3
  have c3b1:(a0_1 != a1_1)=false:=bne_eq_false_iff_eq.mpr c3
  clear c3
  obtain rfl:=Option.some.inj H
  go_enter Try.func111,Try.ntmps111
  go_wp2_with (first|((with_reducible refine gate_dst (N:=2) rfl ?_);refine box_event ?hg (N:=2) ?hd (cs := #[.int .i64 a0_0,.int .i64 a0_1,.int .i64 a0_2]) (t:=95) ?hr ?_;(case hd=>rfl);(case hg=>rfl);(case hr=>first|(go_simp;done)|(go_simp;rfl));intro gb288 hg w4 hbox hb;have n0_:=am (below_step bl hb);have n1_:=am (hbox);have n2_:=am ((by rw[hg];exact(below_size bl):w.heap.size≤gb288));have n3_:=am ((by rw[hg];exact(below_size bl):w.heap.size≤gb288));clear HB;have HB:=n0_;have BK288:=n1_;have GW288:=n2_;have GE288:=n3_;clear n0_ n1_ n2_ n3_ hb hbox hg)|((with_reducible refine gate_dst (N:=3) rfl ?_);refine box_event ?hg (N:=3) ?hd (cs := #[.int .i64 a1_0,.int .i64 a1_1,.int .i64 a1_2]) (t:=95) ?hr ?_;(case hd=>rfl);(case hg=>rfl);(case hr=>first|(go_simp;done)|(go_simp;rfl));intro gb289 hg w5 hbox hb;have n0_:=am (blk_below (g:=gb288) (o := .cells #[.int .i64 a0_0,.int .i64 a0_1,.int .i64 a0_2] 95 (0,0)) (bup BK288.out) hb);have n1_:=am (below_step bl hb);have n2_:=am (hbox);have n3_:=am ((by rw[hg];exact(below_size bl):w.heap.size≤gb289));have n4_:=am ((by rw[hg];exact(below_size bl):w.heap.size≤gb289));have n5_:=am ((by rw[hg];exact Nat.ne_of_lt (blk_lt (g:=gb288) (o := .cells #[.int .i64 a0_0,.int .i64 a0_1,.int .i64 a0_2] 95 (0,0)) (bup BK288.out)):gb288≠gb289));have n6_:=am ((by rw[hg];exact Nat.ne_of_gt (blk_lt (g:=gb288) (o := .cells #[.int .i64 a0_0,.int .i64 a0_1,.int .i64 a0_2] 95 (0,0)) (bup BK288.out)):gb289≠gb288));clear BK288 HB;have BK288:=n0_;have HB:=n1_;have BK289:=n2_;have GW289:=n3_;have GE289:=n4_;have NB288_289:=n5_;have NB289_288:=n6_;clear n0_ n1_ n2_ n3_ n4_ n5_ n6_ hb hbox hg;have hnb6:=NB288_289.out;have hnc6:=NB289_288.out;have hcz7_0:w5.cell? ⟨gb288,0,none⟩=some (.int .i64 a0_0):=(blk_cell BK288.out 0).trans rfl;have hcz7_1:w5.cell? ⟨gb288,1,none⟩=some (.int .i64 a0_1):=(blk_cell BK288.out 1).trans rfl;have hcz7_2:w5.cell? ⟨gb288,2,none⟩=some (.int .i64 a0_2):=(blk_cell BK288.out 2).trans rfl;have hfz7_0:=blk_frozen BK288.out 0;have hfz7_1:=blk_frozen BK288.out 1;have hfz7_2:=blk_frozen BK288.out 2;have hcz8_0:w5.cell? ⟨gb289,0,none⟩=some (.int .i64 a1_0):=(blk_cell BK289.out 0).trans rfl;have hcz8_1:w5.cell? ⟨gb289,1,none⟩=some (.int .i64 a1_1):=(blk_cell BK289.out 1).trans rfl;have hcz8_2:w5.cell? ⟨gb289,2,none⟩=some (.int .i64 a1_2):=(blk_cell BK289.out 2).trans rfl;have hfz8_0:=blk_frozen BK289.out 0;have hfz8_1:=blk_frozen BK289.out 1;have hfz8_2:=blk_frozen BK289.out 2))
  go_ret
  exact⟨fin1,bl⟩
 ·rw[if_neg c3] at H
  have c3b0:(a0_1 == a1_1)=false:=beq_eq_false_iff_ne.mpr c3
  have c3b1:(a0_1 != a1_1)=true:=bne_iff_ne.mpr c3
  obtain rfl:=Option.some.inj H
  go_enter Try.func111,Try.ntmps111
  go_wp2_with (first|((with_reducible refine gate_dst (N:=2) rfl ?_);refine box_event ?hg (N:=2) ?hd (cs := #[.int .i64 a0_0,.int .i64 a0_1,.int .i64 a0_2]) (t:=95) ?hr ?_;(case hd=>rfl);(case hg=>rfl);(case hr=>first|(go_simp;done)|(go_simp;rfl));intro gb288 hg w9 hbox hb;have n0_:=am (below_step bl hb);have n1_:=am (hbox);have n2_:=am ((by rw[hg];exact(below_size bl):w.heap.size≤gb288));have n3_:=am ((by rw[hg];exact(below_size bl):w.heap.size≤gb288));clear HB;have HB:=n0_;have BK288:=n1_;have GW288:=n2_;have GE288:=n3_;clear n0_ n1_ n2_ n3_ hb hbox hg)|((with_reducible refine gate_dst (N:=3) rfl ?_);refine box_event ?hg (N:=3) ?hd (cs := #[.int .i64 a1_0,.int .i64 a1_1,.int .i64 a1_2]) (t:=95) ?hr ?_;(case hd=>rfl);(case hg=>rfl);(case hr=>first|(go_simp;done)|(go_simp;rfl));intro gb289 hg w10 hbox hb;have n0_:=am (blk_below (g:=gb288) (o := .cells #[.int .i64 a0_0,.int .i64 a0_1,.int .i64 a0_2] 95 (0,0)) (bup BK288.out) hb);have n1_:=am (below_step bl hb);have n2_:=am (hbox);have n3_:=am ((by rw[hg];exact(below_size bl):w.heap.size≤gb289));have n4_:=am ((by rw[hg];exact(below_size bl):w.heap.size≤gb289));have n5_:=am ((by rw[hg];exact Nat.ne_of_lt (blk_lt (g:=gb288) (o := .cells #[.int .i64 a0_0,.int .i64 a0_1,.int .i64 a0_2] 95 (0,0)) (bup BK288.out)):gb288≠gb289));have n6_:=am ((by rw[hg];exact Nat.ne_of_gt (blk_lt (g:=gb288) (o := .cells #[.int .i64 a0_0,.int .i64 a0_1,.int .i64 a0_2] 95 (0,0)) (bup BK288.out)):gb289≠gb288));clear BK288 HB;have BK288:=n0_;have HB:=n1_;have BK289:=n2_;have GW289:=n3_;have GE289:=n4_;have NB288_289:=n5_;have NB289_288:=n6_;clear n0_ n1_ n2_ n3_ n4_ n5_ n6_ hb hbox hg;have hnb11:=NB288_289.out;have hnc11:=NB289_288.out;have hcz12_0:w10.cell? ⟨gb288,0,none⟩=some (.int .i64 a0_0):=(blk_cell BK288.out 0).trans rfl;have hcz12_1:w10.cell? ⟨gb288,1,none⟩=some (.int .i64 a0_1):=(blk_cell BK288.out 1).trans rfl;have hcz12_2:w10.cell? ⟨gb288,2,none⟩=some (.int .i64 a0_2):=(blk_cell BK288.out 2).trans rfl;have hfz12_0:=blk_frozen BK288.out 0;have hfz12_1:=blk_frozen BK288.out 1;have hfz12_2:=blk_frozen BK288.out 2;have hcz13_0:w10.cell? ⟨gb289,0,none⟩=some (.int .i64 a1_0):=(blk_cell BK289.out 0).trans rfl;have hcz13_1:w10.cell? ⟨gb289,1,none⟩=some (.int .i64 a1_1):=(blk_cell BK289.out 1).trans rfl;have hcz13_2:w10.cell? ⟨gb289,2,none⟩=some (.int .i64 a1_2):=(blk_cell BK289.out 2).trans rfl;have hfz13_0:=blk_frozen BK289.out 0;have hfz13_1:=blk_frozen BK289.out 1;have hfz13_2:=blk_frozen BK289.out 2))
  go_ret
  exact⟨fin1,bl⟩

end Go.Proofs.Ytjniaiobnbdhhab.PFnExactPlaysAsPromised
