/- The walks of functions that FnPatterns reaches: what they return is what the plain functions of the same names say. Made by a program of this session after the kit's print. No conditions beyond the arguments' being read. -/
import Derived.Test.YtlhjjpdlfddflabSFnPatterns0
namespace Go.Proofs.Ytlhjjpdlfddflab.PFnPatterns
open Go.RowKit Go.Proofs.YtlhjjpdlfddflabW.PrintWords Go.Proofs.YtlhjjpdlfddflabW.PrintLast Go.Proofs.YtlhjjpdlfddflabW.PrintMore
attribute [local go_sem] max2_int min2_int max_two min_two max_three min_three max_four min_four   -- for this text's walks alone
set_option linter.unusedVariables false
set_option linter.unusedSimpArgs false

/-! ### impl_IsPattern: function 11 -/
mutual
def impl_IsPattern.j0:Nat→Bool→Int→List Int→Option (Bool)
 | 0,_,_,_=>none
 | k+1,x12,x167000,x167001=>if x12=true then(some false) else(impl_IsPattern.l0 k x167001 (x167001.length:Int) 0 x167000 x167001)
def impl_IsPattern.l0:Nat→List Int→Int→Int→Int→List Int→Option (Bool)
 | 0,_,_,_,_,_=>none
 | k+1,x14,x15,x16,x167000,x167001=>if x16<x15 then(if 0≤x16 then(if x16<(x14.length:Int) then(if(rd x14 x16)<0 then(some false) else(if(rd x14 x16)≥x167000 then(some false) else(if x16>0 then(if 0≤(wrap64 (x16 - 1)) then(if(wrap64 (x16 - 1))<(x167001.length:Int) then(if(rd x14 x16)≤(rd x167001 (wrap64 (x16 - 1))) then(some false) else(impl_IsPattern.l0 k x14 x15 (wrap64 (x16+1)) x167000 x167001)) else(none)) else(none)) else(impl_IsPattern.l0 k x14 x15 (wrap64 (x16+1)) x167000 x167001)))) else(none)) else(none)) else(some true)
end
def impl_IsPattern.f (k:Nat) (a0_0:Int) (l0_1:List Int):Option (Bool):=if a0_0<1 then(impl_IsPattern.j0 k true a0_0 l0_1) else(impl_IsPattern.j0 k (decide (a0_0>24)) a0_0 l0_1)
set_option maxHeartbeats 8000000 in
set_option maxRecDepth 100000 in
theorem impl_IsPattern.calls (k:Nat) (a0_0:Int) (A0_1:Option Addr) (c0_1:Nat) (l0_1:List Int) (r:Bool) (w:World) (hr0_1:Kd.C (Kd.int .i64) w A0_1 l0_1.length l0_1) (hc0_1:l0_1.length≤c0_1) (h:impl_IsPattern.f k a0_0 l0_1=some r) :
  Calls Try.prog 11 #[.agg #[.int .i64 a0_0,.slice A0_1 l0_1.length c0_1]] w fun e w'=>e = .returned (.bool r)∧Below w.heap.size w w':=by
 have hu26:=Try.underlying26
 have HR0_1:=am hr0_1
 have HC0_1:=am hc0_1
 clear hr0_1 hc0_1
 have HB:=am (Below.refl w.heap.size w)
 have H:(if a0_0<1 then(impl_IsPattern.j0 k true a0_0 l0_1) else(impl_IsPattern.j0 k (decide (a0_0>24)) a0_0 l0_1))=some r:=h
 clear h
 have HC2:=am H
 clear H
 go_enter Try.func11,Try.ntmps11
 go_upto_region 1 with(first|((with_reducible refine gate_dst (N:=1) rfl ?_);refine box_event ?hg (N:=1) ?hd (cs := #[.int .i64 a0_0,.slice A0_1 l0_1.length c0_1]) (t:=26) ?hr ?_;(case hd=>rfl);(case hg=>rfl);(case hr=>first|(go_simp;done)|(go_simp;rfl));intro gb166 hg w3 hbox hb;have n0_:=am (below_step bl hb);have n1_:=am (hbox);have n2_:=am (ge_ bl hg);have n3_:=am (ge_ bl hg);clear HB;have HB:=n0_;have BK166:=n1_;have GW166:=n2_;have GE166:=n3_;clear n0_ n1_ n2_ n3_ hb hbox hg))
 (try simp only[Act.put,List.setIfInBounds_toArray,List.set_cons_zero,List.set_cons_succ])
 go_cut [12] (fun v12 wc=>∃(kq:Nat) (x12_1:Bool),v12 = .bool x12_1∧Aside0 (impl_IsPattern.j0 kq x12_1 a0_0 l0_1=some r)∧Aside0 (kq≤k)∧Aside0 (wc.heap[gb166]?=some (.cells #[.int .i64 a0_0,(.slice A0_1 l0_1.length c0_1)] 26 (0,0)))∧Aside0 (Below w.heap.size w wc))
 case first =>
  have H:=HC2.out
  clear HC2
  by_cases c4:a0_0<1
  ·rw[if_pos c4] at H
   have c4b0:decide (a0_0<1)=true:=decide_eq_true c4
   clear c4
   (first|rw[c4b0]|(simp only[i64_w,i32_w];rw[c4b0])|skip)
   have H':=am H
   clear H
   have hcz5_0:w3.cell? ⟨gb166,0,none⟩=some (.int .i64 a0_0):=(blk_cell BK166.out 0).trans rfl
   have hcz5_1:w3.cell? ⟨gb166,1,none⟩=some (.slice A0_1 l0_1.length c0_1):=(blk_cell BK166.out 1).trans rfl
   have hfz5_0:=blk_frozen BK166.out 0
   have hfz5_1:=blk_frozen BK166.out 1
   go_wp2
   go_meet
   case rel=>exact⟨_,(true),fin2,H',⟨by first|omega|exact Nat.le_refl _⟩,⟨bup BK166.out⟩,⟨bl⟩⟩
  ·rw[if_neg c4] at H
   have c4b0:decide (a0_0<1)=false:=decide_eq_false c4
   clear c4
   (first|rw[c4b0]|(simp only[i64_w,i32_w];rw[c4b0])|skip)
   have H':=am H
   clear H
   have hcz6_0:w3.cell? ⟨gb166,0,none⟩=some (.int .i64 a0_0):=(blk_cell BK166.out 0).trans rfl
   have hcz6_1:w3.cell? ⟨gb166,1,none⟩=some (.slice A0_1 l0_1.length c0_1):=(blk_cell BK166.out 1).trans rfl
   have hfz6_0:=blk_frozen BK166.out 0
   have hfz6_1:=blk_frozen BK166.out 1
   go_wp2
   go_meet
   case rel=>exact⟨_,(decide (a0_0>24)),fin2,H',⟨by first|omega|exact Nat.le_refl _⟩,⟨bup BK166.out⟩,⟨bl⟩⟩
 case rest =>
  clear HC2
  try clear c1
  try clear p2
  try clear c4
  try clear c4b0
  try clear hcz5_0
  try clear hcz5_1
  try clear hcz6_0
  try clear hcz6_1
  try clear hfz5_0
  try clear hfz5_1
  try clear hfz6_0
  try clear hfz6_1
  obtain⟨kq,x12_1,rfl,HA,HJ1,BK166,HB⟩:=hcut
  cases kq with
  | zero=>exact absurd HA.out (by simp [impl_IsPattern.j0])
  | succ kj1 =>
   have H:=HA.out
   clear HA
   simp only[impl_IsPattern.j0] at H
   by_cases c7:x12_1=true
   ·subst c7
    have H1:(some false)=some r:=by rw[if_pos rfl] at H;exact H
    clear H
    have H:=H1
    clear H1
    obtain rfl:=Option.some.inj H
    go_wp2
    go_ret
    exact⟨fin1,bl⟩
   ·replace c7:=Bool.eq_false_iff.mpr c7
    subst c7
    have H1:(impl_IsPattern.l0 kj1 l0_1 (l0_1.length:Int) 0 a0_0 l0_1)=some r:=by rw[if_neg (show ¬ (false=true) by decide)] at H;exact H
    clear H
    have H:=H1
    clear H1
    have H':=am H
    clear H
    have hcz8_0:wc.cell? ⟨gb166,0,none⟩=some (.int .i64 a0_0):=(blk_cell BK166.out 0).trans rfl
    have hcz8_1:wc.cell? ⟨gb166,1,none⟩=some (.slice A0_1 l0_1.length c0_1):=(blk_cell BK166.out 1).trans rfl
    have hfz8_0:=blk_frozen BK166.out 0
    have hfz8_1:=blk_frozen BK166.out 1
    go_wp2
    go_loopg [16] kj1 (fun kq v16 w'=>∃(x16_2:Int),v16 = .int .i64 x16_2∧Aside0 (impl_IsPattern.l0 kq l0_1 (l0_1.length:Int) x16_2 a0_0 l0_1=some r)∧Aside0 (kq≤kj1)∧Aside0 (w'.heap[gb166]?=some (.cells #[.int .i64 a0_0,(.slice A0_1 l0_1.length c0_1)] 26 (0,0)))∧Aside0 (Below w.heap.size w w'))
    case atStart=>exact⟨(0),fin2,H',⟨Nat.le_refl _⟩,⟨bup BK166.out⟩,⟨bl⟩⟩
    case round =>
     clear H'
     try clear c1
     try clear p2
     try clear c4
     try clear c4b0
     try clear c7
     try clear hcz5_0
     try clear hcz5_1
     try clear hcz6_0
     try clear hcz6_1
     try clear hcz8_0
     try clear hcz8_1
     try clear hfz5_0
     try clear hfz5_1
     try clear hfz6_0
     try clear hfz6_1
     try clear hfz8_0
     try clear hfz8_1
     try clear p2
     obtain⟨x16_2,rfl,HA,HK2,BK166,HB⟩:=hrel
     cases gk with
     | zero=>exact absurd HA.out (by simp [impl_IsPattern.l0])
     | succ k2 =>
      have H:=HA.out
      clear HA
      simp only[impl_IsPattern.l0] at H
      by_cases c9:x16_2<(l0_1.length:Int)
      ·rw[if_pos c9] at H
       have c9b0:decide (x16_2<(l0_1.length:Int))=true:=decide_eq_true c9
       clear c9
       by_cases c10:0≤x16_2
       ·rw[if_pos c10] at H
        have c10b0:decide (0≤x16_2)=true:=decide_eq_true c10
        clear c10
        by_cases c11:x16_2<(l0_1.length:Int)
        ·rw[if_pos c11] at H
         have c11b0:decide (x16_2<(l0_1.length:Int))=true:=decide_eq_true c11
         clear c11
         by_cases c12:(rd l0_1 x16_2)<0
         ·rw[if_pos c12] at H
          have c12b0:decide ((rd l0_1 x16_2)<0)=true:=decide_eq_true c12
          clear c12
          obtain rfl:=Option.some.inj H
          have p167:0≤(x16_2:Int):=od
          have q167:x16_2<(l0_1.length:Int):=od
          obtain⟨ad167,e167,hx167_0⟩:=Kd.at_int HR0_1.out x16_2 p167 q167
          cases e167
          replace hx167_0:=(HB.out.cell (World.block_lt_of_cell? w _ hx167_0)).trans hx167_0
          replace p167:=eq_true p167
          replace q167:=eq_true q167
          go_wp2
          go_ret
          exact⟨fin1,bl⟩
         ·rw[if_neg c12] at H
          have c12b0:decide ((rd l0_1 x16_2)<0)=false:=decide_eq_false c12
          clear c12
          by_cases c13:(rd l0_1 x16_2)≥a0_0
          ·rw[if_pos c13] at H
           have c13b0:decide (a0_0≤(rd l0_1 x16_2))=true:=decide_eq_true c13
           clear c13
           obtain rfl:=Option.some.inj H
           have p167:0≤(x16_2:Int):=od
           have q167:x16_2<(l0_1.length:Int):=od
           obtain⟨ad167,e167,hx167_0⟩:=Kd.at_int HR0_1.out x16_2 p167 q167
           cases e167
           replace hx167_0:=(HB.out.cell (World.block_lt_of_cell? w _ hx167_0)).trans hx167_0
           replace p167:=eq_true p167
           replace q167:=eq_true q167
           have hcz14_0:wr.cell? ⟨gb166,0,none⟩=some (.int .i64 a0_0):=(blk_cell BK166.out 0).trans rfl
           have hcz14_1:wr.cell? ⟨gb166,1,none⟩=some (.slice (some ad167) l0_1.length c0_1):=(blk_cell BK166.out 1).trans rfl
           have hfz14_0:=blk_frozen BK166.out 0
           have hfz14_1:=blk_frozen BK166.out 1
           go_wp2
           go_ret
           exact⟨fin1,bl⟩
          ·rw[if_neg c13] at H
           have c13b0:decide (a0_0≤(rd l0_1 x16_2))=false:=decide_eq_false c13
           clear c13
           by_cases c15:x16_2>0
           ·rw[if_pos c15] at H
            have c15b0:decide (0<x16_2)=true:=decide_eq_true c15
            clear c15
            obtain⟨ji16,hji16⟩:∃ j_:Int,(wrap64 (x16_2 - 1))=j_:=⟨_,rfl⟩
            replace H:(if 0≤(ji16) then(if(ji16)<(l0_1.length:Int) then(if(rd l0_1 x16_2)≤(rd l0_1 (ji16)) then(some false) else(impl_IsPattern.l0 k2 l0_1 (l0_1.length:Int) (wrap64 (x16_2+1)) a0_0 l0_1)) else(none)) else(none))=some r:=by first|(rw[hji16] at H;exact H)|(simp only[hji16] at H ⊢;exact H)
            have hji16w:(IntKind.i64.wrap (x16_2 - 1))=ji16:=(i64_w _).trans hji16
            by_cases c17:0≤(ji16)
            ·rw[if_pos c17] at H
             have c17b0:decide (0≤(ji16))=true:=decide_eq_true c17
             clear c17
             by_cases c18:(ji16)<(l0_1.length:Int)
             ·rw[if_pos c18] at H
              have c18b0:decide ((ji16)<(l0_1.length:Int))=true:=decide_eq_true c18
              clear c18
              by_cases c19:(rd l0_1 x16_2)≤(rd l0_1 (ji16))
              ·rw[if_pos c19] at H
               have c19b0:decide ((rd l0_1 x16_2)≤(rd l0_1 (ji16)))=true:=decide_eq_true c19
               clear c19
               obtain rfl:=Option.some.inj H
               have p167:0≤(x16_2:Int):=od
               have q167:x16_2<(l0_1.length:Int):=od
               obtain⟨ad167,e167,hx167_0⟩:=Kd.at_int HR0_1.out x16_2 p167 q167
               cases e167
               replace hx167_0:=(HB.out.cell (World.block_lt_of_cell? w _ hx167_0)).trans hx167_0
               replace p167:=eq_true p167
               replace q167:=eq_true q167
               have hcz20_0:wr.cell? ⟨gb166,0,none⟩=some (.int .i64 a0_0):=(blk_cell BK166.out 0).trans rfl
               have hcz20_1:wr.cell? ⟨gb166,1,none⟩=some (.slice (some ad167) l0_1.length c0_1):=(blk_cell BK166.out 1).trans rfl
               have hfz20_0:=blk_frozen BK166.out 0
               have hfz20_1:=blk_frozen BK166.out 1
               have p168:0≤((ji16):Int):=od
               have q168:(ji16)<(l0_1.length:Int):=od
               obtain⟨ad168,e168,hx168_0⟩:=Kd.at_int HR0_1.out (ji16) p168 q168
               obtain rfl:ad167=ad168:=(by injection e168)
               replace hx168_0:=(HB.out.cell (World.block_lt_of_cell? w _ hx168_0)).trans hx168_0
               replace p168:=eq_true p168
               replace q168:=eq_true q168
               go_wp2
               go_ret
               exact⟨by first|rfl|(simp [errW_none,errW_some]<;>rfl)|(simp only[← hji16];first|rfl|(simp [errW_none,errW_some]<;>rfl))|(simp [*,errW_none,errW_some]<;>rfl),bl⟩
              ·rw[if_neg c19] at H
               have c19b0:decide ((rd l0_1 x16_2)≤(rd l0_1 (ji16)))=false:=decide_eq_false c19
               clear c19
               have H':=am H
               clear H
               have p167:0≤(x16_2:Int):=od
               have q167:x16_2<(l0_1.length:Int):=od
               obtain⟨ad167,e167,hx167_0⟩:=Kd.at_int HR0_1.out x16_2 p167 q167
               cases e167
               replace hx167_0:=(HB.out.cell (World.block_lt_of_cell? w _ hx167_0)).trans hx167_0
               replace p167:=eq_true p167
               replace q167:=eq_true q167
               have hcz21_0:wr.cell? ⟨gb166,0,none⟩=some (.int .i64 a0_0):=(blk_cell BK166.out 0).trans rfl
               have hcz21_1:wr.cell? ⟨gb166,1,none⟩=some (.slice (some ad167) l0_1.length c0_1):=(blk_cell BK166.out 1).trans rfl
               have hfz21_0:=blk_frozen BK166.out 0
               have hfz21_1:=blk_frozen BK166.out 1
               have p168:0≤((ji16):Int):=od
               have q168:(ji16)<(l0_1.length:Int):=od
               obtain⟨ad168,e168,hx168_0⟩:=Kd.at_int HR0_1.out (ji16) p168 q168
               obtain rfl:ad167=ad168:=(by injection e168)
               replace hx168_0:=(HB.out.cell (World.block_lt_of_cell? w _ hx168_0)).trans hx168_0
               replace p168:=eq_true p168
               replace q168:=eq_true q168
               go_wp2
               go_roundg k2
               case measure=>have:=HJ1.out;have:=HK2.out;omega
               case rel=>exact⟨(wrap64 (x16_2+1)),fin2,H',⟨by have:=HJ1.out;have:=HK2.out;omega⟩,⟨bup BK166.out⟩,⟨bl⟩⟩
             ·rw[if_neg c18] at H
              exact absurd H (by simp)
            ·rw[if_neg c17] at H
             exact absurd H (by simp)
           ·rw[if_neg c15] at H
            have c15b0:decide (0<x16_2)=false:=decide_eq_false c15
            clear c15
            have H':=am H
            clear H
            have p167:0≤(x16_2:Int):=od
            have q167:x16_2<(l0_1.length:Int):=od
            obtain⟨ad167,e167,hx167_0⟩:=Kd.at_int HR0_1.out x16_2 p167 q167
            cases e167
            replace hx167_0:=(HB.out.cell (World.block_lt_of_cell? w _ hx167_0)).trans hx167_0
            replace p167:=eq_true p167
            replace q167:=eq_true q167
            have hcz22_0:wr.cell? ⟨gb166,0,none⟩=some (.int .i64 a0_0):=(blk_cell BK166.out 0).trans rfl
            have hcz22_1:wr.cell? ⟨gb166,1,none⟩=some (.slice (some ad167) l0_1.length c0_1):=(blk_cell BK166.out 1).trans rfl
            have hfz22_0:=blk_frozen BK166.out 0
            have hfz22_1:=blk_frozen BK166.out 1
            go_wp2
            go_roundg k2
            case measure=>have:=HJ1.out;have:=HK2.out;omega
            case rel=>exact⟨(wrap64 (x16_2+1)),fin2,H',⟨by have:=HJ1.out;have:=HK2.out;omega⟩,⟨bup BK166.out⟩,⟨bl⟩⟩
        ·rw[if_neg c11] at H
         exact absurd H (by simp)
       ·rw[if_neg c10] at H
        exact absurd H (by simp)
      ·rw[if_neg c9] at H
       have c9b0:decide (x16_2<(l0_1.length:Int))=false:=decide_eq_false c9
       clear c9
       obtain rfl:=Option.some.inj H
       go_wp2
       go_ret
       exact⟨fin1,bl⟩

/-! ### slices_Index_int_int: function 42 -/
def slices_Index_int_int.l0:Nat→List Int→Int→Int→Int→Option (Int)
 | 0,_,_,_,_=>none
 | k+1,x0,x1,x7,x8=>if x8<x7 then(if 0≤x8 then(if x8<(x0.length:Int) then(if x1=(rd x0 x8) then(some x8) else(slices_Index_int_int.l0 k x0 x1 x7 (wrap64 (x8+1)))) else(none)) else(none)) else(some (-1))
def slices_Index_int_int.f (k:Nat) (l0:List Int) (a1:Int):Option (Int):=slices_Index_int_int.l0 k l0 a1 (l0.length:Int) 0
set_option maxHeartbeats 8000000 in
set_option maxRecDepth 100000 in
theorem slices_Index_int_int.calls (k:Nat) (A0:Option Addr) (c0:Nat) (l0:List Int) (a1:Int) (r:Int) (w:World) (hr0:Kd.C (Kd.int .i64) w A0 l0.length l0) (hc0:l0.length≤c0) (h:slices_Index_int_int.f k l0 a1=some r) :
  Calls Try.prog 42 #[.slice A0 l0.length c0,.int .i64 a1] w fun e w'=>e = .returned (.int .i64 r)∧Drawn0 w w':=by
 have HR0:=am hr0
 have HC0:=am hc0
 clear hr0 hc0
 have H:(slices_Index_int_int.l0 k l0 a1 (l0.length:Int) 0)=some r:=h
 clear h
 have H':=am H
 clear H
 go_enter Try.func42,Try.ntmps42
 go_wp2
 go_loopg [8] k (fun kq v8 w'=>∃(x8_1:Int),v8 = .int .i64 x8_1∧Aside0 (slices_Index_int_int.l0 kq l0 a1 (l0.length:Int) x8_1=some r)∧Aside0 (kq≤k)∧Drawn0 w w')
 case atStart=>exact⟨(0),fin2,H',⟨Nat.le_refl _⟩,by repeat(first|exact Drawn0.refl _|apply Drawn0.step)⟩
 case round =>
  clear H'
  try clear p2
  obtain⟨x8_1,rfl,HA,HK1,⟨m1,rfl⟩⟩:=hrel
  cases gk with
  | zero=>exact absurd HA.out (by simp [slices_Index_int_int.l0])
  | succ k1 =>
   have H:=HA.out
   clear HA
   simp only[slices_Index_int_int.l0] at H
   by_cases c3:x8_1<(l0.length:Int)
   ·rw[if_pos c3] at H
    have c3b0:decide (x8_1<(l0.length:Int))=true:=decide_eq_true c3
    clear c3
    by_cases c4:0≤x8_1
    ·rw[if_pos c4] at H
     have c4b0:decide (0≤x8_1)=true:=decide_eq_true c4
     clear c4
     by_cases c5:x8_1<(l0.length:Int)
     ·rw[if_pos c5] at H
      have c5b0:decide (x8_1<(l0.length:Int))=true:=decide_eq_true c5
      clear c5
      by_cases c6:a1=(rd l0 x8_1)
      ·rw[if_pos c6] at H
       have c6b0:(a1 == (rd l0 x8_1))=true:=beq_iff_eq.mpr c6
       have c6b1:(a1 != (rd l0 x8_1))=false:=bne_eq_false_iff_eq.mpr c6
       clear c6
       obtain rfl:=Option.some.inj H
       have p169:0≤(x8_1:Int):=od
       have q169:x8_1<(l0.length:Int):=od
       obtain⟨ad169,e169,hx169_0⟩:=Kd.at_int HR0.out x8_1 p169 q169
       cases e169
       replace p169:=eq_true p169
       replace q169:=eq_true q169
       go_wp2
       go_ret
       exact⟨by first|rfl|(simp;done)|(simp [*];done),by repeat(first|exact Drawn0.refl _|apply Drawn0.step)⟩
      ·rw[if_neg c6] at H
       have c6b0:(a1 == (rd l0 x8_1))=false:=beq_eq_false_iff_ne.mpr c6
       have c6b1:(a1 != (rd l0 x8_1))=true:=bne_iff_ne.mpr c6
       have H':=am H
       clear H
       have p169:0≤(x8_1:Int):=od
       have q169:x8_1<(l0.length:Int):=od
       obtain⟨ad169,e169,hx169_0⟩:=Kd.at_int HR0.out x8_1 p169 q169
       cases e169
       replace p169:=eq_true p169
       replace q169:=eq_true q169
       go_wp2
       go_roundg k1
       case measure=>have:=HK1.out;omega
       case rel=>exact⟨(wrap64 (x8_1+1)),fin2,H',⟨by have:=HK1.out;omega⟩,by repeat(first|exact Drawn0.refl _|apply Drawn0.step)⟩
     ·rw[if_neg c5] at H
      exact absurd H (by simp)
    ·rw[if_neg c4] at H
     exact absurd H (by simp)
   ·rw[if_neg c3] at H
    have c3b0:decide (x8_1<(l0.length:Int))=false:=decide_eq_false c3
    clear c3
    obtain rfl:=Option.some.inj H
    go_wp2
    go_ret
    exact⟨by first|rfl|(simp;done)|(simp [*];done),by repeat(first|exact Drawn0.refl _|apply Drawn0.step)⟩

/-! ### slices_Contains_int_int: function 39 -/
def slices_Contains_int_int.f (k:Nat) (l0:List Int) (a1:Int):Option (Bool):=(slices_Index_int_int.f k l0 a1).bind fun t170=>(some (decide (t170≥0)))
set_option maxHeartbeats 8000000 in
set_option maxRecDepth 100000 in
theorem slices_Contains_int_int.calls (k:Nat) (A0:Option Addr) (c0:Nat) (l0:List Int) (a1:Int) (r:Bool) (w:World) (hr0:Kd.C (Kd.int .i64) w A0 l0.length l0) (hc0:l0.length≤c0) (h:slices_Contains_int_int.f k l0 a1=some r) :
  Calls Try.prog 39 #[.slice A0 l0.length c0,.int .i64 a1] w fun e w'=>e = .returned (.bool r)∧Drawn0 w w':=by
 have HR0:=am hr0
 have HC0:=am hc0
 clear hr0 hc0
 have H:((slices_Index_int_int.f k l0 a1).bind fun t170=>(some (decide (t170≥0))))=some r:=h
 clear h
 replace H:=Option.bind_eq_some_iff.mp H
 obtain⟨t170,A30,H⟩:=H
 replace H:(some (decide (t170≥0)))=some r:=H
 have A3:=am A30
 clear A30
 obtain rfl:=Option.some.inj H
 go_enter Try.func39,Try.ntmps39
 go_wp2_with (first|((with_reducible refine gate_callee (f:=42) rfl ?_);refine goesL_ (some 7) rfl rfl Try.func42 (by kernel_rfl) rfl #[.slice A0 l0.length c0,.int .i64 a1] rfl tl ?_;(with_reducible refine(slices_Index_int_int.calls k _ _ l0 a1 t170 _ ?side1 ?side2 A3.out).mono ?_);(case side1=>repeat(first|exact HR0.out|(with_reducible refine Kd.C_alloc ?_ _)|(with_reducible refine Kd.C_drewN ?_ _)|(with_reducible refine Kd.C_drew ?_)));(case side2=>exact HC0.out);rintro e w' ⟨rfl,⟨nd,rfl⟩⟩;refine⟨_,rfl,?_⟩))
 go_ret
 exact⟨by first|rfl|(simp;done)|(simp [*];done),by repeat(first|exact Drawn0.refl _|apply Drawn0.step)⟩

/-! ### impl_beatsAt: function 25 -/
def impl_beatsAt.f (k:Nat) (a0_0:Int) (l0_1:List Int) (a1:Int):Option (Bool):=if a0_0=0 then(none) else((slices_Contains_int_int.f k l0_1 (Int.tmod a1 a0_0)).bind fun t172=>(some t172))
set_option maxHeartbeats 8000000 in
set_option maxRecDepth 100000 in
theorem impl_beatsAt.calls (k:Nat) (a0_0:Int) (A0_1:Option Addr) (c0_1:Nat) (l0_1:List Int) (a1:Int) (r:Bool) (w:World) (hr0_1:Kd.C (Kd.int .i64) w A0_1 l0_1.length l0_1) (hc0_1:l0_1.length≤c0_1) (h:impl_beatsAt.f k a0_0 l0_1 a1=some r) :
  Calls Try.prog 25 #[.agg #[.int .i64 a0_0,.slice A0_1 l0_1.length c0_1],.int .i64 a1] w fun e w'=>e = .returned (.bool r)∧Below w.heap.size w w':=by
 have hu26:=Try.underlying26
 have HR0_1:=am hr0_1
 have HC0_1:=am hc0_1
 clear hr0_1 hc0_1
 have HB:=am (Below.refl w.heap.size w)
 have H:(if a0_0=0 then(none) else((slices_Contains_int_int.f k l0_1 (Int.tmod a1 a0_0)).bind fun t172=>(some t172)))=some r:=h
 clear h
 by_cases c3:a0_0=0
 ·rw[if_pos c3] at H
  exact absurd H (by simp)
 ·rw[if_neg c3] at H
  have c3b0:(a0_0 == 0)=false:=beq_eq_false_iff_ne.mpr c3
  have c3b1:(a0_0 != 0)=true:=bne_iff_ne.mpr c3
  replace H:=Option.bind_eq_some_iff.mp H
  obtain⟨t172,A40,H⟩:=H
  replace H:(some t172)=some r:=H
  have A4:=am A40
  clear A40
  obtain rfl:=Option.some.inj H
  go_enter Try.func25,Try.ntmps25
  go_wp2_with (first|((with_reducible refine gate_dst (N:=2) rfl ?_);refine box_event ?hg (N:=2) ?hd (cs := #[.int .i64 a0_0,.slice A0_1 l0_1.length c0_1]) (t:=26) ?hr ?_;(case hd=>rfl);(case hg=>rfl);(case hr=>first|(go_simp;done)|(go_simp;rfl));intro gb171 hg w5 hbox hb;have n0_:=am (below_step bl hb);have n1_:=am (hbox);have n2_:=am (ge_ bl hg);have n3_:=am (ge_ bl hg);clear HB;have HB:=n0_;have BK171:=n1_;have GW171:=n2_;have GE171:=n3_;clear n0_ n1_ n2_ n3_ hb hbox hg;have hcz6_0:w5.cell? ⟨gb171,0,none⟩=some (.int .i64 a0_0):=(blk_cell BK171.out 0).trans rfl;have hcz6_1:w5.cell? ⟨gb171,1,none⟩=some (.slice A0_1 l0_1.length c0_1):=(blk_cell BK171.out 1).trans rfl;have hfz6_0:=blk_frozen BK171.out 0;have hfz6_1:=blk_frozen BK171.out 1)|(go_at_call 39;(with_reducible refine(slices_Contains_int_int.calls k _ _ l0_1 (Int.tmod a1 a0_0) t172 _ ?side1 ?side2 A4.out).mono ?_);(case side1=>exact cup (Kd.C_below HR0_1.out HB.out));(case side2=>exact HC0_1.out);rintro e w' ⟨rfl,⟨nd,rfl⟩⟩;(try first|exact⟨rfl,_,World.drewN_drewN _ _ _⟩|exact⟨rfl,_,Eq.trans (World.drewN_drewN _ _ _) (congrArg (World.drewN _) (Nat.add_assoc _ _ _))⟩)))
  repeat(go_quiet (first|((with_reducible refine gate_dst (N:=2) rfl ?_);refine box_event ?hg (N:=2) ?hd (cs := #[.int .i64 a0_0,.slice A0_1 l0_1.length c0_1]) (t:=26) ?hr ?_;(case hd=>rfl);(case hg=>rfl);(case hr=>first|(go_simp;done)|(go_simp;rfl));intro gb171 hg w5 hbox hb;have n0_:=am (below_step bl hb);have n1_:=am (hbox);have n2_:=am (ge_ bl hg);have n3_:=am (ge_ bl hg);clear HB;have HB:=n0_;have BK171:=n1_;have GW171:=n2_;have GE171:=n3_;clear n0_ n1_ n2_ n3_ hb hbox hg;have hcz6_0:w5.cell? ⟨gb171,0,none⟩=some (.int .i64 a0_0):=(blk_cell BK171.out 0).trans rfl;have hcz6_1:w5.cell? ⟨gb171,1,none⟩=some (.slice A0_1 l0_1.length c0_1):=(blk_cell BK171.out 1).trans rfl;have hfz6_0:=blk_frozen BK171.out 0;have hfz6_1:=blk_frozen BK171.out 1)|(go_at_call 39;(with_reducible refine(slices_Contains_int_int.calls k _ _ l0_1 (Int.tmod a1 a0_0) t172 _ ?side1 ?side2 A4.out).mono ?_);(case side1=>exact cup (Kd.C_below HR0_1.out HB.out));(case side2=>exact HC0_1.out);rintro e w' ⟨rfl,⟨nd,rfl⟩⟩;(try first|exact⟨rfl,_,World.drewN_drewN _ _ _⟩|exact⟨rfl,_,Eq.trans (World.drewN_drewN _ _ _) (congrArg (World.drewN _) (Nat.add_assoc _ _ _))⟩)));try go_wp2_with (first|((with_reducible refine gate_dst (N:=2) rfl ?_);refine box_event ?hg (N:=2) ?hd (cs := #[.int .i64 a0_0,.slice A0_1 l0_1.length c0_1]) (t:=26) ?hr ?_;(case hd=>rfl);(case hg=>rfl);(case hr=>first|(go_simp;done)|(go_simp;rfl));intro gb171 hg w5 hbox hb;have n0_:=am (below_step bl hb);have n1_:=am (hbox);have n2_:=am (ge_ bl hg);have n3_:=am (ge_ bl hg);clear HB;have HB:=n0_;have BK171:=n1_;have GW171:=n2_;have GE171:=n3_;clear n0_ n1_ n2_ n3_ hb hbox hg;have hcz6_0:w5.cell? ⟨gb171,0,none⟩=some (.int .i64 a0_0):=(blk_cell BK171.out 0).trans rfl;have hcz6_1:w5.cell? ⟨gb171,1,none⟩=some (.slice A0_1 l0_1.length c0_1):=(blk_cell BK171.out 1).trans rfl;have hfz6_0:=blk_frozen BK171.out 0;have hfz6_1:=blk_frozen BK171.out 1)|(go_at_call 39;(with_reducible refine(slices_Contains_int_int.calls k _ _ l0_1 (Int.tmod a1 a0_0) t172 _ ?side1 ?side2 A4.out).mono ?_);(case side1=>exact cup (Kd.C_below HR0_1.out HB.out));(case side2=>exact HC0_1.out);rintro e w' ⟨rfl,⟨nd,rfl⟩⟩;(try first|exact⟨rfl,_,World.drewN_drewN _ _ _⟩|exact⟨rfl,_,Eq.trans (World.drewN_drewN _ _ _) (congrArg (World.drewN _) (Nat.add_assoc _ _ _))⟩))))
  go_ret
  exact⟨fin1,bl⟩

/-! ### impl_PatternText: function 6 -/
def impl_PatternText.l0:Nat→List Int→Int→Int→Int→List Int→Option (ByteArray×Bool)
 | 0,_,_,_,_,_=>none
 | k+1,x4,x13,x14,x174000,x174001=>if x14<x13 then(if 0≤x14 then(if x14<(x4.length:Int) then((some (x4.set (x14:Int).toNat 46:List Int)).bind fun y178=>((impl_beatsAt.f k x174000 x174001 x14).bind fun t179=>(if t179=true then(impl_PatternText.l0 k (y178.set (x14:Int).toNat 120) x13 (wrap64 (x14+1)) x174000 x174001) else(impl_PatternText.l0 k y178 x13 (wrap64 (x14+1)) x174000 x174001)))) else(none)) else(none)) else(some (strOfNums x4,true))
def impl_PatternText.f (k:Nat) (a0_0:Int) (l0_1:List Int):Option (ByteArray×Bool):=(impl_IsPattern.f k a0_0 l0_1).bind fun t174=>(if t174=true then(if 0≤a0_0 then(if(a0_0:Int).toNat≤281474976710656 then((some (List.replicate (a0_0:Int).toNat 0:List Int)).bind fun y175=>(impl_PatternText.l0 k y175 (y175.length:Int) 0 a0_0 l0_1)) else(none)) else(none)) else(some ((⟨#[]⟩:ByteArray),false)))
set_option maxHeartbeats 8000000 in
set_option maxRecDepth 100000 in
theorem impl_PatternText.calls (k:Nat) (a0_0:Int) (A0_1:Option Addr) (c0_1:Nat) (l0_1:List Int) (r1:ByteArray) (r2:Bool) (w:World) (hr0_1:Kd.C (Kd.int .i64) w A0_1 l0_1.length l0_1) (hc0_1:l0_1.length≤c0_1) (h:impl_PatternText.f k a0_0 l0_1=some (r1,r2)) :
  Calls Try.prog 6 #[.agg #[.int .i64 a0_0,.slice A0_1 l0_1.length c0_1]] w fun e w'=>e = .returned (.tuple #[.string r1,.bool r2])∧Below w.heap.size w w':=by
 have hu26:=Try.underlying26
 have HR0_1:=am hr0_1
 have HC0_1:=am hc0_1
 clear hr0_1 hc0_1
 have HB:=am (Below.refl w.heap.size w)
 have H:((impl_IsPattern.f k a0_0 l0_1).bind fun t174=>(if t174=true then(if 0≤a0_0 then(if(a0_0:Int).toNat≤281474976710656 then((some (List.replicate (a0_0:Int).toNat 0:List Int)).bind fun y175=>(impl_PatternText.l0 k y175 (y175.length:Int) 0 a0_0 l0_1)) else(none)) else(none)) else(some ((⟨#[]⟩:ByteArray),false))))=some (r1,r2):=h
 clear h
 replace H:=Option.bind_eq_some_iff.mp H
 obtain⟨t174,A20,H⟩:=H
 replace H:(if t174=true then(if 0≤a0_0 then(if(a0_0:Int).toNat≤281474976710656 then((some (List.replicate (a0_0:Int).toNat 0:List Int)).bind fun y175=>(impl_PatternText.l0 k y175 (y175.length:Int) 0 a0_0 l0_1)) else(none)) else(none)) else(some ((⟨#[]⟩:ByteArray),false)))=some (r1,r2):=H
 have A2:=am A20
 clear A20
 by_cases c3:t174=true
 ·subst c3
  have H1:(if 0≤a0_0 then(if(a0_0:Int).toNat≤281474976710656 then((some (List.replicate (a0_0:Int).toNat 0:List Int)).bind fun y175=>(impl_PatternText.l0 k y175 (y175.length:Int) 0 a0_0 l0_1)) else(none)) else(none))=some (r1,r2):=by rw[if_pos rfl] at H;exact H
  clear H
  have H:=H1
  clear H1
  by_cases c4:0≤a0_0
  ·rw[if_pos c4] at H
   have c4b0:=eq_true c4
   have c4b1:decide (0≤a0_0)=true:=decide_eq_true c4
   clear c4
   by_cases c5:(a0_0:Int).toNat≤281474976710656
   ·rw[if_pos c5] at H
    have c5b0:=eq_true c5
    have c5b1:decide ((a0_0:Int).toNat≤281474976710656)=true:=decide_eq_true c5
    clear c5
    obtain⟨y175,hy175⟩:∃ y_:List Int,y_=(List.replicate (a0_0:Int).toNat 0):=⟨_,rfl⟩
    replace H:(impl_PatternText.l0 k y175 (y175.length:Int) 0 a0_0 l0_1)=some (r1,r2):=by first|(rw[hy175];with_reducible exact H)|(have H2_:=(Option.bind_some _ _).symm.trans H;rw[hy175];with_reducible exact H2_)|(have H2_:=(Option.bind_some _ _).symm.trans H;with_reducible exact H2_)|with_reducible exact H|(rw[hy175];exact H)|exact H
    have Ny175:=am hy175
    clear hy175
    have H':=am H
    clear H
    go_enter Try.func6,Try.ntmps6
    go_wp2_with (first|((with_reducible refine gate_dst (N:=1) rfl ?_);refine box_event ?hg (N:=1) ?hd (cs := #[.int .i64 a0_0,.slice A0_1 l0_1.length c0_1]) (t:=26) ?hr ?_;(case hd=>rfl);(case hg=>rfl);(case hr=>first|(go_simp;done)|(go_simp;rfl));intro gb173 hg w6 hbox hb;have n0_:=am (below_step bl hb);have n1_:=am (hbox);have n2_:=am (ge_ bl hg);have n3_:=am (ge_ bl hg);clear HB;have HB:=n0_;have BK173:=n1_;have GW173:=n2_;have GE173:=n3_;clear n0_ n1_ n2_ n3_ hb hbox hg;have hcz7_0:w6.cell? ⟨gb173,0,none⟩=some (.int .i64 a0_0):=(blk_cell BK173.out 0).trans rfl;have hcz7_1:w6.cell? ⟨gb173,1,none⟩=some (.slice A0_1 l0_1.length c0_1):=(blk_cell BK173.out 1).trans rfl;have hfz7_0:=blk_frozen BK173.out 0;have hfz7_1:=blk_frozen BK173.out 1)|((with_reducible refine gate_callee (f:=11) rfl ?_);refine goesL_ (some 7) rfl rfl Try.func11 (by kernel_rfl) rfl #[.agg #[.int .i64 a0_0,.slice A0_1 l0_1.length c0_1]] rfl tl ?_;(with_reducible refine(impl_IsPattern.calls k a0_0 _ _ l0_1 true _ ?side1 ?side2 A2.out).mono ?_);(case side1=>exact cup (Kd.C_below HR0_1.out HB.out));(case side2=>exact HC0_1.out);rintro e w8 ⟨rfl,hb⟩;refine⟨_,rfl,?_⟩;have n0_:=am (blk_below (bup BK173.out) hb);have n1_:=am (below_step bl hb);clear BK173 HB;have BK173:=n0_;have HB:=n1_;clear n0_ n1_;(try clear hb);(try clear hb2);(try clear hk);(try clear hi);have hcz9_0:w8.cell? ⟨gb173,0,none⟩=some (.int .i64 a0_0):=(blk_cell BK173.out 0).trans rfl;have hcz9_1:w8.cell? ⟨gb173,1,none⟩=some (.slice A0_1 l0_1.length c0_1):=(blk_cell BK173.out 1).trans rfl;have hfz9_0:=blk_frozen BK173.out 0;have hfz9_1:=blk_frozen BK173.out 1)|((with_reducible refine gate_dst (N:=11) rfl ?_);refine Kd.R_make (Kd.int .u8) _ 5 rfl (N:=11) rfl 22 _ _ rfl a0_0 rfl rfl Try.underlying22 (.int .u8 0) 1 info5 rfl (by decide) (by omega) 0 (ok:=fun _=>True) (okp:=fun _=>True) rfl (fun _ hk=>hk) trivial (od) (Nat.le_trans (Nat.mul_le_mul_right _ (od:a0_0.toNat≤281474976710656)) (by omega)) (Below.refl _ _) (Nat.le_refl _) ?_;intro v176 w10 ho11 hb hg_ hnew_;clear hg_ hnew_;(first|rw[← Ny175.out] at ho11|(simp only[Int.reduceToNat] at ho11;rw[← Ny175.out] at ho11));have n0_:=am (Kd.R_lower ho11 (below_size bl));have n1_:=am (blk_below (bup BK173.out) hb);have n2_:=am (below_step bl hb);clear BK173 HB;have HO177:=n0_;have BK173:=n1_;have HB:=n2_;clear n0_ n1_ n2_ hb ho11;obtain⟨Ao12,co12,eo12⟩:=Kd.R_slice HO177.out;subst eo12))
    go_loopg [14] k (fun kq v14 w'=>∃(x4_1:List Int) (x14_1:Int),v14 = .int .i64 x14_1∧Aside0 (impl_PatternText.l0 kq x4_1 (y175.length:Int) x14_1 a0_0 l0_1=some (r1,r2))∧Aside0 (kq≤k)∧Aside0 (Kd.R (Kd.int .u8) 5 w' w.heap.size (fun _=>True) (.slice Ao12 y175.length co12) x4_1)∧Aside0 (w'.heap[gb173]?=some (.cells #[.int .i64 a0_0,(.slice A0_1 l0_1.length c0_1)] 26 (0,0)))∧Aside0 (Below w.heap.size w w'))
    case atStart=>exact⟨(y175),(0),fin2,H',⟨Nat.le_refl _⟩,⟨rup HO177.out⟩,⟨bup BK173.out⟩,⟨bl⟩⟩
    case round =>
     clear H'
     try clear c1
     try clear p2
     try clear c3
     try clear c4
     try clear c4b0
     try clear c4b1
     try clear c5
     try clear c5b0
     try clear c5b1
     try clear c6
     try clear c11
     try clear hcz7_0
     try clear hcz7_1
     try clear hcz9_0
     try clear hcz9_1
     try clear hfz7_0
     try clear hfz7_1
     try clear hfz9_0
     try clear hfz9_1
     obtain⟨x4_1,x14_1,rfl,HA,HK1,HO_4,BK173,HB⟩:=hrel
     have hl4_1:=(Kd.R_reads' HO_4.out).1
     rw[hl4_1] at HO_4
     (try simp only[hl4_1])
     (try simp only[hl4_1] at BK173)
     cases gk with
     | zero=>exact absurd HA.out (by simp [impl_PatternText.l0])
     | succ k1 =>
      have H:=HA.out
      clear HA
      simp only[impl_PatternText.l0] at H
      by_cases c13:x14_1<(y175.length:Int)
      ·rw[if_pos c13] at H
       have c13b0:decide (x14_1<(y175.length:Int))=true:=decide_eq_true c13
       clear c13
       by_cases c14:0≤x14_1
       ·rw[if_pos c14] at H
        have c14b0:decide (0≤x14_1)=true:=decide_eq_true c14
        clear c14
        by_cases c15:x14_1<(x4_1.length:Int)
        ·rw[if_pos c15] at H
         have c15b0:decide (x14_1<(x4_1.length:Int))=true:=decide_eq_true c15
         clear c15
         obtain⟨y178,hy178⟩:∃ y_:List Int,y_=(x4_1.set (x14_1:Int).toNat 46):=⟨_,rfl⟩
         replace H:((impl_beatsAt.f k1 a0_0 l0_1 x14_1).bind fun t179=>(if t179=true then(impl_PatternText.l0 k1 (y178.set (x14_1:Int).toNat 120) (y175.length:Int) (wrap64 (x14_1+1)) a0_0 l0_1) else(impl_PatternText.l0 k1 y178 (y175.length:Int) (wrap64 (x14_1+1)) a0_0 l0_1)))=some (r1,r2):=by first|(rw[hy178];with_reducible exact H)|(have H2_:=(Option.bind_some _ _).symm.trans H;rw[hy178];with_reducible exact H2_)|(have H2_:=(Option.bind_some _ _).symm.trans H;with_reducible exact H2_)|with_reducible exact H|(rw[hy178];exact H)|exact H
         have Ny178:=am hy178
         clear hy178
         replace H:=Option.bind_eq_some_iff.mp H
         obtain⟨t179,A170,H⟩:=H
         replace H:(if t179=true then(impl_PatternText.l0 k1 (y178.set (x14_1:Int).toNat 120) (y175.length:Int) (wrap64 (x14_1+1)) a0_0 l0_1) else(impl_PatternText.l0 k1 y178 (y175.length:Int) (wrap64 (x14_1+1)) a0_0 l0_1))=some (r1,r2):=H
         have A17:=am A170
         clear A170
         by_cases c18:t179=true
         ·subst c18
          have H1:(impl_PatternText.l0 k1 (y178.set (x14_1:Int).toNat 120) (y175.length:Int) (wrap64 (x14_1+1)) a0_0 l0_1)=some (r1,r2):=by rw[if_pos rfl] at H;exact H
          clear H
          have H:=H1
          clear H1
          obtain⟨y180,hy180⟩:∃ y_:List Int,y_=(y178.set (x14_1:Int).toNat 120):=⟨_,rfl⟩
          replace H:(impl_PatternText.l0 k1 y180 (y175.length:Int) (wrap64 (x14_1+1)) a0_0 l0_1)=some (r1,r2):=by first|(rw[hy180];with_reducible exact H)|(have H2_:=(Option.bind_some _ _).symm.trans H;rw[hy180];with_reducible exact H2_)|(have H2_:=(Option.bind_some _ _).symm.trans H;with_reducible exact H2_)|with_reducible exact H|(rw[hy180];exact H)|exact H
          have Ny180:=am hy180
          clear hy180
          have H':=am H
          clear H
          have p16:0≤(x14_1:Int):=od
          have q16:(x14_1:Int)<((x4_1.length:Int):Int):=od
          obtain⟨go16,co16,eo16,gb16,gl16,cl16,HG16⟩:=Kd.R_form HO_4.out (by omega)
          (first|cases eo16|(injection eo16 with ea_ en_ ec_;(first|subst ea_|(injection ea_ with ea_;subst ea_));subst ec_;clear en_))
          have GB16:=am gb16
          have GG16:=am HG16
          clear gb16 gl16 HG16
          obtain⟨hx16_0,hf16_0⟩:=Kd.R_celln 0 HO_4.out (x14_1:Int) p16 q16
          replace p16:=eq_true p16
          replace q16:=eq_true q16
          have HP20:=Kd.R_putg HO_4.out (x14_1:Int) 46
          go_wp2_with (first|((with_reducible refine gate_store (t:=5) (p:=19) rfl ?_);refine store_event (t:=5) (p:=19) (v:=?vo_w21) (w1:=(wr.setCell ⟨go16,(x14_1:Int).toNat,none⟩ (.int .u8 46))) ?hg ?ho ?hn ?hr ?_;(case ho=>rfl);(case hg=>rfl);(case hn=>rfl);(case hr=>first|(go_simp;done)|(go_simp;rfl));intro w21 hw;have hg:wr.grownBy w21 (some go16):=(by rw[hw];exact HP20.2);have hp_:Kd.R (Kd.int .u8) 5 w21 w.heap.size (fun _=>True) (.slice (some ⟨go16,0,none⟩) x4_1.length co12) y178:=(by rw[hw,Ny178.out];exact HP20.1);clear HP20;have n0_:=am (hp_);have n1_:=am (blk_grown (bup BK173.out) hg (Kd.R_ne HO_4.out BK173.out (by decide)));have n2_:=am ((by rw[hw];exact below_set (HB.out) GB16.out:Below w.heap.size w w21));clear HO_4 BK173 HB;have HO_4:=n0_;have BK173:=n1_;have HB:=n2_;clear n0_ n1_ n2_ hg hw hp_;have hcz22_0:w21.cell? ⟨gb173,0,none⟩=some (.int .i64 a0_0):=(blk_cell BK173.out 0).trans rfl;have hcz22_1:w21.cell? ⟨gb173,1,none⟩=some (.slice A0_1 l0_1.length c0_1):=(blk_cell BK173.out 1).trans rfl;have hfz22_0:=blk_frozen BK173.out 0;have hfz22_1:=blk_frozen BK173.out 1)|((with_reducible refine gate_callee (f:=25) rfl ?_);refine goesL_ (some 22) rfl rfl Try.func25 (by kernel_rfl) rfl #[.agg #[.int .i64 a0_0,.slice A0_1 l0_1.length c0_1],.int .i64 x14_1] rfl tl ?_;(with_reducible refine(impl_beatsAt.calls k1 a0_0 _ _ l0_1 x14_1 true _ ?side1 ?side2 A17.out).mono ?_);(case side1=>exact cup (Kd.C_below HR0_1.out HB.out));(case side2=>exact HC0_1.out);rintro e w23 ⟨rfl,hb⟩;refine⟨_,rfl,?_⟩;have n0_:=am (Kd.R_below (rup HO_4.out) hb);have n1_:=am (blk_below (bup BK173.out) hb);have n2_:=am (below_step bl hb);clear HO_4 BK173 HB;have HO_4:=n0_;have BK173:=n1_;have HB:=n2_;clear n0_ n1_ n2_;(try clear hb);(try clear hb2);(try clear hk);(try clear hi);have p19:0≤(x14_1:Int):=od;have q19:(x14_1:Int)<((x4_1.length:Int):Int):=od;obtain⟨hx19_0,hf19_0⟩:=Kd.R_celln 0 HO_4.out (x14_1:Int) p19 q19;replace p19:=eq_true p19;replace q19:=eq_true q19;obtain⟨hy24_,hz24_⟩:=Kd.R_celln 0 HO_4.out (x14_1:Int) (od) (od);have HP24:=Kd.R_putg HO_4.out (x14_1:Int) 120)|((with_reducible refine gate_store (t:=5) (p:=25) rfl ?_);refine store_event (t:=5) (p:=25) (v:=?vo_w25) (w1:=(w23.setCell ⟨go16,(x14_1:Int).toNat,none⟩ (.int .u8 120))) ?hg ?ho ?hn ?hr ?_;(case ho=>rfl);(case hg=>rfl);(case hn=>rfl);(case hr=>first|(go_simp;done)|(go_simp;rfl));intro w25 hw;have hg:w23.grownBy w25 (some go16):=(by rw[hw];exact HP24.2);have hp_:Kd.R (Kd.int .u8) 5 w25 w.heap.size (fun _=>True) (.slice (some ⟨go16,0,none⟩) x4_1.length co12) y180:=(by rw[hw,Ny180.out];exact HP24.1);clear HP24;have n0_:=am (hp_);have n1_:=am (blk_grown (bup BK173.out) hg (Kd.R_ne HO_4.out BK173.out (by decide)));have n2_:=am ((by rw[hw];exact below_set (HB.out) GB16.out:Below w.heap.size w w25));clear HO_4 BK173 HB;have HO_4:=n0_;have BK173:=n1_;have HB:=n2_;clear n0_ n1_ n2_ hg hw hp_))
          (try simp only[← hl4_1])
          go_roundg k1
          case measure=>have:=HK1.out;omega
          case rel=>exact⟨(y180),(wrap64 (x14_1+1)),fin2,H',⟨by have:=HK1.out;omega⟩,⟨by(try simp only[hl4_1]);(with_reducible repeat(first|apply Kd.R_alloc|apply Kd.R_drewN|apply Kd.R_drew));exact HO_4.out⟩,⟨by(try simp only[hl4_1]);exact bup BK173.out⟩,⟨bl⟩⟩
         ·replace c18:=Bool.eq_false_iff.mpr c18
          subst c18
          have H1:(impl_PatternText.l0 k1 y178 (y175.length:Int) (wrap64 (x14_1+1)) a0_0 l0_1)=some (r1,r2):=by rw[if_neg (show ¬ (false=true) by decide)] at H;exact H
          clear H
          have H:=H1
          clear H1
          have H':=am H
          clear H
          have p16:0≤(x14_1:Int):=od
          have q16:(x14_1:Int)<((x4_1.length:Int):Int):=od
          obtain⟨go16,co16,eo16,gb16,gl16,cl16,HG16⟩:=Kd.R_form HO_4.out (by omega)
          (first|cases eo16|(injection eo16 with ea_ en_ ec_;(first|subst ea_|(injection ea_ with ea_;subst ea_));subst ec_;clear en_))
          have GB16:=am gb16
          have GG16:=am HG16
          clear gb16 gl16 HG16
          obtain⟨hx16_0,hf16_0⟩:=Kd.R_celln 0 HO_4.out (x14_1:Int) p16 q16
          replace p16:=eq_true p16
          replace q16:=eq_true q16
          have HP26:=Kd.R_putg HO_4.out (x14_1:Int) 46
          go_wp2_with (first|((with_reducible refine gate_store (t:=5) (p:=19) rfl ?_);refine store_event (t:=5) (p:=19) (v:=?vo_w27) (w1:=(wr.setCell ⟨go16,(x14_1:Int).toNat,none⟩ (.int .u8 46))) ?hg ?ho ?hn ?hr ?_;(case ho=>rfl);(case hg=>rfl);(case hn=>rfl);(case hr=>first|(go_simp;done)|(go_simp;rfl));intro w27 hw;have hg:wr.grownBy w27 (some go16):=(by rw[hw];exact HP26.2);have hp_:Kd.R (Kd.int .u8) 5 w27 w.heap.size (fun _=>True) (.slice (some ⟨go16,0,none⟩) x4_1.length co12) y178:=(by rw[hw,Ny178.out];exact HP26.1);clear HP26;have n0_:=am (hp_);have n1_:=am (blk_grown (bup BK173.out) hg (Kd.R_ne HO_4.out BK173.out (by decide)));have n2_:=am ((by rw[hw];exact below_set (HB.out) GB16.out:Below w.heap.size w w27));clear HO_4 BK173 HB;have HO_4:=n0_;have BK173:=n1_;have HB:=n2_;clear n0_ n1_ n2_ hg hw hp_;have hcz28_0:w27.cell? ⟨gb173,0,none⟩=some (.int .i64 a0_0):=(blk_cell BK173.out 0).trans rfl;have hcz28_1:w27.cell? ⟨gb173,1,none⟩=some (.slice A0_1 l0_1.length c0_1):=(blk_cell BK173.out 1).trans rfl;have hfz28_0:=blk_frozen BK173.out 0;have hfz28_1:=blk_frozen BK173.out 1)|((with_reducible refine gate_callee (f:=25) rfl ?_);refine goesL_ (some 22) rfl rfl Try.func25 (by kernel_rfl) rfl #[.agg #[.int .i64 a0_0,.slice A0_1 l0_1.length c0_1],.int .i64 x14_1] rfl tl ?_;(with_reducible refine(impl_beatsAt.calls k1 a0_0 _ _ l0_1 x14_1 false _ ?side1 ?side2 A17.out).mono ?_);(case side1=>exact cup (Kd.C_below HR0_1.out HB.out));(case side2=>exact HC0_1.out);rintro e w29 ⟨rfl,hb⟩;refine⟨_,rfl,?_⟩;have n0_:=am (Kd.R_below (rup HO_4.out) hb);have n1_:=am (blk_below (bup BK173.out) hb);have n2_:=am (below_step bl hb);clear HO_4 BK173 HB;have HO_4:=n0_;have BK173:=n1_;have HB:=n2_;clear n0_ n1_ n2_;(try clear hb);(try clear hb2);(try clear hk);(try clear hi)))
          (try simp only[← hl4_1])
          go_roundg k1
          case measure=>have:=HK1.out;omega
          case rel=>exact⟨(y178),(wrap64 (x14_1+1)),fin2,H',⟨by have:=HK1.out;omega⟩,⟨by(try simp only[hl4_1]);(with_reducible repeat(first|apply Kd.R_alloc|apply Kd.R_drewN|apply Kd.R_drew));exact HO_4.out⟩,⟨by(try simp only[hl4_1]);exact bup BK173.out⟩,⟨bl⟩⟩
        ·rw[if_neg c15] at H
         exact absurd H (by simp)
       ·rw[if_neg c14] at H
        exact absurd H (by simp)
      ·rw[if_neg c13] at H
       have c13b0:decide (x14_1<(y175.length:Int))=false:=decide_eq_false c13
       clear c13
       simp only[Option.some.injEq,Prod.mk.injEq] at H
       obtain⟨rfl,rfl⟩:=H
       (try rw[hl4_1] at c13b0)
       have hcv30:=own_string (P:=Try.prog) Try.underlying22 Try.underlying5 Try.underlying9 (Kd.own_of_R HO_4.out)
       go_wp2
       go_ret2
       exact⟨fin1,bl⟩
   ·rw[if_neg c5] at H
    exact absurd H (by simp)
  ·rw[if_neg c4] at H
   exact absurd H (by simp)
 ·replace c3:=Bool.eq_false_iff.mpr c3
  subst c3
  have H1:(some ((⟨#[]⟩:ByteArray),false))=some (r1,r2):=by rw[if_neg (show ¬ (false=true) by decide)] at H;exact H
  clear H
  have H:=H1
  clear H1
  simp only[Option.some.injEq,Prod.mk.injEq] at H
  obtain⟨rfl,rfl⟩:=H
  go_enter Try.func6,Try.ntmps6
  go_wp2_with (first|((with_reducible refine gate_dst (N:=1) rfl ?_);refine box_event ?hg (N:=1) ?hd (cs := #[.int .i64 a0_0,.slice A0_1 l0_1.length c0_1]) (t:=26) ?hr ?_;(case hd=>rfl);(case hg=>rfl);(case hr=>first|(go_simp;done)|(go_simp;rfl));intro gb173 hg w31 hbox hb;have n0_:=am (below_step bl hb);have n1_:=am (hbox);have n2_:=am (ge_ bl hg);have n3_:=am (ge_ bl hg);clear HB;have HB:=n0_;have BK173:=n1_;have GW173:=n2_;have GE173:=n3_;clear n0_ n1_ n2_ n3_ hb hbox hg;have hcz32_0:w31.cell? ⟨gb173,0,none⟩=some (.int .i64 a0_0):=(blk_cell BK173.out 0).trans rfl;have hcz32_1:w31.cell? ⟨gb173,1,none⟩=some (.slice A0_1 l0_1.length c0_1):=(blk_cell BK173.out 1).trans rfl;have hfz32_0:=blk_frozen BK173.out 0;have hfz32_1:=blk_frozen BK173.out 1)|((with_reducible refine gate_callee (f:=11) rfl ?_);refine goesL_ (some 7) rfl rfl Try.func11 (by kernel_rfl) rfl #[.agg #[.int .i64 a0_0,.slice A0_1 l0_1.length c0_1]] rfl tl ?_;(with_reducible refine(impl_IsPattern.calls k a0_0 _ _ l0_1 false _ ?side1 ?side2 A2.out).mono ?_);(case side1=>exact cup (Kd.C_below HR0_1.out HB.out));(case side2=>exact HC0_1.out);rintro e w33 ⟨rfl,hb⟩;refine⟨_,rfl,?_⟩;have n0_:=am (blk_below (bup BK173.out) hb);have n1_:=am (below_step bl hb);clear BK173 HB;have BK173:=n0_;have HB:=n1_;clear n0_ n1_;(try clear hb);(try clear hb2);(try clear hk);(try clear hi)))
  go_ret2
  exact⟨fin1,bl⟩

/-! ### spec_l1In: function 34 -/
def spec_l1In.f (a0:Int) (a1:Int) (a2:Int):Option (Bool):=if a0≥a1 then(some (decide (a0≤a2))) else(some false)
set_option maxHeartbeats 8000000 in
set_option maxRecDepth 100000 in
theorem spec_l1In.calls (a0:Int) (a1:Int) (a2:Int) (r:Bool) (w:World) (h:spec_l1In.f a0 a1 a2=some r) :
  Calls Try.prog 34 #[.int .i64 a0,.int .i64 a1,.int .i64 a2] w fun e w'=>e = .returned (.bool r)∧Drawn0 w w':=by
 have H:(if a0≥a1 then(some (decide (a0≤a2))) else(some false))=some r:=h
 clear h
 by_cases c4:a0≥a1
 ·rw[if_pos c4] at H
  have c4b0:decide (a1≤a0)=true:=decide_eq_true c4
  clear c4
  obtain rfl:=Option.some.inj H
  go_enter Try.func34,Try.ntmps34
  go_wp2
  go_ret
  exact⟨by first|rfl|(simp;done)|(simp [*];done),by repeat(first|exact Drawn0.refl _|apply Drawn0.step)⟩
 ·rw[if_neg c4] at H
  have c4b0:decide (a1≤a0)=false:=decide_eq_false c4
  clear c4
  obtain rfl:=Option.some.inj H
  go_enter Try.func34,Try.ntmps34
  go_wp2
  go_ret
  exact⟨by first|rfl|(simp;done)|(simp [*];done),by repeat(first|exact Drawn0.refl _|apply Drawn0.step)⟩

end Go.Proofs.Ytlhjjpdlfddflab.PFnPatterns
