/- The walks of functions that FnDrums reaches: what they return is what the plain functions of the same names say. Made by a program of this session after the kit's print. No conditions beyond the arguments' being read. -/
import Derived.Test.YtlhjjpdlfddflacSFnDrums0
namespace Go.Proofs.Ytlhjjpdlfddflac.PFnDrums
open Go.RowKit Go.Proofs.YtlhjjpdlfddflacW.PrintWords Go.Proofs.YtlhjjpdlfddflacW.PrintLast Go.Proofs.YtlhjjpdlfddflacW.PrintMore
attribute [local go_sem] max2_int min2_int max_two min_two max_three min_three max_four min_four   -- for this text's walks alone
set_option linter.unusedVariables false
set_option linter.unusedSimpArgs false

/-! ### impl_IsPattern: function 22 -/
mutual
def impl_IsPattern.j0:Nat→Bool→Int→List Int→Option (Bool)
 | 0,_,_,_=>none
 | k+1,x12,x174000,x174001=>if x12=true then(some false) else(impl_IsPattern.l0 k x174001 (x174001.length:Int) 0 x174000 x174001)
def impl_IsPattern.l0:Nat→List Int→Int→Int→Int→List Int→Option (Bool)
 | 0,_,_,_,_,_=>none
 | k+1,x14,x15,x16,x174000,x174001=>if x16<x15 then(if 0≤x16 then(if x16<(x14.length:Int) then(if(rd x14 x16)<0 then(some false) else(if(rd x14 x16)≥x174000 then(some false) else(if x16>0 then(if 0≤(wrap64 (x16 - 1)) then(if(wrap64 (x16 - 1))<(x174001.length:Int) then(if(rd x14 x16)≤(rd x174001 (wrap64 (x16 - 1))) then(some false) else(impl_IsPattern.l0 k x14 x15 (wrap64 (x16+1)) x174000 x174001)) else(none)) else(none)) else(impl_IsPattern.l0 k x14 x15 (wrap64 (x16+1)) x174000 x174001)))) else(none)) else(none)) else(some true)
end
def impl_IsPattern.f (k:Nat) (a0_0:Int) (l0_1:List Int):Option (Bool):=if a0_0<1 then(impl_IsPattern.j0 k true a0_0 l0_1) else(impl_IsPattern.j0 k (decide (a0_0>24)) a0_0 l0_1)
set_option maxHeartbeats 8000000 in
set_option maxRecDepth 100000 in
theorem impl_IsPattern.calls (k:Nat) (a0_0:Int) (A0_1:Option Addr) (c0_1:Nat) (l0_1:List Int) (r:Bool) (w:World) (hr0_1:Kd.C (Kd.int .i64) w A0_1 l0_1.length l0_1) (hc0_1:l0_1.length≤c0_1) (h:impl_IsPattern.f k a0_0 l0_1=some r) :
  Calls Try.prog 22 #[.agg #[.int .i64 a0_0,.slice A0_1 l0_1.length c0_1]] w fun e w'=>e = .returned (.bool r)∧Below w.heap.size w w':=by
 have hu26:=Try.underlying26
 have HR0_1:=am hr0_1
 have HC0_1:=am hc0_1
 clear hr0_1 hc0_1
 have HB:=am (Below.refl w.heap.size w)
 have H:(if a0_0<1 then(impl_IsPattern.j0 k true a0_0 l0_1) else(impl_IsPattern.j0 k (decide (a0_0>24)) a0_0 l0_1))=some r:=h
 clear h
 have HC2:=am H
 clear H
 go_enter Try.func22,Try.ntmps22
 go_upto_region 1 with(first|((with_reducible refine gate_dst (N:=1) rfl ?_);refine box_event ?hg (N:=1) ?hd (cs := #[.int .i64 a0_0,.slice A0_1 l0_1.length c0_1]) (t:=26) ?hr ?_;(case hd=>rfl);(case hg=>rfl);(case hr=>first|(go_simp;done)|(go_simp;rfl));intro gb173 hg w3 hbox hb;have n0_:=am (below_step bl hb);have n1_:=am (hbox);have n2_:=am (ge_ bl hg);have n3_:=am (ge_ bl hg);clear HB;have HB:=n0_;have BK173:=n1_;have GW173:=n2_;have GE173:=n3_;clear n0_ n1_ n2_ n3_ hb hbox hg))
 (try simp only[Act.put,List.setIfInBounds_toArray,List.set_cons_zero,List.set_cons_succ])
 go_cut [12] (fun v12 wc=>∃(kq:Nat) (x12_1:Bool),v12 = .bool x12_1∧Aside0 (impl_IsPattern.j0 kq x12_1 a0_0 l0_1=some r)∧Aside0 (kq≤k)∧Aside0 (wc.heap[gb173]?=some (.cells #[.int .i64 a0_0,(.slice A0_1 l0_1.length c0_1)] 26 (0,0)))∧Aside0 (Below w.heap.size w wc))
 case first =>
  have H:=HC2.out
  clear HC2
  by_cases c4:a0_0<1
  ·rw[if_pos c4] at H
   have c4b0:decide (a0_0<1)=true:=decide_eq_true c4
   clear c4
   (first|rw[c4b0]|(simp only[i64_w,i32_w];rw[c4b0])|skip)
   have H':=am H
   clear H
   have hcz5_0:w3.cell? ⟨gb173,0,none⟩=some (.int .i64 a0_0):=(blk_cell BK173.out 0).trans rfl
   have hcz5_1:w3.cell? ⟨gb173,1,none⟩=some (.slice A0_1 l0_1.length c0_1):=(blk_cell BK173.out 1).trans rfl
   have hfz5_0:=blk_frozen BK173.out 0
   have hfz5_1:=blk_frozen BK173.out 1
   go_wp2
   go_meet
   case rel=>exact⟨_,(true),fin2,H',⟨by first|omega|exact Nat.le_refl _⟩,⟨bup BK173.out⟩,⟨bl⟩⟩
  ·rw[if_neg c4] at H
   have c4b0:decide (a0_0<1)=false:=decide_eq_false c4
   clear c4
   (first|rw[c4b0]|(simp only[i64_w,i32_w];rw[c4b0])|skip)
   have H':=am H
   clear H
   have hcz6_0:w3.cell? ⟨gb173,0,none⟩=some (.int .i64 a0_0):=(blk_cell BK173.out 0).trans rfl
   have hcz6_1:w3.cell? ⟨gb173,1,none⟩=some (.slice A0_1 l0_1.length c0_1):=(blk_cell BK173.out 1).trans rfl
   have hfz6_0:=blk_frozen BK173.out 0
   have hfz6_1:=blk_frozen BK173.out 1
   go_wp2
   go_meet
   case rel=>exact⟨_,(decide (a0_0>24)),fin2,H',⟨by first|omega|exact Nat.le_refl _⟩,⟨bup BK173.out⟩,⟨bl⟩⟩
 case rest =>
  clear HC2
  try clear c2
  try clear p2
  try clear c4
  try clear c4b0
  try clear hcz5_0
  try clear hcz5_1
  try clear hcz6_0
  try clear hcz6_1
  try clear hfz5_0
  try clear hfz5_1
  try clear hfz6_0
  try clear hfz6_1
  obtain⟨kq,x12_1,rfl,HA,HJ1,BK173,HB⟩:=hcut
  cases kq with
  | zero=>exact absurd HA.out (by simp [impl_IsPattern.j0])
  | succ kj1 =>
   have H:=HA.out
   clear HA
   simp only[impl_IsPattern.j0] at H
   by_cases c7:x12_1=true
   ·subst c7
    have H1:(some false)=some r:=by rw[if_pos rfl] at H;exact H
    clear H
    have H:=H1
    clear H1
    obtain rfl:=Option.some.inj H
    go_wp2
    go_ret
    exact⟨fin1,bl⟩
   ·replace c7:=Bool.eq_false_iff.mpr c7
    subst c7
    have H1:(impl_IsPattern.l0 kj1 l0_1 (l0_1.length:Int) 0 a0_0 l0_1)=some r:=by rw[if_neg (show ¬ (false=true) by decide)] at H;exact H
    clear H
    have H:=H1
    clear H1
    have H':=am H
    clear H
    have hcz8_0:wc.cell? ⟨gb173,0,none⟩=some (.int .i64 a0_0):=(blk_cell BK173.out 0).trans rfl
    have hcz8_1:wc.cell? ⟨gb173,1,none⟩=some (.slice A0_1 l0_1.length c0_1):=(blk_cell BK173.out 1).trans rfl
    have hfz8_0:=blk_frozen BK173.out 0
    have hfz8_1:=blk_frozen BK173.out 1
    go_wp2
    go_loopg [16] kj1 (fun kq v16 w'=>∃(x16_2:Int),v16 = .int .i64 x16_2∧Aside0 (impl_IsPattern.l0 kq l0_1 (l0_1.length:Int) x16_2 a0_0 l0_1=some r)∧Aside0 (kq≤kj1)∧Aside0 (w'.heap[gb173]?=some (.cells #[.int .i64 a0_0,(.slice A0_1 l0_1.length c0_1)] 26 (0,0)))∧Aside0 (Below w.heap.size w w'))
    case atStart=>exact⟨(0),fin2,H',⟨Nat.le_refl _⟩,⟨bup BK173.out⟩,⟨bl⟩⟩
    case round =>
     clear H'
     try clear c2
     try clear p2
     try clear c4
     try clear c4b0
     try clear c7
     try clear hcz5_0
     try clear hcz5_1
     try clear hcz6_0
     try clear hcz6_1
     try clear hcz8_0
     try clear hcz8_1
     try clear hfz5_0
     try clear hfz5_1
     try clear hfz6_0
     try clear hfz6_1
     try clear hfz8_0
     try clear hfz8_1
     try clear p2
     obtain⟨x16_2,rfl,HA,HK2,BK173,HB⟩:=hrel
     cases gk with
     | zero=>exact absurd HA.out (by simp [impl_IsPattern.l0])
     | succ k2 =>
      have H:=HA.out
      clear HA
      simp only[impl_IsPattern.l0] at H
      by_cases c9:x16_2<(l0_1.length:Int)
      ·rw[if_pos c9] at H
       have c9b0:decide (x16_2<(l0_1.length:Int))=true:=decide_eq_true c9
       clear c9
       by_cases c10:0≤x16_2
       ·rw[if_pos c10] at H
        have c10b0:decide (0≤x16_2)=true:=decide_eq_true c10
        clear c10
        by_cases c11:x16_2<(l0_1.length:Int)
        ·rw[if_pos c11] at H
         have c11b0:decide (x16_2<(l0_1.length:Int))=true:=decide_eq_true c11
         clear c11
         by_cases c12:(rd l0_1 x16_2)<0
         ·rw[if_pos c12] at H
          have c12b0:decide ((rd l0_1 x16_2)<0)=true:=decide_eq_true c12
          clear c12
          obtain rfl:=Option.some.inj H
          have p174:0≤(x16_2:Int):=od
          have q174:x16_2<(l0_1.length:Int):=od
          obtain⟨ad174,e174,hx174_0⟩:=Kd.at_int HR0_1.out x16_2 p174 q174
          cases e174
          replace hx174_0:=(HB.out.cell (World.block_lt_of_cell? w _ hx174_0)).trans hx174_0
          replace p174:=eq_true p174
          replace q174:=eq_true q174
          go_wp2
          go_ret
          exact⟨fin1,bl⟩
         ·rw[if_neg c12] at H
          have c12b0:decide ((rd l0_1 x16_2)<0)=false:=decide_eq_false c12
          clear c12
          by_cases c13:(rd l0_1 x16_2)≥a0_0
          ·rw[if_pos c13] at H
           have c13b0:decide (a0_0≤(rd l0_1 x16_2))=true:=decide_eq_true c13
           clear c13
           obtain rfl:=Option.some.inj H
           have p174:0≤(x16_2:Int):=od
           have q174:x16_2<(l0_1.length:Int):=od
           obtain⟨ad174,e174,hx174_0⟩:=Kd.at_int HR0_1.out x16_2 p174 q174
           cases e174
           replace hx174_0:=(HB.out.cell (World.block_lt_of_cell? w _ hx174_0)).trans hx174_0
           replace p174:=eq_true p174
           replace q174:=eq_true q174
           have hcz14_0:wr.cell? ⟨gb173,0,none⟩=some (.int .i64 a0_0):=(blk_cell BK173.out 0).trans rfl
           have hcz14_1:wr.cell? ⟨gb173,1,none⟩=some (.slice (some ad174) l0_1.length c0_1):=(blk_cell BK173.out 1).trans rfl
           have hfz14_0:=blk_frozen BK173.out 0
           have hfz14_1:=blk_frozen BK173.out 1
           go_wp2
           go_ret
           exact⟨fin1,bl⟩
          ·rw[if_neg c13] at H
           have c13b0:decide (a0_0≤(rd l0_1 x16_2))=false:=decide_eq_false c13
           clear c13
           by_cases c15:x16_2>0
           ·rw[if_pos c15] at H
            have c15b0:decide (0<x16_2)=true:=decide_eq_true c15
            clear c15
            obtain⟨ji16,hji16⟩:∃ j_:Int,(wrap64 (x16_2 - 1))=j_:=⟨_,rfl⟩
            replace H:(if 0≤(ji16) then(if(ji16)<(l0_1.length:Int) then(if(rd l0_1 x16_2)≤(rd l0_1 (ji16)) then(some false) else(impl_IsPattern.l0 k2 l0_1 (l0_1.length:Int) (wrap64 (x16_2+1)) a0_0 l0_1)) else(none)) else(none))=some r:=by first|(rw[hji16] at H;exact H)|(simp only[hji16] at H ⊢;exact H)
            have hji16w:(IntKind.i64.wrap (x16_2 - 1))=ji16:=(i64_w _).trans hji16
            by_cases c17:0≤(ji16)
            ·rw[if_pos c17] at H
             have c17b0:decide (0≤(ji16))=true:=decide_eq_true c17
             clear c17
             by_cases c18:(ji16)<(l0_1.length:Int)
             ·rw[if_pos c18] at H
              have c18b0:decide ((ji16)<(l0_1.length:Int))=true:=decide_eq_true c18
              clear c18
              by_cases c19:(rd l0_1 x16_2)≤(rd l0_1 (ji16))
              ·rw[if_pos c19] at H
               have c19b0:decide ((rd l0_1 x16_2)≤(rd l0_1 (ji16)))=true:=decide_eq_true c19
               clear c19
               obtain rfl:=Option.some.inj H
               have p174:0≤(x16_2:Int):=od
               have q174:x16_2<(l0_1.length:Int):=od
               obtain⟨ad174,e174,hx174_0⟩:=Kd.at_int HR0_1.out x16_2 p174 q174
               cases e174
               replace hx174_0:=(HB.out.cell (World.block_lt_of_cell? w _ hx174_0)).trans hx174_0
               replace p174:=eq_true p174
               replace q174:=eq_true q174
               have hcz20_0:wr.cell? ⟨gb173,0,none⟩=some (.int .i64 a0_0):=(blk_cell BK173.out 0).trans rfl
               have hcz20_1:wr.cell? ⟨gb173,1,none⟩=some (.slice (some ad174) l0_1.length c0_1):=(blk_cell BK173.out 1).trans rfl
               have hfz20_0:=blk_frozen BK173.out 0
               have hfz20_1:=blk_frozen BK173.out 1
               have p175:0≤((ji16):Int):=od
               have q175:(ji16)<(l0_1.length:Int):=od
               obtain⟨ad175,e175,hx175_0⟩:=Kd.at_int HR0_1.out (ji16) p175 q175
               obtain rfl:ad174=ad175:=(by injection e175)
               replace hx175_0:=(HB.out.cell (World.block_lt_of_cell? w _ hx175_0)).trans hx175_0
               replace p175:=eq_true p175
               replace q175:=eq_true q175
               go_wp2
               go_ret
               exact⟨by first|rfl|(simp [errW_none,errW_some]<;>rfl)|(simp only[← hji16];first|rfl|(simp [errW_none,errW_some]<;>rfl))|(simp [*,errW_none,errW_some]<;>rfl),bl⟩
              ·rw[if_neg c19] at H
               have c19b0:decide ((rd l0_1 x16_2)≤(rd l0_1 (ji16)))=false:=decide_eq_false c19
               clear c19
               have H':=am H
               clear H
               have p174:0≤(x16_2:Int):=od
               have q174:x16_2<(l0_1.length:Int):=od
               obtain⟨ad174,e174,hx174_0⟩:=Kd.at_int HR0_1.out x16_2 p174 q174
               cases e174
               replace hx174_0:=(HB.out.cell (World.block_lt_of_cell? w _ hx174_0)).trans hx174_0
               replace p174:=eq_true p174
               replace q174:=eq_true q174
               have hcz21_0:wr.cell? ⟨gb173,0,none⟩=some (.int .i64 a0_0):=(blk_cell BK173.out 0).trans rfl
               have hcz21_1:wr.cell? ⟨gb173,1,none⟩=some (.slice (some ad174) l0_1.length c0_1):=(blk_cell BK173.out 1).trans rfl
               have hfz21_0:=blk_frozen BK173.out 0
               have hfz21_1:=blk_frozen BK173.out 1
               have p175:0≤((ji16):Int):=od
               have q175:(ji16)<(l0_1.length:Int):=od
               obtain⟨ad175,e175,hx175_0⟩:=Kd.at_int HR0_1.out (ji16) p175 q175
               obtain rfl:ad174=ad175:=(by injection e175)
               replace hx175_0:=(HB.out.cell (World.block_lt_of_cell? w _ hx175_0)).trans hx175_0
               replace p175:=eq_true p175
               replace q175:=eq_true q175
               go_wp2
               go_roundg k2
               case measure=>have:=HJ1.out;have:=HK2.out;omega
               case rel=>exact⟨(wrap64 (x16_2+1)),fin2,H',⟨by have:=HJ1.out;have:=HK2.out;omega⟩,⟨bup BK173.out⟩,⟨bl⟩⟩
             ·rw[if_neg c18] at H
              exact absurd H (by simp)
            ·rw[if_neg c17] at H
             exact absurd H (by simp)
           ·rw[if_neg c15] at H
            have c15b0:decide (0<x16_2)=false:=decide_eq_false c15
            clear c15
            have H':=am H
            clear H
            have p174:0≤(x16_2:Int):=od
            have q174:x16_2<(l0_1.length:Int):=od
            obtain⟨ad174,e174,hx174_0⟩:=Kd.at_int HR0_1.out x16_2 p174 q174
            cases e174
            replace hx174_0:=(HB.out.cell (World.block_lt_of_cell? w _ hx174_0)).trans hx174_0
            replace p174:=eq_true p174
            replace q174:=eq_true q174
            have hcz22_0:wr.cell? ⟨gb173,0,none⟩=some (.int .i64 a0_0):=(blk_cell BK173.out 0).trans rfl
            have hcz22_1:wr.cell? ⟨gb173,1,none⟩=some (.slice (some ad174) l0_1.length c0_1):=(blk_cell BK173.out 1).trans rfl
            have hfz22_0:=blk_frozen BK173.out 0
            have hfz22_1:=blk_frozen BK173.out 1
            go_wp2
            go_roundg k2
            case measure=>have:=HJ1.out;have:=HK2.out;omega
            case rel=>exact⟨(wrap64 (x16_2+1)),fin2,H',⟨by have:=HJ1.out;have:=HK2.out;omega⟩,⟨bup BK173.out⟩,⟨bl⟩⟩
        ·rw[if_neg c11] at H
         exact absurd H (by simp)
       ·rw[if_neg c10] at H
        exact absurd H (by simp)
      ·rw[if_neg c9] at H
       have c9b0:decide (x16_2<(l0_1.length:Int))=false:=decide_eq_false c9
       clear c9
       obtain rfl:=Option.some.inj H
       go_wp2
       go_ret
       exact⟨fin1,bl⟩

/-! ### slices_Sort_int_int: function 37 -/
namespace slices_Sort_int_int
open Go.Shelf in
shelf_lay Lays.n189 Nm 189 at Try as layd
end slices_Sort_int_int
def slices_Sort_int_int.f (l0:List Int):Option (List Int):=if l0.length<4611686018427387904 then some (l0.mergeSort fun x y=>decide (x≤y)) else none
theorem slices_Sort_int_int.encs_ (xs:List Int):encs (Value.int .i64) xs=xs.map (Value.int .i64):=rfl
open Go.Sort in
set_option maxHeartbeats 8000000 in
set_option maxRecDepth 100000 in
theorem slices_Sort_int_int.calls (P0_:Nat→Prop) (u9000_:Value) (l0:List Int) (r:List Int) (w0 w:World) (hB:Below w0.heap.size w0 w) (ho0:Kd.R (Kd.int .i64) 3 w w0.heap.size P0_ u9000_ l0) (h:slices_Sort_int_int.f l0=some r) :
  Calls Try.prog 37 #[u9000_] w fun e w'=>e = .returned (.tuple #[])∧Kd.R (Kd.int .i64) 3 w' w0.heap.size (fun k_=>(P0_ k_∨w.heap.size≤k_)) u9000_ r∧Below w0.heap.size w0 w'∧Kept w w' (fun k_=>P0_ k_):=by
 have hlt:l0.length<4611686018427387904:=by
  by_cases c:l0.length<4611686018427387904
  ·exact c
  ·rw[slices_Sort_int_int.f,if_neg c] at h;cases h
 rw[slices_Sort_int_int.f,if_pos hlt] at h
 obtain rfl:=Option.some.inj h
 clear h
 obtain⟨hok,inner,hown,hreps⟩:=ho0
 have hin:inner=l0.map (Value.int .i64):=by
  apply List.ext_getElem?
  intro j
  have h1:inner.length=l0.length:=by rw[hreps.1];exact Nat.mul_one _
  by_cases hj:j<l0.length
  ·have h2:=hreps.2 j l0[j] (List.getElem?_eq_getElem hj)
   have h3:(inner.drop (j*1)).take 1=[Value.int .i64 l0[j]]:=h2
   rw[Nat.mul_one] at h3
   have h4:((inner.drop j).take 1)[0]?=some (Value.int .i64 l0[j]):=by rw[h3];rfl
   rw[List.getElem?_take_of_lt (by omega),List.getElem?_drop,Nat.add_zero] at h4
   rw[h4]
   simp [hj]
  ·rw[List.getElem?_eq_none (by omega),List.getElem?_eq_none (by simp;omega)]
 subst hin
 rcases hown.2 with⟨rfl,hn⟩|⟨g,cap,cur,rfl,hbase,hb,h1,h2,h3,h4⟩
 ·obtain rfl:l0=[]:=List.eq_nil_of_length_eq_zero hn
  refine(Any.slices_Sort_int_none slices_Sort_int_int.layd none 0 w).mono ?_
  rintro e w' ⟨rfl,rfl⟩
  rw[show([]:List Int).mergeSort (fun x y=>decide (x≤y))=[] from List.mergeSort_nil]
  exact⟨rfl,Kd.R_nil _ _ _ _ _,hB,Kept.refl _ _⟩
 ·have hg:g<w.heap.size:=(Array.getElem?_eq_some_iff.1 hb).1
  refine(Any.slices_Sort_int slices_Sort_int_int.layd g 0 cap l0 w (holds_of_blockI hb (by rw[← h4];exact congrArg (fun n=>List.take n cur.toList) (Nat.mul_one _).symm)) hg hlt).mono ?_
  rintro e w' ⟨rfl,n,os,rfl⟩
  have hl:(l0.mergeSort fun x y=>decide (x≤y)).length=l0.length:=List.length_mergeSort _
  have hgr:=grownBy_sortedI (n:=n) (os:=os) (w:=w) (g:=g) (l0.mergeSort fun x y=>decide (x≤y)).toArray
  have hP:P0_ g:=hok g (by simp [Value.ownBlock])
  refine⟨rfl,⟨?_,(l0.mergeSort fun x y=>decide (x≤y)).map (Value.int .i64),?_,?_⟩,?_,?_⟩
  ·intro k hk
   obtain rfl:g=k:=by simpa [Value.ownBlock] using hk
   exact .inl hP
  ·rw[hl]
   exact ownsRow_sortedI hl hbase hb h1 h2 h3
  ·refine⟨by rw[List.length_map];exact(Nat.mul_one _).symm,fun j p hp=>?_⟩
   show(((l0.mergeSort fun x y=>decide (x≤y)).map (Value.int .i64)).drop (j*1)).take 1=[Value.int .i64 p]
   rw[Nat.mul_one]
   apply List.ext_getElem?
   intro i
   by_cases hi:i<1
   ·obtain rfl:i=0:=by omega
    rw[List.getElem?_take_of_lt (by omega),List.getElem?_drop,Nat.add_zero,List.getElem?_map,hp]
    rfl
   ·rw[List.getElem?_take_eq_none (by omega),List.getElem?_eq_none (by simp;omega)]
  ·exact hB.grown hgr hB.size (fun k hk=>by cases hk;exact hbase)
  ·exact Kept.of_grown hgr (Kept.refl _ _) (fun k hk=>by cases hk;exact .inl hP)

/-! ### impl_turnPattern: function 23 -/
def impl_turnPattern.l0:Nat→Int→List Int→Int→Int→Int→List Int→Int→List Int→Option (Int×List Int)
 | 0,_,_,_,_,_,_,_,_=>none
 | k+1,x1,x12,x13,x14,x177000,x177001,x179000,x179001=>if x14<x13 then(if 0≤x14 then(if x14<(x12.length:Int) then(if x177000=0 then(none) else(if x179001.length<17592186044416 then(impl_turnPattern.l0 k x1 x12 x13 (wrap64 (x14+1)) x177000 x177001 x179000 (x179001 ++ [Int.tmod (wrap64 ((rd x12 x14)+x1)) x177000])) else(none))) else(none)) else(none)) else((slices_Sort_int_int.f x179001).bind fun t183=>(some (x179000,t183)))
def impl_turnPattern.f (k:Nat) (a0_0:Int) (l0_1:List Int) (a1:Int):Option (Int×List Int):=impl_turnPattern.l0 k a1 l0_1 (l0_1.length:Int) 0 a0_0 l0_1 a0_0 ([]:List Int)
def impl_turnPattern.T5:Bool×List (List Nat×List Nat):=(true,[([],[]),([0],[0]),([],[]),([],[]),([2,3],[2,3]),([],[]),([5],[5]),([4,6],[4,6]),([7],[7]),([1,8],[1,8]),([0,1,2,3,4,5,6,7,8,9],[]),([10,9,9,0,1,2,3,4,5,6,7,8,9],[9,10])])
def impl_turnPattern.B5:List Nat:=[0,1,0,0,12,0,32,124,252,511,1023,2047]
theorem impl_turnPattern.tab5:rtab .any (opsOf Try.f23 5)=impl_turnPattern.T5:=by kernel_rfl
theorem impl_turnPattern.bits5:waitsOk impl_turnPattern.T5.2 impl_turnPattern.B5=true:=by kernel_rfl
set_option maxHeartbeats 8000000 in
set_option maxRecDepth 100000 in
theorem impl_turnPattern.calls (k:Nat) (a0_0:Int) (A0_1:Option Addr) (c0_1:Nat) (l0_1:List Int) (a1:Int) (r1:Int) (r2:List Int) (w:World) (hr0_1:Kd.C (Kd.int .i64) w A0_1 l0_1.length l0_1) (hc0_1:l0_1.length≤c0_1) (h:impl_turnPattern.f k a0_0 l0_1 a1=some (r1,r2)) :
  Calls Try.prog 23 #[.agg #[.int .i64 a0_0,.slice A0_1 l0_1.length c0_1],.int .i64 a1] w fun e w'=>∃ v1_:Value,e = .returned (.agg #[.int .i64 r1,v1_])∧Kd.R (Kd.int .i64) 3 w' w.heap.size (fun _=>True) v1_ r2∧Below w.heap.size w w':=by
 have hu26:=Try.underlying26
 have HR0_1:=am hr0_1
 have HC0_1:=am hc0_1
 clear hr0_1 hc0_1
 have HB:=am (Below.refl w.heap.size w)
 have H:(impl_turnPattern.l0 k a1 l0_1 (l0_1.length:Int) 0 a0_0 l0_1 a0_0 ([]:List Int))=some (r1,r2):=h
 clear h
 have H':=am H
 clear H
 go_enter Try.func23,Try.ntmps23
 go_wp2_with (first|((with_reducible refine gate_dst (N:=2) rfl ?_);refine box_event ?hg (N:=2) ?hd (cs := #[.int .i64 a0_0,.slice A0_1 l0_1.length c0_1]) (t:=26) ?hr ?_;(case hd=>rfl);(case hg=>rfl);(case hr=>first|(go_simp;done)|(go_simp;rfl));intro gb176 hg w3 hbox hb;have n0_:=am (below_step bl hb);have n1_:=am (hbox);have n2_:=am (ge_ bl hg);have n3_:=am (ge_ bl hg);clear HB;have HB:=n0_;have BK176:=n1_;have GW176:=n2_;have GE176:=n3_;clear n0_ n1_ n2_ n3_ hb hbox hg)|((with_reducible refine gate_dst (N:=4) rfl ?_);refine box_event ?hg (N:=4) ?hd (cs := #[.int .i64 0,.slice none 0 0]) (t:=26) ?hr ?_;(case hd=>rfl);(case hg=>rfl);(case hr=>first|(go_simp;done)|(go_simp;rfl));intro gb177 hg w4 hbox hb;have n0_:=am (blk_below (bup BK176.out) hb);have n1_:=am (below_step bl hb);have n2_:=am (hbox);have n3_:=am (ge_ bl hg);have n4_:=am (ge_ bl hg);have n5_:=am (nl (bup BK176.out) hg);have n6_:=am (ng (bup BK176.out) hg);clear BK176 HB;have BK176:=n0_;have HB:=n1_;have BK177:=n2_;have GW177:=n3_;have GE177:=n4_;have NB176_177:=n5_;have NB177_176:=n6_;clear n0_ n1_ n2_ n3_ n4_ n5_ n6_ hb hbox hg;have hnb5:=NB176_177.out;have hnc5:=NB177_176.out;have hcz6_0:w4.cell? ⟨gb176,0,none⟩=some (.int .i64 a0_0):=(blk_cell BK176.out 0).trans rfl;have hcz6_1:w4.cell? ⟨gb176,1,none⟩=some (.slice A0_1 l0_1.length c0_1):=(blk_cell BK176.out 1).trans rfl;have hfz6_0:=blk_frozen BK176.out 0;have hfz6_1:=blk_frozen BK176.out 1)|((with_reducible refine gate_dst (N:=5) rfl ?_);refine box_event ?hg (N:=5) ?hd (cs := #[.int .i64 0,.slice none 0 0]) (t:=26) ?hr ?_;(case hd=>rfl);(case hg=>rfl);(case hr=>first|(go_simp;done)|(go_simp;rfl));intro gb178 hg w7 hbox hb;have n0_:=am (blk_below (bup BK176.out) hb);have n1_:=am (blk_below (bup BK177.out) hb);have n2_:=am (below_step bl hb);have n3_:=am (hbox);have n4_:=am (ge_ bl hg);have n5_:=am (ge_ bl hg);have n6_:=am (nl (bup BK176.out) hg);have n7_:=am (ng (bup BK176.out) hg);have n8_:=am (nl (bup BK177.out) hg);have n9_:=am (ng (bup BK177.out) hg);clear BK176 BK177 HB;have BK176:=n0_;have BK177:=n1_;have HB:=n2_;have BK178:=n3_;have GW178:=n4_;have GE178:=n5_;have NB176_178:=n6_;have NB178_176:=n7_;have NB177_178:=n8_;have NB178_177:=n9_;clear n0_ n1_ n2_ n3_ n4_ n5_ n6_ n7_ n8_ n9_ hb hbox hg;have hnb8:=NB178_176.out;have hnc8:=NB176_178.out;have hnb9:=NB178_177.out;have hnc9:=NB177_178.out;have hcz10_0:w7.cell? ⟨gb178,0,none⟩=some (.int .i64 0):=(blk_cell BK178.out 0).trans rfl;have hcz10_1:w7.cell? ⟨gb178,1,none⟩=some (.slice none 0 0):=(blk_cell BK178.out 1).trans rfl;have hfz10_0:=blk_frozen BK178.out 0;have hfz10_1:=blk_frozen BK178.out 1;have hcz11_0:w7.cell? ⟨gb176,0,none⟩=some (.int .i64 a0_0):=(blk_cell BK176.out 0).trans rfl;have hcz11_1:w7.cell? ⟨gb176,1,none⟩=some (.slice A0_1 l0_1.length c0_1):=(blk_cell BK176.out 1).trans rfl;have hfz11_0:=blk_frozen BK176.out 0;have hfz11_1:=blk_frozen BK176.out 1))
 go_loopg [14] k (fun kq v14 w'=>∃(x14_1:Int) (x179001_1:List Int) (u179001:Value),v14 = .int .i64 x14_1∧Aside0 (impl_turnPattern.l0 kq a1 l0_1 (l0_1.length:Int) x14_1 a0_0 l0_1 a0_0 x179001_1=some (r1,r2))∧Aside0 (kq≤k)∧Aside0 (Kd.R (Kd.int .i64) 3 w' w.heap.size (fun _=>True) u179001 x179001_1)∧Aside0 (w'.heap[gb176]?=some (.cells #[.int .i64 a0_0,(.slice A0_1 l0_1.length c0_1)] 26 (0,0)))∧Aside0 (w'.heap[gb177]?=some (.cells #[.int .i64 0,(.slice none 0 0)] 26 (0,0)))∧Aside0 (w'.heap[gb178]?=some (.cells #[.int .i64 a0_0,u179001] 26 (0,0)))∧Aside0 (Below w.heap.size w w'))
 case atStart=>exact⟨(0),(([]:List Int)),(.slice none 0 0),fin2,H',⟨Nat.le_refl _⟩,⟨by first|exact Kd.R_nil _ _ _ _ _|exact Kd.N_nil _ _ _ _ _|exact Kd.V_nil _ _ _ _ _|exact Kd.Q_nil _ _ _ _ _|exact Kd.S_nil _ _ _ _ _⟩,⟨by(with_reducible repeat(first|refine bN_ ?_ _|refine bD_ ?_|refine bA_ ?_ _));refine blk_far ?_ NB176_178.out _;(with_reducible repeat(first|refine bN_ ?_ _|refine bD_ ?_|refine bA_ ?_ _));refine blk_far ?_ NB176_178.out _;exact bup BK176.out⟩,⟨by(with_reducible repeat(first|refine bN_ ?_ _|refine bD_ ?_|refine bA_ ?_ _));refine blk_far ?_ NB177_178.out _;(with_reducible repeat(first|refine bN_ ?_ _|refine bD_ ?_|refine bA_ ?_ _));refine blk_far ?_ NB177_178.out _;exact bup BK177.out⟩,⟨by(with_reducible repeat(first|refine bN_ ?_ _|refine bD_ ?_|refine bA_ ?_ _));refine blk_put (cs := #[.int .i64 a0_0,.slice none 0 0]) ?_ 1 _ rfl;(with_reducible repeat(first|refine bN_ ?_ _|refine bD_ ?_|refine bA_ ?_ _));refine blk_put (cs := #[.int .i64 0,.slice none 0 0]) ?_ 0 _ rfl;exact bup BK178.out⟩,⟨bl⟩⟩
 case round =>
  clear H'
  try clear c2
  try clear p2
  try clear c5
  try clear c8
  try clear c9
  try clear hcz10_0
  try clear hcz10_1
  try clear hcz11_0
  try clear hcz11_1
  try clear hcz6_0
  try clear hcz6_1
  try clear hfz10_0
  try clear hfz10_1
  try clear hfz11_0
  try clear hfz11_1
  try clear hfz6_0
  try clear hfz6_1
  obtain⟨x14_1,x179001_1,u179001,rfl,HA,HK1,HO_179001,BK176,BK177,BK178,HB⟩:=hrel
  cases gk with
  | zero=>exact absurd HA.out (by simp [impl_turnPattern.l0])
  | succ k1 =>
   have H:=HA.out
   clear HA
   simp only[impl_turnPattern.l0] at H
   by_cases c12:x14_1<(l0_1.length:Int)
   ·rw[if_pos c12] at H
    have c12b0:decide (x14_1<(l0_1.length:Int))=true:=decide_eq_true c12
    clear c12
    by_cases c13:0≤x14_1
    ·rw[if_pos c13] at H
     have c13b0:decide (0≤x14_1)=true:=decide_eq_true c13
     clear c13
     by_cases c14:x14_1<(l0_1.length:Int)
     ·rw[if_pos c14] at H
      have c14b0:decide (x14_1<(l0_1.length:Int))=true:=decide_eq_true c14
      clear c14
      by_cases c15:a0_0=0
      ·rw[if_pos c15] at H
       exact absurd H (by simp)
      ·rw[if_neg c15] at H
       have c15b0:(a0_0 == 0)=false:=beq_eq_false_iff_ne.mpr c15
       have c15b1:(a0_0 != 0)=true:=bne_iff_ne.mpr c15
       by_cases c16:x179001_1.length<17592186044416
       ·rw[if_pos c16] at H
        have LMc16:=am c16
        clear c16
        obtain⟨y180,hy180⟩:∃ y_:List Int,y_=(x179001_1 ++ [Int.tmod (wrap64 ((rd l0_1 x14_1)+a1)) a0_0]):=⟨_,rfl⟩
        replace H:(impl_turnPattern.l0 k1 a1 l0_1 (l0_1.length:Int) (wrap64 (x14_1+1)) a0_0 l0_1 a0_0 y180)=some (r1,r2):=by first|(rw[hy180];with_reducible exact H)|(have H2_:=(Option.bind_some _ _).symm.trans H;rw[hy180];with_reducible exact H2_)|(have H2_:=(Option.bind_some _ _).symm.trans H;with_reducible exact H2_)|with_reducible exact H|(rw[hy180];exact H)|exact H
        have Ny180:=am hy180
        clear hy180
        have H':=am H
        clear H
        have p179:0≤(x14_1:Int):=od
        have q179:x14_1<(l0_1.length:Int):=od
        obtain⟨ad179,e179,hx179_0⟩:=Kd.at_int HR0_1.out x14_1 p179 q179
        cases e179
        replace hx179_0:=(HB.out.cell (World.block_lt_of_cell? w _ hx179_0)).trans hx179_0
        replace p179:=eq_true p179
        replace q179:=eq_true q179
        try go_wp2
        have n0_:=am (Kd.R_drew HO_179001.out)
        have n1_:=am (bD_ BK176.out)
        have n2_:=am (bD_ BK177.out)
        have n3_:=am (bD_ BK178.out)
        have n4_:=am (below_drew1 HB.out)
        clear HO_179001
        clear BK176
        clear BK177
        clear BK178
        clear HB
        have HO_179001:=n0_
        have BK176:=n1_
        have BK177:=n2_
        have BK178:=n3_
        have HB:=n4_
        clear n0_ n1_ n2_ n3_ n4_
        refine start_ (n:=12) (S:=fun w'=>w'.cell? ⟨gb178,0,none⟩=some (.int .i64 a0_0)∧w'.cell? ⟨gb178,1,none⟩=some (u179001)∧w'.cell? ⟨gb176,0,none⟩=some (.int .i64 a0_0)∧w'.cell? ⟨gb176,1,none⟩=some (.slice (some ad179) l0_1.length c0_1)) (ds:=[11]) #[false,false,false,false,false,false,false,false,false,false,false,false] (by kernel_rfl) rfl rfl ⟨(blk_cell BK178.out 0).trans rfl,(blk_cell BK178.out 1).trans rfl,(blk_cell BK176.out 0).trans rfl,(blk_cell BK176.out 1).trans rfl⟩ (fun hHeld=>?_);refine with_tabW impl_turnPattern.tab5 impl_turnPattern.bits5 (fun HT_ HW_=>?_)
        generalize wr.drew=w17 at HO_179001 BK176 BK177 BK178 HB hHeld ⊢
        refine pure_ (i:=0) (N:=some 18) (v:=?_) (a':=?_) #[true,false,false,false,false,false,false,false,false,false,false,false] rfl rfl (any_of HT_.out (by kernel_rfl)) (fun _ _ _ h=>h) (Or.inl ⟨by rfl,?_⟩) ?_ ?_
        rotate_left
        ·intro w'
         go_simp
         with_reducible rfl
        rotate_left
        ·simp only[Act.put,List.setIfInBounds_toArray,List.set_cons_zero,List.set_cons_succ,i64_w,i32_w]
         rfl
        refine pure_ (i:=2) (N:=some 20) (v:=?_) (a':=?_) #[true,false,true,false,false,false,false,false,false,false,false,false] rfl rfl (any_of HT_.out (by kernel_rfl)) (fun _ _ _ h=>h) (Or.inl ⟨by rfl,?_⟩) ?_ ?_
        rotate_left
        ·intro w'
         go_simp
         with_reducible rfl
        rotate_left
        ·simp only[Act.put,List.setIfInBounds_toArray,List.set_cons_zero,List.set_cons_succ,i64_w,i32_w]
         rfl
        refine pure_ (i:=3) (N:=some 21) (v:=?_) (a':=?_) #[true,false,true,true,false,false,false,false,false,false,false,false] rfl rfl (any_of HT_.out (by kernel_rfl)) (fun _ _ _ h=>h) (Or.inl ⟨by rfl,?_⟩) ?_ ?_
        rotate_left
        ·intro w'
         go_simp
         with_reducible rfl
        rotate_left
        ·simp only[Act.put,List.setIfInBounds_toArray,List.set_cons_zero,List.set_cons_succ,i64_w,i32_w]
         rfl
        refine pure_ (i:=4) (N:=some 22) (v:=?_) (a':=?_) #[true,false,true,true,true,false,false,false,false,false,false,false] rfl rfl (any_of HT_.out (by kernel_rfl)) (fun _ _ _ h=>h) (Or.inl ⟨by rfl,?_⟩) ?_ ?_
        rotate_left
        ·intro w'
         go_simp
         with_reducible rfl
        rotate_left
        ·simp only[Act.put,List.setIfInBounds_toArray,List.set_cons_zero,List.set_cons_succ,i64_w,i32_w]
         rfl
        refine pure_ (i:=5) (N:=some 23) (v:=?_) (a':=?_) #[true,false,true,true,true,true,false,false,false,false,false,false] rfl rfl (any_of HT_.out (by kernel_rfl)) (fun _ _ _ h=>h) (Or.inl ⟨by rfl,?_⟩) ?_ ?_
        rotate_left
        ·intro w'
         go_simp
         with_reducible rfl
        rotate_left
        ·simp only[Act.put,List.setIfInBounds_toArray,List.set_cons_zero,List.set_cons_succ,i64_w,i32_w]
         rfl
        refine take_ (i:=1) (N:=some 19) (v:=?_) (a':=?_) #[true,true,true,true,true,true,false,false,false,false,false,false] rfl rfl (take_ofW HT_.out HW_.out (by kernel_rfl)) (fun _ _ _ h=>h) (Or.inl ⟨by rfl,?_⟩) hHeld ?_ ?_
        rotate_left
        ·rintro w' ⟨s0,s1,s2,s3⟩
         go_simp
         with_reducible rfl
        rotate_left
        ·simp only[Act.put,List.setIfInBounds_toArray,List.set_cons_zero,List.set_cons_succ,i64_w,i32_w]
         rfl
        refine take_ (i:=6) (N:=some 24) (v:=?_) (a':=?_) #[true,true,true,true,true,true,true,false,false,false,false,false] rfl rfl (take_ofW HT_.out HW_.out (by kernel_rfl)) (fun _ _ _ h=>h) (Or.inl ⟨by rfl,?_⟩) hHeld ?_ ?_
        rotate_left
        ·rintro w' ⟨s0,s1,s2,s3⟩
         go_simp
         with_reducible rfl
        rotate_left
        ·simp only[Act.put,List.setIfInBounds_toArray,List.set_cons_zero,List.set_cons_succ,i64_w,i32_w]
         rfl
        refine pure_ (i:=7) (N:=some 25) (v:=?_) (a':=?_) #[true,true,true,true,true,true,true,true,false,false,false,false] rfl rfl (any_of HT_.out (by kernel_rfl)) (fun _ _ _ h=>h) (Or.inl ⟨by rfl,?_⟩) ?_ ?_
        rotate_left
        ·intro w'
         go_simp
         with_reducible rfl
        rotate_left
        ·simp only[Act.put,List.setIfInBounds_toArray,List.set_cons_zero,List.set_cons_succ,i64_w,i32_w]
         rfl
        refine one_ (i:=8) (N:=some 26) #[true,true,true,true,true,true,true,true,true,false,false,false] rfl rfl (one_of HT_.out (by kernel_rfl)) (by decide) (fun K hK=>?_)
        refine value_ (w1:=?_) (v:=?_) (by rfl) rfl ?_ ?_
        rotate_left 2
        ·go_simp
         constructor
         ·rfl
         ·rfl
        refine hK.out _ _ ⟨(blk_cell (bA_ BK178.out _) 0).trans rfl,(blk_cell (bA_ BK178.out _) 1).trans rfl,(blk_cell (bA_ BK176.out _) 0).trans rfl,(blk_cell (bA_ BK176.out _) 1).trans rfl⟩ (fun hHeld=>?_)
        clear hK K
        refine norm_ (a':=?_) ?_ ?_
        rotate_left
        ·show Act.put _ (some 26) _=_
         simp only[Act.put,List.setIfInBounds_toArray,List.set_cons_zero,List.set_cons_succ,i64_w,i32_w]
         rfl
        refine one_ (i:=9) (N:=some 27) #[true,true,true,true,true,true,true,true,true,true,false,false] rfl rfl (one_of HT_.out (by kernel_rfl)) (by decide) (fun K hK=>?_)
        refine Kd.R_append_step (Kd.int .i64) (w0:=w) w.heap.size (by rfl) (.tmp 19) (.tmp 26) 24 3 (.int .i64 0) 8 rfl Try.underlying24 info3 rfl (by decide) (by omega) u179001 x179001_1 (Int.tmod (wrap64 ((rd l0_1 x14_1)+a1)) a0_0) [.int .i64 (Int.tmod (wrap64 ((rd l0_1 x14_1)+a1)) a0_0)] (fun _=>True) (fun _=>False) rfl rfl ?aP (fun _ hk=>hk.elim) ?aF ?aO ?aB ?aS ?aL ?_
        (case aP=>exact rfl)
        (case aB=>exact bl)
        (case aF=>exact(fun _ _=>trivial))
        (case aO=>exact(rup HO_179001.out))
        (case aS=>exact(below_size bl))
        (case aL=>have:=LMc16.out;omega)
        intro v181 w18 ho hb hg hat
        rw[← Ny180.out] at ho
        have n0_:=am (blk_grown (bup BK176.out) hg (Kd.R_ne HO_179001.out BK176.out (by decide)))
        have n1_:=am (blk_grown (bup BK177.out) hg (Kd.R_ne HO_179001.out BK177.out (by decide)))
        have n2_:=am (blk_grown (bup BK178.out) hg (Kd.R_ne HO_179001.out BK178.out (by decide)))
        have n3_:=am (hb)
        have n4_:=am (ho)
        clear BK176
        clear BK177
        clear BK178
        clear HB
        clear HO_179001
        have BK176:=n0_
        have BK177:=n1_
        have BK178:=n2_
        have HB:=n3_
        have HO182:=n4_
        clear n0_ n1_ n2_ n3_ n4_
        clear ho hb hg hat
        obtain⟨Ao19,co19,eo19⟩:=Kd.R_slice HO182.out
        (first|subst eo19|(injection eo19 with f1_ f2_ f3_;have f4_:=f1_.symm;have f5_:=f3_.symm;clear f1_ f2_ f3_;subst f4_;subst f5_))
        refine hK.out _ _ ⟨(blk_cell BK178.out 0).trans rfl,(blk_cell BK178.out 1).trans rfl,(blk_cell BK176.out 0).trans rfl,(blk_cell BK176.out 1).trans rfl⟩ (fun hHeld=>?_)
        clear hK K
        refine norm_ (a':=?_) ?_ ?_
        rotate_left
        ·show Act.put _ (some 27) _=_
         simp only[Act.put,List.setIfInBounds_toArray,List.set_cons_zero,List.set_cons_succ,i64_w,i32_w]
         rfl
        refine pure_ (i:=10) (N:=some 28) (v:=?_) (a':=?_) #[true,true,true,true,true,true,true,true,true,true,true,false] rfl rfl (any_of HT_.out (by kernel_rfl)) (fun _ _ _ h=>h) (Or.inl ⟨by rfl,?_⟩) ?_ ?_
        rotate_left
        ·intro w'
         go_simp
         with_reducible rfl
        rotate_left
        ·simp only[Act.put,List.setIfInBounds_toArray,List.set_cons_zero,List.set_cons_succ,i64_w,i32_w]
         rfl
        refine last_ (i:=11) (N:=none) #[true,true,true,true,true,true,true,true,true,true,true,true] rfl rfl (one_of HT_.out (by kernel_rfl)) (by decide) (fun K hK=>?_)
        have hs20:w18.cell? ⟨gb178,1,none⟩=some (u179001):=(blk_cell BK178.out 1).trans rfl
        have hfs20:=blk_frozen BK178.out 1
        have hns20_0:=NB176_178.out
        have hns20_1:=NB177_178.out
        have hms20_0:=NB178_176.out
        have hms20_1:=NB178_177.out
        refine skip_ (w1:=?_) (by rfl) rfl ?_ ?_
        rotate_left
        ·go_simp
         rfl
        refine hK.out _ _ ?_
        clear hK K
        refine done_ (done_of HT_.out (by kernel_rfl)) ?_
        try go_wp2
        go_roundg k1
        case measure=>have:=HK1.out;omega
        case rel=>exact⟨(wrap64 (x14_1+1)),(y180),(.slice Ao19 y180.length co19),fin2,H',⟨by have:=HK1.out;omega⟩,⟨rup (Kd.R_mono (Kd.R_far (p:=⟨gb178,1,none⟩) (Kd.R_types HO182.out BK178.out (by decide)) (fun _ hk=>hk.2) (.slice Ao19 y180.length co19)) (fun _ hk=>trivial))⟩,⟨by(with_reducible repeat(first|refine bN_ ?_ _|refine bD_ ?_|refine bA_ ?_ _));refine blk_far ?_ NB176_178.out _;exact bup BK176.out⟩,⟨by(with_reducible repeat(first|refine bN_ ?_ _|refine bD_ ?_|refine bA_ ?_ _));refine blk_far ?_ NB177_178.out _;exact bup BK177.out⟩,⟨by(with_reducible repeat(first|refine bN_ ?_ _|refine bD_ ?_|refine bA_ ?_ _));refine blk_put (cs := #[.int .i64 a0_0,u179001]) ?_ 1 _ rfl;exact bup BK178.out⟩,⟨bl⟩⟩
       ·rw[if_neg c16] at H
        exact absurd H (by simp)
     ·rw[if_neg c14] at H
      exact absurd H (by simp)
    ·rw[if_neg c13] at H
     exact absurd H (by simp)
   ·rw[if_neg c12] at H
    have c12b0:decide (x14_1<(l0_1.length:Int))=false:=decide_eq_false c12
    clear c12
    replace H:=Option.bind_eq_some_iff.mp H
    obtain⟨t183,A210,H⟩:=H
    replace H:(some (a0_0,t183))=some (r1,r2):=H
    have A21:=am A210
    clear A210
    simp only[Option.some.injEq,Prod.mk.injEq] at H
    obtain⟨rfl,rfl⟩:=H
    have hnb22:=NB178_176.out
    have hnc22:=NB176_178.out
    have hnb23:=NB178_177.out
    have hnc23:=NB177_178.out
    have hcz24_0:wr.cell? ⟨gb178,0,none⟩=some (.int .i64 a0_0):=(blk_cell BK178.out 0).trans rfl
    have hcz24_1:wr.cell? ⟨gb178,1,none⟩=some (u179001):=(blk_cell BK178.out 1).trans rfl
    have hfz24_0:=blk_frozen BK178.out 0
    have hfz24_1:=blk_frozen BK178.out 1
    obtain⟨Ao25,co25,eo25⟩:=Kd.R_slice HO_179001.out
    subst eo25
    go_wp2_with (first|((with_reducible refine gate_callee (f:=37) rfl ?_);refine goesL_ (some 32) rfl rfl Try.func37 (by kernel_rfl) rfl #[.slice Ao25 x179001_1.length co25] rfl tl ?_;(with_reducible refine(slices_Sort_int_int.calls (fun k_=>some k_=(.slice Ao25 x179001_1.length co25:Value).ownBlock) (.slice Ao25 x179001_1.length co25) x179001_1 t183 w _ ?side1 ?side2 A21.out).mono ?_);(case side1=>repeat(first|(with_reducible first|exact HB.out|apply below_alloc|apply pw_below_drewN|apply below_drew1|refine below_set ?_ GE176.out|refine below_set ?_ GE177.out|refine below_set ?_ GE178.out)|exact HB.out));(case side2=>exact Kd.R_tight rfl HO_179001.out);rintro e w26 ⟨rfl,hy0,hb,hkp⟩;refine⟨_,rfl,?_⟩;have n0_:=am (Kd.R_reok rfl hy0 (fun k_ e_=>HO_179001.out.1 k_ e_));have n1_:=am (blk_kept (bup BK176.out) hkp (fun hs_=>(fun e_=>(Kd.R_ne HO_179001.out BK176.out (by decide)) e_) hs_));have n2_:=am (blk_kept (bup BK177.out) hkp (fun hs_=>(fun e_=>(Kd.R_ne HO_179001.out BK177.out (by decide)) e_) hs_));have n3_:=am (blk_kept (bup BK178.out) hkp (fun hs_=>(fun e_=>(Kd.R_ne HO_179001.out BK178.out (by decide)) e_) hs_));have n4_:=am (hb);clear HO_179001 BK176 BK177 BK178 HB;have HO_179001:=n0_;have BK176:=n1_;have BK177:=n2_;have BK178:=n3_;have HB:=n4_;clear n0_ n1_ n2_ n3_ n4_;(try clear hb);(try clear hkp);(try clear hy0);have hcz27_0:w26.cell? ⟨gb178,0,none⟩=some (.int .i64 a0_0):=(blk_cell BK178.out 0).trans rfl;have hcz27_1:w26.cell? ⟨gb178,1,none⟩=some (.slice Ao25 x179001_1.length co25):=(blk_cell BK178.out 1).trans rfl;have hfz27_0:=blk_frozen BK178.out 0;have hfz27_1:=blk_frozen BK178.out 1;have hnb28:=NB177_176.out;have hnc28:=NB176_177.out;have hcz29_0:w26.cell? ⟨gb177,0,none⟩=some (.int .i64 0):=(blk_cell BK177.out 0).trans rfl;have hcz29_1:w26.cell? ⟨gb177,1,none⟩=some (.slice none 0 0):=(blk_cell BK177.out 1).trans rfl;have hfz29_0:=blk_frozen BK177.out 0;have hfz29_1:=blk_frozen BK177.out 1))
    refine bodyPost_ret (results_cell_row rfl _ _ gb177 26 #[.int .i64 a0_0,.slice Ao25 x179001_1.length co25] (0,0) _ rfl (by(with_reducible repeat(first|refine bN_ ?_ _|refine bD_ ?_|refine bA_ ?_ _));refine blk_put (cs := #[.int .i64 a0_0,.slice none 0 0]) ?_ 1 _ rfl;(with_reducible repeat(first|refine bN_ ?_ _|refine bD_ ?_|refine bA_ ?_ _));refine blk_put (cs := #[.int .i64 0,.slice none 0 0]) ?_ 0 _ rfl;exact bup BK177.out) Try.underlying26 rfl (by kernel_rfl)) rfl ?_
    exact⟨_,fin1,rup (Kd.R_mono (Kd.R_far (p:=⟨gb177,1,none⟩) (Kd.R_far (p:=⟨gb177,0,none⟩) (Kd.R_types HO_179001.out BK177.out (by decide)) (fun _ hk=>hk.2) (.int .i64 a0_0)) (fun _ hk=>hk.2) (.slice Ao25 x179001_1.length co25)) (fun _ hk=>trivial)),bl⟩

/-! ### impl_TurnPattern: function 6 -/
def impl_TurnPattern.f (k:Nat) (a0_0:Int) (l0_1:List Int) (a1:Int):Option (Int×List Int×Bool):=(impl_IsPattern.f k a0_0 l0_1).bind fun t186=>(if t186=true then(if a1<0 then(some (0,([]:List Int),false)) else(if a1>24 then(some (0,([]:List Int),false)) else((impl_turnPattern.f k a0_0 l0_1 a1).bind fun bt187=>(some (bt187.1,bt187.2,true))))) else(some (0,([]:List Int),false)))
set_option maxHeartbeats 8000000 in
set_option maxRecDepth 100000 in
theorem impl_TurnPattern.calls (k:Nat) (a0_0:Int) (A0_1:Option Addr) (c0_1:Nat) (l0_1:List Int) (a1:Int) (r1:Int) (r2:List Int) (r3:Bool) (w:World) (hr0_1:Kd.C (Kd.int .i64) w A0_1 l0_1.length l0_1) (hc0_1:l0_1.length≤c0_1) (h:impl_TurnPattern.f k a0_0 l0_1 a1=some (r1,r2,r3)) :
  Calls Try.prog 6 #[.agg #[.int .i64 a0_0,.slice A0_1 l0_1.length c0_1],.int .i64 a1] w fun e w'=>∃ v1_:Value,e = .returned (.tuple #[.agg #[.int .i64 r1,v1_],.bool r3])∧Kd.R (Kd.int .i64) 3 w' w.heap.size (fun _=>True) v1_ r2∧Below w.heap.size w w':=by
 have hu26:=Try.underlying26
 have HR0_1:=am hr0_1
 have HC0_1:=am hc0_1
 clear hr0_1 hc0_1
 have HB:=am (Below.refl w.heap.size w)
 have H:((impl_IsPattern.f k a0_0 l0_1).bind fun t186=>(if t186=true then(if a1<0 then(some (0,([]:List Int),false)) else(if a1>24 then(some (0,([]:List Int),false)) else((impl_turnPattern.f k a0_0 l0_1 a1).bind fun bt187=>(some (bt187.1,bt187.2,true))))) else(some (0,([]:List Int),false))))=some (r1,r2,r3):=h
 clear h
 replace H:=Option.bind_eq_some_iff.mp H
 obtain⟨t186,A30,H⟩:=H
 replace H:(if t186=true then(if a1<0 then(some (0,([]:List Int),false)) else(if a1>24 then(some (0,([]:List Int),false)) else((impl_turnPattern.f k a0_0 l0_1 a1).bind fun bt187=>(some (bt187.1,bt187.2,true))))) else(some (0,([]:List Int),false)))=some (r1,r2,r3):=H
 have A3:=am A30
 clear A30
 by_cases c4:t186=true
 ·subst c4
  have H1:(if a1<0 then(some (0,([]:List Int),false)) else(if a1>24 then(some (0,([]:List Int),false)) else((impl_turnPattern.f k a0_0 l0_1 a1).bind fun bt187=>(some (bt187.1,bt187.2,true)))))=some (r1,r2,r3):=by rw[if_pos rfl] at H;exact H
  clear H
  have H:=H1
  clear H1
  by_cases c5:a1<0
  ·rw[if_pos c5] at H
   have c5b0:decide (a1<0)=true:=decide_eq_true c5
   clear c5
   simp only[Option.some.injEq,Prod.mk.injEq] at H
   obtain⟨rfl,rfl,rfl⟩:=H
   go_enter Try.func6,Try.ntmps6
   go_wp2_with (first|((with_reducible refine gate_dst (N:=2) rfl ?_);refine box_event ?hg (N:=2) ?hd (cs := #[.int .i64 a0_0,.slice A0_1 l0_1.length c0_1]) (t:=26) ?hr ?_;(case hd=>rfl);(case hg=>rfl);(case hr=>first|(go_simp;done)|(go_simp;rfl));intro gb184 hg w6 hbox hb;have n0_:=am (below_step bl hb);have n1_:=am (hbox);have n2_:=am (ge_ bl hg);have n3_:=am (ge_ bl hg);clear HB;have HB:=n0_;have BK184:=n1_;have GW184:=n2_;have GE184:=n3_;clear n0_ n1_ n2_ n3_ hb hbox hg)|((with_reducible refine gate_dst (N:=4) rfl ?_);refine box_event ?hg (N:=4) ?hd (cs := #[.int .i64 0,.slice none 0 0]) (t:=26) ?hr ?_;(case hd=>rfl);(case hg=>rfl);(case hr=>first|(go_simp;done)|(go_simp;rfl));intro gb185 hg w7 hbox hb;have n0_:=am (blk_below (bup BK184.out) hb);have n1_:=am (below_step bl hb);have n2_:=am (hbox);have n3_:=am (ge_ bl hg);have n4_:=am (ge_ bl hg);have n5_:=am (nl (bup BK184.out) hg);have n6_:=am (ng (bup BK184.out) hg);clear BK184 HB;have BK184:=n0_;have HB:=n1_;have BK185:=n2_;have GW185:=n3_;have GE185:=n4_;have NB184_185:=n5_;have NB185_184:=n6_;clear n0_ n1_ n2_ n3_ n4_ n5_ n6_ hb hbox hg;have hnb8:=NB184_185.out;have hnc8:=NB185_184.out;have hcz9_0:w7.cell? ⟨gb184,0,none⟩=some (.int .i64 a0_0):=(blk_cell BK184.out 0).trans rfl;have hcz9_1:w7.cell? ⟨gb184,1,none⟩=some (.slice A0_1 l0_1.length c0_1):=(blk_cell BK184.out 1).trans rfl;have hfz9_0:=blk_frozen BK184.out 0;have hfz9_1:=blk_frozen BK184.out 1)|((with_reducible refine gate_callee (f:=22) rfl ?_);refine goesL_ (some 7) rfl rfl Try.func22 (by kernel_rfl) rfl #[.agg #[.int .i64 a0_0,.slice A0_1 l0_1.length c0_1]] rfl tl ?_;(with_reducible refine(impl_IsPattern.calls k a0_0 _ _ l0_1 true _ ?side1 ?side2 A3.out).mono ?_);(case side1=>exact cup (Kd.C_below HR0_1.out HB.out));(case side2=>exact HC0_1.out);rintro e w10 ⟨rfl,hb⟩;refine⟨_,rfl,?_⟩;have n0_:=am (blk_below (bup BK184.out) hb);have n1_:=am (blk_below (bup BK185.out) hb);have n2_:=am (below_step bl hb);clear BK184 BK185 HB;have BK184:=n0_;have BK185:=n1_;have HB:=n2_;clear n0_ n1_ n2_;(try clear hb);(try clear hb2);(try clear hk);(try clear hi);have hcz11_0:w10.cell? ⟨gb185,0,none⟩=some (.int .i64 0):=(blk_cell BK185.out 0).trans rfl;have hcz11_1:w10.cell? ⟨gb185,1,none⟩=some (.slice none 0 0):=(blk_cell BK185.out 1).trans rfl;have hfz11_0:=blk_frozen BK185.out 0;have hfz11_1:=blk_frozen BK185.out 1))
   refine bodyPost_ret (results_ct rfl _ _ gb185 26 #[.int .i64 0,.slice none 0 0] (0,0) _ rfl (by(with_reducible repeat(first|refine bN_ ?_ _|refine bD_ ?_|refine bA_ ?_ _));refine blk_put (cs := #[.int .i64 0,.slice none 0 0]) ?_ 1 _ rfl;(with_reducible repeat(first|refine bN_ ?_ _|refine bD_ ?_|refine bA_ ?_ _));refine blk_put (cs := #[.int .i64 0,.slice none 0 0]) ?_ 0 _ rfl;exact bup BK185.out) Try.underlying26 rfl (by kernel_rfl)) rfl ?_
   exact⟨_,fin1,by first|exact Kd.R_nil _ _ _ _ _|exact Kd.N_nil _ _ _ _ _|exact Kd.V_nil _ _ _ _ _|exact Kd.Q_nil _ _ _ _ _|exact Kd.S_nil _ _ _ _ _,bl⟩
  ·rw[if_neg c5] at H
   have c5b0:decide (a1<0)=false:=decide_eq_false c5
   clear c5
   by_cases c12:a1>24
   ·rw[if_pos c12] at H
    have c12b0:decide (24<a1)=true:=decide_eq_true c12
    clear c12
    simp only[Option.some.injEq,Prod.mk.injEq] at H
    obtain⟨rfl,rfl,rfl⟩:=H
    go_enter Try.func6,Try.ntmps6
    go_wp2_with (first|((with_reducible refine gate_dst (N:=2) rfl ?_);refine box_event ?hg (N:=2) ?hd (cs := #[.int .i64 a0_0,.slice A0_1 l0_1.length c0_1]) (t:=26) ?hr ?_;(case hd=>rfl);(case hg=>rfl);(case hr=>first|(go_simp;done)|(go_simp;rfl));intro gb184 hg w13 hbox hb;have n0_:=am (below_step bl hb);have n1_:=am (hbox);have n2_:=am (ge_ bl hg);have n3_:=am (ge_ bl hg);clear HB;have HB:=n0_;have BK184:=n1_;have GW184:=n2_;have GE184:=n3_;clear n0_ n1_ n2_ n3_ hb hbox hg)|((with_reducible refine gate_dst (N:=4) rfl ?_);refine box_event ?hg (N:=4) ?hd (cs := #[.int .i64 0,.slice none 0 0]) (t:=26) ?hr ?_;(case hd=>rfl);(case hg=>rfl);(case hr=>first|(go_simp;done)|(go_simp;rfl));intro gb185 hg w14 hbox hb;have n0_:=am (blk_below (bup BK184.out) hb);have n1_:=am (below_step bl hb);have n2_:=am (hbox);have n3_:=am (ge_ bl hg);have n4_:=am (ge_ bl hg);have n5_:=am (nl (bup BK184.out) hg);have n6_:=am (ng (bup BK184.out) hg);clear BK184 HB;have BK184:=n0_;have HB:=n1_;have BK185:=n2_;have GW185:=n3_;have GE185:=n4_;have NB184_185:=n5_;have NB185_184:=n6_;clear n0_ n1_ n2_ n3_ n4_ n5_ n6_ hb hbox hg;have hnb15:=NB184_185.out;have hnc15:=NB185_184.out;have hcz16_0:w14.cell? ⟨gb184,0,none⟩=some (.int .i64 a0_0):=(blk_cell BK184.out 0).trans rfl;have hcz16_1:w14.cell? ⟨gb184,1,none⟩=some (.slice A0_1 l0_1.length c0_1):=(blk_cell BK184.out 1).trans rfl;have hfz16_0:=blk_frozen BK184.out 0;have hfz16_1:=blk_frozen BK184.out 1)|((with_reducible refine gate_callee (f:=22) rfl ?_);refine goesL_ (some 7) rfl rfl Try.func22 (by kernel_rfl) rfl #[.agg #[.int .i64 a0_0,.slice A0_1 l0_1.length c0_1]] rfl tl ?_;(with_reducible refine(impl_IsPattern.calls k a0_0 _ _ l0_1 true _ ?side1 ?side2 A3.out).mono ?_);(case side1=>exact cup (Kd.C_below HR0_1.out HB.out));(case side2=>exact HC0_1.out);rintro e w17 ⟨rfl,hb⟩;refine⟨_,rfl,?_⟩;have n0_:=am (blk_below (bup BK184.out) hb);have n1_:=am (blk_below (bup BK185.out) hb);have n2_:=am (below_step bl hb);clear BK184 BK185 HB;have BK184:=n0_;have BK185:=n1_;have HB:=n2_;clear n0_ n1_ n2_;(try clear hb);(try clear hb2);(try clear hk);(try clear hi);have hcz18_0:w17.cell? ⟨gb185,0,none⟩=some (.int .i64 0):=(blk_cell BK185.out 0).trans rfl;have hcz18_1:w17.cell? ⟨gb185,1,none⟩=some (.slice none 0 0):=(blk_cell BK185.out 1).trans rfl;have hfz18_0:=blk_frozen BK185.out 0;have hfz18_1:=blk_frozen BK185.out 1))
    refine bodyPost_ret (results_ct rfl _ _ gb185 26 #[.int .i64 0,.slice none 0 0] (0,0) _ rfl (by(with_reducible repeat(first|refine bN_ ?_ _|refine bD_ ?_|refine bA_ ?_ _));refine blk_put (cs := #[.int .i64 0,.slice none 0 0]) ?_ 1 _ rfl;(with_reducible repeat(first|refine bN_ ?_ _|refine bD_ ?_|refine bA_ ?_ _));refine blk_put (cs := #[.int .i64 0,.slice none 0 0]) ?_ 0 _ rfl;exact bup BK185.out) Try.underlying26 rfl (by kernel_rfl)) rfl ?_
    exact⟨_,fin1,by first|exact Kd.R_nil _ _ _ _ _|exact Kd.N_nil _ _ _ _ _|exact Kd.V_nil _ _ _ _ _|exact Kd.Q_nil _ _ _ _ _|exact Kd.S_nil _ _ _ _ _,bl⟩
   ·rw[if_neg c12] at H
    have c12b0:decide (24<a1)=false:=decide_eq_false c12
    clear c12
    replace H:=Option.bind_eq_some_iff.mp H
    obtain⟨⟨t187,t188⟩,A190,H⟩:=H
    replace H:(some (t187,t188,true))=some (r1,r2,r3):=H
    have A19:=am A190
    clear A190
    simp only[Option.some.injEq,Prod.mk.injEq] at H
    obtain⟨rfl,rfl,rfl⟩:=H
    go_enter Try.func6,Try.ntmps6
    go_wp2_with (first|((with_reducible refine gate_dst (N:=2) rfl ?_);refine box_event ?hg (N:=2) ?hd (cs := #[.int .i64 a0_0,.slice A0_1 l0_1.length c0_1]) (t:=26) ?hr ?_;(case hd=>rfl);(case hg=>rfl);(case hr=>first|(go_simp;done)|(go_simp;rfl));intro gb184 hg w20 hbox hb;have n0_:=am (below_step bl hb);have n1_:=am (hbox);have n2_:=am (ge_ bl hg);have n3_:=am (ge_ bl hg);clear HB;have HB:=n0_;have BK184:=n1_;have GW184:=n2_;have GE184:=n3_;clear n0_ n1_ n2_ n3_ hb hbox hg)|((with_reducible refine gate_dst (N:=4) rfl ?_);refine box_event ?hg (N:=4) ?hd (cs := #[.int .i64 0,.slice none 0 0]) (t:=26) ?hr ?_;(case hd=>rfl);(case hg=>rfl);(case hr=>first|(go_simp;done)|(go_simp;rfl));intro gb185 hg w21 hbox hb;have n0_:=am (blk_below (bup BK184.out) hb);have n1_:=am (below_step bl hb);have n2_:=am (hbox);have n3_:=am (ge_ bl hg);have n4_:=am (ge_ bl hg);have n5_:=am (nl (bup BK184.out) hg);have n6_:=am (ng (bup BK184.out) hg);clear BK184 HB;have BK184:=n0_;have HB:=n1_;have BK185:=n2_;have GW185:=n3_;have GE185:=n4_;have NB184_185:=n5_;have NB185_184:=n6_;clear n0_ n1_ n2_ n3_ n4_ n5_ n6_ hb hbox hg;have hnb22:=NB184_185.out;have hnc22:=NB185_184.out;have hcz23_0:w21.cell? ⟨gb184,0,none⟩=some (.int .i64 a0_0):=(blk_cell BK184.out 0).trans rfl;have hcz23_1:w21.cell? ⟨gb184,1,none⟩=some (.slice A0_1 l0_1.length c0_1):=(blk_cell BK184.out 1).trans rfl;have hfz23_0:=blk_frozen BK184.out 0;have hfz23_1:=blk_frozen BK184.out 1)|((with_reducible refine gate_callee (f:=22) rfl ?_);refine goesL_ (some 7) rfl rfl Try.func22 (by kernel_rfl) rfl #[.agg #[.int .i64 a0_0,.slice A0_1 l0_1.length c0_1]] rfl tl ?_;(with_reducible refine(impl_IsPattern.calls k a0_0 _ _ l0_1 true _ ?side1 ?side2 A3.out).mono ?_);(case side1=>exact cup (Kd.C_below HR0_1.out HB.out));(case side2=>exact HC0_1.out);rintro e w24 ⟨rfl,hb⟩;refine⟨_,rfl,?_⟩;have n0_:=am (blk_below (bup BK184.out) hb);have n1_:=am (blk_below (bup BK185.out) hb);have n2_:=am (below_step bl hb);clear BK184 BK185 HB;have BK184:=n0_;have BK185:=n1_;have HB:=n2_;clear n0_ n1_ n2_;(try clear hb);(try clear hb2);(try clear hk);(try clear hi);have hcz25_0:w24.cell? ⟨gb184,0,none⟩=some (.int .i64 a0_0):=(blk_cell BK184.out 0).trans rfl;have hcz25_1:w24.cell? ⟨gb184,1,none⟩=some (.slice A0_1 l0_1.length c0_1):=(blk_cell BK184.out 1).trans rfl;have hfz25_0:=blk_frozen BK184.out 0;have hfz25_1:=blk_frozen BK184.out 1)|((with_reducible refine gate_callee (f:=23) rfl ?_);refine goesL_ (some 20) rfl rfl Try.func23 (by kernel_rfl) rfl #[.agg #[.int .i64 a0_0,.slice A0_1 l0_1.length c0_1],.int .i64 a1] rfl tl ?_;(with_reducible refine(impl_turnPattern.calls k a0_0 _ _ l0_1 a1 t187 t188 _ ?side1 ?side2 A19.out).mono ?_);(case side1=>exact cup (Kd.C_below HR0_1.out HB.out));(case side2=>exact HC0_1.out);rintro e w26 ⟨v189,rfl,ho0,hb⟩;refine⟨_,rfl,?_⟩;have n0_:=am (Kd.R_lower ho0 (below_size bl));have n1_:=am (blk_below (bup BK184.out) hb);have n2_:=am (blk_below (bup BK185.out) hb);have n3_:=am (below_step bl hb);clear BK184 BK185 HB;have HO190:=n0_;have BK184:=n1_;have BK185:=n2_;have HB:=n3_;clear n0_ n1_ n2_ n3_;(try clear hb);(try clear hb2);(try clear hk);(try clear hi);(try clear ho0);have hcz27_0:w26.cell? ⟨gb185,0,none⟩=some (.int .i64 0):=(blk_cell BK185.out 0).trans rfl;have hcz27_1:w26.cell? ⟨gb185,1,none⟩=some (.slice none 0 0):=(blk_cell BK185.out 1).trans rfl;have hfz27_0:=blk_frozen BK185.out 0;have hfz27_1:=blk_frozen BK185.out 1;obtain⟨Ao28,co28,eo28⟩:=Kd.R_slice HO190.out;subst eo28))
    refine bodyPost_ret (results_ct rfl _ _ gb185 26 #[.int .i64 t187,.slice Ao28 t188.length co28] (0,0) _ rfl (by(with_reducible repeat(first|refine bN_ ?_ _|refine bD_ ?_|refine bA_ ?_ _));refine blk_put (cs := #[.int .i64 t187,.slice none 0 0]) ?_ 1 _ rfl;(with_reducible repeat(first|refine bN_ ?_ _|refine bD_ ?_|refine bA_ ?_ _));refine blk_put (cs := #[.int .i64 0,.slice none 0 0]) ?_ 0 _ rfl;exact bup BK185.out) Try.underlying26 rfl (by kernel_rfl)) rfl ?_
    exact⟨_,fin1,rup (Kd.R_mono (Kd.R_far (p:=⟨gb185,1,none⟩) (Kd.R_far (p:=⟨gb185,0,none⟩) (Kd.R_types HO190.out BK185.out (by decide)) (fun _ hk=>hk.2) (.int .i64 t187)) (fun _ hk=>hk.2) (.slice Ao28 t188.length co28)) (fun _ hk=>trivial)),bl⟩
 ·replace c4:=Bool.eq_false_iff.mpr c4
  subst c4
  have H1:(some (0,([]:List Int),false))=some (r1,r2,r3):=by rw[if_neg (show ¬ (false=true) by decide)] at H;exact H
  clear H
  have H:=H1
  clear H1
  simp only[Option.some.injEq,Prod.mk.injEq] at H
  obtain⟨rfl,rfl,rfl⟩:=H
  go_enter Try.func6,Try.ntmps6
  go_wp2_with (first|((with_reducible refine gate_dst (N:=2) rfl ?_);refine box_event ?hg (N:=2) ?hd (cs := #[.int .i64 a0_0,.slice A0_1 l0_1.length c0_1]) (t:=26) ?hr ?_;(case hd=>rfl);(case hg=>rfl);(case hr=>first|(go_simp;done)|(go_simp;rfl));intro gb184 hg w29 hbox hb;have n0_:=am (below_step bl hb);have n1_:=am (hbox);have n2_:=am (ge_ bl hg);have n3_:=am (ge_ bl hg);clear HB;have HB:=n0_;have BK184:=n1_;have GW184:=n2_;have GE184:=n3_;clear n0_ n1_ n2_ n3_ hb hbox hg)|((with_reducible refine gate_dst (N:=4) rfl ?_);refine box_event ?hg (N:=4) ?hd (cs := #[.int .i64 0,.slice none 0 0]) (t:=26) ?hr ?_;(case hd=>rfl);(case hg=>rfl);(case hr=>first|(go_simp;done)|(go_simp;rfl));intro gb185 hg w30 hbox hb;have n0_:=am (blk_below (bup BK184.out) hb);have n1_:=am (below_step bl hb);have n2_:=am (hbox);have n3_:=am (ge_ bl hg);have n4_:=am (ge_ bl hg);have n5_:=am (nl (bup BK184.out) hg);have n6_:=am (ng (bup BK184.out) hg);clear BK184 HB;have BK184:=n0_;have HB:=n1_;have BK185:=n2_;have GW185:=n3_;have GE185:=n4_;have NB184_185:=n5_;have NB185_184:=n6_;clear n0_ n1_ n2_ n3_ n4_ n5_ n6_ hb hbox hg;have hnb31:=NB184_185.out;have hnc31:=NB185_184.out;have hcz32_0:w30.cell? ⟨gb184,0,none⟩=some (.int .i64 a0_0):=(blk_cell BK184.out 0).trans rfl;have hcz32_1:w30.cell? ⟨gb184,1,none⟩=some (.slice A0_1 l0_1.length c0_1):=(blk_cell BK184.out 1).trans rfl;have hfz32_0:=blk_frozen BK184.out 0;have hfz32_1:=blk_frozen BK184.out 1)|((with_reducible refine gate_callee (f:=22) rfl ?_);refine goesL_ (some 7) rfl rfl Try.func22 (by kernel_rfl) rfl #[.agg #[.int .i64 a0_0,.slice A0_1 l0_1.length c0_1]] rfl tl ?_;(with_reducible refine(impl_IsPattern.calls k a0_0 _ _ l0_1 false _ ?side1 ?side2 A3.out).mono ?_);(case side1=>exact cup (Kd.C_below HR0_1.out HB.out));(case side2=>exact HC0_1.out);rintro e w33 ⟨rfl,hb⟩;refine⟨_,rfl,?_⟩;have n0_:=am (blk_below (bup BK184.out) hb);have n1_:=am (blk_below (bup BK185.out) hb);have n2_:=am (below_step bl hb);clear BK184 BK185 HB;have BK184:=n0_;have BK185:=n1_;have HB:=n2_;clear n0_ n1_ n2_;(try clear hb);(try clear hb2);(try clear hk);(try clear hi);have hcz34_0:w33.cell? ⟨gb185,0,none⟩=some (.int .i64 0):=(blk_cell BK185.out 0).trans rfl;have hcz34_1:w33.cell? ⟨gb185,1,none⟩=some (.slice none 0 0):=(blk_cell BK185.out 1).trans rfl;have hfz34_0:=blk_frozen BK185.out 0;have hfz34_1:=blk_frozen BK185.out 1))
  refine bodyPost_ret (results_ct rfl _ _ gb185 26 #[.int .i64 0,.slice none 0 0] (0,0) _ rfl (by(with_reducible repeat(first|refine bN_ ?_ _|refine bD_ ?_|refine bA_ ?_ _));refine blk_put (cs := #[.int .i64 0,.slice none 0 0]) ?_ 1 _ rfl;(with_reducible repeat(first|refine bN_ ?_ _|refine bD_ ?_|refine bA_ ?_ _));refine blk_put (cs := #[.int .i64 0,.slice none 0 0]) ?_ 0 _ rfl;exact bup BK185.out) Try.underlying26 rfl (by kernel_rfl)) rfl ?_
  exact⟨_,fin1,by first|exact Kd.R_nil _ _ _ _ _|exact Kd.N_nil _ _ _ _ _|exact Kd.V_nil _ _ _ _ _|exact Kd.Q_nil _ _ _ _ _|exact Kd.S_nil _ _ _ _ _,bl⟩

/-! ### spec_l1In: function 25 -/
def spec_l1In.f (a0:Int) (a1:Int) (a2:Int):Option (Bool):=if a0≥a1 then(some (decide (a0≤a2))) else(some false)
set_option maxHeartbeats 8000000 in
set_option maxRecDepth 100000 in
theorem spec_l1In.calls (a0:Int) (a1:Int) (a2:Int) (r:Bool) (w:World) (h:spec_l1In.f a0 a1 a2=some r) :
  Calls Try.prog 25 #[.int .i64 a0,.int .i64 a1,.int .i64 a2] w fun e w'=>e = .returned (.bool r)∧Drawn0 w w':=by
 have H:(if a0≥a1 then(some (decide (a0≤a2))) else(some false))=some r:=h
 clear h
 by_cases c4:a0≥a1
 ·rw[if_pos c4] at H
  have c4b0:decide (a1≤a0)=true:=decide_eq_true c4
  clear c4
  obtain rfl:=Option.some.inj H
  go_enter Try.func25,Try.ntmps25
  go_wp2
  go_ret
  exact⟨by first|rfl|(simp;done)|(simp [*];done),by repeat(first|exact Drawn0.refl _|apply Drawn0.step)⟩
 ·rw[if_neg c4] at H
  have c4b0:decide (a1≤a0)=false:=decide_eq_false c4
  clear c4
  obtain rfl:=Option.some.inj H
  go_enter Try.func25,Try.ntmps25
  go_wp2
  go_ret
  exact⟨by first|rfl|(simp;done)|(simp [*];done),by repeat(first|exact Drawn0.refl _|apply Drawn0.step)⟩

end Go.Proofs.Ytlhjjpdlfddflac.PFnDrums
