/- The walks of functions that FnPatterns reaches: what they return is what the plain functions of the same names say. Made by a program of this session after the kit's print. No conditions beyond the arguments' being read. -/
import Derived.Test.YtlhjjpdlfddflabSFnPatterns0
import Derived.Test.YtlhjjpdlfddflabSFnPatterns1
import Derived.Test.YtlhjjpdlfddflabSFnPatterns2
namespace Go.Proofs.Ytlhjjpdlfddflab.PFnPatterns
open Go.RowKit Go.Proofs.YtlhjjpdlfddflabW.PrintWords Go.Proofs.YtlhjjpdlfddflabW.PrintLast Go.Proofs.YtlhjjpdlfddflabW.PrintMore
attribute [local go_sem] max2_int min2_int max_two min_two max_three min_three max_four min_four   -- for this text's walks alone
set_option linter.unusedVariables false
set_option linter.unusedSimpArgs false

/-! ### impl_CountBeats: function 13 -/
mutual
def impl_CountBeats.j0:Nat→Int→Bool→Int→List Int→Option (Int×Bool)
 | 0,_,_,_,_=>none
 | k+1,x1,x19,x220000,x220001=>if x19=true then(some (0,false)) else(if x220000=0 then(none) else(impl_CountBeats.l0 k x1 (wrap64 ((wrap64 (Int.tdiv x1 x220000))*(x220001.length:Int))) x220001 (x220001.length:Int) 0 x220000 x220001))
def impl_CountBeats.l0:Nat→Int→Int→List Int→Int→Int→Int→List Int→Option (Int×Bool)
 | 0,_,_,_,_,_,_,_=>none
 | k+1,x1,x6,x29,x30,x31,x220000,x220001=>if x31<x30 then(if 0≤x31 then(if x31<(x29.length:Int) then(if x220000=0 then(none) else(if(rd x29 x31)<(Int.tmod x1 x220000) then(impl_CountBeats.l0 k x1 (wrap64 (x6+1)) x29 x30 (wrap64 (x31+1)) x220000 x220001) else(impl_CountBeats.l0 k x1 x6 x29 x30 (wrap64 (x31+1)) x220000 x220001))) else(none)) else(none)) else(some (x6,true))
end
def impl_CountBeats.f (k:Nat) (a0_0:Int) (l0_1:List Int) (a1:Int):Option (Int×Bool):=(impl_IsPattern.f k a0_0 l0_1).bind fun t220=>(if t220=true then(if a1<0 then(impl_CountBeats.j0 k a1 true a0_0 l0_1) else(impl_CountBeats.j0 k a1 (decide (a1>1000000000)) a0_0 l0_1)) else(impl_CountBeats.j0 k a1 true a0_0 l0_1))
set_option maxHeartbeats 8000000 in
set_option maxRecDepth 100000 in
theorem impl_CountBeats.calls (k:Nat) (a0_0:Int) (A0_1:Option Addr) (c0_1:Nat) (l0_1:List Int) (a1:Int) (r1:Int) (r2:Bool) (w:World) (hr0_1:Kd.C (Kd.int .i64) w A0_1 l0_1.length l0_1) (hc0_1:l0_1.length≤c0_1) (h:impl_CountBeats.f k a0_0 l0_1 a1=some (r1,r2)) :
  Calls Try.prog 13 #[.agg #[.int .i64 a0_0,.slice A0_1 l0_1.length c0_1],.int .i64 a1] w fun e w'=>e = .returned (.tuple #[.int .i64 r1,.bool r2])∧Below w.heap.size w w':=by
 have hu26:=Try.underlying26
 have HR0_1:=am hr0_1
 have HC0_1:=am hc0_1
 clear hr0_1 hc0_1
 have HB:=am (Below.refl w.heap.size w)
 have H:((impl_IsPattern.f k a0_0 l0_1).bind fun t220=>(if t220=true then(if a1<0 then(impl_CountBeats.j0 k a1 true a0_0 l0_1) else(impl_CountBeats.j0 k a1 (decide (a1>1000000000)) a0_0 l0_1)) else(impl_CountBeats.j0 k a1 true a0_0 l0_1)))=some (r1,r2):=h
 clear h
 have HC3:=am H
 clear H
 go_enter Try.func13,Try.ntmps13
 go_upto_region 1 with(first|((with_reducible refine gate_dst (N:=2) rfl ?_);refine box_event ?hg (N:=2) ?hd (cs := #[.int .i64 a0_0,.slice A0_1 l0_1.length c0_1]) (t:=26) ?hr ?_;(case hd=>rfl);(case hg=>rfl);(case hr=>first|(go_simp;done)|(go_simp;rfl));intro gb219 hg w4 hbox hb;have n0_:=am (below_step bl hb);have n1_:=am (hbox);have n2_:=am (ge_ bl hg);have n3_:=am (ge_ bl hg);clear HB;have HB:=n0_;have BK219:=n1_;have GW219:=n2_;have GE219:=n3_;clear n0_ n1_ n2_ n3_ hb hbox hg))
 repeat(go_quiet (first|((with_reducible refine gate_dst (N:=2) rfl ?_);refine box_event ?hg (N:=2) ?hd (cs := #[.int .i64 a0_0,.slice A0_1 l0_1.length c0_1]) (t:=26) ?hr ?_;(case hd=>rfl);(case hg=>rfl);(case hr=>first|(go_simp;done)|(go_simp;rfl));intro gb219 hg w4 hbox hb;have n0_:=am (below_step bl hb);have n1_:=am (hbox);have n2_:=am (ge_ bl hg);have n3_:=am (ge_ bl hg);clear HB;have HB:=n0_;have BK219:=n1_;have GW219:=n2_;have GE219:=n3_;clear n0_ n1_ n2_ n3_ hb hbox hg));go_upto_region 1 with(first|((with_reducible refine gate_dst (N:=2) rfl ?_);refine box_event ?hg (N:=2) ?hd (cs := #[.int .i64 a0_0,.slice A0_1 l0_1.length c0_1]) (t:=26) ?hr ?_;(case hd=>rfl);(case hg=>rfl);(case hr=>first|(go_simp;done)|(go_simp;rfl));intro gb219 hg w4 hbox hb;have n0_:=am (below_step bl hb);have n1_:=am (hbox);have n2_:=am (ge_ bl hg);have n3_:=am (ge_ bl hg);clear HB;have HB:=n0_;have BK219:=n1_;have GW219:=n2_;have GE219:=n3_;clear n0_ n1_ n2_ n3_ hb hbox hg)))
 (try simp only[Act.put,List.setIfInBounds_toArray,List.set_cons_zero,List.set_cons_succ])
 go_cut [19] (fun v19 wc=>∃(kq:Nat) (x19_2:Bool),v19 = .bool x19_2∧Aside0 (impl_CountBeats.j0 kq a1 x19_2 a0_0 l0_1=some (r1,r2))∧Aside0 (kq≤k)∧Aside0 (wc.heap[gb219]?=some (.cells #[.int .i64 a0_0,(.slice A0_1 l0_1.length c0_1)] 26 (0,0)))∧Aside0 (Below w.heap.size w wc))
 case first =>
  have H:=HC3.out
  clear HC3
  replace H:=Option.bind_eq_some_iff.mp H
  obtain⟨t220,A50,H⟩:=H
  replace H:(if t220=true then(if a1<0 then(impl_CountBeats.j0 k a1 true a0_0 l0_1) else(impl_CountBeats.j0 k a1 (decide (a1>1000000000)) a0_0 l0_1)) else(impl_CountBeats.j0 k a1 true a0_0 l0_1))=some (r1,r2):=H
  have A5:=am A50
  clear A50
  by_cases c6:t220=true
  ·subst c6
   have H1:(if a1<0 then(impl_CountBeats.j0 k a1 true a0_0 l0_1) else(impl_CountBeats.j0 k a1 (decide (a1>1000000000)) a0_0 l0_1))=some (r1,r2):=by rw[if_pos rfl] at H;exact H
   clear H
   have H:=H1
   clear H1
   by_cases c7:a1<0
   ·rw[if_pos c7] at H
    have c7b0:decide (a1<0)=true:=decide_eq_true c7
    clear c7
    (first|rw[c7b0]|(simp only[i64_w,i32_w];rw[c7b0])|skip)
    have H':=am H
    clear H
    have hcz8_0:w4.cell? ⟨gb219,0,none⟩=some (.int .i64 a0_0):=(blk_cell BK219.out 0).trans rfl
    have hcz8_1:w4.cell? ⟨gb219,1,none⟩=some (.slice A0_1 l0_1.length c0_1):=(blk_cell BK219.out 1).trans rfl
    have hfz8_0:=blk_frozen BK219.out 0
    have hfz8_1:=blk_frozen BK219.out 1
    go_wp2_with (first|(go_at_call 11;(with_reducible refine(impl_IsPattern.calls k a0_0 _ _ l0_1 true _ ?side1 ?side2 A5.out).mono ?_);(case side1=>exact cup (Kd.C_below HR0_1.out HB.out));(case side2=>exact HC0_1.out);rintro e w9 ⟨rfl,hb⟩;have n0_:=am (blk_below (bup BK219.out) hb);have n1_:=am (below_step bl hb);clear BK219 HB;have BK219:=n0_;have HB:=n1_;clear n0_ n1_;(try clear hb);(try clear hb2);(try clear hk);(try clear hi)))
    repeat(go_quiet (first|(go_at_call 11;(with_reducible refine(impl_IsPattern.calls k a0_0 _ _ l0_1 true _ ?side1 ?side2 A5.out).mono ?_);(case side1=>exact cup (Kd.C_below HR0_1.out HB.out));(case side2=>exact HC0_1.out);rintro e w9 ⟨rfl,hb⟩;have n0_:=am (blk_below (bup BK219.out) hb);have n1_:=am (below_step bl hb);clear BK219 HB;have BK219:=n0_;have HB:=n1_;clear n0_ n1_;(try clear hb);(try clear hb2);(try clear hk);(try clear hi)));try go_wp2_with (first|(go_at_call 11;(with_reducible refine(impl_IsPattern.calls k a0_0 _ _ l0_1 true _ ?side1 ?side2 A5.out).mono ?_);(case side1=>exact cup (Kd.C_below HR0_1.out HB.out));(case side2=>exact HC0_1.out);rintro e w9 ⟨rfl,hb⟩;have n0_:=am (blk_below (bup BK219.out) hb);have n1_:=am (below_step bl hb);clear BK219 HB;have BK219:=n0_;have HB:=n1_;clear n0_ n1_;(try clear hb);(try clear hb2);(try clear hk);(try clear hi))))
    go_meet
    case rel=>exact⟨_,(true),fin2,H',⟨by first|omega|exact Nat.le_refl _⟩,⟨bup BK219.out⟩,⟨bl⟩⟩
   ·rw[if_neg c7] at H
    have c7b0:decide (a1<0)=false:=decide_eq_false c7
    clear c7
    (first|rw[c7b0]|(simp only[i64_w,i32_w];rw[c7b0])|skip)
    have H':=am H
    clear H
    have hcz10_0:w4.cell? ⟨gb219,0,none⟩=some (.int .i64 a0_0):=(blk_cell BK219.out 0).trans rfl
    have hcz10_1:w4.cell? ⟨gb219,1,none⟩=some (.slice A0_1 l0_1.length c0_1):=(blk_cell BK219.out 1).trans rfl
    have hfz10_0:=blk_frozen BK219.out 0
    have hfz10_1:=blk_frozen BK219.out 1
    go_wp2_with (first|(go_at_call 11;(with_reducible refine(impl_IsPattern.calls k a0_0 _ _ l0_1 true _ ?side1 ?side2 A5.out).mono ?_);(case side1=>exact cup (Kd.C_below HR0_1.out HB.out));(case side2=>exact HC0_1.out);rintro e w11 ⟨rfl,hb⟩;have n0_:=am (blk_below (bup BK219.out) hb);have n1_:=am (below_step bl hb);clear BK219 HB;have BK219:=n0_;have HB:=n1_;clear n0_ n1_;(try clear hb);(try clear hb2);(try clear hk);(try clear hi)))
    repeat(go_quiet (first|(go_at_call 11;(with_reducible refine(impl_IsPattern.calls k a0_0 _ _ l0_1 true _ ?side1 ?side2 A5.out).mono ?_);(case side1=>exact cup (Kd.C_below HR0_1.out HB.out));(case side2=>exact HC0_1.out);rintro e w11 ⟨rfl,hb⟩;have n0_:=am (blk_below (bup BK219.out) hb);have n1_:=am (below_step bl hb);clear BK219 HB;have BK219:=n0_;have HB:=n1_;clear n0_ n1_;(try clear hb);(try clear hb2);(try clear hk);(try clear hi)));try go_wp2_with (first|(go_at_call 11;(with_reducible refine(impl_IsPattern.calls k a0_0 _ _ l0_1 true _ ?side1 ?side2 A5.out).mono ?_);(case side1=>exact cup (Kd.C_below HR0_1.out HB.out));(case side2=>exact HC0_1.out);rintro e w11 ⟨rfl,hb⟩;have n0_:=am (blk_below (bup BK219.out) hb);have n1_:=am (below_step bl hb);clear BK219 HB;have BK219:=n0_;have HB:=n1_;clear n0_ n1_;(try clear hb);(try clear hb2);(try clear hk);(try clear hi))))
    go_meet
    case rel=>exact⟨_,(decide (a1>1000000000)),fin2,H',⟨by first|omega|exact Nat.le_refl _⟩,⟨bup BK219.out⟩,⟨bl⟩⟩
  ·replace c6:=Bool.eq_false_iff.mpr c6
   subst c6
   have H1:(impl_CountBeats.j0 k a1 true a0_0 l0_1)=some (r1,r2):=by rw[if_neg (show ¬ (false=true) by decide)] at H;exact H
   clear H
   have H:=H1
   clear H1
   have H':=am H
   clear H
   have hcz12_0:w4.cell? ⟨gb219,0,none⟩=some (.int .i64 a0_0):=(blk_cell BK219.out 0).trans rfl
   have hcz12_1:w4.cell? ⟨gb219,1,none⟩=some (.slice A0_1 l0_1.length c0_1):=(blk_cell BK219.out 1).trans rfl
   have hfz12_0:=blk_frozen BK219.out 0
   have hfz12_1:=blk_frozen BK219.out 1
   go_wp2_with (first|(go_at_call 11;(with_reducible refine(impl_IsPattern.calls k a0_0 _ _ l0_1 false _ ?side1 ?side2 A5.out).mono ?_);(case side1=>exact cup (Kd.C_below HR0_1.out HB.out));(case side2=>exact HC0_1.out);rintro e w13 ⟨rfl,hb⟩;have n0_:=am (blk_below (bup BK219.out) hb);have n1_:=am (below_step bl hb);clear BK219 HB;have BK219:=n0_;have HB:=n1_;clear n0_ n1_;(try clear hb);(try clear hb2);(try clear hk);(try clear hi)))
   repeat(go_quiet (first|(go_at_call 11;(with_reducible refine(impl_IsPattern.calls k a0_0 _ _ l0_1 false _ ?side1 ?side2 A5.out).mono ?_);(case side1=>exact cup (Kd.C_below HR0_1.out HB.out));(case side2=>exact HC0_1.out);rintro e w13 ⟨rfl,hb⟩;have n0_:=am (blk_below (bup BK219.out) hb);have n1_:=am (below_step bl hb);clear BK219 HB;have BK219:=n0_;have HB:=n1_;clear n0_ n1_;(try clear hb);(try clear hb2);(try clear hk);(try clear hi)));try go_wp2_with (first|(go_at_call 11;(with_reducible refine(impl_IsPattern.calls k a0_0 _ _ l0_1 false _ ?side1 ?side2 A5.out).mono ?_);(case side1=>exact cup (Kd.C_below HR0_1.out HB.out));(case side2=>exact HC0_1.out);rintro e w13 ⟨rfl,hb⟩;have n0_:=am (blk_below (bup BK219.out) hb);have n1_:=am (below_step bl hb);clear BK219 HB;have BK219:=n0_;have HB:=n1_;clear n0_ n1_;(try clear hb);(try clear hb2);(try clear hk);(try clear hi))))
   go_meet
   case rel=>exact⟨_,(true),fin2,H',⟨by first|omega|exact Nat.le_refl _⟩,⟨bup BK219.out⟩,⟨bl⟩⟩
 case rest =>
  clear HC3
  try clear c1
  try clear p2
  try clear c6
  try clear c7
  try clear c7b0
  try clear c13
  try clear hcz10_0
  try clear hcz10_1
  try clear hcz12_0
  try clear hcz12_1
  try clear hcz8_0
  try clear hcz8_1
  try clear hfz10_0
  try clear hfz10_1
  try clear hfz12_0
  try clear hfz12_1
  try clear hfz8_0
  try clear hfz8_1
  obtain⟨kq,x19_2,rfl,HA,HJ2,BK219,HB⟩:=hcut
  cases kq with
  | zero=>exact absurd HA.out (by simp [impl_CountBeats.j0])
  | succ kj2 =>
   have H:=HA.out
   clear HA
   simp only[impl_CountBeats.j0] at H
   by_cases c14:x19_2=true
   ·subst c14
    have H1:(some (0,false))=some (r1,r2):=by rw[if_pos rfl] at H;exact H
    clear H
    have H:=H1
    clear H1
    simp only[Option.some.injEq,Prod.mk.injEq] at H
    obtain⟨rfl,rfl⟩:=H
    go_wp2
    repeat(go_quiet (fail);try go_wp2)
    go_ret2
    exact⟨fin1,bl⟩
   ·replace c14:=Bool.eq_false_iff.mpr c14
    subst c14
    have H1:(if a0_0=0 then(none) else(impl_CountBeats.l0 kj2 a1 (wrap64 ((wrap64 (Int.tdiv a1 a0_0))*(l0_1.length:Int))) l0_1 (l0_1.length:Int) 0 a0_0 l0_1))=some (r1,r2):=by rw[if_neg (show ¬ (false=true) by decide)] at H;exact H
    clear H
    have H:=H1
    clear H1
    by_cases c15:a0_0=0
    ·rw[if_pos c15] at H
     exact absurd H (by simp)
    ·rw[if_neg c15] at H
     have c15b0:(a0_0 == 0)=false:=beq_eq_false_iff_ne.mpr c15
     have c15b1:(a0_0 != 0)=true:=bne_iff_ne.mpr c15
     have H':=am H
     clear H
     have hcz16_0:wc.cell? ⟨gb219,0,none⟩=some (.int .i64 a0_0):=(blk_cell BK219.out 0).trans rfl
     have hcz16_1:wc.cell? ⟨gb219,1,none⟩=some (.slice A0_1 l0_1.length c0_1):=(blk_cell BK219.out 1).trans rfl
     have hfz16_0:=blk_frozen BK219.out 0
     have hfz16_1:=blk_frozen BK219.out 1
     go_wp2
     repeat(go_quiet (fail);try go_wp2)
     go_loopg [6,31] kj2 (fun kq v6 v31 w'=>∃(x6_2:Int) (x31_2:Int),v6 = .int .i64 x6_2∧v31 = .int .i64 x31_2∧Aside0 (impl_CountBeats.l0 kq a1 x6_2 l0_1 (l0_1.length:Int) x31_2 a0_0 l0_1=some (r1,r2))∧Aside0 (kq≤kj2)∧Aside0 (w'.heap[gb219]?=some (.cells #[.int .i64 a0_0,(.slice A0_1 l0_1.length c0_1)] 26 (0,0)))∧Aside0 (Below w.heap.size w w'))
     case atStart=>exact⟨(wrap64 ((wrap64 (Int.tdiv a1 a0_0))*(l0_1.length:Int))),(0),fin2,fin2,H',⟨Nat.le_refl _⟩,⟨bup BK219.out⟩,⟨bl⟩⟩
     case round =>
      clear H'
      try clear c1
      try clear p2
      try clear c6
      try clear p6
      try clear c7
      try clear c7b0
      try clear c13
      try clear c14
      try clear c15
      try clear c15b0
      try clear c15b1
      try clear hcz10_0
      try clear hcz10_1
      try clear hcz12_0
      try clear hcz12_1
      try clear hcz16_0
      try clear hcz16_1
      try clear hcz8_0
      try clear hcz8_1
      try clear hfz10_0
      try clear hfz10_1
      try clear hfz12_0
      try clear hfz12_1
      try clear hfz16_0
      try clear hfz16_1
      try clear hfz8_0
      try clear hfz8_1
      try clear p2
      obtain⟨x6_2,x31_2,rfl,rfl,HA,HK2,BK219,HB⟩:=hrel
      cases gk with
      | zero=>exact absurd HA.out (by simp [impl_CountBeats.l0])
      | succ k2 =>
       have H:=HA.out
       clear HA
       simp only[impl_CountBeats.l0] at H
       by_cases c17:x31_2<(l0_1.length:Int)
       ·rw[if_pos c17] at H
        have c17b0:decide (x31_2<(l0_1.length:Int))=true:=decide_eq_true c17
        clear c17
        by_cases c18:0≤x31_2
        ·rw[if_pos c18] at H
         have c18b0:decide (0≤x31_2)=true:=decide_eq_true c18
         clear c18
         by_cases c19:x31_2<(l0_1.length:Int)
         ·rw[if_pos c19] at H
          have c19b0:decide (x31_2<(l0_1.length:Int))=true:=decide_eq_true c19
          clear c19
          by_cases c20:a0_0=0
          ·rw[if_pos c20] at H
           exact absurd H (by simp)
          ·rw[if_neg c20] at H
           have c20b0:(a0_0 == 0)=false:=beq_eq_false_iff_ne.mpr c20
           have c20b1:(a0_0 != 0)=true:=bne_iff_ne.mpr c20
           by_cases c21:(rd l0_1 x31_2)<(Int.tmod a1 a0_0)
           ·rw[if_pos c21] at H
            have c21b0:decide ((rd l0_1 x31_2)<(Int.tmod a1 a0_0))=true:=decide_eq_true c21
            clear c21
            have H':=am H
            clear H
            have p221:0≤(x31_2:Int):=od
            have q221:x31_2<(l0_1.length:Int):=od
            obtain⟨ad221,e221,hx221_0⟩:=Kd.at_int HR0_1.out x31_2 p221 q221
            cases e221
            replace hx221_0:=(HB.out.cell (World.block_lt_of_cell? w _ hx221_0)).trans hx221_0
            replace p221:=eq_true p221
            replace q221:=eq_true q221
            have hcz22_0:wr.cell? ⟨gb219,0,none⟩=some (.int .i64 a0_0):=(blk_cell BK219.out 0).trans rfl
            have hcz22_1:wr.cell? ⟨gb219,1,none⟩=some (.slice (some ad221) l0_1.length c0_1):=(blk_cell BK219.out 1).trans rfl
            have hfz22_0:=blk_frozen BK219.out 0
            have hfz22_1:=blk_frozen BK219.out 1
            go_wp2
            repeat(go_quiet (fail);try go_wp2)
            go_roundg k2
            case measure=>have:=HJ2.out;have:=HK2.out;omega
            case rel=>exact⟨(wrap64 (x6_2+1)),(wrap64 (x31_2+1)),fin2,fin2,H',⟨by have:=HJ2.out;have:=HK2.out;omega⟩,⟨bup BK219.out⟩,⟨bl⟩⟩
           ·rw[if_neg c21] at H
            have c21b0:decide ((rd l0_1 x31_2)<(Int.tmod a1 a0_0))=false:=decide_eq_false c21
            clear c21
            have H':=am H
            clear H
            have p221:0≤(x31_2:Int):=od
            have q221:x31_2<(l0_1.length:Int):=od
            obtain⟨ad221,e221,hx221_0⟩:=Kd.at_int HR0_1.out x31_2 p221 q221
            cases e221
            replace hx221_0:=(HB.out.cell (World.block_lt_of_cell? w _ hx221_0)).trans hx221_0
            replace p221:=eq_true p221
            replace q221:=eq_true q221
            have hcz23_0:wr.cell? ⟨gb219,0,none⟩=some (.int .i64 a0_0):=(blk_cell BK219.out 0).trans rfl
            have hcz23_1:wr.cell? ⟨gb219,1,none⟩=some (.slice (some ad221) l0_1.length c0_1):=(blk_cell BK219.out 1).trans rfl
            have hfz23_0:=blk_frozen BK219.out 0
            have hfz23_1:=blk_frozen BK219.out 1
            go_wp2
            repeat(go_quiet (fail);try go_wp2)
            go_roundg k2
            case measure=>have:=HJ2.out;have:=HK2.out;omega
            case rel=>exact⟨(x6_2),(wrap64 (x31_2+1)),fin2,fin2,H',⟨by have:=HJ2.out;have:=HK2.out;omega⟩,⟨bup BK219.out⟩,⟨bl⟩⟩
         ·rw[if_neg c19] at H
          exact absurd H (by simp)
        ·rw[if_neg c18] at H
         exact absurd H (by simp)
       ·rw[if_neg c17] at H
        have c17b0:decide (x31_2<(l0_1.length:Int))=false:=decide_eq_false c17
        clear c17
        simp only[Option.some.injEq,Prod.mk.injEq] at H
        obtain⟨rfl,rfl⟩:=H
        go_wp2
        repeat(go_quiet (fail);try go_wp2)
        go_ret2
        exact⟨fin1,bl⟩

/-! ### impl_BeatsAt: function 14 -/
def impl_BeatsAt.f (k:Nat) (a0_0:Int) (l0_1:List Int) (a1:Int):Option (Bool×Bool):=(impl_IsPattern.f k a0_0 l0_1).bind fun t223=>(if t223=true then(if a1<0 then(some (false,false)) else(if a1>1000000000 then(some (false,false)) else((impl_beatsAt.f k a0_0 l0_1 a1).bind fun t224=>(some (t224,true))))) else(some (false,false)))
set_option maxHeartbeats 8000000 in
set_option maxRecDepth 100000 in
theorem impl_BeatsAt.calls (k:Nat) (a0_0:Int) (A0_1:Option Addr) (c0_1:Nat) (l0_1:List Int) (a1:Int) (r1:Bool) (r2:Bool) (w:World) (hr0_1:Kd.C (Kd.int .i64) w A0_1 l0_1.length l0_1) (hc0_1:l0_1.length≤c0_1) (h:impl_BeatsAt.f k a0_0 l0_1 a1=some (r1,r2)) :
  Calls Try.prog 14 #[.agg #[.int .i64 a0_0,.slice A0_1 l0_1.length c0_1],.int .i64 a1] w fun e w'=>e = .returned (.tuple #[.bool r1,.bool r2])∧Below w.heap.size w w':=by
 have hu26:=Try.underlying26
 have HR0_1:=am hr0_1
 have HC0_1:=am hc0_1
 clear hr0_1 hc0_1
 have HB:=am (Below.refl w.heap.size w)
 have H:((impl_IsPattern.f k a0_0 l0_1).bind fun t223=>(if t223=true then(if a1<0 then(some (false,false)) else(if a1>1000000000 then(some (false,false)) else((impl_beatsAt.f k a0_0 l0_1 a1).bind fun t224=>(some (t224,true))))) else(some (false,false))))=some (r1,r2):=h
 clear h
 replace H:=Option.bind_eq_some_iff.mp H
 obtain⟨t223,A30,H⟩:=H
 replace H:(if t223=true then(if a1<0 then(some (false,false)) else(if a1>1000000000 then(some (false,false)) else((impl_beatsAt.f k a0_0 l0_1 a1).bind fun t224=>(some (t224,true))))) else(some (false,false)))=some (r1,r2):=H
 have A3:=am A30
 clear A30
 by_cases c4:t223=true
 ·subst c4
  have H1:(if a1<0 then(some (false,false)) else(if a1>1000000000 then(some (false,false)) else((impl_beatsAt.f k a0_0 l0_1 a1).bind fun t224=>(some (t224,true)))))=some (r1,r2):=by rw[if_pos rfl] at H;exact H
  clear H
  have H:=H1
  clear H1
  by_cases c5:a1<0
  ·rw[if_pos c5] at H
   have c5b0:decide (a1<0)=true:=decide_eq_true c5
   clear c5
   simp only[Option.some.injEq,Prod.mk.injEq] at H
   obtain⟨rfl,rfl⟩:=H
   go_enter Try.func14,Try.ntmps14
   go_wp2_with (first|((with_reducible refine gate_dst (N:=2) rfl ?_);refine box_event ?hg (N:=2) ?hd (cs := #[.int .i64 a0_0,.slice A0_1 l0_1.length c0_1]) (t:=26) ?hr ?_;(case hd=>rfl);(case hg=>rfl);(case hr=>first|(go_simp;done)|(go_simp;rfl));intro gb222 hg w6 hbox hb;have n0_:=am (below_step bl hb);have n1_:=am (hbox);have n2_:=am (ge_ bl hg);have n3_:=am (ge_ bl hg);clear HB;have HB:=n0_;have BK222:=n1_;have GW222:=n2_;have GE222:=n3_;clear n0_ n1_ n2_ n3_ hb hbox hg;have hcz7_0:w6.cell? ⟨gb222,0,none⟩=some (.int .i64 a0_0):=(blk_cell BK222.out 0).trans rfl;have hcz7_1:w6.cell? ⟨gb222,1,none⟩=some (.slice A0_1 l0_1.length c0_1):=(blk_cell BK222.out 1).trans rfl;have hfz7_0:=blk_frozen BK222.out 0;have hfz7_1:=blk_frozen BK222.out 1)|((with_reducible refine gate_callee (f:=11) rfl ?_);refine goesL_ (some 7) rfl rfl Try.func11 (by kernel_rfl) rfl #[.agg #[.int .i64 a0_0,.slice A0_1 l0_1.length c0_1]] rfl tl ?_;(with_reducible refine(impl_IsPattern.calls k a0_0 _ _ l0_1 true _ ?side1 ?side2 A3.out).mono ?_);(case side1=>exact cup (Kd.C_below HR0_1.out HB.out));(case side2=>exact HC0_1.out);rintro e w8 ⟨rfl,hb⟩;refine⟨_,rfl,?_⟩;have n0_:=am (blk_below (bup BK222.out) hb);have n1_:=am (below_step bl hb);clear BK222 HB;have BK222:=n0_;have HB:=n1_;clear n0_ n1_;(try clear hb);(try clear hb2);(try clear hk);(try clear hi)))
   go_ret2
   exact⟨fin1,bl⟩
  ·rw[if_neg c5] at H
   have c5b0:decide (a1<0)=false:=decide_eq_false c5
   clear c5
   by_cases c9:a1>1000000000
   ·rw[if_pos c9] at H
    have c9b0:decide (1000000000<a1)=true:=decide_eq_true c9
    clear c9
    simp only[Option.some.injEq,Prod.mk.injEq] at H
    obtain⟨rfl,rfl⟩:=H
    go_enter Try.func14,Try.ntmps14
    go_wp2_with (first|((with_reducible refine gate_dst (N:=2) rfl ?_);refine box_event ?hg (N:=2) ?hd (cs := #[.int .i64 a0_0,.slice A0_1 l0_1.length c0_1]) (t:=26) ?hr ?_;(case hd=>rfl);(case hg=>rfl);(case hr=>first|(go_simp;done)|(go_simp;rfl));intro gb222 hg w10 hbox hb;have n0_:=am (below_step bl hb);have n1_:=am (hbox);have n2_:=am (ge_ bl hg);have n3_:=am (ge_ bl hg);clear HB;have HB:=n0_;have BK222:=n1_;have GW222:=n2_;have GE222:=n3_;clear n0_ n1_ n2_ n3_ hb hbox hg;have hcz11_0:w10.cell? ⟨gb222,0,none⟩=some (.int .i64 a0_0):=(blk_cell BK222.out 0).trans rfl;have hcz11_1:w10.cell? ⟨gb222,1,none⟩=some (.slice A0_1 l0_1.length c0_1):=(blk_cell BK222.out 1).trans rfl;have hfz11_0:=blk_frozen BK222.out 0;have hfz11_1:=blk_frozen BK222.out 1)|((with_reducible refine gate_callee (f:=11) rfl ?_);refine goesL_ (some 7) rfl rfl Try.func11 (by kernel_rfl) rfl #[.agg #[.int .i64 a0_0,.slice A0_1 l0_1.length c0_1]] rfl tl ?_;(with_reducible refine(impl_IsPattern.calls k a0_0 _ _ l0_1 true _ ?side1 ?side2 A3.out).mono ?_);(case side1=>exact cup (Kd.C_below HR0_1.out HB.out));(case side2=>exact HC0_1.out);rintro e w12 ⟨rfl,hb⟩;refine⟨_,rfl,?_⟩;have n0_:=am (blk_below (bup BK222.out) hb);have n1_:=am (below_step bl hb);clear BK222 HB;have BK222:=n0_;have HB:=n1_;clear n0_ n1_;(try clear hb);(try clear hb2);(try clear hk);(try clear hi)))
    go_ret2
    exact⟨fin1,bl⟩
   ·rw[if_neg c9] at H
    have c9b0:decide (1000000000<a1)=false:=decide_eq_false c9
    clear c9
    replace H:=Option.bind_eq_some_iff.mp H
    obtain⟨t224,A130,H⟩:=H
    replace H:(some (t224,true))=some (r1,r2):=H
    have A13:=am A130
    clear A130
    simp only[Option.some.injEq,Prod.mk.injEq] at H
    obtain⟨rfl,rfl⟩:=H
    go_enter Try.func14,Try.ntmps14
    go_wp2_with (first|((with_reducible refine gate_dst (N:=2) rfl ?_);refine box_event ?hg (N:=2) ?hd (cs := #[.int .i64 a0_0,.slice A0_1 l0_1.length c0_1]) (t:=26) ?hr ?_;(case hd=>rfl);(case hg=>rfl);(case hr=>first|(go_simp;done)|(go_simp;rfl));intro gb222 hg w14 hbox hb;have n0_:=am (below_step bl hb);have n1_:=am (hbox);have n2_:=am (ge_ bl hg);have n3_:=am (ge_ bl hg);clear HB;have HB:=n0_;have BK222:=n1_;have GW222:=n2_;have GE222:=n3_;clear n0_ n1_ n2_ n3_ hb hbox hg;have hcz15_0:w14.cell? ⟨gb222,0,none⟩=some (.int .i64 a0_0):=(blk_cell BK222.out 0).trans rfl;have hcz15_1:w14.cell? ⟨gb222,1,none⟩=some (.slice A0_1 l0_1.length c0_1):=(blk_cell BK222.out 1).trans rfl;have hfz15_0:=blk_frozen BK222.out 0;have hfz15_1:=blk_frozen BK222.out 1)|((with_reducible refine gate_callee (f:=11) rfl ?_);refine goesL_ (some 7) rfl rfl Try.func11 (by kernel_rfl) rfl #[.agg #[.int .i64 a0_0,.slice A0_1 l0_1.length c0_1]] rfl tl ?_;(with_reducible refine(impl_IsPattern.calls k a0_0 _ _ l0_1 true _ ?side1 ?side2 A3.out).mono ?_);(case side1=>exact cup (Kd.C_below HR0_1.out HB.out));(case side2=>exact HC0_1.out);rintro e w16 ⟨rfl,hb⟩;refine⟨_,rfl,?_⟩;have n0_:=am (blk_below (bup BK222.out) hb);have n1_:=am (below_step bl hb);clear BK222 HB;have BK222:=n0_;have HB:=n1_;clear n0_ n1_;(try clear hb);(try clear hb2);(try clear hk);(try clear hi);have hcz17_0:w16.cell? ⟨gb222,0,none⟩=some (.int .i64 a0_0):=(blk_cell BK222.out 0).trans rfl;have hcz17_1:w16.cell? ⟨gb222,1,none⟩=some (.slice A0_1 l0_1.length c0_1):=(blk_cell BK222.out 1).trans rfl;have hfz17_0:=blk_frozen BK222.out 0;have hfz17_1:=blk_frozen BK222.out 1)|((with_reducible refine gate_callee (f:=25) rfl ?_);refine goesL_ (some 19) rfl rfl Try.func25 (by kernel_rfl) rfl #[.agg #[.int .i64 a0_0,.slice A0_1 l0_1.length c0_1],.int .i64 a1] rfl tl ?_;(with_reducible refine(impl_beatsAt.calls k a0_0 _ _ l0_1 a1 t224 _ ?side1 ?side2 A13.out).mono ?_);(case side1=>exact cup (Kd.C_below HR0_1.out HB.out));(case side2=>exact HC0_1.out);rintro e w18 ⟨rfl,hb⟩;refine⟨_,rfl,?_⟩;have n0_:=am (blk_below (bup BK222.out) hb);have n1_:=am (below_step bl hb);clear BK222 HB;have BK222:=n0_;have HB:=n1_;clear n0_ n1_;(try clear hb);(try clear hb2);(try clear hk);(try clear hi)))
    go_ret2
    exact⟨fin1,bl⟩
 ·replace c4:=Bool.eq_false_iff.mpr c4
  subst c4
  have H1:(some (false,false))=some (r1,r2):=by rw[if_neg (show ¬ (false=true) by decide)] at H;exact H
  clear H
  have H:=H1
  clear H1
  simp only[Option.some.injEq,Prod.mk.injEq] at H
  obtain⟨rfl,rfl⟩:=H
  go_enter Try.func14,Try.ntmps14
  go_wp2_with (first|((with_reducible refine gate_dst (N:=2) rfl ?_);refine box_event ?hg (N:=2) ?hd (cs := #[.int .i64 a0_0,.slice A0_1 l0_1.length c0_1]) (t:=26) ?hr ?_;(case hd=>rfl);(case hg=>rfl);(case hr=>first|(go_simp;done)|(go_simp;rfl));intro gb222 hg w19 hbox hb;have n0_:=am (below_step bl hb);have n1_:=am (hbox);have n2_:=am (ge_ bl hg);have n3_:=am (ge_ bl hg);clear HB;have HB:=n0_;have BK222:=n1_;have GW222:=n2_;have GE222:=n3_;clear n0_ n1_ n2_ n3_ hb hbox hg;have hcz20_0:w19.cell? ⟨gb222,0,none⟩=some (.int .i64 a0_0):=(blk_cell BK222.out 0).trans rfl;have hcz20_1:w19.cell? ⟨gb222,1,none⟩=some (.slice A0_1 l0_1.length c0_1):=(blk_cell BK222.out 1).trans rfl;have hfz20_0:=blk_frozen BK222.out 0;have hfz20_1:=blk_frozen BK222.out 1)|((with_reducible refine gate_callee (f:=11) rfl ?_);refine goesL_ (some 7) rfl rfl Try.func11 (by kernel_rfl) rfl #[.agg #[.int .i64 a0_0,.slice A0_1 l0_1.length c0_1]] rfl tl ?_;(with_reducible refine(impl_IsPattern.calls k a0_0 _ _ l0_1 false _ ?side1 ?side2 A3.out).mono ?_);(case side1=>exact cup (Kd.C_below HR0_1.out HB.out));(case side2=>exact HC0_1.out);rintro e w21 ⟨rfl,hb⟩;refine⟨_,rfl,?_⟩;have n0_:=am (blk_below (bup BK222.out) hb);have n1_:=am (below_step bl hb);clear BK222 HB;have BK222:=n0_;have HB:=n1_;clear n0_ n1_;(try clear hb);(try clear hb2);(try clear hk);(try clear hi)))
  go_ret2
  exact⟨fin1,bl⟩

/-! ### laws_pIn: function 15 -/
def laws_pIn.l0:Nat→Int→List Int→Int→Int→Option (Bool)
 | 0,_,_,_,_=>none
 | k+1,x1,x7,x8,x9=>if x9<x8 then(if 0≤x9 then(if x9<(x7.length:Int) then(if(rd x7 x9)=x1 then(some true) else(laws_pIn.l0 k x1 x7 x8 (wrap64 (x9+1)))) else(none)) else(none)) else(some false)
def laws_pIn.f (k:Nat) (l0:List Int) (a1:Int):Option (Bool):=laws_pIn.l0 k a1 l0 (l0.length:Int) 0
set_option maxHeartbeats 8000000 in
set_option maxRecDepth 100000 in
theorem laws_pIn.calls (k:Nat) (A0:Option Addr) (c0:Nat) (l0:List Int) (a1:Int) (r:Bool) (w:World) (hr0:Kd.C (Kd.int .i64) w A0 l0.length l0) (hc0:l0.length≤c0) (h:laws_pIn.f k l0 a1=some r) :
  Calls Try.prog 15 #[.slice A0 l0.length c0,.int .i64 a1] w fun e w'=>e = .returned (.bool r)∧Drawn0 w w':=by
 have HR0:=am hr0
 have HC0:=am hc0
 clear hr0 hc0
 have H:(laws_pIn.l0 k a1 l0 (l0.length:Int) 0)=some r:=h
 clear h
 have H':=am H
 clear H
 go_enter Try.func15,Try.ntmps15
 go_wp2
 go_loopg [9] k (fun kq v9 w'=>∃(x9_1:Int),v9 = .int .i64 x9_1∧Aside0 (laws_pIn.l0 kq a1 l0 (l0.length:Int) x9_1=some r)∧Aside0 (kq≤k)∧Drawn0 w w')
 case atStart=>exact⟨(0),fin2,H',⟨Nat.le_refl _⟩,by repeat(first|exact Drawn0.refl _|apply Drawn0.step)⟩
 case round =>
  clear H'
  try clear c1
  try clear p2
  obtain⟨x9_1,rfl,HA,HK1,⟨m1,rfl⟩⟩:=hrel
  cases gk with
  | zero=>exact absurd HA.out (by simp [laws_pIn.l0])
  | succ k1 =>
   have H:=HA.out
   clear HA
   simp only[laws_pIn.l0] at H
   by_cases c3:x9_1<(l0.length:Int)
   ·rw[if_pos c3] at H
    have c3b0:decide (x9_1<(l0.length:Int))=true:=decide_eq_true c3
    clear c3
    by_cases c4:0≤x9_1
    ·rw[if_pos c4] at H
     have c4b0:decide (0≤x9_1)=true:=decide_eq_true c4
     clear c4
     by_cases c5:x9_1<(l0.length:Int)
     ·rw[if_pos c5] at H
      have c5b0:decide (x9_1<(l0.length:Int))=true:=decide_eq_true c5
      clear c5
      by_cases c6:(rd l0 x9_1)=a1
      ·rw[if_pos c6] at H
       have c6b0:((rd l0 x9_1) == a1)=true:=beq_iff_eq.mpr c6
       have c6b1:((rd l0 x9_1) != a1)=false:=bne_eq_false_iff_eq.mpr c6
       clear c6
       obtain rfl:=Option.some.inj H
       have p225:0≤(x9_1:Int):=od
       have q225:x9_1<(l0.length:Int):=od
       obtain⟨ad225,e225,hx225_0⟩:=Kd.at_int HR0.out x9_1 p225 q225
       cases e225
       replace p225:=eq_true p225
       replace q225:=eq_true q225
       go_wp2
       go_ret
       exact⟨by first|rfl|(simp;done)|(simp [*];done),by repeat(first|exact Drawn0.refl _|apply Drawn0.step)⟩
      ·rw[if_neg c6] at H
       have c6b0:((rd l0 x9_1) == a1)=false:=beq_eq_false_iff_ne.mpr c6
       have c6b1:((rd l0 x9_1) != a1)=true:=bne_iff_ne.mpr c6
       have H':=am H
       clear H
       have p225:0≤(x9_1:Int):=od
       have q225:x9_1<(l0.length:Int):=od
       obtain⟨ad225,e225,hx225_0⟩:=Kd.at_int HR0.out x9_1 p225 q225
       cases e225
       replace p225:=eq_true p225
       replace q225:=eq_true q225
       go_wp2
       go_roundg k1
       case measure=>have:=HK1.out;omega
       case rel=>exact⟨(wrap64 (x9_1+1)),fin2,H',⟨by have:=HK1.out;omega⟩,by repeat(first|exact Drawn0.refl _|apply Drawn0.step)⟩
     ·rw[if_neg c5] at H
      exact absurd H (by simp)
    ·rw[if_neg c4] at H
     exact absurd H (by simp)
   ·rw[if_neg c3] at H
    have c3b0:decide (x9_1<(l0.length:Int))=false:=decide_eq_false c3
    clear c3
    obtain rfl:=Option.some.inj H
    go_wp2
    go_ret
    exact⟨by first|rfl|(simp;done)|(simp [*];done),by repeat(first|exact Drawn0.refl _|apply Drawn0.step)⟩

/-! ### spec_DrawBeatsAt: function 30 -/
def spec_DrawBeatsAt.f (k:Nat) (l0:List Int):Option (Int×List Int×Int):=(spec_l1Cur_pattern.f k l0 0 0).bind fun bt228=>((spec_l1Cur_pick.f l0 bt228.2.2.1 bt228.2.2.2 200).bind fun bt234=>((spec_l1Cur_among.f l0 bt234.2.1 bt234.2.2 (([1000000001,(-1)]:List Int))).bind fun bt240=>((spec_l1Cur_among.f l0 bt240.2.1 bt240.2.2 (([0,1,5,24,bt234.1,1000000000,bt240.1]:List Int))).bind fun bt246=>(some (bt228.1,bt228.2.1,bt246.1)))))
set_option maxHeartbeats 8000000 in
set_option maxRecDepth 100000 in
theorem spec_DrawBeatsAt.calls (k:Nat) (A0:Option Addr) (c0:Nat) (l0:List Int) (r1:Int) (r2:List Int) (r3:Int) (w:World) (hr0:Kd.C (Kd.int .u8) w A0 l0.length l0) (hc0:l0.length≤c0) (h:spec_DrawBeatsAt.f k l0=some (r1,r2,r3)) :
  Calls Try.prog 30 #[.slice A0 l0.length c0] w fun e w'=>∃ v1_:Value,e = .returned (.tuple #[.agg #[.int .i64 r1,v1_],.int .i64 r3])∧Kd.R (Kd.int .i64) 3 w' w.heap.size (fun _=>True) v1_ r2∧Below w.heap.size w w':=by
 have hu26:=Try.underlying26
 have hu53:=Try.underlying53
 have HR0:=am hr0
 have HC0:=am hc0
 clear hr0 hc0
 have HB:=am (Below.refl w.heap.size w)
 have H:((spec_l1Cur_pattern.f k l0 0 0).bind fun bt228=>((spec_l1Cur_pick.f l0 bt228.2.2.1 bt228.2.2.2 200).bind fun bt234=>((spec_l1Cur_among.f l0 bt234.2.1 bt234.2.2 (([1000000001,(-1)]:List Int))).bind fun bt240=>((spec_l1Cur_among.f l0 bt240.2.1 bt240.2.2 (([0,1,5,24,bt234.1,1000000000,bt240.1]:List Int))).bind fun bt246=>(some (bt228.1,bt228.2.1,bt246.1))))))=some (r1,r2,r3):=h
 clear h
 replace H:=Option.bind_eq_some_iff.mp H
 obtain⟨⟨t228,t229,t232,t233⟩,A20,H⟩:=H
 replace H:((spec_l1Cur_pick.f l0 t232 t233 200).bind fun bt234=>((spec_l1Cur_among.f l0 bt234.2.1 bt234.2.2 (([1000000001,(-1)]:List Int))).bind fun bt240=>((spec_l1Cur_among.f l0 bt240.2.1 bt240.2.2 (([0,1,5,24,bt234.1,1000000000,bt240.1]:List Int))).bind fun bt246=>(some (t228,t229,bt246.1)))))=some (r1,r2,r3):=H
 have A2:=am A20
 clear A20
 replace H:=Option.bind_eq_some_iff.mp H
 obtain⟨⟨t234,t235,t236⟩,A30,H⟩:=H
 replace H:((spec_l1Cur_among.f l0 t235 t236 (([1000000001,(-1)]:List Int))).bind fun bt240=>((spec_l1Cur_among.f l0 bt240.2.1 bt240.2.2 (([0,1,5,24,t234,1000000000,bt240.1]:List Int))).bind fun bt246=>(some (t228,t229,bt246.1))))=some (r1,r2,r3):=H
 have A3:=am A30
 clear A30
 obtain⟨y237,hy237⟩:∃ y_:List Int,y_=(([1000000001,(-1)]:List Int)):=⟨_,rfl⟩
 replace H:((spec_l1Cur_among.f l0 t235 t236 y237).bind fun bt240=>((spec_l1Cur_among.f l0 bt240.2.1 bt240.2.2 (([0,1,5,24,t234,1000000000,bt240.1]:List Int))).bind fun bt246=>(some (t228,t229,bt246.1))))=some (r1,r2,r3):=by first|(rw[hy237];with_reducible exact H)|(have H2_:=(Option.bind_some _ _).symm.trans H;rw[hy237];with_reducible exact H2_)|(have H2_:=(Option.bind_some _ _).symm.trans H;with_reducible exact H2_)|with_reducible exact H|(rw[hy237];exact H)|exact H
 have Ny237:=am hy237
 clear hy237
 replace H:=Option.bind_eq_some_iff.mp H
 obtain⟨⟨t240,t241,t242⟩,A40,H⟩:=H
 replace H:((spec_l1Cur_among.f l0 t241 t242 (([0,1,5,24,t234,1000000000,t240]:List Int))).bind fun bt246=>(some (t228,t229,bt246.1)))=some (r1,r2,r3):=H
 have A4:=am A40
 clear A40
 obtain⟨y243,hy243⟩:∃ y_:List Int,y_=(([0,1,5,24,t234,1000000000,t240]:List Int)):=⟨_,rfl⟩
 replace H:((spec_l1Cur_among.f l0 t241 t242 y243).bind fun bt246=>(some (t228,t229,bt246.1)))=some (r1,r2,r3):=by first|(rw[hy243];with_reducible exact H)|(have H2_:=(Option.bind_some _ _).symm.trans H;rw[hy243];with_reducible exact H2_)|(have H2_:=(Option.bind_some _ _).symm.trans H;with_reducible exact H2_)|with_reducible exact H|(rw[hy243];exact H)|exact H
 have Ny243:=am hy243
 clear hy243
 replace H:=Option.bind_eq_some_iff.mp H
 obtain⟨⟨t246,t247,t248⟩,A50,H⟩:=H
 replace H:(some (t228,t229,t246))=some (r1,r2,r3):=H
 have A5:=am A50
 clear A50
 simp only[Option.some.injEq,Prod.mk.injEq] at H
 obtain⟨rfl,rfl,rfl⟩:=H
 go_enter Try.func30,Try.ntmps30
 go_wp2_with (first|((with_reducible refine gate_dst (N:=2) rfl ?_);refine box_event ?hg (N:=2) ?hd (cs := #[.int .i64 0,.slice none 0 0]) (t:=26) ?hr ?_;(case hd=>rfl);(case hg=>rfl);(case hr=>first|(go_simp;done)|(go_simp;rfl));intro gb226 hg w6 hbox hb;have n0_:=am (below_step bl hb);have n1_:=am (hbox);have n2_:=am (ge_ bl hg);have n3_:=am (ge_ bl hg);clear HB;have HB:=n0_;have BK226:=n1_;have GW226:=n2_;have GE226:=n3_;clear n0_ n1_ n2_ n3_ hb hbox hg)|((with_reducible refine gate_dst (N:=7) rfl ?_);refine box_event ?hg (N:=7) ?hd (cs := #[.slice A0 l0.length c0,.int .i64 0,.int .u64 0]) (t:=53) ?hr ?_;(case hd=>rfl);(case hg=>rfl);(case hr=>first|(go_simp;done)|(go_simp;rfl));intro gb227 hg w7 hbox hb;have n0_:=am (blk_below (bup BK226.out) hb);have n1_:=am (below_step bl hb);have n2_:=am (hbox);have n3_:=am (ge_ bl hg);have n4_:=am (ge_ bl hg);have n5_:=am (nl (bup BK226.out) hg);have n6_:=am (ng (bup BK226.out) hg);have n7_:=am ((show IsS53 w w7 gb227 l0 0 0 from⟨_,_,hbox,(by rw[hg];exact(below_size bl):w.heap.size≤gb227),HR0.out⟩));clear BK226 HB;have BK226:=n0_;have HB:=n1_;have BK227:=n2_;have GW227:=n3_;have GE227:=n4_;have NB226_227:=n5_;have NB227_226:=n6_;have HI227:=n7_;clear n0_ n1_ n2_ n3_ n4_ n5_ n6_ n7_ hb hbox hg)|((with_reducible refine gate_callee (f:=35) rfl ?_);refine goesL_ (some 9) rfl rfl Try.func35 (by kernel_rfl) rfl #[.pointer (some ⟨gb227,0,none⟩)] rfl tl ?_;(with_reducible refine(spec_l1Cur_pattern.calls k gb227 l0 0 0 t228 t229 t232 t233 w _ ?side1 ?side2 A2.out).mono ?_);(case side1=>repeat(first|(with_reducible first|exact HI227.out|apply IsS53.alloc|apply IsS53.drewN|apply IsS53.drew|apply IsS53.set_1|apply IsS53.set_2|refine IsS53.far ?_ NB227_226.out _)|exact HI227.out));(case side2=>repeat(first|(with_reducible first|exact HB.out|apply below_alloc|apply pw_below_drewN|apply below_drew1|refine below_set ?_ (IsS53.ge HI227.out)|refine below_set ?_ GE226.out)|exact HB.out));rintro e w8 ⟨v230,rfl,ho0,hi,hb,hk⟩;refine⟨_,rfl,?_⟩;have n0_:=am (KeepBut.blk hk (g':=gb226) (o := .cells #[.int .i64 0,.slice none 0 0] 26 (0,0)) (bup BK226.out) NB226_227.out (by simp));have n1_:=am (Kd.R_lower ho0 (below_size (by repeat(first|(with_reducible first|exact HB.out|apply below_alloc|apply pw_below_drewN|apply below_drew1|refine below_set ?_ (IsS53.ge HI227.out)|refine below_set ?_ GE226.out)|exact HB.out))));have n2_:=am (hb);have n3_:=am (hi);clear BK226 HB HI227;have BK226:=n0_;have HO231:=n1_;have HB:=n2_;have HI227:=n3_;clear n0_ n1_ n2_ n3_;(try clear hb);(try clear hb2);(try clear hk);(try clear hi);(try clear ho0))|((with_reducible refine gate_callee (f:=41) rfl ?_);refine goesL_ (some 12) rfl rfl Try.func41 (by kernel_rfl) rfl #[.pointer (some ⟨gb227,0,none⟩),.int .i64 200] rfl tl ?_;(with_reducible refine(spec_l1Cur_pick.calls gb227 l0 t232 t233 200 t234 t235 t236 w _ ?side1 ?side2 A3.out).mono ?_);(case side1=>repeat(first|(with_reducible first|exact HI227.out|apply IsS53.alloc|apply IsS53.drewN|apply IsS53.drew|apply IsS53.set_1|apply IsS53.set_2|refine IsS53.far ?_ NB227_226.out _)|exact HI227.out));(case side2=>repeat(first|(with_reducible first|exact HB.out|apply below_alloc|apply pw_below_drewN|apply below_drew1|refine below_set ?_ (IsS53.ge HI227.out)|refine below_set ?_ GE226.out)|exact HB.out));rintro e w9 ⟨rfl,hi,hb,hk⟩;refine⟨_,rfl,?_⟩;have n0_:=am (KeepBut.blk hk (g':=gb226) (o := .cells #[.int .i64 0,.slice none 0 0] 26 (0,0)) (bup BK226.out) NB226_227.out (by simp));have n1_:=am (Kd.R_mono (Kd.R_keep (IsS53.apart (show IsS53 w _ gb227 l0 t232 t233 from by repeat(first|(with_reducible first|exact HI227.out|apply IsS53.alloc|apply IsS53.drewN|apply IsS53.drew|apply IsS53.set_1|apply IsS53.set_2|refine IsS53.far ?_ NB227_226.out _)|exact HI227.out)) (rup HO231.out) (by decide)) hk (fun _ h=>h.2)) (fun _ h=>h.1));have n2_:=am (hb);have n3_:=am (hi);clear BK226 HO231 HB HI227;have BK226:=n0_;have HO231:=n1_;have HB:=n2_;have HI227:=n3_;clear n0_ n1_ n2_ n3_;(try clear hb);(try clear hb2);(try clear hk);(try clear hi))|((with_reducible refine gate_dst (N:=14) rfl ?_);refine Kd.R_lit (Kd.int .i64) _ 3 ?hg (N:=14) ?hd (xs:=([1000000001,(-1)]:List Int)) (inner:=[.int .i64 1000000001,.int .i64 (-1)]) (ok:=fun _=>True) (okp:=fun _=>True) ?hr ?hp (fun _ hk=>hk) trivial (Below.refl _ _) (Nat.le_refl _) (by simp) ?_;(case hd=>rfl);(case hg=>rfl);(case hr=>first|(go_simp;done)|(go_simp;rfl));(case hp=>exact(Reps.one (show Kd.M (Kd.int .i64) _ _ _ 1000000001 [.int .i64 1000000001] from rfl) (Reps.one (show Kd.M (Kd.int .i64) _ _ _ (-1) [.int .i64 (-1)] from rfl) (Reps.none _ _))));intro v238 w10 ho11 hb hg_ hnew_;clear hg_ hnew_;(first|rw[← Ny237.out] at ho11|(simp only[Int.reduceToNat] at ho11;rw[← Ny237.out] at ho11));have n0_:=am (Kd.R_elder' (rup HO231.out) (Kd.R_base ho11) hb);have n1_:=am (Kd.R_lower (Kd.R_new' ho11 (Kd.R_lt (rup HO231.out))) (below_size (by repeat(first|(with_reducible first|exact HB.out|apply below_alloc|apply pw_below_drewN|apply below_drew1|refine below_set ?_ (IsS53.ge HI227.out)|refine below_set ?_ GE226.out)|exact HB.out))));have n2_:=am (blk_below (bup BK226.out) hb);have n3_:=am (IsS53.below (by repeat(first|(with_reducible first|exact HI227.out|apply IsS53.alloc|apply IsS53.drewN|apply IsS53.drew|apply IsS53.set_1|apply IsS53.set_2|refine IsS53.far ?_ NB227_226.out _)|exact HI227.out)) hb);have n4_:=am (below_step (by repeat(first|(with_reducible first|exact HB.out|apply below_alloc|apply pw_below_drewN|apply below_drew1|refine below_set ?_ (IsS53.ge HI227.out)|refine below_set ?_ GE226.out)|exact HB.out)) hb);clear HO231 BK226 HI227 HB;have HO231:=n0_;have HO239:=n1_;have BK226:=n2_;have HI227:=n3_;have HB:=n4_;clear n0_ n1_ n2_ n3_ n4_ hb ho11;obtain⟨Ao12,co12,eo12⟩:=Kd.R_slice HO239.out;subst eo12)|((with_reducible refine gate_callee (f:=33) rfl ?_);refine goesL_ (some 15) rfl rfl Try.func33 (by kernel_rfl) rfl #[.pointer (some ⟨gb227,0,none⟩),.slice Ao12 y237.length co12] rfl tl ?_;(with_reducible refine(spec_l1Cur_among.calls gb227 l0 t235 t236 _ _ y237 t240 t241 t242 w _ ?side1 ?side2 ?side3 ?side4 ?side5 A4.out).mono ?_);(case side1=>repeat(first|(with_reducible first|exact HI227.out|apply IsS53.alloc|apply IsS53.drewN|apply IsS53.drew|apply IsS53.set_1|apply IsS53.set_2|refine IsS53.far ?_ NB227_226.out _)|exact HI227.out));(case side2=>repeat(first|(with_reducible first|exact HB.out|apply below_alloc|apply pw_below_drewN|apply below_drew1|refine below_set ?_ (IsS53.ge HI227.out)|refine below_set ?_ GE226.out)|exact HB.out));(case side3=>repeat(first|exact(Kd.R_reads' HO239.out).2.2|(with_reducible refine Kd.C_alloc ?_ _)|(with_reducible refine Kd.C_drewN ?_ _)|(with_reducible refine Kd.C_drew ?_)));(case side4=>exact(Kd.R_reads' HO239.out).2.1);(case side5=>exact far_slice (IsS53.own_ne HI227.out HO239.out (by decide)));rintro e w13 ⟨rfl,hi,hb,hk⟩;refine⟨_,rfl,?_⟩;have n0_:=am (KeepBut.blk hk (g':=gb226) (o := .cells #[.int .i64 0,.slice none 0 0] 26 (0,0)) (bup BK226.out) NB226_227.out (by simp));have n1_:=am (Kd.R_mono (Kd.R_keep (IsS53.apart (show IsS53 w _ gb227 l0 t235 t236 from by repeat(first|(with_reducible first|exact HI227.out|apply IsS53.alloc|apply IsS53.drewN|apply IsS53.drew|apply IsS53.set_1|apply IsS53.set_2|refine IsS53.far ?_ NB227_226.out _)|exact HI227.out)) (rup HO231.out) (by decide)) hk (fun _ h=>h.2)) (fun _ h=>h.1));have n2_:=am (Kd.R_mono (Kd.R_keep (IsS53.apart (show IsS53 w _ gb227 l0 t235 t236 from by repeat(first|(with_reducible first|exact HI227.out|apply IsS53.alloc|apply IsS53.drewN|apply IsS53.drew|apply IsS53.set_1|apply IsS53.set_2|refine IsS53.far ?_ NB227_226.out _)|exact HI227.out)) (rup HO239.out) (by decide)) hk (fun _ h=>h.2)) (fun _ h=>h.1));have n3_:=am (hb);have n4_:=am (hi);clear BK226 HO231 HO239 HB HI227;have BK226:=n0_;have HO231:=n1_;have HO239:=n2_;have HB:=n3_;have HI227:=n4_;clear n0_ n1_ n2_ n3_ n4_;(try clear hb);(try clear hb2);(try clear hk);(try clear hi))|((with_reducible refine gate_dst (N:=16) rfl ?_);refine Kd.R_lit (Kd.int .i64) _ 3 ?hg (N:=16) ?hd (xs:=([0,1,5,24,t234,1000000000,t240]:List Int)) (inner:=[.int .i64 0,.int .i64 1,.int .i64 5,.int .i64 24,.int .i64 t234,.int .i64 1000000000,.int .i64 t240]) (ok:=fun _=>True) (okp:=fun _=>True) ?hr ?hp (fun _ hk=>hk) trivial (Below.refl _ _) (Nat.le_refl _) (by simp) ?_;(case hd=>rfl);(case hg=>rfl);(case hr=>first|(go_simp;done)|(go_simp;rfl));(case hp=>exact(Reps.one (show Kd.M (Kd.int .i64) _ _ _ 0 [.int .i64 0] from rfl) (Reps.one (show Kd.M (Kd.int .i64) _ _ _ 1 [.int .i64 1] from rfl) (Reps.one (show Kd.M (Kd.int .i64) _ _ _ 5 [.int .i64 5] from rfl) (Reps.one (show Kd.M (Kd.int .i64) _ _ _ 24 [.int .i64 24] from rfl) (Reps.one (show Kd.M (Kd.int .i64) _ _ _ t234 [.int .i64 t234] from rfl) (Reps.one (show Kd.M (Kd.int .i64) _ _ _ 1000000000 [.int .i64 1000000000] from rfl) (Reps.one (show Kd.M (Kd.int .i64) _ _ _ t240 [.int .i64 t240] from rfl) (Reps.none _ _)))))))));intro v244 w14 ho15 hb hg_ hnew_;clear hg_ hnew_;(first|rw[← Ny243.out] at ho15|(simp only[Int.reduceToNat] at ho15;rw[← Ny243.out] at ho15));have n0_:=am (Kd.R_elder' (rup HO231.out) (Kd.R_base ho15) hb);have n1_:=am (Kd.R_elder' (rup HO239.out) (Kd.R_base ho15) hb);have n2_:=am (Kd.R_lower (Kd.R_new' (Kd.R_new' ho15 (Kd.R_lt (rup HO231.out))) (Kd.R_lt (rup HO239.out))) (below_size (by repeat(first|(with_reducible first|exact HB.out|apply below_alloc|apply pw_below_drewN|apply below_drew1|refine below_set ?_ (IsS53.ge HI227.out)|refine below_set ?_ GE226.out)|exact HB.out))));have n3_:=am (blk_below (bup BK226.out) hb);have n4_:=am (IsS53.below (by repeat(first|(with_reducible first|exact HI227.out|apply IsS53.alloc|apply IsS53.drewN|apply IsS53.drew|apply IsS53.set_1|apply IsS53.set_2|refine IsS53.far ?_ NB227_226.out _)|exact HI227.out)) hb);have n5_:=am (below_step (by repeat(first|(with_reducible first|exact HB.out|apply below_alloc|apply pw_below_drewN|apply below_drew1|refine below_set ?_ (IsS53.ge HI227.out)|refine below_set ?_ GE226.out)|exact HB.out)) hb);clear HO231 HO239 BK226 HI227 HB;have HO231:=n0_;have HO239:=n1_;have HO245:=n2_;have BK226:=n3_;have HI227:=n4_;have HB:=n5_;clear n0_ n1_ n2_ n3_ n4_ n5_ hb ho15;obtain⟨Ao16,co16,eo16⟩:=Kd.R_slice HO245.out;subst eo16)|((with_reducible refine gate_callee (f:=33) rfl ?_);refine goesL_ (some 17) rfl rfl Try.func33 (by kernel_rfl) rfl #[.pointer (some ⟨gb227,0,none⟩),.slice Ao16 y243.length co16] rfl tl ?_;(with_reducible refine(spec_l1Cur_among.calls gb227 l0 t241 t242 _ _ y243 t246 t247 t248 w _ ?side1 ?side2 ?side3 ?side4 ?side5 A5.out).mono ?_);(case side1=>repeat(first|(with_reducible first|exact HI227.out|apply IsS53.alloc|apply IsS53.drewN|apply IsS53.drew|apply IsS53.set_1|apply IsS53.set_2|refine IsS53.far ?_ NB227_226.out _)|exact HI227.out));(case side2=>repeat(first|(with_reducible first|exact HB.out|apply below_alloc|apply pw_below_drewN|apply below_drew1|refine below_set ?_ (IsS53.ge HI227.out)|refine below_set ?_ GE226.out)|exact HB.out));(case side3=>repeat(first|exact(Kd.R_reads' HO245.out).2.2|(with_reducible refine Kd.C_alloc ?_ _)|(with_reducible refine Kd.C_drewN ?_ _)|(with_reducible refine Kd.C_drew ?_)));(case side4=>exact(Kd.R_reads' HO245.out).2.1);(case side5=>exact far_slice (IsS53.own_ne HI227.out HO245.out (by decide)));rintro e w17 ⟨rfl,hi,hb,hk⟩;refine⟨_,rfl,?_⟩;have n0_:=am (KeepBut.blk hk (g':=gb226) (o := .cells #[.int .i64 0,.slice none 0 0] 26 (0,0)) (bup BK226.out) NB226_227.out (by simp));have n1_:=am (Kd.R_mono (Kd.R_keep (IsS53.apart (show IsS53 w _ gb227 l0 t241 t242 from by repeat(first|(with_reducible first|exact HI227.out|apply IsS53.alloc|apply IsS53.drewN|apply IsS53.drew|apply IsS53.set_1|apply IsS53.set_2|refine IsS53.far ?_ NB227_226.out _)|exact HI227.out)) (rup HO231.out) (by decide)) hk (fun _ h=>h.2)) (fun _ h=>h.1));have n2_:=am (Kd.R_mono (Kd.R_keep (IsS53.apart (show IsS53 w _ gb227 l0 t241 t242 from by repeat(first|(with_reducible first|exact HI227.out|apply IsS53.alloc|apply IsS53.drewN|apply IsS53.drew|apply IsS53.set_1|apply IsS53.set_2|refine IsS53.far ?_ NB227_226.out _)|exact HI227.out)) (rup HO239.out) (by decide)) hk (fun _ h=>h.2)) (fun _ h=>h.1));have n3_:=am (Kd.R_mono (Kd.R_keep (IsS53.apart (show IsS53 w _ gb227 l0 t241 t242 from by repeat(first|(with_reducible first|exact HI227.out|apply IsS53.alloc|apply IsS53.drewN|apply IsS53.drew|apply IsS53.set_1|apply IsS53.set_2|refine IsS53.far ?_ NB227_226.out _)|exact HI227.out)) (rup HO245.out) (by decide)) hk (fun _ h=>h.2)) (fun _ h=>h.1));have n4_:=am (hb);have n5_:=am (hi);clear BK226 HO231 HO239 HO245 HB HI227;have BK226:=n0_;have HO231:=n1_;have HO239:=n2_;have HO245:=n3_;have HB:=n4_;have HI227:=n5_;clear n0_ n1_ n2_ n3_ n4_ n5_;(try clear hb);(try clear hb2);(try clear hk);(try clear hi);have hnb18:=NB226_227.out;have hnc18:=NB227_226.out;have hcz19_0:w17.cell? ⟨gb226,0,none⟩=some (.int .i64 0):=(blk_cell BK226.out 0).trans rfl;have hcz19_1:w17.cell? ⟨gb226,1,none⟩=some (.slice none 0 0):=(blk_cell BK226.out 1).trans rfl;have hfz19_0:=blk_frozen BK226.out 0;have hfz19_1:=blk_frozen BK226.out 1;obtain⟨Ao20,co20,eo20⟩:=Kd.R_slice HO231.out;subst eo20))
 refine bodyPost_ret (results_ct rfl _ _ gb226 26 #[.int .i64 t228,.slice Ao20 t229.length co20] (0,0) _ rfl (by(with_reducible repeat(first|refine bN_ ?_ _|refine bD_ ?_|refine bA_ ?_ _));refine blk_put (cs := #[.int .i64 t228,.slice none 0 0]) ?_ 1 _ rfl;(with_reducible repeat(first|refine bN_ ?_ _|refine bD_ ?_|refine bA_ ?_ _));refine blk_put (cs := #[.int .i64 0,.slice none 0 0]) ?_ 0 _ rfl;exact bup BK226.out) Try.underlying26 rfl (by kernel_rfl)) rfl ?_
 exact⟨_,fin1,rup (Kd.R_mono (Kd.R_far (p:=⟨gb226,1,none⟩) (Kd.R_far (p:=⟨gb226,0,none⟩) (Kd.R_types HO231.out BK226.out (by decide)) (fun _ hk=>hk.2) (.int .i64 t228)) (fun _ hk=>hk.2) (.slice Ao20 t229.length co20)) (fun _ hk=>trivial)),by repeat(first|(with_reducible first|exact HB.out|apply below_alloc|apply pw_below_drewN|apply below_drew1|refine below_set ?_ (IsS53.ge HI227.out)|refine below_set ?_ GE226.out)|exact HB.out)⟩

/-! ### spec_DrawCountBeats: function 16 -/
def spec_DrawCountBeats.f (k:Nat) (l0:List Int):Option (Int×List Int×Int):=(spec_DrawBeatsAt.f k l0).bind fun bt250=>(some (bt250.1,bt250.2.1,bt250.2.2))
set_option maxHeartbeats 8000000 in
set_option maxRecDepth 100000 in
theorem spec_DrawCountBeats.calls (k:Nat) (A0:Option Addr) (c0:Nat) (l0:List Int) (r1:Int) (r2:List Int) (r3:Int) (w:World) (hr0:Kd.C (Kd.int .u8) w A0 l0.length l0) (hc0:l0.length≤c0) (h:spec_DrawCountBeats.f k l0=some (r1,r2,r3)) :
  Calls Try.prog 16 #[.slice A0 l0.length c0] w fun e w'=>∃ v1_:Value,e = .returned (.tuple #[.agg #[.int .i64 r1,v1_],.int .i64 r3])∧Kd.R (Kd.int .i64) 3 w' w.heap.size (fun _=>True) v1_ r2∧Below w.heap.size w w':=by
 have hu26:=Try.underlying26
 have HR0:=am hr0
 have HC0:=am hc0
 clear hr0 hc0
 have HB:=am (Below.refl w.heap.size w)
 have H:((spec_DrawBeatsAt.f k l0).bind fun bt250=>(some (bt250.1,bt250.2.1,bt250.2.2)))=some (r1,r2,r3):=h
 clear h
 replace H:=Option.bind_eq_some_iff.mp H
 obtain⟨⟨t250,t251,t254⟩,A20,H⟩:=H
 replace H:(some (t250,t251,t254))=some (r1,r2,r3):=H
 have A2:=am A20
 clear A20
 simp only[Option.some.injEq,Prod.mk.injEq] at H
 obtain⟨rfl,rfl,rfl⟩:=H
 go_enter Try.func16,Try.ntmps16
 go_wp2_with (first|((with_reducible refine gate_dst (N:=2) rfl ?_);refine box_event ?hg (N:=2) ?hd (cs := #[.int .i64 0,.slice none 0 0]) (t:=26) ?hr ?_;(case hd=>rfl);(case hg=>rfl);(case hr=>first|(go_simp;done)|(go_simp;rfl));intro gb249 hg w3 hbox hb;have n0_:=am (below_step bl hb);have n1_:=am (hbox);have n2_:=am (ge_ bl hg);have n3_:=am (ge_ bl hg);clear HB;have HB:=n0_;have BK249:=n1_;have GW249:=n2_;have GE249:=n3_;clear n0_ n1_ n2_ n3_ hb hbox hg)|((with_reducible refine gate_callee (f:=30) rfl ?_);refine goesL_ (some 5) rfl rfl Try.func30 (by kernel_rfl) rfl #[.slice A0 l0.length c0] rfl tl ?_;(with_reducible refine(spec_DrawBeatsAt.calls k _ _ l0 t250 t251 t254 _ ?side1 ?side2 A2.out).mono ?_);(case side1=>exact cup (Kd.C_below HR0.out HB.out));(case side2=>exact HC0.out);rintro e w4 ⟨v252,rfl,ho0,hb⟩;refine⟨_,rfl,?_⟩;have n0_:=am (Kd.R_lower ho0 (below_size bl));have n1_:=am (blk_below (bup BK249.out) hb);have n2_:=am (below_step bl hb);clear BK249 HB;have HO253:=n0_;have BK249:=n1_;have HB:=n2_;clear n0_ n1_ n2_;(try clear hb);(try clear hb2);(try clear hk);(try clear hi);(try clear ho0);have hcz5_0:w4.cell? ⟨gb249,0,none⟩=some (.int .i64 0):=(blk_cell BK249.out 0).trans rfl;have hcz5_1:w4.cell? ⟨gb249,1,none⟩=some (.slice none 0 0):=(blk_cell BK249.out 1).trans rfl;have hfz5_0:=blk_frozen BK249.out 0;have hfz5_1:=blk_frozen BK249.out 1;obtain⟨Ao6,co6,eo6⟩:=Kd.R_slice HO253.out;subst eo6))
 refine bodyPost_ret (results_ct rfl _ _ gb249 26 #[.int .i64 t250,.slice Ao6 t251.length co6] (0,0) _ rfl (by(with_reducible repeat(first|refine bN_ ?_ _|refine bD_ ?_|refine bA_ ?_ _));refine blk_put (cs := #[.int .i64 t250,.slice none 0 0]) ?_ 1 _ rfl;(with_reducible repeat(first|refine bN_ ?_ _|refine bD_ ?_|refine bA_ ?_ _));refine blk_put (cs := #[.int .i64 0,.slice none 0 0]) ?_ 0 _ rfl;exact bup BK249.out) Try.underlying26 rfl (by kernel_rfl)) rfl ?_
 exact⟨_,fin1,rup (Kd.R_mono (Kd.R_far (p:=⟨gb249,1,none⟩) (Kd.R_far (p:=⟨gb249,0,none⟩) (Kd.R_types HO253.out BK249.out (by decide)) (fun _ hk=>hk.2) (.int .i64 t250)) (fun _ hk=>hk.2) (.slice Ao6 t251.length co6)) (fun _ hk=>trivial)),bl⟩

/-! ### spec_drStep: function 31 -/
def spec_drStep.f (a0:Int):Option (Bool):=(spec_l1In.f a0 0 1000000000).bind fun t255=>(some t255)
set_option maxHeartbeats 8000000 in
set_option maxRecDepth 100000 in
theorem spec_drStep.calls (a0:Int) (r:Bool) (w:World) (h:spec_drStep.f a0=some r) :
  Calls Try.prog 31 #[.int .i64 a0] w fun e w'=>e = .returned (.bool r)∧Drawn0 w w':=by
 have H:((spec_l1In.f a0 0 1000000000).bind fun t255=>(some t255))=some r:=h
 clear h
 replace H:=Option.bind_eq_some_iff.mp H
 obtain⟨t255,A20,H⟩:=H
 replace H:(some t255)=some r:=H
 have A2:=am A20
 clear A20
 obtain rfl:=Option.some.inj H
 go_enter Try.func31,Try.ntmps31
 go_wp2_with (first|((with_reducible refine gate_callee (f:=34) rfl ?_);refine goesL_ (some 4) rfl rfl Try.func34 (by kernel_rfl) rfl #[.int .i64 a0,.int .i64 0,.int .i64 1000000000] rfl tl ?_;(with_reducible refine(spec_l1In.calls a0 0 1000000000 t255 _ A2.out).mono ?_);rintro e w' ⟨rfl,⟨nd,rfl⟩⟩;refine⟨_,rfl,?_⟩))
 go_ret
 exact⟨by first|rfl|(simp;done)|(simp [*];done),by repeat(first|exact Drawn0.refl _|apply Drawn0.step)⟩

end Go.Proofs.Ytlhjjpdlfddflab.PFnPatterns
