/- The walks of functions that FnPatterns reaches: what they return is what the plain functions of the same names say. Made by a program of this session after the kit's print. No conditions beyond the arguments' being read. -/
import Derived.Test.YtlhjjpdlfddflabSFnPatterns0
import Derived.Test.YtlhjjpdlfddflabSFnPatterns1
import Derived.Test.YtlhjjpdlfddflabSFnPatterns3
import Derived.Test.YtlhjjpdlfddflabSFnPatterns5
namespace Go.Proofs.Ytlhjjpdlfddflab.PFnPatterns
open Go.RowKit Go.Proofs.YtlhjjpdlfddflabW.PrintWords Go.Proofs.YtlhjjpdlfddflabW.PrintLast Go.Proofs.YtlhjjpdlfddflabW.PrintMore
attribute [local go_sem] max2_int min2_int max_two min_two max_three min_three max_four min_four   -- for this text's walks alone
set_option linter.unusedVariables false
set_option linter.unusedSimpArgs false

/-! ### spec_CountBeats: function 17 -/
mutual
def spec_CountBeats.j0:Nat→Int→Bool→Int→List Int→Option (Int×Bool)
 | 0,_,_,_,_=>none
 | k+1,x1,x16,x257000,x257001=>if x16=true then(some (0,false)) else(if x257000=0 then(none) else(spec_CountBeats.l0 k x1 (wrap64 ((wrap64 (Int.tdiv x1 x257000))*(x257001.length:Int))) x257001 (x257001.length:Int) 0 x257000 x257001))
def spec_CountBeats.l0:Nat→Int→Int→List Int→Int→Int→Int→List Int→Option (Int×Bool)
 | 0,_,_,_,_,_,_,_=>none
 | k+1,x1,x6,x26,x27,x28,x257000,x257001=>if x28<x27 then(if 0≤x28 then(if x28<(x26.length:Int) then(if x257000=0 then(none) else(if(rd x26 x28)<(Int.tmod x1 x257000) then(spec_CountBeats.l0 k x1 (wrap64 (x6+1)) x26 x27 (wrap64 (x28+1)) x257000 x257001) else(spec_CountBeats.l0 k x1 x6 x26 x27 (wrap64 (x28+1)) x257000 x257001))) else(none)) else(none)) else(some (x6,true))
end
def spec_CountBeats.f (k:Nat) (a0_0:Int) (l0_1:List Int) (a1:Int):Option (Int×Bool):=(spec_drGood.f k a0_0 l0_1).bind fun t257=>(if t257=true then((spec_drStep.f a1).bind fun t258=>(spec_CountBeats.j0 k a1 (!t258) a0_0 l0_1)) else(spec_CountBeats.j0 k a1 true a0_0 l0_1))
set_option maxHeartbeats 8000000 in
set_option maxRecDepth 100000 in
theorem spec_CountBeats.calls (k:Nat) (a0_0:Int) (A0_1:Option Addr) (c0_1:Nat) (l0_1:List Int) (a1:Int) (r1:Int) (r2:Bool) (w:World) (hr0_1:Kd.C (Kd.int .i64) w A0_1 l0_1.length l0_1) (hc0_1:l0_1.length≤c0_1) (h:spec_CountBeats.f k a0_0 l0_1 a1=some (r1,r2)) :
  Calls Try.prog 17 #[.agg #[.int .i64 a0_0,.slice A0_1 l0_1.length c0_1],.int .i64 a1] w fun e w'=>e = .returned (.tuple #[.int .i64 r1,.bool r2])∧Below w.heap.size w w':=by
 have hu26:=Try.underlying26
 have HR0_1:=am hr0_1
 have HC0_1:=am hc0_1
 clear hr0_1 hc0_1
 have HB:=am (Below.refl w.heap.size w)
 have H:((spec_drGood.f k a0_0 l0_1).bind fun t257=>(if t257=true then((spec_drStep.f a1).bind fun t258=>(spec_CountBeats.j0 k a1 (!t258) a0_0 l0_1)) else(spec_CountBeats.j0 k a1 true a0_0 l0_1)))=some (r1,r2):=h
 clear h
 have HC3:=am H
 clear H
 go_enter Try.func17,Try.ntmps17
 go_upto_region 1 with(first|((with_reducible refine gate_dst (N:=2) rfl ?_);refine box_event ?hg (N:=2) ?hd (cs := #[.int .i64 a0_0,.slice A0_1 l0_1.length c0_1]) (t:=26) ?hr ?_;(case hd=>rfl);(case hg=>rfl);(case hr=>first|(go_simp;done)|(go_simp;rfl));intro gb256 hg w4 hbox hb;have n0_:=am (below_step bl hb);have n1_:=am (hbox);have n2_:=am (ge_ bl hg);have n3_:=am (ge_ bl hg);clear HB;have HB:=n0_;have BK256:=n1_;have GW256:=n2_;have GE256:=n3_;clear n0_ n1_ n2_ n3_ hb hbox hg))
 repeat(go_quiet (first|((with_reducible refine gate_dst (N:=2) rfl ?_);refine box_event ?hg (N:=2) ?hd (cs := #[.int .i64 a0_0,.slice A0_1 l0_1.length c0_1]) (t:=26) ?hr ?_;(case hd=>rfl);(case hg=>rfl);(case hr=>first|(go_simp;done)|(go_simp;rfl));intro gb256 hg w4 hbox hb;have n0_:=am (below_step bl hb);have n1_:=am (hbox);have n2_:=am (ge_ bl hg);have n3_:=am (ge_ bl hg);clear HB;have HB:=n0_;have BK256:=n1_;have GW256:=n2_;have GE256:=n3_;clear n0_ n1_ n2_ n3_ hb hbox hg));go_upto_region 1 with(first|((with_reducible refine gate_dst (N:=2) rfl ?_);refine box_event ?hg (N:=2) ?hd (cs := #[.int .i64 a0_0,.slice A0_1 l0_1.length c0_1]) (t:=26) ?hr ?_;(case hd=>rfl);(case hg=>rfl);(case hr=>first|(go_simp;done)|(go_simp;rfl));intro gb256 hg w4 hbox hb;have n0_:=am (below_step bl hb);have n1_:=am (hbox);have n2_:=am (ge_ bl hg);have n3_:=am (ge_ bl hg);clear HB;have HB:=n0_;have BK256:=n1_;have GW256:=n2_;have GE256:=n3_;clear n0_ n1_ n2_ n3_ hb hbox hg)))
 (try simp only[Act.put,List.setIfInBounds_toArray,List.set_cons_zero,List.set_cons_succ])
 go_cut [16] (fun v16 wc=>∃(kq:Nat) (x16_2:Bool),v16 = .bool x16_2∧Aside0 (spec_CountBeats.j0 kq a1 x16_2 a0_0 l0_1=some (r1,r2))∧Aside0 (kq≤k)∧Aside0 (wc.heap[gb256]?=some (.cells #[.int .i64 a0_0,(.slice A0_1 l0_1.length c0_1)] 26 (0,0)))∧Aside0 (Below w.heap.size w wc))
 case first =>
  have H:=HC3.out
  clear HC3
  replace H:=Option.bind_eq_some_iff.mp H
  obtain⟨t257,A50,H⟩:=H
  replace H:(if t257=true then((spec_drStep.f a1).bind fun t258=>(spec_CountBeats.j0 k a1 (!t258) a0_0 l0_1)) else(spec_CountBeats.j0 k a1 true a0_0 l0_1))=some (r1,r2):=H
  have A5:=am A50
  clear A50
  by_cases c6:t257=true
  ·subst c6
   have H1:((spec_drStep.f a1).bind fun t258=>(spec_CountBeats.j0 k a1 (!t258) a0_0 l0_1))=some (r1,r2):=by rw[if_pos rfl] at H;exact H
   clear H
   have H:=H1
   clear H1
   replace H:=Option.bind_eq_some_iff.mp H
   obtain⟨t258,A70,H⟩:=H
   replace H:(spec_CountBeats.j0 k a1 (!t258) a0_0 l0_1)=some (r1,r2):=H
   have A7:=am A70
   clear A70
   have H':=am H
   clear H
   have hcz8_0:w4.cell? ⟨gb256,0,none⟩=some (.int .i64 a0_0):=(blk_cell BK256.out 0).trans rfl
   have hcz8_1:w4.cell? ⟨gb256,1,none⟩=some (.slice A0_1 l0_1.length c0_1):=(blk_cell BK256.out 1).trans rfl
   have hfz8_0:=blk_frozen BK256.out 0
   have hfz8_1:=blk_frozen BK256.out 1
   go_wp2_with (first|(go_at_call 26;(with_reducible refine(spec_drGood.calls k a0_0 _ _ l0_1 true _ ?side1 ?side2 A5.out).mono ?_);(case side1=>exact cup (Kd.C_below HR0_1.out HB.out));(case side2=>exact HC0_1.out);rintro e w9 ⟨rfl,hb⟩;have n0_:=am (blk_below (bup BK256.out) hb);have n1_:=am (below_step bl hb);clear BK256 HB;have BK256:=n0_;have HB:=n1_;clear n0_ n1_;(try clear hb);(try clear hb2);(try clear hk);(try clear hi))|(go_at_call 31;(with_reducible refine(spec_drStep.calls a1 t258 _ A7.out).mono ?_);rintro e w' ⟨rfl,⟨nd,rfl⟩⟩;(try first|exact⟨rfl,_,World.drewN_drewN _ _ _⟩|exact⟨rfl,_,Eq.trans (World.drewN_drewN _ _ _) (congrArg (World.drewN _) (Nat.add_assoc _ _ _))⟩)))
   repeat(go_quiet (first|(go_at_call 26;(with_reducible refine(spec_drGood.calls k a0_0 _ _ l0_1 true _ ?side1 ?side2 A5.out).mono ?_);(case side1=>exact cup (Kd.C_below HR0_1.out HB.out));(case side2=>exact HC0_1.out);rintro e w9 ⟨rfl,hb⟩;have n0_:=am (blk_below (bup BK256.out) hb);have n1_:=am (below_step bl hb);clear BK256 HB;have BK256:=n0_;have HB:=n1_;clear n0_ n1_;(try clear hb);(try clear hb2);(try clear hk);(try clear hi))|(go_at_call 31;(with_reducible refine(spec_drStep.calls a1 t258 _ A7.out).mono ?_);rintro e w' ⟨rfl,⟨nd,rfl⟩⟩;(try first|exact⟨rfl,_,World.drewN_drewN _ _ _⟩|exact⟨rfl,_,Eq.trans (World.drewN_drewN _ _ _) (congrArg (World.drewN _) (Nat.add_assoc _ _ _))⟩)));try go_wp2_with (first|(go_at_call 26;(with_reducible refine(spec_drGood.calls k a0_0 _ _ l0_1 true _ ?side1 ?side2 A5.out).mono ?_);(case side1=>exact cup (Kd.C_below HR0_1.out HB.out));(case side2=>exact HC0_1.out);rintro e w9 ⟨rfl,hb⟩;have n0_:=am (blk_below (bup BK256.out) hb);have n1_:=am (below_step bl hb);clear BK256 HB;have BK256:=n0_;have HB:=n1_;clear n0_ n1_;(try clear hb);(try clear hb2);(try clear hk);(try clear hi))|(go_at_call 31;(with_reducible refine(spec_drStep.calls a1 t258 _ A7.out).mono ?_);rintro e w' ⟨rfl,⟨nd,rfl⟩⟩;(try first|exact⟨rfl,_,World.drewN_drewN _ _ _⟩|exact⟨rfl,_,Eq.trans (World.drewN_drewN _ _ _) (congrArg (World.drewN _) (Nat.add_assoc _ _ _))⟩))))
   go_meet
   case rel=>exact⟨_,(!t258),fin2,H',⟨by first|omega|exact Nat.le_refl _⟩,⟨bup BK256.out⟩,⟨bl⟩⟩
  ·replace c6:=Bool.eq_false_iff.mpr c6
   subst c6
   have H1:(spec_CountBeats.j0 k a1 true a0_0 l0_1)=some (r1,r2):=by rw[if_neg (show ¬ (false=true) by decide)] at H;exact H
   clear H
   have H:=H1
   clear H1
   have H':=am H
   clear H
   have hcz10_0:w4.cell? ⟨gb256,0,none⟩=some (.int .i64 a0_0):=(blk_cell BK256.out 0).trans rfl
   have hcz10_1:w4.cell? ⟨gb256,1,none⟩=some (.slice A0_1 l0_1.length c0_1):=(blk_cell BK256.out 1).trans rfl
   have hfz10_0:=blk_frozen BK256.out 0
   have hfz10_1:=blk_frozen BK256.out 1
   go_wp2_with (first|(go_at_call 26;(with_reducible refine(spec_drGood.calls k a0_0 _ _ l0_1 false _ ?side1 ?side2 A5.out).mono ?_);(case side1=>exact cup (Kd.C_below HR0_1.out HB.out));(case side2=>exact HC0_1.out);rintro e w11 ⟨rfl,hb⟩;have n0_:=am (blk_below (bup BK256.out) hb);have n1_:=am (below_step bl hb);clear BK256 HB;have BK256:=n0_;have HB:=n1_;clear n0_ n1_;(try clear hb);(try clear hb2);(try clear hk);(try clear hi)))
   repeat(go_quiet (first|(go_at_call 26;(with_reducible refine(spec_drGood.calls k a0_0 _ _ l0_1 false _ ?side1 ?side2 A5.out).mono ?_);(case side1=>exact cup (Kd.C_below HR0_1.out HB.out));(case side2=>exact HC0_1.out);rintro e w11 ⟨rfl,hb⟩;have n0_:=am (blk_below (bup BK256.out) hb);have n1_:=am (below_step bl hb);clear BK256 HB;have BK256:=n0_;have HB:=n1_;clear n0_ n1_;(try clear hb);(try clear hb2);(try clear hk);(try clear hi)));try go_wp2_with (first|(go_at_call 26;(with_reducible refine(spec_drGood.calls k a0_0 _ _ l0_1 false _ ?side1 ?side2 A5.out).mono ?_);(case side1=>exact cup (Kd.C_below HR0_1.out HB.out));(case side2=>exact HC0_1.out);rintro e w11 ⟨rfl,hb⟩;have n0_:=am (blk_below (bup BK256.out) hb);have n1_:=am (below_step bl hb);clear BK256 HB;have BK256:=n0_;have HB:=n1_;clear n0_ n1_;(try clear hb);(try clear hb2);(try clear hk);(try clear hi))))
   go_meet
   case rel=>exact⟨_,(true),fin2,H',⟨by first|omega|exact Nat.le_refl _⟩,⟨bup BK256.out⟩,⟨bl⟩⟩
 case rest =>
  clear HC3
  try clear c1
  try clear p2
  try clear c6
  try clear hcz10_0
  try clear hcz10_1
  try clear hcz8_0
  try clear hcz8_1
  try clear hfz10_0
  try clear hfz10_1
  try clear hfz8_0
  try clear hfz8_1
  obtain⟨kq,x16_2,rfl,HA,HJ2,BK256,HB⟩:=hcut
  cases kq with
  | zero=>exact absurd HA.out (by simp [spec_CountBeats.j0])
  | succ kj2 =>
   have H:=HA.out
   clear HA
   simp only[spec_CountBeats.j0] at H
   by_cases c12:x16_2=true
   ·subst c12
    have H1:(some (0,false))=some (r1,r2):=by rw[if_pos rfl] at H;exact H
    clear H
    have H:=H1
    clear H1
    simp only[Option.some.injEq,Prod.mk.injEq] at H
    obtain⟨rfl,rfl⟩:=H
    go_wp2
    repeat(go_quiet (fail);try go_wp2)
    go_ret2
    exact⟨fin1,bl⟩
   ·replace c12:=Bool.eq_false_iff.mpr c12
    subst c12
    have H1:(if a0_0=0 then(none) else(spec_CountBeats.l0 kj2 a1 (wrap64 ((wrap64 (Int.tdiv a1 a0_0))*(l0_1.length:Int))) l0_1 (l0_1.length:Int) 0 a0_0 l0_1))=some (r1,r2):=by rw[if_neg (show ¬ (false=true) by decide)] at H;exact H
    clear H
    have H:=H1
    clear H1
    by_cases c13:a0_0=0
    ·rw[if_pos c13] at H
     exact absurd H (by simp)
    ·rw[if_neg c13] at H
     have c13b0:(a0_0 == 0)=false:=beq_eq_false_iff_ne.mpr c13
     have c13b1:(a0_0 != 0)=true:=bne_iff_ne.mpr c13
     have H':=am H
     clear H
     have hcz14_0:wc.cell? ⟨gb256,0,none⟩=some (.int .i64 a0_0):=(blk_cell BK256.out 0).trans rfl
     have hcz14_1:wc.cell? ⟨gb256,1,none⟩=some (.slice A0_1 l0_1.length c0_1):=(blk_cell BK256.out 1).trans rfl
     have hfz14_0:=blk_frozen BK256.out 0
     have hfz14_1:=blk_frozen BK256.out 1
     go_wp2
     repeat(go_quiet (fail);try go_wp2)
     go_loopg [6,28] kj2 (fun kq v6 v28 w'=>∃(x6_2:Int) (x28_2:Int),v6 = .int .i64 x6_2∧v28 = .int .i64 x28_2∧Aside0 (spec_CountBeats.l0 kq a1 x6_2 l0_1 (l0_1.length:Int) x28_2 a0_0 l0_1=some (r1,r2))∧Aside0 (kq≤kj2)∧Aside0 (w'.heap[gb256]?=some (.cells #[.int .i64 a0_0,(.slice A0_1 l0_1.length c0_1)] 26 (0,0)))∧Aside0 (Below w.heap.size w w'))
     case atStart=>exact⟨(wrap64 ((wrap64 (Int.tdiv a1 a0_0))*(l0_1.length:Int))),(0),fin2,fin2,H',⟨Nat.le_refl _⟩,⟨bup BK256.out⟩,⟨bl⟩⟩
     case round =>
      clear H'
      try clear c1
      try clear p2
      try clear c6
      try clear p6
      try clear c12
      try clear c13
      try clear c13b0
      try clear c13b1
      try clear hcz10_0
      try clear hcz10_1
      try clear hcz14_0
      try clear hcz14_1
      try clear hcz8_0
      try clear hcz8_1
      try clear hfz10_0
      try clear hfz10_1
      try clear hfz14_0
      try clear hfz14_1
      try clear hfz8_0
      try clear hfz8_1
      try clear p2
      obtain⟨x6_2,x28_2,rfl,rfl,HA,HK2,BK256,HB⟩:=hrel
      cases gk with
      | zero=>exact absurd HA.out (by simp [spec_CountBeats.l0])
      | succ k2 =>
       have H:=HA.out
       clear HA
       simp only[spec_CountBeats.l0] at H
       by_cases c15:x28_2<(l0_1.length:Int)
       ·rw[if_pos c15] at H
        have c15b0:decide (x28_2<(l0_1.length:Int))=true:=decide_eq_true c15
        clear c15
        by_cases c16:0≤x28_2
        ·rw[if_pos c16] at H
         have c16b0:decide (0≤x28_2)=true:=decide_eq_true c16
         clear c16
         by_cases c17:x28_2<(l0_1.length:Int)
         ·rw[if_pos c17] at H
          have c17b0:decide (x28_2<(l0_1.length:Int))=true:=decide_eq_true c17
          clear c17
          by_cases c18:a0_0=0
          ·rw[if_pos c18] at H
           exact absurd H (by simp)
          ·rw[if_neg c18] at H
           have c18b0:(a0_0 == 0)=false:=beq_eq_false_iff_ne.mpr c18
           have c18b1:(a0_0 != 0)=true:=bne_iff_ne.mpr c18
           by_cases c19:(rd l0_1 x28_2)<(Int.tmod a1 a0_0)
           ·rw[if_pos c19] at H
            have c19b0:decide ((rd l0_1 x28_2)<(Int.tmod a1 a0_0))=true:=decide_eq_true c19
            clear c19
            have H':=am H
            clear H
            have p259:0≤(x28_2:Int):=od
            have q259:x28_2<(l0_1.length:Int):=od
            obtain⟨ad259,e259,hx259_0⟩:=Kd.at_int HR0_1.out x28_2 p259 q259
            cases e259
            replace hx259_0:=(HB.out.cell (World.block_lt_of_cell? w _ hx259_0)).trans hx259_0
            replace p259:=eq_true p259
            replace q259:=eq_true q259
            have hcz20_0:wr.cell? ⟨gb256,0,none⟩=some (.int .i64 a0_0):=(blk_cell BK256.out 0).trans rfl
            have hcz20_1:wr.cell? ⟨gb256,1,none⟩=some (.slice (some ad259) l0_1.length c0_1):=(blk_cell BK256.out 1).trans rfl
            have hfz20_0:=blk_frozen BK256.out 0
            have hfz20_1:=blk_frozen BK256.out 1
            go_wp2
            repeat(go_quiet (fail);try go_wp2)
            go_roundg k2
            case measure=>have:=HJ2.out;have:=HK2.out;omega
            case rel=>exact⟨(wrap64 (x6_2+1)),(wrap64 (x28_2+1)),fin2,fin2,H',⟨by have:=HJ2.out;have:=HK2.out;omega⟩,⟨bup BK256.out⟩,⟨bl⟩⟩
           ·rw[if_neg c19] at H
            have c19b0:decide ((rd l0_1 x28_2)<(Int.tmod a1 a0_0))=false:=decide_eq_false c19
            clear c19
            have H':=am H
            clear H
            have p259:0≤(x28_2:Int):=od
            have q259:x28_2<(l0_1.length:Int):=od
            obtain⟨ad259,e259,hx259_0⟩:=Kd.at_int HR0_1.out x28_2 p259 q259
            cases e259
            replace hx259_0:=(HB.out.cell (World.block_lt_of_cell? w _ hx259_0)).trans hx259_0
            replace p259:=eq_true p259
            replace q259:=eq_true q259
            have hcz21_0:wr.cell? ⟨gb256,0,none⟩=some (.int .i64 a0_0):=(blk_cell BK256.out 0).trans rfl
            have hcz21_1:wr.cell? ⟨gb256,1,none⟩=some (.slice (some ad259) l0_1.length c0_1):=(blk_cell BK256.out 1).trans rfl
            have hfz21_0:=blk_frozen BK256.out 0
            have hfz21_1:=blk_frozen BK256.out 1
            go_wp2
            repeat(go_quiet (fail);try go_wp2)
            go_roundg k2
            case measure=>have:=HJ2.out;have:=HK2.out;omega
            case rel=>exact⟨(x6_2),(wrap64 (x28_2+1)),fin2,fin2,H',⟨by have:=HJ2.out;have:=HK2.out;omega⟩,⟨bup BK256.out⟩,⟨bl⟩⟩
         ·rw[if_neg c17] at H
          exact absurd H (by simp)
        ·rw[if_neg c16] at H
         exact absurd H (by simp)
       ·rw[if_neg c15] at H
        have c15b0:decide (x28_2<(l0_1.length:Int))=false:=decide_eq_false c15
        clear c15
        simp only[Option.some.injEq,Prod.mk.injEq] at H
        obtain⟨rfl,rfl⟩:=H
        go_wp2
        repeat(go_quiet (fail);try go_wp2)
        go_ret2
        exact⟨fin1,bl⟩

/-! ### spec_drBeats: function 32 -/
def spec_drBeats.f (k:Nat) (a0_0:Int) (l0_1:List Int) (a1:Int):Option (Bool):=if a0_0=0 then(none) else((spec_l1Has.f k l0_1 (Int.tmod a1 a0_0)).bind fun t261=>(some t261))
set_option maxHeartbeats 8000000 in
set_option maxRecDepth 100000 in
theorem spec_drBeats.calls (k:Nat) (a0_0:Int) (A0_1:Option Addr) (c0_1:Nat) (l0_1:List Int) (a1:Int) (r:Bool) (w:World) (hr0_1:Kd.C (Kd.int .i64) w A0_1 l0_1.length l0_1) (hc0_1:l0_1.length≤c0_1) (h:spec_drBeats.f k a0_0 l0_1 a1=some r) :
  Calls Try.prog 32 #[.agg #[.int .i64 a0_0,.slice A0_1 l0_1.length c0_1],.int .i64 a1] w fun e w'=>e = .returned (.bool r)∧Below w.heap.size w w':=by
 have hu26:=Try.underlying26
 have HR0_1:=am hr0_1
 have HC0_1:=am hc0_1
 clear hr0_1 hc0_1
 have HB:=am (Below.refl w.heap.size w)
 have H:(if a0_0=0 then(none) else((spec_l1Has.f k l0_1 (Int.tmod a1 a0_0)).bind fun t261=>(some t261)))=some r:=h
 clear h
 by_cases c3:a0_0=0
 ·rw[if_pos c3] at H
  exact absurd H (by simp)
 ·rw[if_neg c3] at H
  have c3b0:(a0_0 == 0)=false:=beq_eq_false_iff_ne.mpr c3
  have c3b1:(a0_0 != 0)=true:=bne_iff_ne.mpr c3
  replace H:=Option.bind_eq_some_iff.mp H
  obtain⟨t261,A40,H⟩:=H
  replace H:(some t261)=some r:=H
  have A4:=am A40
  clear A40
  obtain rfl:=Option.some.inj H
  go_enter Try.func32,Try.ntmps32
  go_wp2_with (first|((with_reducible refine gate_dst (N:=2) rfl ?_);refine box_event ?hg (N:=2) ?hd (cs := #[.int .i64 a0_0,.slice A0_1 l0_1.length c0_1]) (t:=26) ?hr ?_;(case hd=>rfl);(case hg=>rfl);(case hr=>first|(go_simp;done)|(go_simp;rfl));intro gb260 hg w5 hbox hb;have n0_:=am (below_step bl hb);have n1_:=am (hbox);have n2_:=am (ge_ bl hg);have n3_:=am (ge_ bl hg);clear HB;have HB:=n0_;have BK260:=n1_;have GW260:=n2_;have GE260:=n3_;clear n0_ n1_ n2_ n3_ hb hbox hg;have hcz6_0:w5.cell? ⟨gb260,0,none⟩=some (.int .i64 a0_0):=(blk_cell BK260.out 0).trans rfl;have hcz6_1:w5.cell? ⟨gb260,1,none⟩=some (.slice A0_1 l0_1.length c0_1):=(blk_cell BK260.out 1).trans rfl;have hfz6_0:=blk_frozen BK260.out 0;have hfz6_1:=blk_frozen BK260.out 1)|(go_at_call 28;(with_reducible refine(spec_l1Has.calls k _ _ l0_1 (Int.tmod a1 a0_0) t261 _ ?side1 ?side2 A4.out).mono ?_);(case side1=>exact cup (Kd.C_below HR0_1.out HB.out));(case side2=>exact HC0_1.out);rintro e w' ⟨rfl,⟨nd,rfl⟩⟩;(try first|exact⟨rfl,_,World.drewN_drewN _ _ _⟩|exact⟨rfl,_,Eq.trans (World.drewN_drewN _ _ _) (congrArg (World.drewN _) (Nat.add_assoc _ _ _))⟩)))
  repeat(go_quiet (first|((with_reducible refine gate_dst (N:=2) rfl ?_);refine box_event ?hg (N:=2) ?hd (cs := #[.int .i64 a0_0,.slice A0_1 l0_1.length c0_1]) (t:=26) ?hr ?_;(case hd=>rfl);(case hg=>rfl);(case hr=>first|(go_simp;done)|(go_simp;rfl));intro gb260 hg w5 hbox hb;have n0_:=am (below_step bl hb);have n1_:=am (hbox);have n2_:=am (ge_ bl hg);have n3_:=am (ge_ bl hg);clear HB;have HB:=n0_;have BK260:=n1_;have GW260:=n2_;have GE260:=n3_;clear n0_ n1_ n2_ n3_ hb hbox hg;have hcz6_0:w5.cell? ⟨gb260,0,none⟩=some (.int .i64 a0_0):=(blk_cell BK260.out 0).trans rfl;have hcz6_1:w5.cell? ⟨gb260,1,none⟩=some (.slice A0_1 l0_1.length c0_1):=(blk_cell BK260.out 1).trans rfl;have hfz6_0:=blk_frozen BK260.out 0;have hfz6_1:=blk_frozen BK260.out 1)|(go_at_call 28;(with_reducible refine(spec_l1Has.calls k _ _ l0_1 (Int.tmod a1 a0_0) t261 _ ?side1 ?side2 A4.out).mono ?_);(case side1=>exact cup (Kd.C_below HR0_1.out HB.out));(case side2=>exact HC0_1.out);rintro e w' ⟨rfl,⟨nd,rfl⟩⟩;(try first|exact⟨rfl,_,World.drewN_drewN _ _ _⟩|exact⟨rfl,_,Eq.trans (World.drewN_drewN _ _ _) (congrArg (World.drewN _) (Nat.add_assoc _ _ _))⟩)));try go_wp2_with (first|((with_reducible refine gate_dst (N:=2) rfl ?_);refine box_event ?hg (N:=2) ?hd (cs := #[.int .i64 a0_0,.slice A0_1 l0_1.length c0_1]) (t:=26) ?hr ?_;(case hd=>rfl);(case hg=>rfl);(case hr=>first|(go_simp;done)|(go_simp;rfl));intro gb260 hg w5 hbox hb;have n0_:=am (below_step bl hb);have n1_:=am (hbox);have n2_:=am (ge_ bl hg);have n3_:=am (ge_ bl hg);clear HB;have HB:=n0_;have BK260:=n1_;have GW260:=n2_;have GE260:=n3_;clear n0_ n1_ n2_ n3_ hb hbox hg;have hcz6_0:w5.cell? ⟨gb260,0,none⟩=some (.int .i64 a0_0):=(blk_cell BK260.out 0).trans rfl;have hcz6_1:w5.cell? ⟨gb260,1,none⟩=some (.slice A0_1 l0_1.length c0_1):=(blk_cell BK260.out 1).trans rfl;have hfz6_0:=blk_frozen BK260.out 0;have hfz6_1:=blk_frozen BK260.out 1)|(go_at_call 28;(with_reducible refine(spec_l1Has.calls k _ _ l0_1 (Int.tmod a1 a0_0) t261 _ ?side1 ?side2 A4.out).mono ?_);(case side1=>exact cup (Kd.C_below HR0_1.out HB.out));(case side2=>exact HC0_1.out);rintro e w' ⟨rfl,⟨nd,rfl⟩⟩;(try first|exact⟨rfl,_,World.drewN_drewN _ _ _⟩|exact⟨rfl,_,Eq.trans (World.drewN_drewN _ _ _) (congrArg (World.drewN _) (Nat.add_assoc _ _ _))⟩))))
  go_ret
  exact⟨fin1,bl⟩

/-! ### spec_BeatsAt: function 18 -/
def spec_BeatsAt.f (k:Nat) (a0_0:Int) (l0_1:List Int) (a1:Int):Option (Bool×Bool):=(spec_drGood.f k a0_0 l0_1).bind fun t263=>(if t263=true then((spec_drStep.f a1).bind fun t264=>(if t264=true then((spec_drBeats.f k a0_0 l0_1 a1).bind fun t265=>(some (t265,true))) else(some (false,false)))) else(some (false,false)))
set_option maxHeartbeats 8000000 in
set_option maxRecDepth 100000 in
theorem spec_BeatsAt.calls (k:Nat) (a0_0:Int) (A0_1:Option Addr) (c0_1:Nat) (l0_1:List Int) (a1:Int) (r1:Bool) (r2:Bool) (w:World) (hr0_1:Kd.C (Kd.int .i64) w A0_1 l0_1.length l0_1) (hc0_1:l0_1.length≤c0_1) (h:spec_BeatsAt.f k a0_0 l0_1 a1=some (r1,r2)) :
  Calls Try.prog 18 #[.agg #[.int .i64 a0_0,.slice A0_1 l0_1.length c0_1],.int .i64 a1] w fun e w'=>e = .returned (.tuple #[.bool r1,.bool r2])∧Below w.heap.size w w':=by
 have hu26:=Try.underlying26
 have HR0_1:=am hr0_1
 have HC0_1:=am hc0_1
 clear hr0_1 hc0_1
 have HB:=am (Below.refl w.heap.size w)
 have H:((spec_drGood.f k a0_0 l0_1).bind fun t263=>(if t263=true then((spec_drStep.f a1).bind fun t264=>(if t264=true then((spec_drBeats.f k a0_0 l0_1 a1).bind fun t265=>(some (t265,true))) else(some (false,false)))) else(some (false,false))))=some (r1,r2):=h
 clear h
 replace H:=Option.bind_eq_some_iff.mp H
 obtain⟨t263,A30,H⟩:=H
 replace H:(if t263=true then((spec_drStep.f a1).bind fun t264=>(if t264=true then((spec_drBeats.f k a0_0 l0_1 a1).bind fun t265=>(some (t265,true))) else(some (false,false)))) else(some (false,false)))=some (r1,r2):=H
 have A3:=am A30
 clear A30
 by_cases c4:t263=true
 ·subst c4
  have H1:((spec_drStep.f a1).bind fun t264=>(if t264=true then((spec_drBeats.f k a0_0 l0_1 a1).bind fun t265=>(some (t265,true))) else(some (false,false))))=some (r1,r2):=by rw[if_pos rfl] at H;exact H
  clear H
  have H:=H1
  clear H1
  replace H:=Option.bind_eq_some_iff.mp H
  obtain⟨t264,A50,H⟩:=H
  replace H:(if t264=true then((spec_drBeats.f k a0_0 l0_1 a1).bind fun t265=>(some (t265,true))) else(some (false,false)))=some (r1,r2):=H
  have A5:=am A50
  clear A50
  by_cases c6:t264=true
  ·subst c6
   have H1:((spec_drBeats.f k a0_0 l0_1 a1).bind fun t265=>(some (t265,true)))=some (r1,r2):=by rw[if_pos rfl] at H;exact H
   clear H
   have H:=H1
   clear H1
   replace H:=Option.bind_eq_some_iff.mp H
   obtain⟨t265,A70,H⟩:=H
   replace H:(some (t265,true))=some (r1,r2):=H
   have A7:=am A70
   clear A70
   simp only[Option.some.injEq,Prod.mk.injEq] at H
   obtain⟨rfl,rfl⟩:=H
   go_enter Try.func18,Try.ntmps18
   go_wp2_with (first|((with_reducible refine gate_dst (N:=2) rfl ?_);refine box_event ?hg (N:=2) ?hd (cs := #[.int .i64 a0_0,.slice A0_1 l0_1.length c0_1]) (t:=26) ?hr ?_;(case hd=>rfl);(case hg=>rfl);(case hr=>first|(go_simp;done)|(go_simp;rfl));intro gb262 hg w8 hbox hb;have n0_:=am (below_step bl hb);have n1_:=am (hbox);have n2_:=am (ge_ bl hg);have n3_:=am (ge_ bl hg);clear HB;have HB:=n0_;have BK262:=n1_;have GW262:=n2_;have GE262:=n3_;clear n0_ n1_ n2_ n3_ hb hbox hg;have hcz9_0:w8.cell? ⟨gb262,0,none⟩=some (.int .i64 a0_0):=(blk_cell BK262.out 0).trans rfl;have hcz9_1:w8.cell? ⟨gb262,1,none⟩=some (.slice A0_1 l0_1.length c0_1):=(blk_cell BK262.out 1).trans rfl;have hfz9_0:=blk_frozen BK262.out 0;have hfz9_1:=blk_frozen BK262.out 1)|((with_reducible refine gate_callee (f:=26) rfl ?_);refine goesL_ (some 7) rfl rfl Try.func26 (by kernel_rfl) rfl #[.agg #[.int .i64 a0_0,.slice A0_1 l0_1.length c0_1]] rfl tl ?_;(with_reducible refine(spec_drGood.calls k a0_0 _ _ l0_1 true _ ?side1 ?side2 A3.out).mono ?_);(case side1=>exact cup (Kd.C_below HR0_1.out HB.out));(case side2=>exact HC0_1.out);rintro e w10 ⟨rfl,hb⟩;refine⟨_,rfl,?_⟩;have n0_:=am (blk_below (bup BK262.out) hb);have n1_:=am (below_step bl hb);clear BK262 HB;have BK262:=n0_;have HB:=n1_;clear n0_ n1_;(try clear hb);(try clear hb2);(try clear hk);(try clear hi))|(go_at_call 31;(with_reducible refine(spec_drStep.calls a1 true _ A5.out).mono ?_);rintro e w' ⟨rfl,⟨nd,rfl⟩⟩;have hcz11_0:w10.cell? ⟨gb262,0,none⟩=some (.int .i64 a0_0):=(blk_cell BK262.out 0).trans rfl;have hcz11_1:w10.cell? ⟨gb262,1,none⟩=some (.slice A0_1 l0_1.length c0_1):=(blk_cell BK262.out 1).trans rfl;have hfz11_0:=blk_frozen BK262.out 0;have hfz11_1:=blk_frozen BK262.out 1)|((with_reducible refine gate_callee (f:=32) rfl ?_);refine goesL_ (some 16) rfl rfl Try.func32 (by kernel_rfl) rfl #[.agg #[.int .i64 a0_0,.slice A0_1 l0_1.length c0_1],.int .i64 a1] rfl tl ?_;(with_reducible refine(spec_drBeats.calls k a0_0 _ _ l0_1 a1 t265 _ ?side1 ?side2 A7.out).mono ?_);(case side1=>repeat(first|exact(Kd.C_below HR0_1.out bl)|(with_reducible refine Kd.C_alloc ?_ _)|(with_reducible refine Kd.C_drewN ?_ _)|(with_reducible refine Kd.C_drew ?_)));(case side2=>exact HC0_1.out);rintro e w12 ⟨rfl,hb⟩;refine⟨_,rfl,?_⟩;have n0_:=am (blk_below (bup BK262.out) hb);have n1_:=am (below_step bl hb);clear BK262 HB;have BK262:=n0_;have HB:=n1_;clear n0_ n1_;(try clear hb);(try clear hb2);(try clear hk);(try clear hi)))
   go_ret2
   exact⟨fin1,bl⟩
  ·replace c6:=Bool.eq_false_iff.mpr c6
   subst c6
   have H1:(some (false,false))=some (r1,r2):=by rw[if_neg (show ¬ (false=true) by decide)] at H;exact H
   clear H
   have H:=H1
   clear H1
   simp only[Option.some.injEq,Prod.mk.injEq] at H
   obtain⟨rfl,rfl⟩:=H
   go_enter Try.func18,Try.ntmps18
   go_wp2_with (first|((with_reducible refine gate_dst (N:=2) rfl ?_);refine box_event ?hg (N:=2) ?hd (cs := #[.int .i64 a0_0,.slice A0_1 l0_1.length c0_1]) (t:=26) ?hr ?_;(case hd=>rfl);(case hg=>rfl);(case hr=>first|(go_simp;done)|(go_simp;rfl));intro gb262 hg w13 hbox hb;have n0_:=am (below_step bl hb);have n1_:=am (hbox);have n2_:=am (ge_ bl hg);have n3_:=am (ge_ bl hg);clear HB;have HB:=n0_;have BK262:=n1_;have GW262:=n2_;have GE262:=n3_;clear n0_ n1_ n2_ n3_ hb hbox hg;have hcz14_0:w13.cell? ⟨gb262,0,none⟩=some (.int .i64 a0_0):=(blk_cell BK262.out 0).trans rfl;have hcz14_1:w13.cell? ⟨gb262,1,none⟩=some (.slice A0_1 l0_1.length c0_1):=(blk_cell BK262.out 1).trans rfl;have hfz14_0:=blk_frozen BK262.out 0;have hfz14_1:=blk_frozen BK262.out 1)|((with_reducible refine gate_callee (f:=26) rfl ?_);refine goesL_ (some 7) rfl rfl Try.func26 (by kernel_rfl) rfl #[.agg #[.int .i64 a0_0,.slice A0_1 l0_1.length c0_1]] rfl tl ?_;(with_reducible refine(spec_drGood.calls k a0_0 _ _ l0_1 true _ ?side1 ?side2 A3.out).mono ?_);(case side1=>exact cup (Kd.C_below HR0_1.out HB.out));(case side2=>exact HC0_1.out);rintro e w15 ⟨rfl,hb⟩;refine⟨_,rfl,?_⟩;have n0_:=am (blk_below (bup BK262.out) hb);have n1_:=am (below_step bl hb);clear BK262 HB;have BK262:=n0_;have HB:=n1_;clear n0_ n1_;(try clear hb);(try clear hb2);(try clear hk);(try clear hi))|(go_at_call 31;(with_reducible refine(spec_drStep.calls a1 false _ A5.out).mono ?_);rintro e w' ⟨rfl,⟨nd,rfl⟩⟩))
   go_ret2
   exact⟨fin1,bl⟩
 ·replace c4:=Bool.eq_false_iff.mpr c4
  subst c4
  have H1:(some (false,false))=some (r1,r2):=by rw[if_neg (show ¬ (false=true) by decide)] at H;exact H
  clear H
  have H:=H1
  clear H1
  simp only[Option.some.injEq,Prod.mk.injEq] at H
  obtain⟨rfl,rfl⟩:=H
  go_enter Try.func18,Try.ntmps18
  go_wp2_with (first|((with_reducible refine gate_dst (N:=2) rfl ?_);refine box_event ?hg (N:=2) ?hd (cs := #[.int .i64 a0_0,.slice A0_1 l0_1.length c0_1]) (t:=26) ?hr ?_;(case hd=>rfl);(case hg=>rfl);(case hr=>first|(go_simp;done)|(go_simp;rfl));intro gb262 hg w16 hbox hb;have n0_:=am (below_step bl hb);have n1_:=am (hbox);have n2_:=am (ge_ bl hg);have n3_:=am (ge_ bl hg);clear HB;have HB:=n0_;have BK262:=n1_;have GW262:=n2_;have GE262:=n3_;clear n0_ n1_ n2_ n3_ hb hbox hg;have hcz17_0:w16.cell? ⟨gb262,0,none⟩=some (.int .i64 a0_0):=(blk_cell BK262.out 0).trans rfl;have hcz17_1:w16.cell? ⟨gb262,1,none⟩=some (.slice A0_1 l0_1.length c0_1):=(blk_cell BK262.out 1).trans rfl;have hfz17_0:=blk_frozen BK262.out 0;have hfz17_1:=blk_frozen BK262.out 1)|((with_reducible refine gate_callee (f:=26) rfl ?_);refine goesL_ (some 7) rfl rfl Try.func26 (by kernel_rfl) rfl #[.agg #[.int .i64 a0_0,.slice A0_1 l0_1.length c0_1]] rfl tl ?_;(with_reducible refine(spec_drGood.calls k a0_0 _ _ l0_1 false _ ?side1 ?side2 A3.out).mono ?_);(case side1=>exact cup (Kd.C_below HR0_1.out HB.out));(case side2=>exact HC0_1.out);rintro e w18 ⟨rfl,hb⟩;refine⟨_,rfl,?_⟩;have n0_:=am (blk_below (bup BK262.out) hb);have n1_:=am (below_step bl hb);clear BK262 HB;have BK262:=n0_;have HB:=n1_;clear n0_ n1_;(try clear hb);(try clear hb2);(try clear hk);(try clear hi)))
  go_ret2
  exact⟨fin1,bl⟩

/-! ### spec_DrawEvenPattern: function 19 -/
def spec_DrawEvenPattern.f (l0:List Int):Option (Int×Int):=(spec_l1Cur_among.f l0 0 0 (([0,25]:List Int))).bind fun bt270=>((spec_l1Cur_among.f l0 bt270.2.1 bt270.2.2 (([1,8,8,12,16,24,bt270.1]:List Int))).bind fun bt276=>((spec_l1Cur_among.f l0 bt276.2.1 bt276.2.2 (([0,1,3,5,7,bt276.1,wrap64 (bt276.1+1),(-1)]:List Int))).bind fun bt282=>(some (bt282.1,bt276.1))))
set_option maxHeartbeats 8000000 in
set_option maxRecDepth 100000 in
theorem spec_DrawEvenPattern.calls (A0:Option Addr) (c0:Nat) (l0:List Int) (r1:Int) (r2:Int) (w:World) (hr0:Kd.C (Kd.int .u8) w A0 l0.length l0) (hc0:l0.length≤c0) (h:spec_DrawEvenPattern.f l0=some (r1,r2)) :
  Calls Try.prog 19 #[.slice A0 l0.length c0] w fun e w'=>e = .returned (.tuple #[.int .i64 r1,.int .i64 r2])∧Below w.heap.size w w':=by
 have hu53:=Try.underlying53
 have HR0:=am hr0
 have HC0:=am hc0
 clear hr0 hc0
 have HB:=am (Below.refl w.heap.size w)
 have H:((spec_l1Cur_among.f l0 0 0 (([0,25]:List Int))).bind fun bt270=>((spec_l1Cur_among.f l0 bt270.2.1 bt270.2.2 (([1,8,8,12,16,24,bt270.1]:List Int))).bind fun bt276=>((spec_l1Cur_among.f l0 bt276.2.1 bt276.2.2 (([0,1,3,5,7,bt276.1,wrap64 (bt276.1+1),(-1)]:List Int))).bind fun bt282=>(some (bt282.1,bt276.1)))))=some (r1,r2):=h
 clear h
 obtain⟨y267,hy267⟩:∃ y_:List Int,y_=(([0,25]:List Int)):=⟨_,rfl⟩
 replace H:((spec_l1Cur_among.f l0 0 0 y267).bind fun bt270=>((spec_l1Cur_among.f l0 bt270.2.1 bt270.2.2 (([1,8,8,12,16,24,bt270.1]:List Int))).bind fun bt276=>((spec_l1Cur_among.f l0 bt276.2.1 bt276.2.2 (([0,1,3,5,7,bt276.1,wrap64 (bt276.1+1),(-1)]:List Int))).bind fun bt282=>(some (bt282.1,bt276.1)))))=some (r1,r2):=by first|(rw[hy267];with_reducible exact H)|(have H2_:=(Option.bind_some _ _).symm.trans H;rw[hy267];with_reducible exact H2_)|(have H2_:=(Option.bind_some _ _).symm.trans H;with_reducible exact H2_)|with_reducible exact H|(rw[hy267];exact H)|exact H
 have Ny267:=am hy267
 clear hy267
 replace H:=Option.bind_eq_some_iff.mp H
 obtain⟨⟨t270,t271,t272⟩,A20,H⟩:=H
 replace H:((spec_l1Cur_among.f l0 t271 t272 (([1,8,8,12,16,24,t270]:List Int))).bind fun bt276=>((spec_l1Cur_among.f l0 bt276.2.1 bt276.2.2 (([0,1,3,5,7,bt276.1,wrap64 (bt276.1+1),(-1)]:List Int))).bind fun bt282=>(some (bt282.1,bt276.1))))=some (r1,r2):=H
 have A2:=am A20
 clear A20
 obtain⟨y273,hy273⟩:∃ y_:List Int,y_=(([1,8,8,12,16,24,t270]:List Int)):=⟨_,rfl⟩
 replace H:((spec_l1Cur_among.f l0 t271 t272 y273).bind fun bt276=>((spec_l1Cur_among.f l0 bt276.2.1 bt276.2.2 (([0,1,3,5,7,bt276.1,wrap64 (bt276.1+1),(-1)]:List Int))).bind fun bt282=>(some (bt282.1,bt276.1))))=some (r1,r2):=by first|(rw[hy273];with_reducible exact H)|(have H2_:=(Option.bind_some _ _).symm.trans H;rw[hy273];with_reducible exact H2_)|(have H2_:=(Option.bind_some _ _).symm.trans H;with_reducible exact H2_)|with_reducible exact H|(rw[hy273];exact H)|exact H
 have Ny273:=am hy273
 clear hy273
 replace H:=Option.bind_eq_some_iff.mp H
 obtain⟨⟨t276,t277,t278⟩,A30,H⟩:=H
 replace H:((spec_l1Cur_among.f l0 t277 t278 (([0,1,3,5,7,t276,wrap64 (t276+1),(-1)]:List Int))).bind fun bt282=>(some (bt282.1,t276)))=some (r1,r2):=H
 have A3:=am A30
 clear A30
 obtain⟨y279,hy279⟩:∃ y_:List Int,y_=(([0,1,3,5,7,t276,wrap64 (t276+1),(-1)]:List Int)):=⟨_,rfl⟩
 replace H:((spec_l1Cur_among.f l0 t277 t278 y279).bind fun bt282=>(some (bt282.1,t276)))=some (r1,r2):=by first|(rw[hy279];with_reducible exact H)|(have H2_:=(Option.bind_some _ _).symm.trans H;rw[hy279];with_reducible exact H2_)|(have H2_:=(Option.bind_some _ _).symm.trans H;with_reducible exact H2_)|with_reducible exact H|(rw[hy279];exact H)|exact H
 have Ny279:=am hy279
 clear hy279
 replace H:=Option.bind_eq_some_iff.mp H
 obtain⟨⟨t282,t283,t284⟩,A40,H⟩:=H
 replace H:(some (t282,t276))=some (r1,r2):=H
 have A4:=am A40
 clear A40
 simp only[Option.some.injEq,Prod.mk.injEq] at H
 obtain⟨rfl,rfl⟩:=H
 go_enter Try.func19,Try.ntmps19
 go_wp2_with (first|((with_reducible refine gate_dst (N:=8) rfl ?_);refine box_event ?hg (N:=8) ?hd (cs := #[.slice A0 l0.length c0,.int .i64 0,.int .u64 0]) (t:=53) ?hr ?_;(case hd=>rfl);(case hg=>rfl);(case hr=>first|(go_simp;done)|(go_simp;rfl));intro gb266 hg w5 hbox hb;have n0_:=am (below_step bl hb);have n1_:=am (hbox);have n2_:=am (ge_ bl hg);have n3_:=am (ge_ bl hg);have n4_:=am ((show IsS53 w w5 gb266 l0 0 0 from⟨_,_,hbox,(by rw[hg];exact(below_size bl):w.heap.size≤gb266),HR0.out⟩));clear HB;have HB:=n0_;have BK266:=n1_;have GW266:=n2_;have GE266:=n3_;have HI266:=n4_;clear n0_ n1_ n2_ n3_ n4_ hb hbox hg)|((with_reducible refine gate_dst (N:=11) rfl ?_);refine Kd.R_lit (Kd.int .i64) _ 3 ?hg (N:=11) ?hd (xs:=([0,25]:List Int)) (inner:=[.int .i64 0,.int .i64 25]) (ok:=fun _=>True) (okp:=fun _=>True) ?hr ?hp (fun _ hk=>hk) trivial (Below.refl _ _) (Nat.le_refl _) (by simp) ?_;(case hd=>rfl);(case hg=>rfl);(case hr=>first|(go_simp;done)|(go_simp;rfl));(case hp=>exact(Reps.one (show Kd.M (Kd.int .i64) _ _ _ 0 [.int .i64 0] from rfl) (Reps.one (show Kd.M (Kd.int .i64) _ _ _ 25 [.int .i64 25] from rfl) (Reps.none _ _))));intro v268 w6 ho7 hb hg_ hnew_;clear hg_ hnew_;(first|rw[← Ny267.out] at ho7|(simp only[Int.reduceToNat] at ho7;rw[← Ny267.out] at ho7));have n0_:=am (Kd.R_lower ho7 (below_size (by repeat(first|(with_reducible first|exact HB.out|apply below_alloc|apply pw_below_drewN|apply below_drew1|refine below_set ?_ (IsS53.ge HI266.out))|exact HB.out))));have n1_:=am (IsS53.below (by repeat(first|(with_reducible first|exact HI266.out|apply IsS53.alloc|apply IsS53.drewN|apply IsS53.drew|apply IsS53.set_1|apply IsS53.set_2)|exact HI266.out)) hb);have n2_:=am (below_step (by repeat(first|(with_reducible first|exact HB.out|apply below_alloc|apply pw_below_drewN|apply below_drew1|refine below_set ?_ (IsS53.ge HI266.out))|exact HB.out)) hb);clear HI266 HB;have HO269:=n0_;have HI266:=n1_;have HB:=n2_;clear n0_ n1_ n2_ hb ho7;obtain⟨Ao8,co8,eo8⟩:=Kd.R_slice HO269.out;subst eo8)|((with_reducible refine gate_callee (f:=33) rfl ?_);refine goesL_ (some 12) rfl rfl Try.func33 (by kernel_rfl) rfl #[.pointer (some ⟨gb266,0,none⟩),.slice Ao8 y267.length co8] rfl tl ?_;(with_reducible refine(spec_l1Cur_among.calls gb266 l0 0 0 _ _ y267 t270 t271 t272 w _ ?side1 ?side2 ?side3 ?side4 ?side5 A2.out).mono ?_);(case side1=>repeat(first|(with_reducible first|exact HI266.out|apply IsS53.alloc|apply IsS53.drewN|apply IsS53.drew|apply IsS53.set_1|apply IsS53.set_2)|exact HI266.out));(case side2=>repeat(first|(with_reducible first|exact HB.out|apply below_alloc|apply pw_below_drewN|apply below_drew1|refine below_set ?_ (IsS53.ge HI266.out))|exact HB.out));(case side3=>repeat(first|exact(Kd.R_reads' HO269.out).2.2|(with_reducible refine Kd.C_alloc ?_ _)|(with_reducible refine Kd.C_drewN ?_ _)|(with_reducible refine Kd.C_drew ?_)));(case side4=>exact(Kd.R_reads' HO269.out).2.1);(case side5=>exact far_slice (IsS53.own_ne HI266.out HO269.out (by decide)));rintro e w9 ⟨rfl,hi,hb,hk⟩;refine⟨_,rfl,?_⟩;have n0_:=am (Kd.R_mono (Kd.R_keep (IsS53.apart (show IsS53 w _ gb266 l0 0 0 from by repeat(first|(with_reducible first|exact HI266.out|apply IsS53.alloc|apply IsS53.drewN|apply IsS53.drew|apply IsS53.set_1|apply IsS53.set_2)|exact HI266.out)) (rup HO269.out) (by decide)) hk (fun _ h=>h.2)) (fun _ h=>h.1));have n1_:=am (hb);have n2_:=am (hi);clear HO269 HB HI266;have HO269:=n0_;have HB:=n1_;have HI266:=n2_;clear n0_ n1_ n2_;(try clear hb);(try clear hb2);(try clear hk);(try clear hi))|((with_reducible refine gate_dst (N:=13) rfl ?_);refine Kd.R_lit (Kd.int .i64) _ 3 ?hg (N:=13) ?hd (xs:=([1,8,8,12,16,24,t270]:List Int)) (inner:=[.int .i64 1,.int .i64 8,.int .i64 8,.int .i64 12,.int .i64 16,.int .i64 24,.int .i64 t270]) (ok:=fun _=>True) (okp:=fun _=>True) ?hr ?hp (fun _ hk=>hk) trivial (Below.refl _ _) (Nat.le_refl _) (by simp) ?_;(case hd=>rfl);(case hg=>rfl);(case hr=>first|(go_simp;done)|(go_simp;rfl));(case hp=>exact(Reps.one (show Kd.M (Kd.int .i64) _ _ _ 1 [.int .i64 1] from rfl) (Reps.one (show Kd.M (Kd.int .i64) _ _ _ 8 [.int .i64 8] from rfl) (Reps.one (show Kd.M (Kd.int .i64) _ _ _ 8 [.int .i64 8] from rfl) (Reps.one (show Kd.M (Kd.int .i64) _ _ _ 12 [.int .i64 12] from rfl) (Reps.one (show Kd.M (Kd.int .i64) _ _ _ 16 [.int .i64 16] from rfl) (Reps.one (show Kd.M (Kd.int .i64) _ _ _ 24 [.int .i64 24] from rfl) (Reps.one (show Kd.M (Kd.int .i64) _ _ _ t270 [.int .i64 t270] from rfl) (Reps.none _ _)))))))));intro v274 w10 ho11 hb hg_ hnew_;clear hg_ hnew_;(first|rw[← Ny273.out] at ho11|(simp only[Int.reduceToNat] at ho11;rw[← Ny273.out] at ho11));have n0_:=am (Kd.R_elder' (rup HO269.out) (Kd.R_base ho11) hb);have n1_:=am (Kd.R_lower (Kd.R_new' ho11 (Kd.R_lt (rup HO269.out))) (below_size (by repeat(first|(with_reducible first|exact HB.out|apply below_alloc|apply pw_below_drewN|apply below_drew1|refine below_set ?_ (IsS53.ge HI266.out))|exact HB.out))));have n2_:=am (IsS53.below (by repeat(first|(with_reducible first|exact HI266.out|apply IsS53.alloc|apply IsS53.drewN|apply IsS53.drew|apply IsS53.set_1|apply IsS53.set_2)|exact HI266.out)) hb);have n3_:=am (below_step (by repeat(first|(with_reducible first|exact HB.out|apply below_alloc|apply pw_below_drewN|apply below_drew1|refine below_set ?_ (IsS53.ge HI266.out))|exact HB.out)) hb);clear HO269 HI266 HB;have HO269:=n0_;have HO275:=n1_;have HI266:=n2_;have HB:=n3_;clear n0_ n1_ n2_ n3_ hb ho11;obtain⟨Ao12,co12,eo12⟩:=Kd.R_slice HO275.out;subst eo12)|((with_reducible refine gate_callee (f:=33) rfl ?_);refine goesL_ (some 14) rfl rfl Try.func33 (by kernel_rfl) rfl #[.pointer (some ⟨gb266,0,none⟩),.slice Ao12 y273.length co12] rfl tl ?_;(with_reducible refine(spec_l1Cur_among.calls gb266 l0 t271 t272 _ _ y273 t276 t277 t278 w _ ?side1 ?side2 ?side3 ?side4 ?side5 A3.out).mono ?_);(case side1=>repeat(first|(with_reducible first|exact HI266.out|apply IsS53.alloc|apply IsS53.drewN|apply IsS53.drew|apply IsS53.set_1|apply IsS53.set_2)|exact HI266.out));(case side2=>repeat(first|(with_reducible first|exact HB.out|apply below_alloc|apply pw_below_drewN|apply below_drew1|refine below_set ?_ (IsS53.ge HI266.out))|exact HB.out));(case side3=>repeat(first|exact(Kd.R_reads' HO275.out).2.2|(with_reducible refine Kd.C_alloc ?_ _)|(with_reducible refine Kd.C_drewN ?_ _)|(with_reducible refine Kd.C_drew ?_)));(case side4=>exact(Kd.R_reads' HO275.out).2.1);(case side5=>exact far_slice (IsS53.own_ne HI266.out HO275.out (by decide)));rintro e w13 ⟨rfl,hi,hb,hk⟩;refine⟨_,rfl,?_⟩;have n0_:=am (Kd.R_mono (Kd.R_keep (IsS53.apart (show IsS53 w _ gb266 l0 t271 t272 from by repeat(first|(with_reducible first|exact HI266.out|apply IsS53.alloc|apply IsS53.drewN|apply IsS53.drew|apply IsS53.set_1|apply IsS53.set_2)|exact HI266.out)) (rup HO269.out) (by decide)) hk (fun _ h=>h.2)) (fun _ h=>h.1));have n1_:=am (Kd.R_mono (Kd.R_keep (IsS53.apart (show IsS53 w _ gb266 l0 t271 t272 from by repeat(first|(with_reducible first|exact HI266.out|apply IsS53.alloc|apply IsS53.drewN|apply IsS53.drew|apply IsS53.set_1|apply IsS53.set_2)|exact HI266.out)) (rup HO275.out) (by decide)) hk (fun _ h=>h.2)) (fun _ h=>h.1));have n2_:=am (hb);have n3_:=am (hi);clear HO269 HO275 HB HI266;have HO269:=n0_;have HO275:=n1_;have HB:=n2_;have HI266:=n3_;clear n0_ n1_ n2_ n3_;(try clear hb);(try clear hb2);(try clear hk);(try clear hi))|((with_reducible refine gate_dst (N:=19) rfl ?_);refine Kd.R_lit (Kd.int .i64) _ 3 ?hg (N:=19) ?hd (xs:=([0,1,3,5,7,t276,wrap64 (t276+1),(-1)]:List Int)) (inner:=[.int .i64 0,.int .i64 1,.int .i64 3,.int .i64 5,.int .i64 7,.int .i64 t276,.int .i64 (wrap64 (t276+1)),.int .i64 (-1)]) (ok:=fun _=>True) (okp:=fun _=>True) ?hr ?hp (fun _ hk=>hk) trivial (Below.refl _ _) (Nat.le_refl _) (by simp) ?_;(case hd=>rfl);(case hg=>rfl);(case hr=>first|(go_simp;done)|(go_simp;rfl));(case hp=>exact(Reps.one (show Kd.M (Kd.int .i64) _ _ _ 0 [.int .i64 0] from rfl) (Reps.one (show Kd.M (Kd.int .i64) _ _ _ 1 [.int .i64 1] from rfl) (Reps.one (show Kd.M (Kd.int .i64) _ _ _ 3 [.int .i64 3] from rfl) (Reps.one (show Kd.M (Kd.int .i64) _ _ _ 5 [.int .i64 5] from rfl) (Reps.one (show Kd.M (Kd.int .i64) _ _ _ 7 [.int .i64 7] from rfl) (Reps.one (show Kd.M (Kd.int .i64) _ _ _ t276 [.int .i64 t276] from rfl) (Reps.one (show Kd.M (Kd.int .i64) _ _ _ (wrap64 (t276+1)) [.int .i64 (wrap64 (t276+1))] from rfl) (Reps.one (show Kd.M (Kd.int .i64) _ _ _ (-1) [.int .i64 (-1)] from rfl) (Reps.none _ _))))))))));intro v280 w14 ho15 hb hg_ hnew_;clear hg_ hnew_;(first|rw[← Ny279.out] at ho15|(simp only[Int.reduceToNat] at ho15;rw[← Ny279.out] at ho15));have n0_:=am (Kd.R_elder' (rup HO269.out) (Kd.R_base ho15) hb);have n1_:=am (Kd.R_elder' (rup HO275.out) (Kd.R_base ho15) hb);have n2_:=am (Kd.R_lower (Kd.R_new' (Kd.R_new' ho15 (Kd.R_lt (rup HO269.out))) (Kd.R_lt (rup HO275.out))) (below_size (by repeat(first|(with_reducible first|exact HB.out|apply below_alloc|apply pw_below_drewN|apply below_drew1|refine below_set ?_ (IsS53.ge HI266.out))|exact HB.out))));have n3_:=am (IsS53.below (by repeat(first|(with_reducible first|exact HI266.out|apply IsS53.alloc|apply IsS53.drewN|apply IsS53.drew|apply IsS53.set_1|apply IsS53.set_2)|exact HI266.out)) hb);have n4_:=am (below_step (by repeat(first|(with_reducible first|exact HB.out|apply below_alloc|apply pw_below_drewN|apply below_drew1|refine below_set ?_ (IsS53.ge HI266.out))|exact HB.out)) hb);clear HO269 HO275 HI266 HB;have HO269:=n0_;have HO275:=n1_;have HO281:=n2_;have HI266:=n3_;have HB:=n4_;clear n0_ n1_ n2_ n3_ n4_ hb ho15;obtain⟨Ao16,co16,eo16⟩:=Kd.R_slice HO281.out;subst eo16)|((with_reducible refine gate_callee (f:=33) rfl ?_);refine goesL_ (some 20) rfl rfl Try.func33 (by kernel_rfl) rfl #[.pointer (some ⟨gb266,0,none⟩),.slice Ao16 y279.length co16] rfl tl ?_;(with_reducible refine(spec_l1Cur_among.calls gb266 l0 t277 t278 _ _ y279 t282 t283 t284 w _ ?side1 ?side2 ?side3 ?side4 ?side5 A4.out).mono ?_);(case side1=>repeat(first|(with_reducible first|exact HI266.out|apply IsS53.alloc|apply IsS53.drewN|apply IsS53.drew|apply IsS53.set_1|apply IsS53.set_2)|exact HI266.out));(case side2=>repeat(first|(with_reducible first|exact HB.out|apply below_alloc|apply pw_below_drewN|apply below_drew1|refine below_set ?_ (IsS53.ge HI266.out))|exact HB.out));(case side3=>repeat(first|exact(Kd.R_reads' HO281.out).2.2|(with_reducible refine Kd.C_alloc ?_ _)|(with_reducible refine Kd.C_drewN ?_ _)|(with_reducible refine Kd.C_drew ?_)));(case side4=>exact(Kd.R_reads' HO281.out).2.1);(case side5=>exact far_slice (IsS53.own_ne HI266.out HO281.out (by decide)));rintro e w17 ⟨rfl,hi,hb,hk⟩;refine⟨_,rfl,?_⟩;have n0_:=am (Kd.R_mono (Kd.R_keep (IsS53.apart (show IsS53 w _ gb266 l0 t277 t278 from by repeat(first|(with_reducible first|exact HI266.out|apply IsS53.alloc|apply IsS53.drewN|apply IsS53.drew|apply IsS53.set_1|apply IsS53.set_2)|exact HI266.out)) (rup HO269.out) (by decide)) hk (fun _ h=>h.2)) (fun _ h=>h.1));have n1_:=am (Kd.R_mono (Kd.R_keep (IsS53.apart (show IsS53 w _ gb266 l0 t277 t278 from by repeat(first|(with_reducible first|exact HI266.out|apply IsS53.alloc|apply IsS53.drewN|apply IsS53.drew|apply IsS53.set_1|apply IsS53.set_2)|exact HI266.out)) (rup HO275.out) (by decide)) hk (fun _ h=>h.2)) (fun _ h=>h.1));have n2_:=am (Kd.R_mono (Kd.R_keep (IsS53.apart (show IsS53 w _ gb266 l0 t277 t278 from by repeat(first|(with_reducible first|exact HI266.out|apply IsS53.alloc|apply IsS53.drewN|apply IsS53.drew|apply IsS53.set_1|apply IsS53.set_2)|exact HI266.out)) (rup HO281.out) (by decide)) hk (fun _ h=>h.2)) (fun _ h=>h.1));have n3_:=am (hb);have n4_:=am (hi);clear HO269 HO275 HO281 HB HI266;have HO269:=n0_;have HO275:=n1_;have HO281:=n2_;have HB:=n3_;have HI266:=n4_;clear n0_ n1_ n2_ n3_ n4_;(try clear hb);(try clear hb2);(try clear hk);(try clear hi)))
 go_ret2
 exact⟨fin1,by repeat(first|(with_reducible first|exact HB.out|apply below_alloc|apply pw_below_drewN|apply below_drew1|refine below_set ?_ (IsS53.ge HI266.out))|exact HB.out)⟩

/-! ### impl_EvenPattern: function 20 -/
mutual
def impl_EvenPattern.j0:Nat→Int→Int→Bool→Option (Int×List Int×Bool)
 | 0,_,_,_=>none
 | k+1,x0,x1,x22=>if x22=true then(some (0,([]:List Int),false)) else(impl_EvenPattern.l0 k x0 x1 x0 0 x1 ([]:List Int))
def impl_EvenPattern.l0:Nat→Int→Int→Int→Int→Int→List Int→Option (Int×List Int×Bool)
 | 0,_,_,_,_,_,_=>none
 | k+1,x0,x1,x26,x27,x287000,x287001=>if x27<x26 then(if x0=0 then(none) else(if x287001.length<17592186044416 then(impl_EvenPattern.l0 k x0 x1 x26 (wrap64 (x27+1)) x287000 (x287001 ++ [wrap64 (Int.tdiv (wrap64 (x27*x1)) x0)])) else(none))) else(some (x287000,x287001,true))
end
def impl_EvenPattern.f (k:Nat) (a0:Int) (a1:Int):Option (Int×List Int×Bool):=if a1<1 then(impl_EvenPattern.j0 k a0 a1 true) else(if a1>24 then(impl_EvenPattern.j0 k a0 a1 true) else(if a0<0 then(impl_EvenPattern.j0 k a0 a1 true) else(impl_EvenPattern.j0 k a0 a1 (decide (a0>a1)))))
def impl_EvenPattern.T7:Bool×List (List Nat×List Nat):=(true,[([],[]),([0],[0]),([],[]),([],[]),([2,3],[2,3]),([],[]),([4,5],[4,5]),([6],[6]),([1,7],[1,7]),([0,1,2,3,4,5,6,7,8],[]),([9,8,8,0,1,2,3,4,5,6,7,8],[8,9])])
def impl_EvenPattern.B7:List Nat:=[0,1,0,0,12,0,60,124,255,511,1023]
theorem impl_EvenPattern.tab7:rtab .any (opsOf Try.f20 7)=impl_EvenPattern.T7:=by kernel_rfl
theorem impl_EvenPattern.bits7:waitsOk impl_EvenPattern.T7.2 impl_EvenPattern.B7=true:=by kernel_rfl
set_option maxHeartbeats 8000000 in
set_option maxRecDepth 100000 in
theorem impl_EvenPattern.calls (k:Nat) (a0:Int) (a1:Int) (r1:Int) (r2:List Int) (r3:Bool) (w:World) (h:impl_EvenPattern.f k a0 a1=some (r1,r2,r3)) :
  Calls Try.prog 20 #[.int .i64 a0,.int .i64 a1] w fun e w'=>∃ v1_:Value,e = .returned (.tuple #[.agg #[.int .i64 r1,v1_],.bool r3])∧Kd.R (Kd.int .i64) 3 w' w.heap.size (fun _=>True) v1_ r2∧Below w.heap.size w w':=by
 have hu26:=Try.underlying26
 have HB:=am (Below.refl w.heap.size w)
 have H:(if a1<1 then(impl_EvenPattern.j0 k a0 a1 true) else(if a1>24 then(impl_EvenPattern.j0 k a0 a1 true) else(if a0<0 then(impl_EvenPattern.j0 k a0 a1 true) else(impl_EvenPattern.j0 k a0 a1 (decide (a0>a1))))))=some (r1,r2,r3):=h
 clear h
 have HC3:=am H
 clear H
 go_enter Try.func20,Try.ntmps20
 go_upto_region 1 with(first|((with_reducible refine gate_dst (N:=4) rfl ?_);refine box_event ?hg (N:=4) ?hd (cs := #[.int .i64 0,.slice none 0 0]) (t:=26) ?hr ?_;(case hd=>rfl);(case hg=>rfl);(case hr=>first|(go_simp;done)|(go_simp;rfl));intro gb285 hg w4 hbox hb;have n0_:=am (below_step bl hb);have n1_:=am (hbox);have n2_:=am (ge_ bl hg);have n3_:=am (ge_ bl hg);clear HB;have HB:=n0_;have BK285:=n1_;have GW285:=n2_;have GE285:=n3_;clear n0_ n1_ n2_ n3_ hb hbox hg))
 (try simp only[Act.put,List.setIfInBounds_toArray,List.set_cons_zero,List.set_cons_succ])
 go_cut [22] (fun v22 wc=>∃(kq:Nat) (x22_2:Bool),v22 = .bool x22_2∧Aside0 (impl_EvenPattern.j0 kq a0 a1 x22_2=some (r1,r2,r3))∧Aside0 (kq≤k)∧Aside0 (wc.heap[gb285]?=some (.cells #[.int .i64 0,(.slice none 0 0)] 26 (0,0)))∧Aside0 (Below w.heap.size w wc))
 case first =>
  have H:=HC3.out
  clear HC3
  by_cases c5:a1<1
  ·rw[if_pos c5] at H
   have c5b0:decide (a1<1)=true:=decide_eq_true c5
   clear c5
   (first|rw[c5b0]|(simp only[i64_w,i32_w];rw[c5b0])|skip)
   have H':=am H
   clear H
   go_wp2
   go_meet
   case rel=>exact⟨_,(true),fin2,H',⟨by first|omega|exact Nat.le_refl _⟩,⟨bup BK285.out⟩,⟨bl⟩⟩
  ·rw[if_neg c5] at H
   have c5b0:decide (a1<1)=false:=decide_eq_false c5
   clear c5
   (first|rw[c5b0]|(simp only[i64_w,i32_w];rw[c5b0])|skip)
   by_cases c6:a1>24
   ·rw[if_pos c6] at H
    have c6b0:decide (24<a1)=true:=decide_eq_true c6
    clear c6
    have H':=am H
    clear H
    go_wp2
    go_meet
    case rel=>exact⟨_,(true),fin2,H',⟨by first|omega|exact Nat.le_refl _⟩,⟨bup BK285.out⟩,⟨bl⟩⟩
   ·rw[if_neg c6] at H
    have c6b0:decide (24<a1)=false:=decide_eq_false c6
    clear c6
    by_cases c7:a0<0
    ·rw[if_pos c7] at H
     have c7b0:decide (a0<0)=true:=decide_eq_true c7
     clear c7
     have H':=am H
     clear H
     go_wp2
     go_meet
     case rel=>exact⟨_,(true),fin2,H',⟨by first|omega|exact Nat.le_refl _⟩,⟨bup BK285.out⟩,⟨bl⟩⟩
    ·rw[if_neg c7] at H
     have c7b0:decide (a0<0)=false:=decide_eq_false c7
     clear c7
     have H':=am H
     clear H
     go_wp2
     go_meet
     case rel=>exact⟨_,(decide (a0>a1)),fin2,H',⟨by first|omega|exact Nat.le_refl _⟩,⟨bup BK285.out⟩,⟨bl⟩⟩
 case rest =>
  clear HC3
  try clear c2
  try clear p2
  try clear c5
  try clear c5b0
  try clear c6
  try clear c6b0
  try clear c7
  try clear c7b0
  obtain⟨kq,x22_2,rfl,HA,HJ2,BK285,HB⟩:=hcut
  cases kq with
  | zero=>exact absurd HA.out (by simp [impl_EvenPattern.j0])
  | succ kj2 =>
   have H:=HA.out
   clear HA
   simp only[impl_EvenPattern.j0] at H
   by_cases c8:x22_2=true
   ·subst c8
    have H1:(some (0,([]:List Int),false))=some (r1,r2,r3):=by rw[if_pos rfl] at H;exact H
    clear H
    have H:=H1
    clear H1
    simp only[Option.some.injEq,Prod.mk.injEq] at H
    obtain⟨rfl,rfl,rfl⟩:=H
    have hcz9_0:wc.cell? ⟨gb285,0,none⟩=some (.int .i64 0):=(blk_cell BK285.out 0).trans rfl
    have hcz9_1:wc.cell? ⟨gb285,1,none⟩=some (.slice none 0 0):=(blk_cell BK285.out 1).trans rfl
    have hfz9_0:=blk_frozen BK285.out 0
    have hfz9_1:=blk_frozen BK285.out 1
    go_wp2
    refine bodyPost_ret (results_ct rfl _ _ gb285 26 #[.int .i64 0,.slice none 0 0] (0,0) _ rfl (by(with_reducible repeat(first|refine bN_ ?_ _|refine bD_ ?_|refine bA_ ?_ _));refine blk_put (cs := #[.int .i64 0,.slice none 0 0]) ?_ 1 _ rfl;(with_reducible repeat(first|refine bN_ ?_ _|refine bD_ ?_|refine bA_ ?_ _));refine blk_put (cs := #[.int .i64 0,.slice none 0 0]) ?_ 0 _ rfl;exact bup BK285.out) Try.underlying26 rfl (by kernel_rfl)) rfl ?_
    exact⟨_,fin1,by first|exact Kd.R_nil _ _ _ _ _|exact Kd.N_nil _ _ _ _ _|exact Kd.V_nil _ _ _ _ _|exact Kd.Q_nil _ _ _ _ _|exact Kd.S_nil _ _ _ _ _,bl⟩
   ·replace c8:=Bool.eq_false_iff.mpr c8
    subst c8
    have H1:(impl_EvenPattern.l0 kj2 a0 a1 a0 0 a1 ([]:List Int))=some (r1,r2,r3):=by rw[if_neg (show ¬ (false=true) by decide)] at H;exact H
    clear H
    have H:=H1
    clear H1
    have H':=am H
    clear H
    go_wp2_with (first|((with_reducible refine gate_dst (N:=6) rfl ?_);refine box_event ?hg (N:=6) ?hd (cs := #[.int .i64 0,.slice none 0 0]) (t:=26) ?hr ?_;(case hd=>rfl);(case hg=>rfl);(case hr=>first|(go_simp;done)|(go_simp;rfl));intro gb286 hg w10 hbox hb;have n0_:=am (blk_below (bup BK285.out) hb);have n1_:=am (below_step bl hb);have n2_:=am (hbox);have n3_:=am (ge_ bl hg);have n4_:=am (ge_ bl hg);have n5_:=am (nl (bup BK285.out) hg);have n6_:=am (ng (bup BK285.out) hg);clear BK285 HB;have BK285:=n0_;have HB:=n1_;have BK286:=n2_;have GW286:=n3_;have GE286:=n4_;have NB285_286:=n5_;have NB286_285:=n6_;clear n0_ n1_ n2_ n3_ n4_ n5_ n6_ hb hbox hg;have hnb11:=NB286_285.out;have hnc11:=NB285_286.out;have hcz12_0:w10.cell? ⟨gb286,0,none⟩=some (.int .i64 0):=(blk_cell BK286.out 0).trans rfl;have hcz12_1:w10.cell? ⟨gb286,1,none⟩=some (.slice none 0 0):=(blk_cell BK286.out 1).trans rfl;have hfz12_0:=blk_frozen BK286.out 0;have hfz12_1:=blk_frozen BK286.out 1))
    go_loopg [27] kj2 (fun kq v27 w'=>∃(x27_2:Int) (x287001_2:List Int) (u287001:Value),v27 = .int .i64 x27_2∧Aside0 (impl_EvenPattern.l0 kq a0 a1 a0 x27_2 a1 x287001_2=some (r1,r2,r3))∧Aside0 (kq≤kj2)∧Aside0 (Kd.R (Kd.int .i64) 3 w' w.heap.size (fun _=>True) u287001 x287001_2)∧Aside0 (w'.heap[gb285]?=some (.cells #[.int .i64 0,(.slice none 0 0)] 26 (0,0)))∧Aside0 (w'.heap[gb286]?=some (.cells #[.int .i64 a1,u287001] 26 (0,0)))∧Aside0 (Below w.heap.size w w'))
    case atStart=>exact⟨(0),(([]:List Int)),(.slice none 0 0),fin2,H',⟨Nat.le_refl _⟩,⟨by first|exact Kd.R_nil _ _ _ _ _|exact Kd.N_nil _ _ _ _ _|exact Kd.V_nil _ _ _ _ _|exact Kd.Q_nil _ _ _ _ _|exact Kd.S_nil _ _ _ _ _⟩,⟨by(with_reducible repeat(first|refine bN_ ?_ _|refine bD_ ?_|refine bA_ ?_ _));refine blk_far ?_ NB285_286.out _;(with_reducible repeat(first|refine bN_ ?_ _|refine bD_ ?_|refine bA_ ?_ _));refine blk_far ?_ NB285_286.out _;exact bup BK285.out⟩,⟨by(with_reducible repeat(first|refine bN_ ?_ _|refine bD_ ?_|refine bA_ ?_ _));refine blk_put (cs := #[.int .i64 a1,.slice none 0 0]) ?_ 1 _ rfl;(with_reducible repeat(first|refine bN_ ?_ _|refine bD_ ?_|refine bA_ ?_ _));refine blk_put (cs := #[.int .i64 0,.slice none 0 0]) ?_ 0 _ rfl;exact bup BK286.out⟩,⟨bl⟩⟩
    case round =>
     clear H'
     try clear c1
     try clear c2
     try clear p2
     try clear c5
     try clear c5b0
     try clear c6
     try clear c6b0
     try clear c7
     try clear c7b0
     try clear c8
     try clear c11
     try clear hcz12_0
     try clear hcz12_1
     try clear hcz9_0
     try clear hcz9_1
     try clear hfz12_0
     try clear hfz12_1
     try clear hfz9_0
     try clear hfz9_1
     try clear p2
     obtain⟨x27_2,x287001_2,u287001,rfl,HA,HK2,HO_287001,BK285,BK286,HB⟩:=hrel
     cases gk with
     | zero=>exact absurd HA.out (by simp [impl_EvenPattern.l0])
     | succ k2 =>
      have H:=HA.out
      clear HA
      simp only[impl_EvenPattern.l0] at H
      by_cases c13:x27_2<a0
      ·rw[if_pos c13] at H
       have c13b0:decide (x27_2<a0)=true:=decide_eq_true c13
       clear c13
       by_cases c14:a0=0
       ·rw[if_pos c14] at H
        exact absurd H (by simp)
       ·rw[if_neg c14] at H
        have c14b0:(a0 == 0)=false:=beq_eq_false_iff_ne.mpr c14
        have c14b1:(a0 != 0)=true:=bne_iff_ne.mpr c14
        by_cases c15:x287001_2.length<17592186044416
        ·rw[if_pos c15] at H
         have LMc15:=am c15
         clear c15
         obtain⟨y287,hy287⟩:∃ y_:List Int,y_=(x287001_2 ++ [wrap64 (Int.tdiv (wrap64 (x27_2*a1)) a0)]):=⟨_,rfl⟩
         replace H:(impl_EvenPattern.l0 k2 a0 a1 a0 (wrap64 (x27_2+1)) a1 y287)=some (r1,r2,r3):=by first|(rw[hy287];with_reducible exact H)|(have H2_:=(Option.bind_some _ _).symm.trans H;rw[hy287];with_reducible exact H2_)|(have H2_:=(Option.bind_some _ _).symm.trans H;with_reducible exact H2_)|with_reducible exact H|(rw[hy287];exact H)|exact H
         have Ny287:=am hy287
         clear hy287
         have H':=am H
         clear H
         try go_wp2
         have n0_:=am (Kd.R_drew HO_287001.out)
         have n1_:=am (bD_ BK285.out)
         have n2_:=am (bD_ BK286.out)
         have n3_:=am (below_drew1 HB.out)
         clear HO_287001
         clear BK285
         clear BK286
         clear HB
         have HO_287001:=n0_
         have BK285:=n1_
         have BK286:=n2_
         have HB:=n3_
         clear n0_ n1_ n2_ n3_
         refine start_ (n:=11) (S:=fun w'=>w'.cell? ⟨gb286,0,none⟩=some (.int .i64 a1)∧w'.cell? ⟨gb286,1,none⟩=some (u287001)) (ds:=[10]) #[false,false,false,false,false,false,false,false,false,false,false] (by kernel_rfl) rfl rfl ⟨(blk_cell BK286.out 0).trans rfl,(blk_cell BK286.out 1).trans rfl⟩ (fun hHeld=>?_);refine with_tabW impl_EvenPattern.tab7 impl_EvenPattern.bits7 (fun HT_ HW_=>?_)
         generalize wr.drew=w16 at HO_287001 BK285 BK286 HB hHeld ⊢
         refine pure_ (i:=0) (N:=some 30) (v:=?_) (a':=?_) #[true,false,false,false,false,false,false,false,false,false,false] rfl rfl (any_of HT_.out (by kernel_rfl)) (fun _ _ _ h=>h) (Or.inl ⟨by rfl,?_⟩) ?_ ?_
         rotate_left
         ·intro w'
          go_simp
          with_reducible rfl
         rotate_left
         ·simp only[Act.put,List.setIfInBounds_toArray,List.set_cons_zero,List.set_cons_succ,i64_w,i32_w]
          rfl
         refine pure_ (i:=2) (N:=some 32) (v:=?_) (a':=?_) #[true,false,true,false,false,false,false,false,false,false,false] rfl rfl (any_of HT_.out (by kernel_rfl)) (fun _ _ _ h=>h) (Or.inl ⟨by rfl,?_⟩) ?_ ?_
         rotate_left
         ·intro w'
          go_simp
          with_reducible rfl
         rotate_left
         ·simp only[Act.put,List.setIfInBounds_toArray,List.set_cons_zero,List.set_cons_succ,i64_w,i32_w]
          rfl
         refine pure_ (i:=3) (N:=some 33) (v:=?_) (a':=?_) #[true,false,true,true,false,false,false,false,false,false,false] rfl rfl (any_of HT_.out (by kernel_rfl)) (fun _ _ _ h=>h) (Or.inl ⟨by rfl,?_⟩) ?_ ?_
         rotate_left
         ·intro w'
          go_simp
          with_reducible rfl
         rotate_left
         ·simp only[Act.put,List.setIfInBounds_toArray,List.set_cons_zero,List.set_cons_succ,i64_w,i32_w]
          rfl
         refine pure_ (i:=4) (N:=some 34) (v:=?_) (a':=?_) #[true,false,true,true,true,false,false,false,false,false,false] rfl rfl (any_of HT_.out (by kernel_rfl)) (fun _ _ _ h=>h) (Or.inl ⟨by rfl,?_⟩) ?_ ?_
         rotate_left
         ·intro w'
          go_simp
          with_reducible rfl
         rotate_left
         ·simp only[Act.put,List.setIfInBounds_toArray,List.set_cons_zero,List.set_cons_succ,i64_w,i32_w]
          rfl
         refine pure_ (i:=5) (N:=some 35) (v:=?_) (a':=?_) #[true,false,true,true,true,true,false,false,false,false,false] rfl rfl (any_of HT_.out (by kernel_rfl)) (fun _ _ _ h=>h) (Or.inl ⟨by rfl,?_⟩) ?_ ?_
         rotate_left
         ·intro w'
          go_simp
          with_reducible rfl
         rotate_left
         ·simp only[Act.put,List.setIfInBounds_toArray,List.set_cons_zero,List.set_cons_succ,i64_w,i32_w]
          rfl
         refine pure_ (i:=6) (N:=some 36) (v:=?_) (a':=?_) #[true,false,true,true,true,true,true,false,false,false,false] rfl rfl (any_of HT_.out (by kernel_rfl)) (fun _ _ _ h=>h) (Or.inl ⟨by rfl,?_⟩) ?_ ?_
         rotate_left
         ·intro w'
          go_simp
          with_reducible rfl
         rotate_left
         ·simp only[Act.put,List.setIfInBounds_toArray,List.set_cons_zero,List.set_cons_succ,i64_w,i32_w]
          rfl
         refine take_ (i:=1) (N:=some 31) (v:=?_) (a':=?_) #[true,true,true,true,true,true,true,false,false,false,false] rfl rfl (take_ofW HT_.out HW_.out (by kernel_rfl)) (fun _ _ _ h=>h) (Or.inl ⟨by rfl,?_⟩) hHeld ?_ ?_
         rotate_left
         ·rintro w' ⟨s0,s1⟩
          go_simp
          with_reducible rfl
         rotate_left
         ·simp only[Act.put,List.setIfInBounds_toArray,List.set_cons_zero,List.set_cons_succ,i64_w,i32_w]
          rfl
         refine one_ (i:=7) (N:=some 37) #[true,true,true,true,true,true,true,true,false,false,false] rfl rfl (one_of HT_.out (by kernel_rfl)) (by decide) (fun K hK=>?_)
         refine value_ (w1:=?_) (v:=?_) (by rfl) rfl ?_ ?_
         rotate_left 2
         ·go_simp
          constructor
          ·rfl
          ·rfl
         refine hK.out _ _ ⟨(blk_cell (bA_ BK286.out _) 0).trans rfl,(blk_cell (bA_ BK286.out _) 1).trans rfl⟩ (fun hHeld=>?_)
         clear hK K
         refine norm_ (a':=?_) ?_ ?_
         rotate_left
         ·show Act.put _ (some 37) _=_
          simp only[Act.put,List.setIfInBounds_toArray,List.set_cons_zero,List.set_cons_succ,i64_w,i32_w]
          rfl
         refine one_ (i:=8) (N:=some 38) #[true,true,true,true,true,true,true,true,true,false,false] rfl rfl (one_of HT_.out (by kernel_rfl)) (by decide) (fun K hK=>?_)
         refine Kd.R_append_step (Kd.int .i64) (w0:=w) w.heap.size (by rfl) (.tmp 31) (.tmp 37) 24 3 (.int .i64 0) 8 rfl Try.underlying24 info3 rfl (by decide) (by omega) u287001 x287001_2 (wrap64 (Int.tdiv (wrap64 (x27_2*a1)) a0)) [.int .i64 (wrap64 (Int.tdiv (wrap64 (x27_2*a1)) a0))] (fun _=>True) (fun _=>False) rfl rfl ?aP (fun _ hk=>hk.elim) ?aF ?aO ?aB ?aS ?aL ?_
         (case aP=>exact rfl)
         (case aB=>exact bl)
         (case aF=>exact(fun _ _=>trivial))
         (case aO=>exact(rup HO_287001.out))
         (case aS=>exact(below_size bl))
         (case aL=>have:=LMc15.out;omega)
         intro v288 w17 ho hb hg hat
         rw[← Ny287.out] at ho
         have n0_:=am (blk_grown (bup BK285.out) hg (Kd.R_ne HO_287001.out BK285.out (by decide)))
         have n1_:=am (blk_grown (bup BK286.out) hg (Kd.R_ne HO_287001.out BK286.out (by decide)))
         have n2_:=am (hb)
         have n3_:=am (ho)
         clear BK285
         clear BK286
         clear HB
         clear HO_287001
         have BK285:=n0_
         have BK286:=n1_
         have HB:=n2_
         have HO289:=n3_
         clear n0_ n1_ n2_ n3_
         clear ho hb hg hat
         obtain⟨Ao18,co18,eo18⟩:=Kd.R_slice HO289.out
         (first|subst eo18|(injection eo18 with f1_ f2_ f3_;have f4_:=f1_.symm;have f5_:=f3_.symm;clear f1_ f2_ f3_;subst f4_;subst f5_))
         refine hK.out _ _ ⟨(blk_cell BK286.out 0).trans rfl,(blk_cell BK286.out 1).trans rfl⟩ (fun hHeld=>?_)
         clear hK K
         refine norm_ (a':=?_) ?_ ?_
         rotate_left
         ·show Act.put _ (some 38) _=_
          simp only[Act.put,List.setIfInBounds_toArray,List.set_cons_zero,List.set_cons_succ,i64_w,i32_w]
          rfl
         refine pure_ (i:=9) (N:=some 39) (v:=?_) (a':=?_) #[true,true,true,true,true,true,true,true,true,true,false] rfl rfl (any_of HT_.out (by kernel_rfl)) (fun _ _ _ h=>h) (Or.inl ⟨by rfl,?_⟩) ?_ ?_
         rotate_left
         ·intro w'
          go_simp
          with_reducible rfl
         rotate_left
         ·simp only[Act.put,List.setIfInBounds_toArray,List.set_cons_zero,List.set_cons_succ,i64_w,i32_w]
          rfl
         refine last_ (i:=10) (N:=none) #[true,true,true,true,true,true,true,true,true,true,true] rfl rfl (one_of HT_.out (by kernel_rfl)) (by decide) (fun K hK=>?_)
         have hs19:w17.cell? ⟨gb286,1,none⟩=some (u287001):=(blk_cell BK286.out 1).trans rfl
         have hfs19:=blk_frozen BK286.out 1
         have hns19_0:=NB285_286.out
         have hms19_0:=NB286_285.out
         refine skip_ (w1:=?_) (by rfl) rfl ?_ ?_
         rotate_left
         ·go_simp
          rfl
         refine hK.out _ _ ?_
         clear hK K
         refine done_ (done_of HT_.out (by kernel_rfl)) ?_
         try go_wp2
         go_roundg k2
         case measure=>have:=HJ2.out;have:=HK2.out;omega
         case rel=>exact⟨(wrap64 (x27_2+1)),(y287),(.slice Ao18 y287.length co18),fin2,H',⟨by have:=HJ2.out;have:=HK2.out;omega⟩,⟨rup (Kd.R_mono (Kd.R_far (p:=⟨gb286,1,none⟩) (Kd.R_types HO289.out BK286.out (by decide)) (fun _ hk=>hk.2) (.slice Ao18 y287.length co18)) (fun _ hk=>trivial))⟩,⟨by(with_reducible repeat(first|refine bN_ ?_ _|refine bD_ ?_|refine bA_ ?_ _));refine blk_far ?_ NB285_286.out _;exact bup BK285.out⟩,⟨by(with_reducible repeat(first|refine bN_ ?_ _|refine bD_ ?_|refine bA_ ?_ _));refine blk_put (cs := #[.int .i64 a1,u287001]) ?_ 1 _ rfl;exact bup BK286.out⟩,⟨bl⟩⟩
        ·rw[if_neg c15] at H
         exact absurd H (by simp)
      ·rw[if_neg c13] at H
       have c13b0:decide (x27_2<a0)=false:=decide_eq_false c13
       clear c13
       simp only[Option.some.injEq,Prod.mk.injEq] at H
       obtain⟨rfl,rfl,rfl⟩:=H
       have hnb20:=NB286_285.out
       have hnc20:=NB285_286.out
       have hcz21_0:wr.cell? ⟨gb286,0,none⟩=some (.int .i64 a1):=(blk_cell BK286.out 0).trans rfl
       have hcz21_1:wr.cell? ⟨gb286,1,none⟩=some (u287001):=(blk_cell BK286.out 1).trans rfl
       have hfz21_0:=blk_frozen BK286.out 0
       have hfz21_1:=blk_frozen BK286.out 1
       have hcz22_0:wr.cell? ⟨gb285,0,none⟩=some (.int .i64 0):=(blk_cell BK285.out 0).trans rfl
       have hcz22_1:wr.cell? ⟨gb285,1,none⟩=some (.slice none 0 0):=(blk_cell BK285.out 1).trans rfl
       have hfz22_0:=blk_frozen BK285.out 0
       have hfz22_1:=blk_frozen BK285.out 1
       obtain⟨Ao23,co23,eo23⟩:=Kd.R_slice HO_287001.out
       subst eo23
       go_wp2
       refine bodyPost_ret (results_ct rfl _ _ gb285 26 #[.int .i64 a1,.slice Ao23 x287001_2.length co23] (0,0) _ rfl (by(with_reducible repeat(first|refine bN_ ?_ _|refine bD_ ?_|refine bA_ ?_ _));refine blk_put (cs := #[.int .i64 a1,.slice none 0 0]) ?_ 1 _ rfl;(with_reducible repeat(first|refine bN_ ?_ _|refine bD_ ?_|refine bA_ ?_ _));refine blk_put (cs := #[.int .i64 0,.slice none 0 0]) ?_ 0 _ rfl;exact bup BK285.out) Try.underlying26 rfl (by kernel_rfl)) rfl ?_
       exact⟨_,fin1,rup (Kd.R_mono (Kd.R_far (p:=⟨gb285,1,none⟩) (Kd.R_far (p:=⟨gb285,0,none⟩) (Kd.R_types HO_287001.out BK285.out (by decide)) (fun _ hk=>hk.2) (.int .i64 a1)) (fun _ hk=>hk.2) (.slice Ao23 x287001_2.length co23)) (fun _ hk=>trivial)),bl⟩

end Go.Proofs.Ytlhjjpdlfddflab.PFnPatterns
