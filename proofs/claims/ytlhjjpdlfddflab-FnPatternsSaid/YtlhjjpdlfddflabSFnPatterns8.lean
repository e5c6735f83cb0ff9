/- The walks of functions that FnPatterns reaches: what they return is what the plain functions of the same names say. Made by a program of this session after the kit's print. No conditions beyond the arguments' being read. -/
import Derived.Test.YtlhjjpdlfddflabSFnPatterns0
import Derived.Test.YtlhjjpdlfddflabSFnPatterns2
namespace Go.Proofs.Ytlhjjpdlfddflab.PFnPatterns
open Go.RowKit Go.Proofs.YtlhjjpdlfddflabW.PrintWords Go.Proofs.YtlhjjpdlfddflabW.PrintLast Go.Proofs.YtlhjjpdlfddflabW.PrintMore
attribute [local go_sem] max2_int min2_int max_two min_two max_three min_three max_four min_four   -- for this text's walks alone
set_option linter.unusedVariables false
set_option linter.unusedSimpArgs false

/-! ### spec_ParsePattern: function 23 -/
def spec_ParsePattern.l0:Nat→ByteArray→Int→Int→List Int→Option (Int×List Int×Bool)
 | 0,_,_,_,_=>none
 | k+1,x0,x5,x341000,x341001=>if x5<(x0.size:Int) then(if 0≤x5 then(if(bt x0 x5)=120 then(if x341001.length<17592186044416 then(spec_ParsePattern.l0 k x0 (wrap64 (x5+1)) x341000 (x341001 ++ [x5])) else(none)) else(if(bt x0 x5)=46 then(spec_ParsePattern.l0 k x0 (wrap64 (x5+1)) x341000 x341001) else(some (0,([]:List Int),false)))) else(none)) else(some (x341000,x341001,true))
def spec_ParsePattern.f (k:Nat) (a0:ByteArray):Option (Int×List Int×Bool):=(spec_l1In.f (a0.size:Int) 1 24).bind fun t339=>(if t339=true then(spec_ParsePattern.l0 k a0 0 (a0.size:Int) ([]:List Int)) else(some (0,([]:List Int),false)))
set_option maxHeartbeats 8000000 in
set_option maxRecDepth 100000 in
theorem spec_ParsePattern.calls (k:Nat) (a0:ByteArray) (r1:Int) (r2:List Int) (r3:Bool) (w:World) (h:spec_ParsePattern.f k a0=some (r1,r2,r3)) :
  Calls Try.prog 23 #[.string a0] w fun e w'=>∃ v1_:Value,e = .returned (.tuple #[.agg #[.int .i64 r1,v1_],.bool r3])∧Kd.R (Kd.int .i64) 3 w' w.heap.size (fun _=>True) v1_ r2∧Below w.heap.size w w':=by
 have hu26:=Try.underlying26
 have HB:=am (Below.refl w.heap.size w)
 have H:((spec_l1In.f (a0.size:Int) 1 24).bind fun t339=>(if t339=true then(spec_ParsePattern.l0 k a0 0 (a0.size:Int) ([]:List Int)) else(some (0,([]:List Int),false))))=some (r1,r2,r3):=h
 clear h
 replace H:=Option.bind_eq_some_iff.mp H
 obtain⟨t339,A20,H⟩:=H
 replace H:(if t339=true then(spec_ParsePattern.l0 k a0 0 (a0.size:Int) ([]:List Int)) else(some (0,([]:List Int),false)))=some (r1,r2,r3):=H
 have A2:=am A20
 clear A20
 by_cases c3:t339=true
 ·subst c3
  have H1:(spec_ParsePattern.l0 k a0 0 (a0.size:Int) ([]:List Int))=some (r1,r2,r3):=by rw[if_pos rfl] at H;exact H
  clear H
  have H:=H1
  clear H1
  have H':=am H
  clear H
  go_enter Try.func23,Try.ntmps23
  go_wp2_with (first|((with_reducible refine gate_dst (N:=2) rfl ?_);refine box_event ?hg (N:=2) ?hd (cs := #[.int .i64 0,.slice none 0 0]) (t:=26) ?hr ?_;(case hd=>rfl);(case hg=>rfl);(case hr=>first|(go_simp;done)|(go_simp;rfl));intro gb338 hg w4 hbox hb;have n0_:=am (below_step bl hb);have n1_:=am (hbox);have n2_:=am (ge_ bl hg);have n3_:=am (ge_ bl hg);clear HB;have HB:=n0_;have BK338:=n1_;have GW338:=n2_;have GE338:=n3_;clear n0_ n1_ n2_ n3_ hb hbox hg)|((with_reducible refine gate_callee (f:=34) rfl ?_);refine goesL_ (some 8) rfl rfl Try.func34 (by kernel_rfl) rfl #[.int .i64 (a0.size:Int),.int .i64 1,.int .i64 24] rfl tl ?_;(with_reducible refine(spec_l1In.calls (a0.size:Int) 1 24 true _ A2.out).mono ?_);rintro e w' ⟨rfl,⟨nd,rfl⟩⟩;refine⟨_,rfl,?_⟩;(try(rw[drewN_self w4];generalize hq_:World.drewN w4 _=w4;have n0_:Aside0 (w4.heap[gb338]?=some (.cells #[.int .i64 0,.slice none 0 0] 26 (0,0))):=⟨by rw[← hq_];exact(bup BK338.out)⟩;have n1_:Aside0 (Below w.heap.size w w4):=⟨by rw[← hq_];exact bl⟩;clear BK338 HB hq_;have BK338:=n0_;have HB:=n1_;clear n0_ n1_)))|((with_reducible refine gate_dst (N:=4) rfl ?_);refine box_event ?hg (N:=4) ?hd (cs := #[.int .i64 0,.slice none 0 0]) (t:=26) ?hr ?_;(case hd=>rfl);(case hg=>rfl);(case hr=>first|(go_simp;done)|(go_simp;rfl));intro gb340 hg w5 hbox hb;have n0_:=am (blk_below (bup BK338.out) hb);have n1_:=am (below_step bl hb);have n2_:=am (hbox);have n3_:=am (ge_ bl hg);have n4_:=am (ge_ bl hg);have n5_:=am (nl (bup BK338.out) hg);have n6_:=am (ng (bup BK338.out) hg);clear BK338 HB;have BK338:=n0_;have HB:=n1_;have BK340:=n2_;have GW340:=n3_;have GE340:=n4_;have NB338_340:=n5_;have NB340_338:=n6_;clear n0_ n1_ n2_ n3_ n4_ n5_ n6_ hb hbox hg;have hnb6:=NB340_338.out;have hnc6:=NB338_340.out;have hcz7_0:w5.cell? ⟨gb340,0,none⟩=some (.int .i64 0):=(blk_cell BK340.out 0).trans rfl;have hcz7_1:w5.cell? ⟨gb340,1,none⟩=some (.slice none 0 0):=(blk_cell BK340.out 1).trans rfl;have hfz7_0:=blk_frozen BK340.out 0;have hfz7_1:=blk_frozen BK340.out 1))
  go_loopg [5] k (fun kq v5 w'=>∃(x5_1:Int) (x339000_1:Int) (x341001_1:List Int) (u341001:Value),v5 = .int .i64 x5_1∧Aside0 (spec_ParsePattern.l0 kq a0 x5_1 (a0.size:Int) x341001_1=some (r1,r2,r3))∧Aside0 (kq≤k)∧Aside0 (Kd.R (Kd.int .i64) 3 w' w.heap.size (fun _=>True) u341001 x341001_1)∧Aside0 (w'.heap[gb338]?=some (.cells #[.int .i64 x339000_1,(.slice none 0 0)] 26 (0,0)))∧Aside0 (w'.heap[gb340]?=some (.cells #[.int .i64 (a0.size:Int),u341001] 26 (0,0)))∧Aside0 (Below w.heap.size w w'))
  case atStart=>exact⟨(0),(0),(([]:List Int)),(.slice none 0 0),fin2,H',⟨Nat.le_refl _⟩,⟨by first|exact Kd.R_nil _ _ _ _ _|exact Kd.N_nil _ _ _ _ _|exact Kd.V_nil _ _ _ _ _|exact Kd.Q_nil _ _ _ _ _|exact Kd.S_nil _ _ _ _ _⟩,⟨by(with_reducible repeat(first|refine bN_ ?_ _|refine bD_ ?_|refine bA_ ?_ _));refine blk_far ?_ NB338_340.out _;(with_reducible repeat(first|refine bN_ ?_ _|refine bD_ ?_|refine bA_ ?_ _));refine blk_far ?_ NB338_340.out _;exact bup BK338.out⟩,⟨by(with_reducible repeat(first|refine bN_ ?_ _|refine bD_ ?_|refine bA_ ?_ _));refine blk_put (cs := #[.int .i64 (a0.size:Int),.slice none 0 0]) ?_ 1 _ rfl;(with_reducible repeat(first|refine bN_ ?_ _|refine bD_ ?_|refine bA_ ?_ _));refine blk_put (cs := #[.int .i64 0,.slice none 0 0]) ?_ 0 _ rfl;exact bup BK340.out⟩,⟨bl⟩⟩
  case round =>
   clear H'
   try clear c2
   try clear p2
   try clear c3
   try clear c6
   try clear hcz7_0
   try clear hcz7_1
   try clear hfz7_0
   try clear hfz7_1
   obtain⟨x5_1,x339000_1,x341001_1,u341001,rfl,HA,HK1,HO_341001,BK338,BK340,HB⟩:=hrel
   cases gk with
   | zero=>exact absurd HA.out (by simp [spec_ParsePattern.l0])
   | succ k1 =>
    have H:=HA.out
    clear HA
    simp only[spec_ParsePattern.l0] at H
    by_cases c8:x5_1<(a0.size:Int)
    ·rw[if_pos c8] at H
     have c8b0:decide (x5_1<(a0.size:Int))=true:=decide_eq_true c8
     clear c8
     by_cases c9:0≤x5_1
     ·rw[if_pos c9] at H
      have c9b0:decide (0≤x5_1)=true:=decide_eq_true c9
      clear c9
      by_cases c11:(bt a0 x5_1)=120
      ·rw[if_pos c11] at H
       have c11b0:((bt a0 x5_1) == 120)=true:=beq_iff_eq.mpr c11
       have c11b1:((bt a0 x5_1) != 120)=false:=bne_eq_false_iff_eq.mpr c11
       clear c11
       by_cases c12:x341001_1.length<17592186044416
       ·rw[if_pos c12] at H
        have LMc12:=am c12
        clear c12
        obtain⟨y341,hy341⟩:∃ y_:List Int,y_=(x341001_1 ++ [x5_1]):=⟨_,rfl⟩
        replace H:(spec_ParsePattern.l0 k1 a0 (wrap64 (x5_1+1)) (a0.size:Int) y341)=some (r1,r2,r3):=by first|(rw[hy341];with_reducible exact H)|(have H2_:=(Option.bind_some _ _).symm.trans H;rw[hy341];with_reducible exact H2_)|(have H2_:=(Option.bind_some _ _).symm.trans H;with_reducible exact H2_)|with_reducible exact H|(rw[hy341];exact H)|exact H
        have Ny341:=am hy341
        clear hy341
        have H':=am H
        clear H
        have p10:0≤(x5_1:Int):=od
        have q10:x5_1<(a0.size:Int):=od
        have hx10:=bt_at a0 x5_1
        replace p10:=eq_true p10
        replace q10:=eq_true q10
        have hnb13:=NB340_338.out
        have hnc13:=NB338_340.out
        have hcz14_0:wr.cell? ⟨gb340,0,none⟩=some (.int .i64 (a0.size:Int)):=(blk_cell BK340.out 0).trans rfl
        have hcz14_1:wr.cell? ⟨gb340,1,none⟩=some (u341001):=(blk_cell BK340.out 1).trans rfl
        have hfz14_0:=blk_frozen BK340.out 0
        have hfz14_1:=blk_frozen BK340.out 1
        go_wp2_with (first|((with_reducible refine gate_builtin (b := .append) (xs := #[.tmp 27,.tmp 29]) rfl ?_);at_builtin;refine Kd.R_append (Kd.int .i64) (w0:=w) w.heap.size rfl (.tmp 27) (.tmp 29) 24 3 (.int .i64 0) 8 rfl Try.underlying24 info3 rfl (by decide) (by omega) u341001 x341001_1 x5_1 [.int .i64 x5_1] (fun _=>True) (fun _=>False) rfl rfl ?aP (fun _ hk=>hk.elim) ?aF ?aO ?aB ?aS ?aL ?_;(case aP=>exact rfl);(case aB=>exact bl);(case aF=>exact(fun _ _=>trivial));(case aO=>exact(rup HO_341001.out));(case aS=>exact(below_size bl));(case aL=>have:=LMc12.out;omega);intro v342 w15 ho hb hg hat;rw[← Ny341.out] at ho;have n0_:=am (blk_grown (bup BK338.out) hg (Kd.R_ne HO_341001.out BK338.out (by decide)));have n1_:=am (blk_grown (bup BK340.out) hg (Kd.R_ne HO_341001.out BK340.out (by decide)));have n2_:=am (hb);have n3_:=am (ho);clear BK338 BK340 HB HO_341001;have BK338:=n0_;have BK340:=n1_;have HB:=n2_;have HO343:=n3_;clear n0_ n1_ n2_ n3_ ho hb hg hat;obtain⟨Ao16,co16,eo16⟩:=Kd.R_slice HO343.out;subst eo16;have hcz17_0:w15.cell? ⟨gb340,0,none⟩=some (.int .i64 (a0.size:Int)):=(blk_cell BK340.out 0).trans rfl;have hcz17_1:w15.cell? ⟨gb340,1,none⟩=some (u341001):=(blk_cell BK340.out 1).trans rfl;have hfz17_0:=blk_frozen BK340.out 0;have hfz17_1:=blk_frozen BK340.out 1))
        go_roundg k1
        case measure=>have:=HK1.out;omega
        case rel=>exact⟨(wrap64 (x5_1+1)),(x339000_1),(y341),(.slice Ao16 y341.length co16),fin2,H',⟨by have:=HK1.out;omega⟩,⟨rup (Kd.R_mono (Kd.R_far (p:=⟨gb340,1,none⟩) (Kd.R_types HO343.out BK340.out (by decide)) (fun _ hk=>hk.2) (.slice Ao16 y341.length co16)) (fun _ hk=>trivial))⟩,⟨by(with_reducible repeat(first|refine bN_ ?_ _|refine bD_ ?_|refine bA_ ?_ _));refine blk_far ?_ NB338_340.out _;exact bup BK338.out⟩,⟨by(with_reducible repeat(first|refine bN_ ?_ _|refine bD_ ?_|refine bA_ ?_ _));refine blk_put (cs := #[.int .i64 (a0.size:Int),u341001]) ?_ 1 _ rfl;exact bup BK340.out⟩,⟨bl⟩⟩
       ·rw[if_neg c12] at H
        exact absurd H (by simp)
      ·rw[if_neg c11] at H
       have c11b0:((bt a0 x5_1) == 120)=false:=beq_eq_false_iff_ne.mpr c11
       have c11b1:((bt a0 x5_1) != 120)=true:=bne_iff_ne.mpr c11
       by_cases c18:(bt a0 x5_1)=46
       ·rw[if_pos c18] at H
        have c18b0:((bt a0 x5_1) == 46)=true:=beq_iff_eq.mpr c18
        have c18b1:((bt a0 x5_1) != 46)=false:=bne_eq_false_iff_eq.mpr c18
        clear c18
        have H':=am H
        clear H
        have p10:0≤(x5_1:Int):=od
        have q10:x5_1<(a0.size:Int):=od
        have hx10:=bt_at a0 x5_1
        replace p10:=eq_true p10
        replace q10:=eq_true q10
        go_wp2
        go_roundg k1
        case measure=>have:=HK1.out;omega
        case rel=>exact⟨(wrap64 (x5_1+1)),(x339000_1),(x341001_1),(u341001),fin2,H',⟨by have:=HK1.out;omega⟩,⟨rup HO_341001.out⟩,⟨bup BK338.out⟩,⟨bup BK340.out⟩,⟨bl⟩⟩
       ·rw[if_neg c18] at H
        have c18b0:((bt a0 x5_1) == 46)=false:=beq_eq_false_iff_ne.mpr c18
        have c18b1:((bt a0 x5_1) != 46)=true:=bne_iff_ne.mpr c18
        simp only[Option.some.injEq,Prod.mk.injEq] at H
        obtain⟨rfl,rfl,rfl⟩:=H
        have p10:0≤(x5_1:Int):=od
        have q10:x5_1<(a0.size:Int):=od
        have hx10:=bt_at a0 x5_1
        replace p10:=eq_true p10
        replace q10:=eq_true q10
        have hnb19:=NB338_340.out
        have hnc19:=NB340_338.out
        have hcz20_0:wr.cell? ⟨gb338,0,none⟩=some (.int .i64 x339000_1):=(blk_cell BK338.out 0).trans rfl
        have hcz20_1:wr.cell? ⟨gb338,1,none⟩=some (.slice none 0 0):=(blk_cell BK338.out 1).trans rfl
        have hfz20_0:=blk_frozen BK338.out 0
        have hfz20_1:=blk_frozen BK338.out 1
        go_wp2
        refine bodyPost_ret (results_ct rfl _ _ gb338 26 #[.int .i64 0,.slice none 0 0] (0,0) _ rfl (by(with_reducible repeat(first|refine bN_ ?_ _|refine bD_ ?_|refine bA_ ?_ _));refine blk_put (cs := #[.int .i64 0,.slice none 0 0]) ?_ 1 _ rfl;(with_reducible repeat(first|refine bN_ ?_ _|refine bD_ ?_|refine bA_ ?_ _));refine blk_put (cs := #[.int .i64 x339000_1,.slice none 0 0]) ?_ 0 _ rfl;exact bup BK338.out) Try.underlying26 rfl (by kernel_rfl)) rfl ?_
        exact⟨_,fin1,by first|exact Kd.R_nil _ _ _ _ _|exact Kd.N_nil _ _ _ _ _|exact Kd.V_nil _ _ _ _ _|exact Kd.Q_nil _ _ _ _ _|exact Kd.S_nil _ _ _ _ _,bl⟩
     ·rw[if_neg c9] at H
      exact absurd H (by simp)
    ·rw[if_neg c8] at H
     have c8b0:decide (x5_1<(a0.size:Int))=false:=decide_eq_false c8
     clear c8
     simp only[Option.some.injEq,Prod.mk.injEq] at H
     obtain⟨rfl,rfl,rfl⟩:=H
     have hnb21:=NB340_338.out
     have hnc21:=NB338_340.out
     have hcz22_0:wr.cell? ⟨gb340,0,none⟩=some (.int .i64 (a0.size:Int)):=(blk_cell BK340.out 0).trans rfl
     have hcz22_1:wr.cell? ⟨gb340,1,none⟩=some (u341001):=(blk_cell BK340.out 1).trans rfl
     have hfz22_0:=blk_frozen BK340.out 0
     have hfz22_1:=blk_frozen BK340.out 1
     have hcz23_0:wr.cell? ⟨gb338,0,none⟩=some (.int .i64 x339000_1):=(blk_cell BK338.out 0).trans rfl
     have hcz23_1:wr.cell? ⟨gb338,1,none⟩=some (.slice none 0 0):=(blk_cell BK338.out 1).trans rfl
     have hfz23_0:=blk_frozen BK338.out 0
     have hfz23_1:=blk_frozen BK338.out 1
     obtain⟨Ao24,co24,eo24⟩:=Kd.R_slice HO_341001.out
     subst eo24
     go_wp2
     refine bodyPost_ret (results_ct rfl _ _ gb338 26 #[.int .i64 (a0.size:Int),.slice Ao24 x341001_1.length co24] (0,0) _ rfl (by(with_reducible repeat(first|refine bN_ ?_ _|refine bD_ ?_|refine bA_ ?_ _));refine blk_put (cs := #[.int .i64 (a0.size:Int),.slice none 0 0]) ?_ 1 _ rfl;(with_reducible repeat(first|refine bN_ ?_ _|refine bD_ ?_|refine bA_ ?_ _));refine blk_put (cs := #[.int .i64 x339000_1,.slice none 0 0]) ?_ 0 _ rfl;exact bup BK338.out) Try.underlying26 rfl (by kernel_rfl)) rfl ?_
     exact⟨_,fin1,rup (Kd.R_mono (Kd.R_far (p:=⟨gb338,1,none⟩) (Kd.R_far (p:=⟨gb338,0,none⟩) (Kd.R_types HO_341001.out BK338.out (by decide)) (fun _ hk=>hk.2) (.int .i64 (a0.size:Int))) (fun _ hk=>hk.2) (.slice Ao24 x341001_1.length co24)) (fun _ hk=>trivial)),bl⟩
 ·replace c3:=Bool.eq_false_iff.mpr c3
  subst c3
  have H1:(some (0,([]:List Int),false))=some (r1,r2,r3):=by rw[if_neg (show ¬ (false=true) by decide)] at H;exact H
  clear H
  have H:=H1
  clear H1
  simp only[Option.some.injEq,Prod.mk.injEq] at H
  obtain⟨rfl,rfl,rfl⟩:=H
  go_enter Try.func23,Try.ntmps23
  go_wp2_with (first|((with_reducible refine gate_dst (N:=2) rfl ?_);refine box_event ?hg (N:=2) ?hd (cs := #[.int .i64 0,.slice none 0 0]) (t:=26) ?hr ?_;(case hd=>rfl);(case hg=>rfl);(case hr=>first|(go_simp;done)|(go_simp;rfl));intro gb338 hg w25 hbox hb;have n0_:=am (below_step bl hb);have n1_:=am (hbox);have n2_:=am (ge_ bl hg);have n3_:=am (ge_ bl hg);clear HB;have HB:=n0_;have BK338:=n1_;have GW338:=n2_;have GE338:=n3_;clear n0_ n1_ n2_ n3_ hb hbox hg)|((with_reducible refine gate_callee (f:=34) rfl ?_);refine goesL_ (some 8) rfl rfl Try.func34 (by kernel_rfl) rfl #[.int .i64 (a0.size:Int),.int .i64 1,.int .i64 24] rfl tl ?_;(with_reducible refine(spec_l1In.calls (a0.size:Int) 1 24 false _ A2.out).mono ?_);rintro e w' ⟨rfl,⟨nd,rfl⟩⟩;refine⟨_,rfl,?_⟩;(try(rw[drewN_self w25];generalize hq_:World.drewN w25 _=w25;have n0_:Aside0 (w25.heap[gb338]?=some (.cells #[.int .i64 0,.slice none 0 0] 26 (0,0))):=⟨by rw[← hq_];exact(bup BK338.out)⟩;have n1_:Aside0 (Below w.heap.size w w25):=⟨by rw[← hq_];exact bl⟩;clear BK338 HB hq_;have BK338:=n0_;have HB:=n1_;clear n0_ n1_));have hcz26_0:w25.cell? ⟨gb338,0,none⟩=some (.int .i64 0):=(blk_cell BK338.out 0).trans rfl;have hcz26_1:w25.cell? ⟨gb338,1,none⟩=some (.slice none 0 0):=(blk_cell BK338.out 1).trans rfl;have hfz26_0:=blk_frozen BK338.out 0;have hfz26_1:=blk_frozen BK338.out 1))
  refine bodyPost_ret (results_ct rfl _ _ gb338 26 #[.int .i64 0,.slice none 0 0] (0,0) _ rfl (by(with_reducible repeat(first|refine bN_ ?_ _|refine bD_ ?_|refine bA_ ?_ _));refine blk_put (cs := #[.int .i64 0,.slice none 0 0]) ?_ 1 _ rfl;(with_reducible repeat(first|refine bN_ ?_ _|refine bD_ ?_|refine bA_ ?_ _));refine blk_put (cs := #[.int .i64 0,.slice none 0 0]) ?_ 0 _ rfl;exact bup BK338.out) Try.underlying26 rfl (by kernel_rfl)) rfl ?_
  exact⟨_,fin1,by first|exact Kd.R_nil _ _ _ _ _|exact Kd.N_nil _ _ _ _ _|exact Kd.V_nil _ _ _ _ _|exact Kd.Q_nil _ _ _ _ _|exact Kd.S_nil _ _ _ _ _,bl⟩

end Go.Proofs.Ytlhjjpdlfddflab.PFnPatterns
