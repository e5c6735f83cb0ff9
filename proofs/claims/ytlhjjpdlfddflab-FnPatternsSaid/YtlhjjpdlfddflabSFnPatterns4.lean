/- The walks of functions that FnPatterns reaches: what they return is what the plain functions of the same names say. Made by a program of this session after the kit's print. No conditions beyond the arguments' being read. -/
import Derived.Test.YtlhjjpdlfddflabSFnPatterns0
import Derived.Test.YtlhjjpdlfddflabSFnPatterns3
namespace Go.Proofs.Ytlhjjpdlfddflab.PFnPatterns
open Go.RowKit Go.Proofs.YtlhjjpdlfddflabW.PrintWords Go.Proofs.YtlhjjpdlfddflabW.PrintLast Go.Proofs.YtlhjjpdlfddflabW.PrintMore
attribute [local go_sem] max2_int min2_int max_two min_two max_three min_three max_four min_four   -- for this text's walks alone
set_option linter.unusedVariables false
set_option linter.unusedSimpArgs false

/-! ### spec_OtherBeats: function 9 -/
def spec_OtherBeats.l0:Nat→Int→Int→List Int→Int→List Int→Option (Int×List Int×Bool)
 | 0,_,_,_,_,_=>none
 | k+1,x5,x202000,x202001,x205000,x205001=>if x5<x202000 then((spec_l1Has.f k x202001 x5).bind fun t205=>(if t205=true then(spec_OtherBeats.l0 k (wrap64 (x5+1)) x202000 x202001 x205000 x205001) else(if x205001.length<17592186044416 then(spec_OtherBeats.l0 k (wrap64 (x5+1)) x202000 x202001 x205000 (x205001 ++ [x5])) else(none)))) else(some (x205000,x205001,true))
def spec_OtherBeats.f (k:Nat) (a0_0:Int) (l0_1:List Int):Option (Int×List Int×Bool):=(spec_drGood.f k a0_0 l0_1).bind fun t203=>(if t203=true then(spec_OtherBeats.l0 k 0 a0_0 l0_1 a0_0 ([]:List Int)) else(some (0,([]:List Int),false)))
set_option maxHeartbeats 8000000 in
set_option maxRecDepth 100000 in
theorem spec_OtherBeats.calls (k:Nat) (a0_0:Int) (A0_1:Option Addr) (c0_1:Nat) (l0_1:List Int) (r1:Int) (r2:List Int) (r3:Bool) (w:World) (hr0_1:Kd.C (Kd.int .i64) w A0_1 l0_1.length l0_1) (hc0_1:l0_1.length≤c0_1) (h:spec_OtherBeats.f k a0_0 l0_1=some (r1,r2,r3)) :
  Calls Try.prog 9 #[.agg #[.int .i64 a0_0,.slice A0_1 l0_1.length c0_1]] w fun e w'=>∃ v1_:Value,e = .returned (.tuple #[.agg #[.int .i64 r1,v1_],.bool r3])∧Kd.R (Kd.int .i64) 3 w' w.heap.size (fun _=>True) v1_ r2∧Below w.heap.size w w':=by
 have hu26:=Try.underlying26
 have HR0_1:=am hr0_1
 have HC0_1:=am hc0_1
 clear hr0_1 hc0_1
 have HB:=am (Below.refl w.heap.size w)
 have H:((spec_drGood.f k a0_0 l0_1).bind fun t203=>(if t203=true then(spec_OtherBeats.l0 k 0 a0_0 l0_1 a0_0 ([]:List Int)) else(some (0,([]:List Int),false))))=some (r1,r2,r3):=h
 clear h
 replace H:=Option.bind_eq_some_iff.mp H
 obtain⟨t203,A20,H⟩:=H
 replace H:(if t203=true then(spec_OtherBeats.l0 k 0 a0_0 l0_1 a0_0 ([]:List Int)) else(some (0,([]:List Int),false)))=some (r1,r2,r3):=H
 have A2:=am A20
 clear A20
 by_cases c3:t203=true
 ·subst c3
  have H1:(spec_OtherBeats.l0 k 0 a0_0 l0_1 a0_0 ([]:List Int))=some (r1,r2,r3):=by rw[if_pos rfl] at H;exact H
  clear H
  have H:=H1
  clear H1
  have H':=am H
  clear H
  go_enter Try.func9,Try.ntmps9
  go_wp2_with (first|((with_reducible refine gate_dst (N:=1) rfl ?_);refine box_event ?hg (N:=1) ?hd (cs := #[.int .i64 a0_0,.slice A0_1 l0_1.length c0_1]) (t:=26) ?hr ?_;(case hd=>rfl);(case hg=>rfl);(case hr=>first|(go_simp;done)|(go_simp;rfl));intro gb201 hg w4 hbox hb;have n0_:=am (below_step bl hb);have n1_:=am (hbox);have n2_:=am (ge_ bl hg);have n3_:=am (ge_ bl hg);clear HB;have HB:=n0_;have BK201:=n1_;have GW201:=n2_;have GE201:=n3_;clear n0_ n1_ n2_ n3_ hb hbox hg)|((with_reducible refine gate_dst (N:=2) rfl ?_);refine box_event ?hg (N:=2) ?hd (cs := #[.int .i64 0,.slice none 0 0]) (t:=26) ?hr ?_;(case hd=>rfl);(case hg=>rfl);(case hr=>first|(go_simp;done)|(go_simp;rfl));intro gb202 hg w5 hbox hb;have n0_:=am (blk_below (bup BK201.out) hb);have n1_:=am (below_step bl hb);have n2_:=am (hbox);have n3_:=am (ge_ bl hg);have n4_:=am (ge_ bl hg);have n5_:=am (nl (bup BK201.out) hg);have n6_:=am (ng (bup BK201.out) hg);clear BK201 HB;have BK201:=n0_;have HB:=n1_;have BK202:=n2_;have GW202:=n3_;have GE202:=n4_;have NB201_202:=n5_;have NB202_201:=n6_;clear n0_ n1_ n2_ n3_ n4_ n5_ n6_ hb hbox hg;have hnb6:=NB201_202.out;have hnc6:=NB202_201.out;have hcz7_0:w5.cell? ⟨gb201,0,none⟩=some (.int .i64 a0_0):=(blk_cell BK201.out 0).trans rfl;have hcz7_1:w5.cell? ⟨gb201,1,none⟩=some (.slice A0_1 l0_1.length c0_1):=(blk_cell BK201.out 1).trans rfl;have hfz7_0:=blk_frozen BK201.out 0;have hfz7_1:=blk_frozen BK201.out 1)|((with_reducible refine gate_callee (f:=26) rfl ?_);refine goesL_ (some 7) rfl rfl Try.func26 (by kernel_rfl) rfl #[.agg #[.int .i64 a0_0,.slice A0_1 l0_1.length c0_1]] rfl tl ?_;(with_reducible refine(spec_drGood.calls k a0_0 _ _ l0_1 true _ ?side1 ?side2 A2.out).mono ?_);(case side1=>exact cup (Kd.C_below HR0_1.out HB.out));(case side2=>exact HC0_1.out);rintro e w8 ⟨rfl,hb⟩;refine⟨_,rfl,?_⟩;have n0_:=am (blk_below (bup BK201.out) hb);have n1_:=am (blk_below (bup BK202.out) hb);have n2_:=am (below_step bl hb);clear BK201 BK202 HB;have BK201:=n0_;have BK202:=n1_;have HB:=n2_;clear n0_ n1_ n2_;(try clear hb);(try clear hb2);(try clear hk);(try clear hi);have hcz9_0:w8.cell? ⟨gb201,0,none⟩=some (.int .i64 a0_0):=(blk_cell BK201.out 0).trans rfl;have hcz9_1:w8.cell? ⟨gb201,1,none⟩=some (.slice A0_1 l0_1.length c0_1):=(blk_cell BK201.out 1).trans rfl;have hfz9_0:=blk_frozen BK201.out 0;have hfz9_1:=blk_frozen BK201.out 1)|((with_reducible refine gate_dst (N:=4) rfl ?_);refine box_event ?hg (N:=4) ?hd (cs := #[.int .i64 0,.slice none 0 0]) (t:=26) ?hr ?_;(case hd=>rfl);(case hg=>rfl);(case hr=>first|(go_simp;done)|(go_simp;rfl));intro gb204 hg w10 hbox hb;have n0_:=am (blk_below (bup BK201.out) hb);have n1_:=am (blk_below (bup BK202.out) hb);have n2_:=am (below_step bl hb);have n3_:=am (hbox);have n4_:=am (ge_ bl hg);have n5_:=am (ge_ bl hg);have n6_:=am (nl (bup BK201.out) hg);have n7_:=am (ng (bup BK201.out) hg);have n8_:=am (nl (bup BK202.out) hg);have n9_:=am (ng (bup BK202.out) hg);clear BK201 BK202 HB;have BK201:=n0_;have BK202:=n1_;have HB:=n2_;have BK204:=n3_;have GW204:=n4_;have GE204:=n5_;have NB201_204:=n6_;have NB204_201:=n7_;have NB202_204:=n8_;have NB204_202:=n9_;clear n0_ n1_ n2_ n3_ n4_ n5_ n6_ n7_ n8_ n9_ hb hbox hg;have hnb11:=NB204_201.out;have hnc11:=NB201_204.out;have hnb12:=NB204_202.out;have hnc12:=NB202_204.out;have hcz13_0:w10.cell? ⟨gb204,0,none⟩=some (.int .i64 0):=(blk_cell BK204.out 0).trans rfl;have hcz13_1:w10.cell? ⟨gb204,1,none⟩=some (.slice none 0 0):=(blk_cell BK204.out 1).trans rfl;have hfz13_0:=blk_frozen BK204.out 0;have hfz13_1:=blk_frozen BK204.out 1))
  go_loopg [5] k (fun kq v5 w'=>∃(x5_1:Int) (x205001_1:List Int) (u205001:Value),v5 = .int .i64 x5_1∧Aside0 (spec_OtherBeats.l0 kq x5_1 a0_0 l0_1 a0_0 x205001_1=some (r1,r2,r3))∧Aside0 (kq≤k)∧Aside0 (Kd.R (Kd.int .i64) 3 w' w.heap.size (fun _=>True) u205001 x205001_1)∧Aside0 (w'.heap[gb201]?=some (.cells #[.int .i64 a0_0,(.slice A0_1 l0_1.length c0_1)] 26 (0,0)))∧Aside0 (w'.heap[gb202]?=some (.cells #[.int .i64 0,(.slice none 0 0)] 26 (0,0)))∧Aside0 (w'.heap[gb204]?=some (.cells #[.int .i64 a0_0,u205001] 26 (0,0)))∧Aside0 (Below w.heap.size w w'))
  case atStart=>exact⟨(0),(([]:List Int)),(.slice none 0 0),fin2,H',⟨Nat.le_refl _⟩,⟨by first|exact Kd.R_nil _ _ _ _ _|exact Kd.N_nil _ _ _ _ _|exact Kd.V_nil _ _ _ _ _|exact Kd.Q_nil _ _ _ _ _|exact Kd.S_nil _ _ _ _ _⟩,⟨by(with_reducible repeat(first|refine bN_ ?_ _|refine bD_ ?_|refine bA_ ?_ _));refine blk_far ?_ NB201_204.out _;(with_reducible repeat(first|refine bN_ ?_ _|refine bD_ ?_|refine bA_ ?_ _));refine blk_far ?_ NB201_204.out _;exact bup BK201.out⟩,⟨by(with_reducible repeat(first|refine bN_ ?_ _|refine bD_ ?_|refine bA_ ?_ _));refine blk_far ?_ NB202_204.out _;(with_reducible repeat(first|refine bN_ ?_ _|refine bD_ ?_|refine bA_ ?_ _));refine blk_far ?_ NB202_204.out _;exact bup BK202.out⟩,⟨by(with_reducible repeat(first|refine bN_ ?_ _|refine bD_ ?_|refine bA_ ?_ _));refine blk_put (cs := #[.int .i64 a0_0,.slice none 0 0]) ?_ 1 _ rfl;(with_reducible repeat(first|refine bN_ ?_ _|refine bD_ ?_|refine bA_ ?_ _));refine blk_put (cs := #[.int .i64 0,.slice none 0 0]) ?_ 0 _ rfl;exact bup BK204.out⟩,⟨bl⟩⟩
  case round =>
   clear H'
   try clear c1
   try clear c2
   try clear p2
   try clear c3
   try clear c6
   try clear c9
   try clear c11
   try clear c12
   try clear hcz13_0
   try clear hcz13_1
   try clear hcz7_0
   try clear hcz7_1
   try clear hcz9_0
   try clear hcz9_1
   try clear hfz13_0
   try clear hfz13_1
   try clear hfz7_0
   try clear hfz7_1
   try clear hfz9_0
   try clear hfz9_1
   obtain⟨x5_1,x205001_1,u205001,rfl,HA,HK1,HO_205001,BK201,BK202,BK204,HB⟩:=hrel
   cases gk with
   | zero=>exact absurd HA.out (by simp [spec_OtherBeats.l0])
   | succ k1 =>
    have H:=HA.out
    clear HA
    simp only[spec_OtherBeats.l0] at H
    by_cases c14:x5_1<a0_0
    ·rw[if_pos c14] at H
     have c14b0:decide (x5_1<a0_0)=true:=decide_eq_true c14
     clear c14
     replace H:=Option.bind_eq_some_iff.mp H
     obtain⟨t205,A150,H⟩:=H
     replace H:(if t205=true then(spec_OtherBeats.l0 k1 (wrap64 (x5_1+1)) a0_0 l0_1 a0_0 x205001_1) else(if x205001_1.length<17592186044416 then(spec_OtherBeats.l0 k1 (wrap64 (x5_1+1)) a0_0 l0_1 a0_0 (x205001_1 ++ [x5_1])) else(none)))=some (r1,r2,r3):=H
     have A15:=am A150
     clear A150
     by_cases c16:t205=true
     ·subst c16
      have H1:(spec_OtherBeats.l0 k1 (wrap64 (x5_1+1)) a0_0 l0_1 a0_0 x205001_1)=some (r1,r2,r3):=by rw[if_pos rfl] at H;exact H
      clear H
      have H:=H1
      clear H1
      have H':=am H
      clear H
      have hnb17:=NB201_202.out
      have hnc17:=NB202_201.out
      have hnb18:=NB201_204.out
      have hnc18:=NB204_201.out
      have hcz19_0:wr.cell? ⟨gb201,0,none⟩=some (.int .i64 a0_0):=(blk_cell BK201.out 0).trans rfl
      have hcz19_1:wr.cell? ⟨gb201,1,none⟩=some (.slice A0_1 l0_1.length c0_1):=(blk_cell BK201.out 1).trans rfl
      have hfz19_0:=blk_frozen BK201.out 0
      have hfz19_1:=blk_frozen BK201.out 1
      go_wp2_with (first|((with_reducible refine gate_callee (f:=28) rfl ?_);refine goesL_ (some 22) rfl rfl Try.func28 (by kernel_rfl) rfl #[.slice A0_1 l0_1.length c0_1,.int .i64 x5_1] rfl tl ?_;(with_reducible refine(spec_l1Has.calls k1 _ _ l0_1 x5_1 true _ ?side1 ?side2 A15.out).mono ?_);(case side1=>exact cup (Kd.C_below HR0_1.out HB.out));(case side2=>exact HC0_1.out);rintro e w' ⟨rfl,⟨nd,rfl⟩⟩;refine⟨_,rfl,?_⟩))
      go_roundg k1
      case measure=>have:=HK1.out;omega
      case rel=>exact⟨(wrap64 (x5_1+1)),(x205001_1),(u205001),fin2,H',⟨by have:=HK1.out;omega⟩,⟨rup HO_205001.out⟩,⟨bup BK201.out⟩,⟨bup BK202.out⟩,⟨bup BK204.out⟩,⟨bl⟩⟩
     ·replace c16:=Bool.eq_false_iff.mpr c16
      subst c16
      have H1:(if x205001_1.length<17592186044416 then(spec_OtherBeats.l0 k1 (wrap64 (x5_1+1)) a0_0 l0_1 a0_0 (x205001_1 ++ [x5_1])) else(none))=some (r1,r2,r3):=by rw[if_neg (show ¬ (false=true) by decide)] at H;exact H
      clear H
      have H:=H1
      clear H1
      by_cases c20:x205001_1.length<17592186044416
      ·rw[if_pos c20] at H
       have LMc20:=am c20
       clear c20
       obtain⟨y206,hy206⟩:∃ y_:List Int,y_=(x205001_1 ++ [x5_1]):=⟨_,rfl⟩
       replace H:(spec_OtherBeats.l0 k1 (wrap64 (x5_1+1)) a0_0 l0_1 a0_0 y206)=some (r1,r2,r3):=by first|(rw[hy206];with_reducible exact H)|(have H2_:=(Option.bind_some _ _).symm.trans H;rw[hy206];with_reducible exact H2_)|(have H2_:=(Option.bind_some _ _).symm.trans H;with_reducible exact H2_)|with_reducible exact H|(rw[hy206];exact H)|exact H
       have Ny206:=am hy206
       clear hy206
       have H':=am H
       clear H
       have hnb21:=NB201_202.out
       have hnc21:=NB202_201.out
       have hnb22:=NB201_204.out
       have hnc22:=NB204_201.out
       have hcz23_0:wr.cell? ⟨gb201,0,none⟩=some (.int .i64 a0_0):=(blk_cell BK201.out 0).trans rfl
       have hcz23_1:wr.cell? ⟨gb201,1,none⟩=some (.slice A0_1 l0_1.length c0_1):=(blk_cell BK201.out 1).trans rfl
       have hfz23_0:=blk_frozen BK201.out 0
       have hfz23_1:=blk_frozen BK201.out 1
       go_wp2_with (first|((with_reducible refine gate_callee (f:=28) rfl ?_);refine goesL_ (some 22) rfl rfl Try.func28 (by kernel_rfl) rfl #[.slice A0_1 l0_1.length c0_1,.int .i64 x5_1] rfl tl ?_;(with_reducible refine(spec_l1Has.calls k1 _ _ l0_1 x5_1 false _ ?side1 ?side2 A15.out).mono ?_);(case side1=>exact cup (Kd.C_below HR0_1.out HB.out));(case side2=>exact HC0_1.out);rintro e w' ⟨rfl,⟨nd,rfl⟩⟩;refine⟨_,rfl,?_⟩;(try(rw[drewN_self wr];generalize hq_:World.drewN wr _=wr;have n0_:Aside0 (Kd.R (Kd.int .i64) 3 wr w.heap.size (fun _=>True) u205001 x205001_1):=⟨by rw[← hq_];exact(rup HO_205001.out)⟩;have n1_:Aside0 (wr.heap[gb201]?=some (.cells #[.int .i64 a0_0,.slice A0_1 l0_1.length c0_1] 26 (0,0))):=⟨by rw[← hq_];exact(bup BK201.out)⟩;have n2_:Aside0 (wr.heap[gb202]?=some (.cells #[.int .i64 0,.slice none 0 0] 26 (0,0))):=⟨by rw[← hq_];exact(bup BK202.out)⟩;have n3_:Aside0 (wr.heap[gb204]?=some (.cells #[.int .i64 a0_0,u205001] 26 (0,0))):=⟨by rw[← hq_];exact(bup BK204.out)⟩;have n4_:Aside0 (Below w.heap.size w wr):=⟨by rw[← hq_];exact bl⟩;clear HO_205001 BK201 BK202 BK204 HB hq_;have HO_205001:=n0_;have BK201:=n1_;have BK202:=n2_;have BK204:=n3_;have HB:=n4_;clear n0_ n1_ n2_ n3_ n4_));have hnb24:=NB204_202.out;have hnc24:=NB202_204.out;have hcz25_0:wr.cell? ⟨gb204,0,none⟩=some (.int .i64 a0_0):=(blk_cell BK204.out 0).trans rfl;have hcz25_1:wr.cell? ⟨gb204,1,none⟩=some (u205001):=(blk_cell BK204.out 1).trans rfl;have hfz25_0:=blk_frozen BK204.out 0;have hfz25_1:=blk_frozen BK204.out 1)|((with_reducible refine gate_builtin (b := .append) (xs := #[.tmp 25,.tmp 27]) rfl ?_);at_builtin;refine Kd.R_append (Kd.int .i64) (w0:=w) w.heap.size rfl (.tmp 25) (.tmp 27) 24 3 (.int .i64 0) 8 rfl Try.underlying24 info3 rfl (by decide) (by omega) u205001 x205001_1 x5_1 [.int .i64 x5_1] (fun _=>True) (fun _=>False) rfl rfl ?aP (fun _ hk=>hk.elim) ?aF ?aO ?aB ?aS ?aL ?_;(case aP=>exact rfl);(case aB=>exact bl);(case aF=>exact(fun _ _=>trivial));(case aO=>exact(rup HO_205001.out));(case aS=>exact(below_size bl));(case aL=>have:=LMc20.out;omega);intro v207 w26 ho hb hg hat;rw[← Ny206.out] at ho;have n0_:=am (blk_grown (bup BK201.out) hg (Kd.R_ne HO_205001.out BK201.out (by decide)));have n1_:=am (blk_grown (bup BK202.out) hg (Kd.R_ne HO_205001.out BK202.out (by decide)));have n2_:=am (blk_grown (bup BK204.out) hg (Kd.R_ne HO_205001.out BK204.out (by decide)));have n3_:=am (hb);have n4_:=am (ho);clear BK201 BK202 BK204 HB HO_205001;have BK201:=n0_;have BK202:=n1_;have BK204:=n2_;have HB:=n3_;have HO208:=n4_;clear n0_ n1_ n2_ n3_ n4_ ho hb hg hat;obtain⟨Ao27,co27,eo27⟩:=Kd.R_slice HO208.out;subst eo27;have hcz28_0:w26.cell? ⟨gb204,0,none⟩=some (.int .i64 a0_0):=(blk_cell BK204.out 0).trans rfl;have hcz28_1:w26.cell? ⟨gb204,1,none⟩=some (u205001):=(blk_cell BK204.out 1).trans rfl;have hfz28_0:=blk_frozen BK204.out 0;have hfz28_1:=blk_frozen BK204.out 1))
       go_roundg k1
       case measure=>have:=HK1.out;omega
       case rel=>exact⟨(wrap64 (x5_1+1)),(y206),(.slice Ao27 y206.length co27),fin2,H',⟨by have:=HK1.out;omega⟩,⟨rup (Kd.R_mono (Kd.R_far (p:=⟨gb204,1,none⟩) (Kd.R_types HO208.out BK204.out (by decide)) (fun _ hk=>hk.2) (.slice Ao27 y206.length co27)) (fun _ hk=>trivial))⟩,⟨by(with_reducible repeat(first|refine bN_ ?_ _|refine bD_ ?_|refine bA_ ?_ _));refine blk_far ?_ NB201_204.out _;exact bup BK201.out⟩,⟨by(with_reducible repeat(first|refine bN_ ?_ _|refine bD_ ?_|refine bA_ ?_ _));refine blk_far ?_ NB202_204.out _;exact bup BK202.out⟩,⟨by(with_reducible repeat(first|refine bN_ ?_ _|refine bD_ ?_|refine bA_ ?_ _));refine blk_put (cs := #[.int .i64 a0_0,u205001]) ?_ 1 _ rfl;exact bup BK204.out⟩,⟨bl⟩⟩
      ·rw[if_neg c20] at H
       exact absurd H (by simp)
    ·rw[if_neg c14] at H
     have c14b0:decide (x5_1<a0_0)=false:=decide_eq_false c14
     clear c14
     simp only[Option.some.injEq,Prod.mk.injEq] at H
     obtain⟨rfl,rfl,rfl⟩:=H
     have hnb29:=NB201_202.out
     have hnc29:=NB202_201.out
     have hnb30:=NB201_204.out
     have hnc30:=NB204_201.out
     have hcz31_0:wr.cell? ⟨gb201,0,none⟩=some (.int .i64 a0_0):=(blk_cell BK201.out 0).trans rfl
     have hcz31_1:wr.cell? ⟨gb201,1,none⟩=some (.slice A0_1 l0_1.length c0_1):=(blk_cell BK201.out 1).trans rfl
     have hfz31_0:=blk_frozen BK201.out 0
     have hfz31_1:=blk_frozen BK201.out 1
     have hnb32:=NB204_202.out
     have hnc32:=NB202_204.out
     have hcz33_0:wr.cell? ⟨gb204,0,none⟩=some (.int .i64 a0_0):=(blk_cell BK204.out 0).trans rfl
     have hcz33_1:wr.cell? ⟨gb204,1,none⟩=some (u205001):=(blk_cell BK204.out 1).trans rfl
     have hfz33_0:=blk_frozen BK204.out 0
     have hfz33_1:=blk_frozen BK204.out 1
     have hcz34_0:wr.cell? ⟨gb202,0,none⟩=some (.int .i64 0):=(blk_cell BK202.out 0).trans rfl
     have hcz34_1:wr.cell? ⟨gb202,1,none⟩=some (.slice none 0 0):=(blk_cell BK202.out 1).trans rfl
     have hfz34_0:=blk_frozen BK202.out 0
     have hfz34_1:=blk_frozen BK202.out 1
     obtain⟨Ao35,co35,eo35⟩:=Kd.R_slice HO_205001.out
     subst eo35
     go_wp2
     refine bodyPost_ret (results_ct rfl _ _ gb202 26 #[.int .i64 a0_0,.slice Ao35 x205001_1.length co35] (0,0) _ rfl (by(with_reducible repeat(first|refine bN_ ?_ _|refine bD_ ?_|refine bA_ ?_ _));refine blk_put (cs := #[.int .i64 a0_0,.slice none 0 0]) ?_ 1 _ rfl;(with_reducible repeat(first|refine bN_ ?_ _|refine bD_ ?_|refine bA_ ?_ _));refine blk_put (cs := #[.int .i64 0,.slice none 0 0]) ?_ 0 _ rfl;exact bup BK202.out) Try.underlying26 rfl (by kernel_rfl)) rfl ?_
     exact⟨_,fin1,rup (Kd.R_mono (Kd.R_far (p:=⟨gb202,1,none⟩) (Kd.R_far (p:=⟨gb202,0,none⟩) (Kd.R_types HO_205001.out BK202.out (by decide)) (fun _ hk=>hk.2) (.int .i64 a0_0)) (fun _ hk=>hk.2) (.slice Ao35 x205001_1.length co35)) (fun _ hk=>trivial)),bl⟩
 ·replace c3:=Bool.eq_false_iff.mpr c3
  subst c3
  have H1:(some (0,([]:List Int),false))=some (r1,r2,r3):=by rw[if_neg (show ¬ (false=true) by decide)] at H;exact H
  clear H
  have H:=H1
  clear H1
  simp only[Option.some.injEq,Prod.mk.injEq] at H
  obtain⟨rfl,rfl,rfl⟩:=H
  go_enter Try.func9,Try.ntmps9
  go_wp2_with (first|((with_reducible refine gate_dst (N:=1) rfl ?_);refine box_event ?hg (N:=1) ?hd (cs := #[.int .i64 a0_0,.slice A0_1 l0_1.length c0_1]) (t:=26) ?hr ?_;(case hd=>rfl);(case hg=>rfl);(case hr=>first|(go_simp;done)|(go_simp;rfl));intro gb201 hg w36 hbox hb;have n0_:=am (below_step bl hb);have n1_:=am (hbox);have n2_:=am (ge_ bl hg);have n3_:=am (ge_ bl hg);clear HB;have HB:=n0_;have BK201:=n1_;have GW201:=n2_;have GE201:=n3_;clear n0_ n1_ n2_ n3_ hb hbox hg)|((with_reducible refine gate_dst (N:=2) rfl ?_);refine box_event ?hg (N:=2) ?hd (cs := #[.int .i64 0,.slice none 0 0]) (t:=26) ?hr ?_;(case hd=>rfl);(case hg=>rfl);(case hr=>first|(go_simp;done)|(go_simp;rfl));intro gb202 hg w37 hbox hb;have n0_:=am (blk_below (bup BK201.out) hb);have n1_:=am (below_step bl hb);have n2_:=am (hbox);have n3_:=am (ge_ bl hg);have n4_:=am (ge_ bl hg);have n5_:=am (nl (bup BK201.out) hg);have n6_:=am (ng (bup BK201.out) hg);clear BK201 HB;have BK201:=n0_;have HB:=n1_;have BK202:=n2_;have GW202:=n3_;have GE202:=n4_;have NB201_202:=n5_;have NB202_201:=n6_;clear n0_ n1_ n2_ n3_ n4_ n5_ n6_ hb hbox hg;have hnb38:=NB201_202.out;have hnc38:=NB202_201.out;have hcz39_0:w37.cell? ⟨gb201,0,none⟩=some (.int .i64 a0_0):=(blk_cell BK201.out 0).trans rfl;have hcz39_1:w37.cell? ⟨gb201,1,none⟩=some (.slice A0_1 l0_1.length c0_1):=(blk_cell BK201.out 1).trans rfl;have hfz39_0:=blk_frozen BK201.out 0;have hfz39_1:=blk_frozen BK201.out 1)|((with_reducible refine gate_callee (f:=26) rfl ?_);refine goesL_ (some 7) rfl rfl Try.func26 (by kernel_rfl) rfl #[.agg #[.int .i64 a0_0,.slice A0_1 l0_1.length c0_1]] rfl tl ?_;(with_reducible refine(spec_drGood.calls k a0_0 _ _ l0_1 false _ ?side1 ?side2 A2.out).mono ?_);(case side1=>exact cup (Kd.C_below HR0_1.out HB.out));(case side2=>exact HC0_1.out);rintro e w40 ⟨rfl,hb⟩;refine⟨_,rfl,?_⟩;have n0_:=am (blk_below (bup BK201.out) hb);have n1_:=am (blk_below (bup BK202.out) hb);have n2_:=am (below_step bl hb);clear BK201 BK202 HB;have BK201:=n0_;have BK202:=n1_;have HB:=n2_;clear n0_ n1_ n2_;(try clear hb);(try clear hb2);(try clear hk);(try clear hi);have hcz41_0:w40.cell? ⟨gb202,0,none⟩=some (.int .i64 0):=(blk_cell BK202.out 0).trans rfl;have hcz41_1:w40.cell? ⟨gb202,1,none⟩=some (.slice none 0 0):=(blk_cell BK202.out 1).trans rfl;have hfz41_0:=blk_frozen BK202.out 0;have hfz41_1:=blk_frozen BK202.out 1))
  refine bodyPost_ret (results_ct rfl _ _ gb202 26 #[.int .i64 0,.slice none 0 0] (0,0) _ rfl (by(with_reducible repeat(first|refine bN_ ?_ _|refine bD_ ?_|refine bA_ ?_ _));refine blk_put (cs := #[.int .i64 0,.slice none 0 0]) ?_ 1 _ rfl;(with_reducible repeat(first|refine bN_ ?_ _|refine bD_ ?_|refine bA_ ?_ _));refine blk_put (cs := #[.int .i64 0,.slice none 0 0]) ?_ 0 _ rfl;exact bup BK202.out) Try.underlying26 rfl (by kernel_rfl)) rfl ?_
  exact⟨_,fin1,by first|exact Kd.R_nil _ _ _ _ _|exact Kd.N_nil _ _ _ _ _|exact Kd.V_nil _ _ _ _ _|exact Kd.Q_nil _ _ _ _ _|exact Kd.S_nil _ _ _ _ _,bl⟩

/-! ### laws_sameInts: function 29 -/
def laws_sameInts.l0:Nat→List Int→List Int→Int→Int→Option (Bool)
 | 0,_,_,_,_=>none
 | k+1,x0,x1,x12,x13=>if x13<x12 then(if 0≤x13 then(if x13<(x0.length:Int) then(if x13<(x1.length:Int) then(if(rd x0 x13)=(rd x1 x13) then(laws_sameInts.l0 k x0 x1 x12 (wrap64 (x13+1))) else(some false)) else(none)) else(none)) else(none)) else(some true)
def laws_sameInts.f (k:Nat) (l0:List Int) (l1:List Int):Option (Bool):=if(l0.length:Int)=(l1.length:Int) then(laws_sameInts.l0 k l0 l1 (l0.length:Int) 0) else(some false)
set_option maxHeartbeats 8000000 in
set_option maxRecDepth 100000 in
theorem laws_sameInts.calls (k:Nat) (A0:Option Addr) (c0:Nat) (l0:List Int) (A1:Option Addr) (c1:Nat) (l1:List Int) (r:Bool) (w:World) (hr0:Kd.C (Kd.int .i64) w A0 l0.length l0) (hc0:l0.length≤c0) (hr1:Kd.C (Kd.int .i64) w A1 l1.length l1) (hc1:l1.length≤c1) (h:laws_sameInts.f k l0 l1=some r) :
  Calls Try.prog 29 #[.slice A0 l0.length c0,.slice A1 l1.length c1] w fun e w'=>e = .returned (.bool r)∧Drawn0 w w':=by
 have HR0:=am hr0
 have HC0:=am hc0
 clear hr0 hc0
 have HR1:=am hr1
 have HC1:=am hc1
 clear hr1 hc1
 have H:(if(l0.length:Int)=(l1.length:Int) then(laws_sameInts.l0 k l0 l1 (l0.length:Int) 0) else(some false))=some r:=h
 clear h
 by_cases c3:(l0.length:Int)=(l1.length:Int)
 ·rw[if_pos c3] at H
  have c3b0:((l0.length:Int) == (l1.length:Int))=true:=beq_iff_eq.mpr c3
  have c3b1:((l0.length:Int) != (l1.length:Int))=false:=bne_eq_false_iff_eq.mpr c3
  have c3b2:(l0.length == l1.length)=true:=by first|simpa using c3|(simp at c3 ⊢;omega)
  clear c3
  have H':=am H
  clear H
  go_enter Try.func29,Try.ntmps29
  go_wp2
  repeat(go_quiet (fail);try go_wp2)
  go_loopg [13] k (fun kq v13 w'=>∃(x13_1:Int),v13 = .int .i64 x13_1∧Aside0 (laws_sameInts.l0 kq l0 l1 (l0.length:Int) x13_1=some r)∧Aside0 (kq≤k)∧Drawn0 w w')
  case atStart=>exact⟨(0),fin2,H',⟨Nat.le_refl _⟩,by repeat(first|exact Drawn0.refl _|apply Drawn0.step)⟩
  case round =>
   clear H'
   try clear c1
   try clear c2
   try clear p2
   try clear c3
   try clear c3b0
   try clear c3b1
   try clear c3b2
   obtain⟨x13_1,rfl,HA,HK1,⟨m1,rfl⟩⟩:=hrel
   cases gk with
   | zero=>exact absurd HA.out (by simp [laws_sameInts.l0])
   | succ k1 =>
    have H:=HA.out
    clear HA
    simp only[laws_sameInts.l0] at H
    by_cases c4:x13_1<(l0.length:Int)
    ·rw[if_pos c4] at H
     have c4b0:decide (x13_1<(l0.length:Int))=true:=decide_eq_true c4
     clear c4
     by_cases c5:0≤x13_1
     ·rw[if_pos c5] at H
      have c5b0:decide (0≤x13_1)=true:=decide_eq_true c5
      clear c5
      by_cases c6:x13_1<(l0.length:Int)
      ·rw[if_pos c6] at H
       have c6b0:decide (x13_1<(l0.length:Int))=true:=decide_eq_true c6
       clear c6
       by_cases c7:x13_1<(l1.length:Int)
       ·rw[if_pos c7] at H
        have c7b0:decide (x13_1<(l1.length:Int))=true:=decide_eq_true c7
        clear c7
        by_cases c8:(rd l0 x13_1)=(rd l1 x13_1)
        ·rw[if_pos c8] at H
         have c8b0:((rd l0 x13_1) == (rd l1 x13_1))=true:=beq_iff_eq.mpr c8
         have c8b1:((rd l0 x13_1) != (rd l1 x13_1))=false:=bne_eq_false_iff_eq.mpr c8
         clear c8
         have H':=am H
         clear H
         have p209:0≤(x13_1:Int):=od
         have q209:x13_1<(l0.length:Int):=od
         obtain⟨ad209,e209,hx209_0⟩:=Kd.at_int HR0.out x13_1 p209 q209
         cases e209
         replace p209:=eq_true p209
         replace q209:=eq_true q209
         have p210:0≤(x13_1:Int):=od
         have q210:x13_1<(l1.length:Int):=od
         obtain⟨ad210,e210,hx210_0⟩:=Kd.at_int HR1.out x13_1 p210 q210
         cases e210
         replace p210:=eq_true p210
         replace q210:=eq_true q210
         go_wp2
         repeat(go_quiet (fail);try go_wp2)
         go_roundg k1
         case measure=>have:=HK1.out;omega
         case rel=>exact⟨(wrap64 (x13_1+1)),fin2,H',⟨by have:=HK1.out;omega⟩,by repeat(first|exact Drawn0.refl _|apply Drawn0.step)⟩
        ·rw[if_neg c8] at H
         have c8b0:((rd l0 x13_1) == (rd l1 x13_1))=false:=beq_eq_false_iff_ne.mpr c8
         have c8b1:((rd l0 x13_1) != (rd l1 x13_1))=true:=bne_iff_ne.mpr c8
         obtain rfl:=Option.some.inj H
         have p209:0≤(x13_1:Int):=od
         have q209:x13_1<(l0.length:Int):=od
         obtain⟨ad209,e209,hx209_0⟩:=Kd.at_int HR0.out x13_1 p209 q209
         cases e209
         replace p209:=eq_true p209
         replace q209:=eq_true q209
         have p210:0≤(x13_1:Int):=od
         have q210:x13_1<(l1.length:Int):=od
         obtain⟨ad210,e210,hx210_0⟩:=Kd.at_int HR1.out x13_1 p210 q210
         cases e210
         replace p210:=eq_true p210
         replace q210:=eq_true q210
         go_wp2
         repeat(go_quiet (fail);try go_wp2)
         go_ret
         exact⟨by first|rfl|(simp;done)|(simp [*];done),by repeat(first|exact Drawn0.refl _|apply Drawn0.step)⟩
       ·rw[if_neg c7] at H
        exact absurd H (by simp)
      ·rw[if_neg c6] at H
       exact absurd H (by simp)
     ·rw[if_neg c5] at H
      exact absurd H (by simp)
    ·rw[if_neg c4] at H
     have c4b0:decide (x13_1<(l0.length:Int))=false:=decide_eq_false c4
     clear c4
     obtain rfl:=Option.some.inj H
     go_wp2
     repeat(go_quiet (fail);try go_wp2)
     go_ret
     exact⟨by first|rfl|(simp;done)|(simp [*];done),by repeat(first|exact Drawn0.refl _|apply Drawn0.step)⟩
 ·rw[if_neg c3] at H
  have c3b0:((l0.length:Int) == (l1.length:Int))=false:=beq_eq_false_iff_ne.mpr c3
  have c3b1:((l0.length:Int) != (l1.length:Int))=true:=bne_iff_ne.mpr c3
  have c3b2:(l0.length == l1.length)=false:=by first|simpa using c3|(simp at c3 ⊢;omega)
  obtain rfl:=Option.some.inj H
  go_enter Try.func29,Try.ntmps29
  go_wp2
  repeat(go_quiet (fail);try go_wp2)
  go_ret
  exact⟨by first|rfl|(simp;done)|(simp [*];done),by repeat(first|exact Drawn0.refl _|apply Drawn0.step)⟩

/-! ### laws_pSamePattern: function 10 -/
def laws_pSamePattern.f (k:Nat) (a0_0:Int) (l0_1:List Int) (a1_0:Int) (l1_1:List Int):Option (Bool):=if a0_0=a1_0 then((laws_sameInts.f k l0_1 l1_1).bind fun t213=>(some t213)) else(some false)
set_option maxHeartbeats 8000000 in
set_option maxRecDepth 100000 in
theorem laws_pSamePattern.calls (k:Nat) (a0_0:Int) (A0_1:Option Addr) (c0_1:Nat) (l0_1:List Int) (a1_0:Int) (A1_1:Option Addr) (c1_1:Nat) (l1_1:List Int) (r:Bool) (w:World) (hr0_1:Kd.C (Kd.int .i64) w A0_1 l0_1.length l0_1) (hc0_1:l0_1.length≤c0_1) (hr1_1:Kd.C (Kd.int .i64) w A1_1 l1_1.length l1_1) (hc1_1:l1_1.length≤c1_1) (h:laws_pSamePattern.f k a0_0 l0_1 a1_0 l1_1=some r) :
  Calls Try.prog 10 #[.agg #[.int .i64 a0_0,.slice A0_1 l0_1.length c0_1],.agg #[.int .i64 a1_0,.slice A1_1 l1_1.length c1_1]] w fun e w'=>e = .returned (.bool r)∧Below w.heap.size w w':=by
 have hu26:=Try.underlying26
 have HR0_1:=am hr0_1
 have HC0_1:=am hc0_1
 clear hr0_1 hc0_1
 have HR1_1:=am hr1_1
 have HC1_1:=am hc1_1
 clear hr1_1 hc1_1
 have HB:=am (Below.refl w.heap.size w)
 have H:(if a0_0=a1_0 then((laws_sameInts.f k l0_1 l1_1).bind fun t213=>(some t213)) else(some false))=some r:=h
 clear h
 by_cases c3:a0_0=a1_0
 ·rw[if_pos c3] at H
  have c3b0:(a0_0 == a1_0)=true:=beq_iff_eq.mpr c3
  have c3b1:(a0_0 != a1_0)=false:=bne_eq_false_iff_eq.mpr c3
  clear c3
  replace H:=Option.bind_eq_some_iff.mp H
  obtain⟨t213,A40,H⟩:=H
  replace H:(some t213)=some r:=H
  have A4:=am A40
  clear A40
  obtain rfl:=Option.some.inj H
  go_enter Try.func10,Try.ntmps10
  go_wp2_with (first|((with_reducible refine gate_dst (N:=2) rfl ?_);refine box_event ?hg (N:=2) ?hd (cs := #[.int .i64 a0_0,.slice A0_1 l0_1.length c0_1]) (t:=26) ?hr ?_;(case hd=>rfl);(case hg=>rfl);(case hr=>first|(go_simp;done)|(go_simp;rfl));intro gb211 hg w5 hbox hb;have n0_:=am (below_step bl hb);have n1_:=am (hbox);have n2_:=am (ge_ bl hg);have n3_:=am (ge_ bl hg);clear HB;have HB:=n0_;have BK211:=n1_;have GW211:=n2_;have GE211:=n3_;clear n0_ n1_ n2_ n3_ hb hbox hg)|((with_reducible refine gate_dst (N:=3) rfl ?_);refine box_event ?hg (N:=3) ?hd (cs := #[.int .i64 a1_0,.slice A1_1 l1_1.length c1_1]) (t:=26) ?hr ?_;(case hd=>rfl);(case hg=>rfl);(case hr=>first|(go_simp;done)|(go_simp;rfl));intro gb212 hg w6 hbox hb;have n0_:=am (blk_below (bup BK211.out) hb);have n1_:=am (below_step bl hb);have n2_:=am (hbox);have n3_:=am (ge_ bl hg);have n4_:=am (ge_ bl hg);have n5_:=am (nl (bup BK211.out) hg);have n6_:=am (ng (bup BK211.out) hg);clear BK211 HB;have BK211:=n0_;have HB:=n1_;have BK212:=n2_;have GW212:=n3_;have GE212:=n4_;have NB211_212:=n5_;have NB212_211:=n6_;clear n0_ n1_ n2_ n3_ n4_ n5_ n6_ hb hbox hg;have hnb7:=NB211_212.out;have hnc7:=NB212_211.out;have hcz8_0:w6.cell? ⟨gb211,0,none⟩=some (.int .i64 a0_0):=(blk_cell BK211.out 0).trans rfl;have hcz8_1:w6.cell? ⟨gb211,1,none⟩=some (.slice A0_1 l0_1.length c0_1):=(blk_cell BK211.out 1).trans rfl;have hfz8_0:=blk_frozen BK211.out 0;have hfz8_1:=blk_frozen BK211.out 1;have hcz9_0:w6.cell? ⟨gb212,0,none⟩=some (.int .i64 a1_0):=(blk_cell BK212.out 0).trans rfl;have hcz9_1:w6.cell? ⟨gb212,1,none⟩=some (.slice A1_1 l1_1.length c1_1):=(blk_cell BK212.out 1).trans rfl;have hfz9_0:=blk_frozen BK212.out 0;have hfz9_1:=blk_frozen BK212.out 1)|(go_at_call 29;(with_reducible refine(laws_sameInts.calls k _ _ l0_1 _ _ l1_1 t213 _ ?side1 ?side2 ?side3 ?side4 A4.out).mono ?_);(case side1=>exact cup (Kd.C_below HR0_1.out HB.out));(case side2=>exact HC0_1.out);(case side3=>exact cup (Kd.C_below HR1_1.out HB.out));(case side4=>exact HC1_1.out);rintro e w' ⟨rfl,⟨nd,rfl⟩⟩))
  go_ret
  exact⟨fin1,bl⟩
 ·rw[if_neg c3] at H
  have c3b0:(a0_0 == a1_0)=false:=beq_eq_false_iff_ne.mpr c3
  have c3b1:(a0_0 != a1_0)=true:=bne_iff_ne.mpr c3
  obtain rfl:=Option.some.inj H
  go_enter Try.func10,Try.ntmps10
  go_wp2_with (first|((with_reducible refine gate_dst (N:=2) rfl ?_);refine box_event ?hg (N:=2) ?hd (cs := #[.int .i64 a0_0,.slice A0_1 l0_1.length c0_1]) (t:=26) ?hr ?_;(case hd=>rfl);(case hg=>rfl);(case hr=>first|(go_simp;done)|(go_simp;rfl));intro gb211 hg w10 hbox hb;have n0_:=am (below_step bl hb);have n1_:=am (hbox);have n2_:=am (ge_ bl hg);have n3_:=am (ge_ bl hg);clear HB;have HB:=n0_;have BK211:=n1_;have GW211:=n2_;have GE211:=n3_;clear n0_ n1_ n2_ n3_ hb hbox hg)|((with_reducible refine gate_dst (N:=3) rfl ?_);refine box_event ?hg (N:=3) ?hd (cs := #[.int .i64 a1_0,.slice A1_1 l1_1.length c1_1]) (t:=26) ?hr ?_;(case hd=>rfl);(case hg=>rfl);(case hr=>first|(go_simp;done)|(go_simp;rfl));intro gb212 hg w11 hbox hb;have n0_:=am (blk_below (bup BK211.out) hb);have n1_:=am (below_step bl hb);have n2_:=am (hbox);have n3_:=am (ge_ bl hg);have n4_:=am (ge_ bl hg);have n5_:=am (nl (bup BK211.out) hg);have n6_:=am (ng (bup BK211.out) hg);clear BK211 HB;have BK211:=n0_;have HB:=n1_;have BK212:=n2_;have GW212:=n3_;have GE212:=n4_;have NB211_212:=n5_;have NB212_211:=n6_;clear n0_ n1_ n2_ n3_ n4_ n5_ n6_ hb hbox hg;have hnb12:=NB211_212.out;have hnc12:=NB212_211.out;have hcz13_0:w11.cell? ⟨gb211,0,none⟩=some (.int .i64 a0_0):=(blk_cell BK211.out 0).trans rfl;have hcz13_1:w11.cell? ⟨gb211,1,none⟩=some (.slice A0_1 l0_1.length c0_1):=(blk_cell BK211.out 1).trans rfl;have hfz13_0:=blk_frozen BK211.out 0;have hfz13_1:=blk_frozen BK211.out 1;have hcz14_0:w11.cell? ⟨gb212,0,none⟩=some (.int .i64 a1_0):=(blk_cell BK212.out 0).trans rfl;have hcz14_1:w11.cell? ⟨gb212,1,none⟩=some (.slice A1_1 l1_1.length c1_1):=(blk_cell BK212.out 1).trans rfl;have hfz14_0:=blk_frozen BK212.out 0;have hfz14_1:=blk_frozen BK212.out 1))
  go_ret
  exact⟨fin1,bl⟩

/-! ### impl_ParsePattern: function 12 -/
mutual
def impl_ParsePattern.j0:Nat→ByteArray→Bool→Option (Int×List Int×Bool)
 | 0,_,_=>none
 | k+1,x0,x13=>if x13=true then(some (0,([]:List Int),false)) else(impl_ParsePattern.l0 k x0 (x0.size:Int) 0 (x0.size:Int) ([]:List Int))
def impl_ParsePattern.l0:Nat→ByteArray→Int→Int→Int→List Int→Option (Int×List Int×Bool)
 | 0,_,_,_,_,_=>none
 | k+1,x0,x19,x20,x216000,x216001=>if x20<x19 then(if 0≤x20 then(if x20<(x0.size:Int) then(if(bt x0 x20)=120 then(if x216001.length<17592186044416 then(impl_ParsePattern.l0 k x0 x19 (wrap64 (x20+1)) x216000 (x216001 ++ [x20])) else(none)) else(if(bt x0 x20)=46 then(impl_ParsePattern.l0 k x0 x19 (wrap64 (x20+1)) x216000 x216001) else(some (0,([]:List Int),false)))) else(none)) else(none)) else(some (x216000,x216001,true))
end
def impl_ParsePattern.f (k:Nat) (a0:ByteArray):Option (Int×List Int×Bool):=if(a0.size:Int)<1 then(impl_ParsePattern.j0 k a0 true) else(impl_ParsePattern.j0 k a0 (decide ((a0.size:Int)>24)))
set_option maxHeartbeats 8000000 in
set_option maxRecDepth 100000 in
theorem impl_ParsePattern.calls (k:Nat) (a0:ByteArray) (r1:Int) (r2:List Int) (r3:Bool) (w:World) (h:impl_ParsePattern.f k a0=some (r1,r2,r3)) :
  Calls Try.prog 12 #[.string a0] w fun e w'=>∃ v1_:Value,e = .returned (.tuple #[.agg #[.int .i64 r1,v1_],.bool r3])∧Kd.R (Kd.int .i64) 3 w' w.heap.size (fun _=>True) v1_ r2∧Below w.heap.size w w':=by
 have hu26:=Try.underlying26
 have HB:=am (Below.refl w.heap.size w)
 have H:(if(a0.size:Int)<1 then(impl_ParsePattern.j0 k a0 true) else(impl_ParsePattern.j0 k a0 (decide ((a0.size:Int)>24))))=some (r1,r2,r3):=h
 clear h
 have HC2:=am H
 clear H
 go_enter Try.func12,Try.ntmps12
 go_upto_region 1 with(first|((with_reducible refine gate_dst (N:=2) rfl ?_);(try(refine gate_guard (by rfl) ?_;dsimp only));refine box_event ?hg (N:=2) ?hd (cs := #[.int .i64 0,.slice none 0 0]) (t:=26) ?hr ?_;(case hd=>rfl);(case hg=>rfl);(case hr=>first|(go_simp;done)|(go_simp;rfl));intro gb214 hg w3 hbox hb;have n0_:=am (below_step bl hb);have n1_:=am (hbox);have n2_:=am (ge_ bl hg);have n3_:=am (ge_ bl hg);clear HB;have HB:=n0_;have BK214:=n1_;have GW214:=n2_;have GE214:=n3_;clear n0_ n1_ n2_ n3_ hb hbox hg))
 (try simp only[Act.put,List.setIfInBounds_toArray,List.set_cons_zero,List.set_cons_succ])
 go_cut [13] (fun v13 wc=>∃(kq:Nat) (x13_1:Bool),v13 = .bool x13_1∧Aside0 (impl_ParsePattern.j0 kq a0 x13_1=some (r1,r2,r3))∧Aside0 (kq≤k)∧Aside0 (wc.heap[gb214]?=some (.cells #[.int .i64 0,(.slice none 0 0)] 26 (0,0)))∧Aside0 (Below w.heap.size w wc))
 case first =>
  have H:=HC2.out
  clear HC2
  by_cases c4:(a0.size:Int)<1
  ·rw[if_pos c4] at H
   have c4b0:decide ((a0.size:Int)<1)=true:=decide_eq_true c4
   have c4b1:decide (a0.size<1)=true:=decide_eq_true (by omega)
   clear c4
   (first|rw[c4b0]|(simp only[i64_w,i32_w];rw[c4b0])|skip)
   have H':=am H
   clear H
   go_wp2
   go_meet
   case rel=>exact⟨_,(true),fin2,H',⟨by first|omega|exact Nat.le_refl _⟩,⟨bup BK214.out⟩,⟨bl⟩⟩
  ·rw[if_neg c4] at H
   have c4b0:decide ((a0.size:Int)<1)=false:=decide_eq_false c4
   have c4b1:decide (a0.size<1)=false:=decide_eq_false (by omega)
   clear c4
   (first|rw[c4b0]|(simp only[i64_w,i32_w];rw[c4b0])|skip)
   have H':=am H
   clear H
   go_wp2
   go_meet
   case rel=>exact⟨_,(decide ((a0.size:Int)>24)),fin2,H',⟨by first|omega|exact Nat.le_refl _⟩,⟨bup BK214.out⟩,⟨bl⟩⟩
 case rest =>
  clear HC2
  try clear c1
  try clear p2
  try clear c4
  try clear c4b0
  try clear c4b1
  obtain⟨kq,x13_1,rfl,HA,HJ1,BK214,HB⟩:=hcut
  cases kq with
  | zero=>exact absurd HA.out (by simp [impl_ParsePattern.j0])
  | succ kj1 =>
   have H:=HA.out
   clear HA
   simp only[impl_ParsePattern.j0] at H
   by_cases c5:x13_1=true
   ·subst c5
    have H1:(some (0,([]:List Int),false))=some (r1,r2,r3):=by rw[if_pos rfl] at H;exact H
    clear H
    have H:=H1
    clear H1
    simp only[Option.some.injEq,Prod.mk.injEq] at H
    obtain⟨rfl,rfl,rfl⟩:=H
    have hcz6_0:wc.cell? ⟨gb214,0,none⟩=some (.int .i64 0):=(blk_cell BK214.out 0).trans rfl
    have hcz6_1:wc.cell? ⟨gb214,1,none⟩=some (.slice none 0 0):=(blk_cell BK214.out 1).trans rfl
    have hfz6_0:=blk_frozen BK214.out 0
    have hfz6_1:=blk_frozen BK214.out 1
    go_wp2
    refine bodyPost_ret (results_ct rfl _ _ gb214 26 #[.int .i64 0,.slice none 0 0] (0,0) _ rfl (by(with_reducible repeat(first|refine bN_ ?_ _|refine bD_ ?_|refine bA_ ?_ _));refine blk_put (cs := #[.int .i64 0,.slice none 0 0]) ?_ 1 _ rfl;(with_reducible repeat(first|refine bN_ ?_ _|refine bD_ ?_|refine bA_ ?_ _));refine blk_put (cs := #[.int .i64 0,.slice none 0 0]) ?_ 0 _ rfl;exact bup BK214.out) Try.underlying26 rfl (by kernel_rfl)) rfl ?_
    exact⟨_,fin1,by first|exact Kd.R_nil _ _ _ _ _|exact Kd.N_nil _ _ _ _ _|exact Kd.V_nil _ _ _ _ _|exact Kd.Q_nil _ _ _ _ _|exact Kd.S_nil _ _ _ _ _,bl⟩
   ·replace c5:=Bool.eq_false_iff.mpr c5
    subst c5
    have H1:(impl_ParsePattern.l0 kj1 a0 (a0.size:Int) 0 (a0.size:Int) ([]:List Int))=some (r1,r2,r3):=by rw[if_neg (show ¬ (false=true) by decide)] at H;exact H
    clear H
    have H:=H1
    clear H1
    have H':=am H
    clear H
    go_wp2_with (first|((with_reducible refine gate_dst (N:=4) rfl ?_);(try(refine gate_guard (by rfl) ?_;dsimp only));refine box_event ?hg (N:=4) ?hd (cs := #[.int .i64 0,.slice none 0 0]) (t:=26) ?hr ?_;(case hd=>rfl);(case hg=>rfl);(case hr=>first|(go_simp;done)|(go_simp;rfl));intro gb215 hg w7 hbox hb;have n0_:=am (blk_below (bup BK214.out) hb);have n1_:=am (below_step bl hb);have n2_:=am (hbox);have n3_:=am (ge_ bl hg);have n4_:=am (ge_ bl hg);have n5_:=am (nl (bup BK214.out) hg);have n6_:=am (ng (bup BK214.out) hg);clear BK214 HB;have BK214:=n0_;have HB:=n1_;have BK215:=n2_;have GW215:=n3_;have GE215:=n4_;have NB214_215:=n5_;have NB215_214:=n6_;clear n0_ n1_ n2_ n3_ n4_ n5_ n6_ hb hbox hg;have hnb8:=NB215_214.out;have hnc8:=NB214_215.out;have hcz9_0:w7.cell? ⟨gb215,0,none⟩=some (.int .i64 0):=(blk_cell BK215.out 0).trans rfl;have hcz9_1:w7.cell? ⟨gb215,1,none⟩=some (.slice none 0 0):=(blk_cell BK215.out 1).trans rfl;have hfz9_0:=blk_frozen BK215.out 0;have hfz9_1:=blk_frozen BK215.out 1))
    go_loopg [20] kj1 (fun kq v20 w'=>∃(x20_2:Int) (x215000_2:Int) (x216001_2:List Int) (u216001:Value),v20 = .int .i64 x20_2∧Aside0 (impl_ParsePattern.l0 kq a0 (a0.size:Int) x20_2 (a0.size:Int) x216001_2=some (r1,r2,r3))∧Aside0 (kq≤kj1)∧Aside0 (Kd.R (Kd.int .i64) 3 w' w.heap.size (fun _=>True) u216001 x216001_2)∧Aside0 (w'.heap[gb214]?=some (.cells #[.int .i64 x215000_2,(.slice none 0 0)] 26 (0,0)))∧Aside0 (w'.heap[gb215]?=some (.cells #[.int .i64 (a0.size:Int),u216001] 26 (0,0)))∧Aside0 (Below w.heap.size w w'))
    case atStart=>exact⟨(0),(0),(([]:List Int)),(.slice none 0 0),fin2,H',⟨Nat.le_refl _⟩,⟨by first|exact Kd.R_nil _ _ _ _ _|exact Kd.N_nil _ _ _ _ _|exact Kd.V_nil _ _ _ _ _|exact Kd.Q_nil _ _ _ _ _|exact Kd.S_nil _ _ _ _ _⟩,⟨by(with_reducible repeat(first|refine bN_ ?_ _|refine bD_ ?_|refine bA_ ?_ _));refine blk_far ?_ NB214_215.out _;(with_reducible repeat(first|refine bN_ ?_ _|refine bD_ ?_|refine bA_ ?_ _));refine blk_far ?_ NB214_215.out _;exact bup BK214.out⟩,⟨by(with_reducible repeat(first|refine bN_ ?_ _|refine bD_ ?_|refine bA_ ?_ _));refine blk_put (cs := #[.int .i64 (a0.size:Int),.slice none 0 0]) ?_ 1 _ rfl;(with_reducible repeat(first|refine bN_ ?_ _|refine bD_ ?_|refine bA_ ?_ _));refine blk_put (cs := #[.int .i64 0,.slice none 0 0]) ?_ 0 _ rfl;exact bup BK215.out⟩,⟨bl⟩⟩
    case round =>
     clear H'
     try clear c1
     try clear p2
     try clear c4
     try clear c4b0
     try clear c4b1
     try clear c5
     try clear c8
     try clear hcz6_0
     try clear hcz6_1
     try clear hcz9_0
     try clear hcz9_1
     try clear hfz6_0
     try clear hfz6_1
     try clear hfz9_0
     try clear hfz9_1
     try clear p2
     obtain⟨x20_2,x215000_2,x216001_2,u216001,rfl,HA,HK2,HO_216001,BK214,BK215,HB⟩:=hrel
     cases gk with
     | zero=>exact absurd HA.out (by simp [impl_ParsePattern.l0])
     | succ k2 =>
      have H:=HA.out
      clear HA
      simp only[impl_ParsePattern.l0] at H
      by_cases c10:x20_2<(a0.size:Int)
      ·rw[if_pos c10] at H
       have c10b0:decide (x20_2<(a0.size:Int))=true:=decide_eq_true c10
       clear c10
       by_cases c11:0≤x20_2
       ·rw[if_pos c11] at H
        have c11b0:decide (0≤x20_2)=true:=decide_eq_true c11
        clear c11
        by_cases c12:x20_2<(a0.size:Int)
        ·rw[if_pos c12] at H
         have c12b0:decide (x20_2<(a0.size:Int))=true:=decide_eq_true c12
         clear c12
         by_cases c14:(bt a0 x20_2)=120
         ·rw[if_pos c14] at H
          have c14b0:((bt a0 x20_2) == 120)=true:=beq_iff_eq.mpr c14
          have c14b1:((bt a0 x20_2) != 120)=false:=bne_eq_false_iff_eq.mpr c14
          clear c14
          by_cases c15:x216001_2.length<17592186044416
          ·rw[if_pos c15] at H
           have LMc15:=am c15
           clear c15
           obtain⟨y216,hy216⟩:∃ y_:List Int,y_=(x216001_2 ++ [x20_2]):=⟨_,rfl⟩
           replace H:(impl_ParsePattern.l0 k2 a0 (a0.size:Int) (wrap64 (x20_2+1)) (a0.size:Int) y216)=some (r1,r2,r3):=by first|(rw[hy216];with_reducible exact H)|(have H2_:=(Option.bind_some _ _).symm.trans H;rw[hy216];with_reducible exact H2_)|(have H2_:=(Option.bind_some _ _).symm.trans H;with_reducible exact H2_)|with_reducible exact H|(rw[hy216];exact H)|exact H
           have Ny216:=am hy216
           clear hy216
           have H':=am H
           clear H
           have p13:0≤(x20_2:Int):=od
           have q13:x20_2<(a0.size:Int):=od
           have hx13:=bt_at a0 x20_2
           replace p13:=eq_true p13
           replace q13:=eq_true q13
           have hnb16:=NB215_214.out
           have hnc16:=NB214_215.out
           have hcz17_0:wr.cell? ⟨gb215,0,none⟩=some (.int .i64 (a0.size:Int)):=(blk_cell BK215.out 0).trans rfl
           have hcz17_1:wr.cell? ⟨gb215,1,none⟩=some (u216001):=(blk_cell BK215.out 1).trans rfl
           have hfz17_0:=blk_frozen BK215.out 0
           have hfz17_1:=blk_frozen BK215.out 1
           go_wp2_with (first|((with_reducible refine gate_builtin (b := .append) (xs := #[.tmp 30,.tmp 32]) rfl ?_);(try(refine gate_guard (by rfl) ?_;dsimp only));at_builtin;refine Kd.R_append (Kd.int .i64) (w0:=w) w.heap.size rfl (.tmp 30) (.tmp 32) 24 3 (.int .i64 0) 8 rfl Try.underlying24 info3 rfl (by decide) (by omega) u216001 x216001_2 x20_2 [.int .i64 x20_2] (fun _=>True) (fun _=>False) rfl rfl ?aP (fun _ hk=>hk.elim) ?aF ?aO ?aB ?aS ?aL ?_;(case aP=>exact rfl);(case aB=>exact bl);(case aF=>exact(fun _ _=>trivial));(case aO=>exact(rup HO_216001.out));(case aS=>exact(below_size bl));(case aL=>have:=LMc15.out;omega);intro v217 w18 ho hb hg hat;rw[← Ny216.out] at ho;have n0_:=am (blk_grown (bup BK214.out) hg (Kd.R_ne HO_216001.out BK214.out (by decide)));have n1_:=am (blk_grown (bup BK215.out) hg (Kd.R_ne HO_216001.out BK215.out (by decide)));have n2_:=am (hb);have n3_:=am (ho);clear BK214 BK215 HB HO_216001;have BK214:=n0_;have BK215:=n1_;have HB:=n2_;have HO218:=n3_;clear n0_ n1_ n2_ n3_ ho hb hg hat;obtain⟨Ao19,co19,eo19⟩:=Kd.R_slice HO218.out;subst eo19;have hcz20_0:w18.cell? ⟨gb215,0,none⟩=some (.int .i64 (a0.size:Int)):=(blk_cell BK215.out 0).trans rfl;have hcz20_1:w18.cell? ⟨gb215,1,none⟩=some (u216001):=(blk_cell BK215.out 1).trans rfl;have hfz20_0:=blk_frozen BK215.out 0;have hfz20_1:=blk_frozen BK215.out 1))
           go_roundg k2
           case measure=>have:=HJ1.out;have:=HK2.out;omega
           case rel=>exact⟨(wrap64 (x20_2+1)),(x215000_2),(y216),(.slice Ao19 y216.length co19),fin2,H',⟨by have:=HJ1.out;have:=HK2.out;omega⟩,⟨rup (Kd.R_mono (Kd.R_far (p:=⟨gb215,1,none⟩) (Kd.R_types HO218.out BK215.out (by decide)) (fun _ hk=>hk.2) (.slice Ao19 y216.length co19)) (fun _ hk=>trivial))⟩,⟨by(with_reducible repeat(first|refine bN_ ?_ _|refine bD_ ?_|refine bA_ ?_ _));refine blk_far ?_ NB214_215.out _;exact bup BK214.out⟩,⟨by(with_reducible repeat(first|refine bN_ ?_ _|refine bD_ ?_|refine bA_ ?_ _));refine blk_put (cs := #[.int .i64 (a0.size:Int),u216001]) ?_ 1 _ rfl;exact bup BK215.out⟩,⟨bl⟩⟩
          ·rw[if_neg c15] at H
           exact absurd H (by simp)
         ·rw[if_neg c14] at H
          have c14b0:((bt a0 x20_2) == 120)=false:=beq_eq_false_iff_ne.mpr c14
          have c14b1:((bt a0 x20_2) != 120)=true:=bne_iff_ne.mpr c14
          by_cases c21:(bt a0 x20_2)=46
          ·rw[if_pos c21] at H
           have c21b0:((bt a0 x20_2) == 46)=true:=beq_iff_eq.mpr c21
           have c21b1:((bt a0 x20_2) != 46)=false:=bne_eq_false_iff_eq.mpr c21
           clear c21
           have H':=am H
           clear H
           have p13:0≤(x20_2:Int):=od
           have q13:x20_2<(a0.size:Int):=od
           have hx13:=bt_at a0 x20_2
           replace p13:=eq_true p13
           replace q13:=eq_true q13
           go_wp2
           go_roundg k2
           case measure=>have:=HJ1.out;have:=HK2.out;omega
           case rel=>exact⟨(wrap64 (x20_2+1)),(x215000_2),(x216001_2),(u216001),fin2,H',⟨by have:=HJ1.out;have:=HK2.out;omega⟩,⟨rup HO_216001.out⟩,⟨bup BK214.out⟩,⟨bup BK215.out⟩,⟨bl⟩⟩
          ·rw[if_neg c21] at H
           have c21b0:((bt a0 x20_2) == 46)=false:=beq_eq_false_iff_ne.mpr c21
           have c21b1:((bt a0 x20_2) != 46)=true:=bne_iff_ne.mpr c21
           simp only[Option.some.injEq,Prod.mk.injEq] at H
           obtain⟨rfl,rfl,rfl⟩:=H
           have p13:0≤(x20_2:Int):=od
           have q13:x20_2<(a0.size:Int):=od
           have hx13:=bt_at a0 x20_2
           replace p13:=eq_true p13
           replace q13:=eq_true q13
           have hnb22:=NB214_215.out
           have hnc22:=NB215_214.out
           have hcz23_0:wr.cell? ⟨gb214,0,none⟩=some (.int .i64 x215000_2):=(blk_cell BK214.out 0).trans rfl
           have hcz23_1:wr.cell? ⟨gb214,1,none⟩=some (.slice none 0 0):=(blk_cell BK214.out 1).trans rfl
           have hfz23_0:=blk_frozen BK214.out 0
           have hfz23_1:=blk_frozen BK214.out 1
           go_wp2
           refine bodyPost_ret (results_ct rfl _ _ gb214 26 #[.int .i64 0,.slice none 0 0] (0,0) _ rfl (by(with_reducible repeat(first|refine bN_ ?_ _|refine bD_ ?_|refine bA_ ?_ _));refine blk_put (cs := #[.int .i64 0,.slice none 0 0]) ?_ 1 _ rfl;(with_reducible repeat(first|refine bN_ ?_ _|refine bD_ ?_|refine bA_ ?_ _));refine blk_put (cs := #[.int .i64 x215000_2,.slice none 0 0]) ?_ 0 _ rfl;exact bup BK214.out) Try.underlying26 rfl (by kernel_rfl)) rfl ?_
           exact⟨_,fin1,by first|exact Kd.R_nil _ _ _ _ _|exact Kd.N_nil _ _ _ _ _|exact Kd.V_nil _ _ _ _ _|exact Kd.Q_nil _ _ _ _ _|exact Kd.S_nil _ _ _ _ _,bl⟩
        ·rw[if_neg c12] at H
         exact absurd H (by simp)
       ·rw[if_neg c11] at H
        exact absurd H (by simp)
      ·rw[if_neg c10] at H
       have c10b0:decide (x20_2<(a0.size:Int))=false:=decide_eq_false c10
       clear c10
       simp only[Option.some.injEq,Prod.mk.injEq] at H
       obtain⟨rfl,rfl,rfl⟩:=H
       have hnb24:=NB215_214.out
       have hnc24:=NB214_215.out
       have hcz25_0:wr.cell? ⟨gb215,0,none⟩=some (.int .i64 (a0.size:Int)):=(blk_cell BK215.out 0).trans rfl
       have hcz25_1:wr.cell? ⟨gb215,1,none⟩=some (u216001):=(blk_cell BK215.out 1).trans rfl
       have hfz25_0:=blk_frozen BK215.out 0
       have hfz25_1:=blk_frozen BK215.out 1
       have hcz26_0:wr.cell? ⟨gb214,0,none⟩=some (.int .i64 x215000_2):=(blk_cell BK214.out 0).trans rfl
       have hcz26_1:wr.cell? ⟨gb214,1,none⟩=some (.slice none 0 0):=(blk_cell BK214.out 1).trans rfl
       have hfz26_0:=blk_frozen BK214.out 0
       have hfz26_1:=blk_frozen BK214.out 1
       obtain⟨Ao27,co27,eo27⟩:=Kd.R_slice HO_216001.out
       subst eo27
       go_wp2
       refine bodyPost_ret (results_ct rfl _ _ gb214 26 #[.int .i64 (a0.size:Int),.slice Ao27 x216001_2.length co27] (0,0) _ rfl (by(with_reducible repeat(first|refine bN_ ?_ _|refine bD_ ?_|refine bA_ ?_ _));refine blk_put (cs := #[.int .i64 (a0.size:Int),.slice none 0 0]) ?_ 1 _ rfl;(with_reducible repeat(first|refine bN_ ?_ _|refine bD_ ?_|refine bA_ ?_ _));refine blk_put (cs := #[.int .i64 x215000_2,.slice none 0 0]) ?_ 0 _ rfl;exact bup BK214.out) Try.underlying26 rfl (by kernel_rfl)) rfl ?_
       exact⟨_,fin1,rup (Kd.R_mono (Kd.R_far (p:=⟨gb214,1,none⟩) (Kd.R_far (p:=⟨gb214,0,none⟩) (Kd.R_types HO_216001.out BK214.out (by decide)) (fun _ hk=>hk.2) (.int .i64 (a0.size:Int))) (fun _ hk=>hk.2) (.slice Ao27 x216001_2.length co27)) (fun _ hk=>trivial)),bl⟩

end Go.Proofs.Ytlhjjpdlfddflab.PFnPatterns
