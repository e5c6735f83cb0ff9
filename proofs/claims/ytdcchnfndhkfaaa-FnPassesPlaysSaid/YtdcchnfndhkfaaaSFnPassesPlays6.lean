/- Walks of functions that FnPassesPlays reaches. No conditions beyond the arguments' being read. -/
import Derived.Test.YtdcchnfndhkfaaaSFnPassesPlays0
import Derived.Test.YtdcchnfndhkfaaaSFnPassesPlays1
import Derived.Test.YtdcchnfndhkfaaaSFnPassesPlays5
namespace Go.Proofs.Ytdcchnfndhkfaaa.PFnPassesPlays
open Go.RowKit Go.Proofs.YtdcchnfndhkfaaaW.PrintWords Go.Proofs.YtdcchnfndhkfaaaW.PrintLast Go.Proofs.YtdcchnfndhkfaaaW.PrintMore
attribute [local go_sem] max2_int min2_int max_two min_two max_three min_three max_four min_four
set_option linter.unusedVariables false
set_option linter.unusedSimpArgs false

mutual
def impl_matched.l0:Nat→List (S60)→List Bool→List Int→List (S35)→Int→Int→List Int→Int→Option (List Int×List Int)
 | 0,_,_,_,_,_,_,_,_=>none
 | k+1,x2,x8,x9,x22,x23,x24,x143000,x143001=>if x24<x23 then(if 0≤x24 then(if x24<(x22.length:Int) then((slices_Index_int_int.f k x143000 ((rd_T35 x22 x24).f0)).bind fun t151=>(impl_matched.l1 k x2 x8 x9 t151 (-1) x22 x23 x24 x2 (x2.length:Int) 0 x143000 x143001)) else(none)) else(none)) else(impl_matched.l2 k x8 x9 (([]:List Int)) (x2.length:Int) 0)
def impl_matched.l1:Nat→List (S60)→List Bool→List Int→Int→Int→List (S35)→Int→Int→List (S60)→Int→Int→List Int→Int→Option (List Int×List Int)
 | 0,_,_,_,_,_,_,_,_,_,_,_,_,_=>none
 | k+1,x2,x8,x9,x12,x13,x22,x23,x24,x33,x34,x35,x143000,x143001=>if x35<x34 then(if 0≤x35 then(if x35<(x33.length:Int) then(if x12≥0 then(if((rd_T60 x33 x35).f0)=x12 then(if x35<(x8.length:Int) then(if rdOf false x8 x35=true then(impl_matched.l1 k x2 x8 x9 x12 x13 x22 x23 x24 x33 x34 (wrap64 (x35+1)) x143000 x143001) else(if x9.length<17592186044416 then(impl_matched.l0 k x2 (x8.set (x35:Int).toNat true) (x9 ++ [x35]) x22 x23 (wrap64 (x24+1)) x143000 x143001) else(none))) else(none)) else(impl_matched.l1 k x2 x8 x9 x12 x13 x22 x23 x24 x33 x34 (wrap64 (x35+1)) x143000 x143001)) else(impl_matched.l1 k x2 x8 x9 x12 x13 x22 x23 x24 x33 x34 (wrap64 (x35+1)) x143000 x143001)) else(none)) else(none)) else(if x9.length<17592186044416 then(impl_matched.l0 k x2 x8 (x9 ++ [x13]) x22 x23 (wrap64 (x24+1)) x143000 x143001) else(none))
def impl_matched.l2:Nat→List Bool→List Int→List Int→Int→Int→Option (List Int×List Int)
 | 0,_,_,_,_,_=>none
 | k+1,x8,x9,x16,x67,x68=>if x68<x67 then(if 0≤x68 then(if x68<(x8.length:Int) then(if rdOf false x8 x68=true then(impl_matched.l2 k x8 x9 x16 x67 (wrap64 (x68+1))) else(if x16.length<17592186044416 then(impl_matched.l2 k x8 x9 (x16 ++ [x68]) x67 (wrap64 (x68+1))) else(none))) else(none)) else(none)) else(some (x9,x16))
end
def impl_matched.f (k:Nat) (l0_0:List Int) (a0_1:Int) (l1:List (S35)) (l2:List (S60)):Option (List Int×List Int):=if 0≤(l2.length:Int) then(if((l2.length:Int):Int).toNat≤281474976710656 then(impl_matched.l0 k l2 (List.replicate ((l2.length:Int):Int).toNat false) (([]:List Int)) l1 (l1.length:Int) 0 l0_0 a0_1) else(none)) else(none)
set_option maxHeartbeats 8000000 in
set_option maxRecDepth 100000 in
theorem impl_matched.calls (k:Nat) (A0_0:Option Addr) (c0_0:Nat) (l0_0:List Int) (a0_1:Int) (A1:Option Addr) (c1:Nat) (l1:List (S35)) (A2:Option Addr) (c2:Nat) (l2:List (S60)) (r1:List Int) (r2:List Int) (w:World) (hr0_0:Kd.C (Kd.int .i64) w A0_0 l0_0.length l0_0) (hc0_0:l0_0.length≤c0_0) (hr1:Kd.C k35 w A1 l1.length l1) (hc1:l1.length≤c1) (hr2:Kd.C k60 w A2 l2.length l2) (hc2:l2.length≤c2) (h:impl_matched.f k l0_0 a0_1 l1 l2=some (r1,r2)) :
  Calls Try.prog 28 #[.agg #[.slice A0_0 l0_0.length c0_0,.int .i64 a0_1],.slice A1 l1.length c1,.slice A2 l2.length c2] w fun e w'=>∃ v0_ v1_:Value,e = .returned (.tuple #[v0_,v1_])∧Kd.R (Kd.int .i64) 3 w' w.heap.size (fun k_=>some k_≠(v1_:Value).ownBlock) v0_ r1∧Kd.R (Kd.int .i64) 3 w' w.heap.size (fun k_=>some k_≠(v0_:Value).ownBlock) v1_ r2∧Below w.heap.size w w':=by
 have hu24:=Try.underlying24
 have hu35:=Try.underlying35
 have hu60:=Try.underlying60
 have HR0_0:=am hr0_0
 have HC0_0:=am hc0_0
 clear hr0_0 hc0_0
 have HR1:=am hr1
 have HC1:=am hc1
 clear hr1 hc1
 have HR2:=am hr2
 have HC2:=am hc2
 clear hr2 hc2
 have HB:=am (Below.refl w.heap.size w)
 have H:(if 0≤(l2.length:Int) then(if((l2.length:Int):Int).toNat≤281474976710656 then(impl_matched.l0 k l2 (List.replicate ((l2.length:Int):Int).toNat false) (([]:List Int)) l1 (l1.length:Int) 0 l0_0 a0_1) else(none)) else(none))=some (r1,r2):=h
 clear h
 obtain⟨c4,H⟩:=ifp H
 have c4b0:=eq_true c4
 have c4b1:decide (0≤(l2.length:Int))=true:=decide_eq_true c4
 clear c4
 obtain⟨c5,H⟩:=ifp H
 have c5b0:=eq_true c5
 have c5b1:decide (((l2.length:Int):Int).toNat≤281474976710656)=true:=decide_eq_true c5
 clear c5
 obtain⟨y143,hy143⟩:∃ y_:List Bool,y_=(List.replicate ((l2.length:Int):Int).toNat false):=⟨_,rfl⟩
 replace H:(impl_matched.l0 k l2 y143 (([]:List Int)) l1 (l1.length:Int) 0 l0_0 a0_1)=some (r1,r2):=by subst hy143;exact H
 have Ny143:=am hy143
 clear hy143
 obtain⟨y146,hy146⟩:∃ y_:List Int,y_=(([]:List Int)):=⟨_,rfl⟩
 replace H:(impl_matched.l0 k l2 y143 y146 l1 (l1.length:Int) 0 l0_0 a0_1)=some (r1,r2):=by subst hy146;exact H
 have Ny146:=am hy146
 clear hy146
 have H':=am H
 clear H
 go_enter Try.func28,Try.ntmps28
 go_wp2_with (first|((with_reducible refine gate_dst (N:=3) rfl ?_);refine box_event ?hg (N:=3) ?hd (cs := #[.slice A0_0 l0_0.length c0_0,.int .i64 a0_1]) (t:=24) ?hr ?_;(case hd=>rfl);(case hg=>rfl);(case hr=>first|(go_simp;done)|(go_simp;rfl));intro gb142 hg w6 hbox hb;have BK142:=am (hbox);have GW142:=am (ge_ bl hg);have GE142:=am (ge_ bl hg);replace HB:=am (below_step bl hb);clear hb hbox hg)|((with_reducible refine gate_dst (N:=20) rfl ?_);refine Kd.R_make Kd.bool _ 4 rfl (N:=20) rfl 49 _ _ rfl (l2.length:Int) rfl rfl Try.underlying49 (.bool false) 1 info4 rfl (by decide) (by omega) false (ok:=fun _=>True) (okp:=fun _=>True) rfl (fun _ hk=>hk) trivial (od) (Nat.le_trans (Nat.mul_le_mul_right _ (od:(l2.length:Int).toNat≤281474976710656)) (by omega)) (Below.refl _ _) (Nat.le_refl _) ?_;intro v144 w7 ho8 hb hg_ hnew_;clear hg_ hnew_;(first|rw[← Ny143.out] at ho8|(simp only[Int.reduceToNat] at ho8;rw[← Ny143.out] at ho8));have HO145:=am (Kd.R_lower ho8 (below_size bl));replace BK142:=am (blk_below (bup BK142.out) hb);replace HB:=am (below_step bl hb);clear hb ho8)|((with_reducible refine gate_dst (N:=21) rfl ?_);refine Kd.R_lit (Kd.int .i64) _ 3 ?hg (N:=21) ?hd (xs:=([]:List Int)) (inner:=[]) (ok:=fun _=>True) (okp:=fun _=>True) ?hr ?hp (fun _ hk=>hk) trivial (Below.refl _ _) (Nat.le_refl _) (by simp) ?_;(case hd=>rfl);(case hg=>rfl);(case hr=>first|(go_simp;done)|(go_simp;rfl));(case hp=>exact(Reps.none _ _));intro v147 w9 ho10 hb hg_ hnew_;clear hg_ hnew_;(first|rw[← Ny146.out] at ho10|(simp only[Int.reduceToNat] at ho10;rw[← Ny146.out] at ho10));replace HO145:=am (Kd.R_below (rup HO145.out) hb);have HO148:=am (Kd.R_lower ho10 (below_size bl));replace BK142:=am (blk_below (bup BK142.out) hb);replace HB:=am (below_step bl hb);clear hb ho10))
 go_loopg [9,24] k (fun kq v9 v24 w'=>∃(x8_1:List Bool) (x9_1:List Int) (x24_1:Int),v24 = .int .i64 x24_1∧Aside0 (impl_matched.l0 kq l2 x8_1 x9_1 l1 (l1.length:Int) x24_1 l0_0 a0_1=some (r1,r2))∧Aside0 (kq≤k)∧Aside0 (Kd.R Kd.bool 4 w' w.heap.size (fun _=>True) v144 x8_1)∧Aside0 (Kd.R (Kd.int .i64) 3 w' w.heap.size (fun _=>True) v9 x9_1)∧Aside0 (w'.heap[gb142]?=some (.cells #[(.slice A0_0 l0_0.length c0_0),.int .i64 a0_1] 24 (0,0)))∧Aside0 (Below w.heap.size w w'))
 case atStart=>exact⟨(y143),(y146),(0),fin2,H',⟨Nat.le_refl _⟩,⟨rup HO145.out⟩,⟨rup HO148.out⟩,⟨bup BK142.out⟩,⟨bl⟩⟩
 case round =>
  clear H'
  try clear c4b0
  try clear c4b1
  try clear c5b0
  try clear c5b1
  obtain⟨x8_1,x9_1,x24_1,rfl,HA,HK1,HO_8,HO_9,BK142,HB⟩:=hrel
  cases gk with
  | zero=>exact absurd HA.out (by simp [impl_matched.l0])
  | succ k1 =>
   have H:=HA.out
   clear HA
   simp only[impl_matched.l0] at H
   rcases itc H with⟨c11,H⟩|⟨c11,H⟩
   ·have c11b0:=decide_eq_true c11
    clear c11
    obtain⟨c12b0,H⟩:=ifb H
    obtain⟨c13b0,H⟩:=ifb H
    replace H:=Option.bind_eq_some_iff.mp H
    obtain⟨t151,A140,H⟩:=H
    replace H:(impl_matched.l1 k1 l2 x8_1 x9_1 t151 (-1) l1 (l1.length:Int) x24_1 l2 (l2.length:Int) 0 l0_0 a0_1)=some (r1,r2):=H
    have A14:=am A140
    clear A140
    have H':=am H
    clear H
    have p149:0≤(x24_1:Int):=od
    have q149:x24_1<(l1.length:Int):=od
    obtain⟨ad149,e149,hx149_0,hx149_1,hx149_2⟩:=at_T35 HR1.out x24_1 p149 q149
    cases e149
    replace hx149_0:=(HB.out.cell (World.block_lt_of_cell? w _ hx149_0)).trans hx149_0
    replace hx149_1:=(HB.out.cell (World.block_lt_of_cell? w _ hx149_1)).trans hx149_1
    replace hx149_2:=(HB.out.cell (World.block_lt_of_cell? w _ hx149_2)).trans hx149_2
    replace p149:=eq_true p149
    replace q149:=eq_true q149
    go_wp2_with (first|((with_reducible refine gate_dst (N:=11) rfl ?_);refine box_event ?hg (N:=11) ?hd (cs := #[.int .i64 0,.int .i64 0,.int .i64 0]) (t:=35) ?hr ?_;(case hd=>rfl);(case hg=>rfl);(case hr=>first|(go_simp;done)|(go_simp;rfl));intro gb150 hg w15 hbox hb;replace HO_8:=am (Kd.R_below (rup HO_8.out) hb);replace HO_9:=am (Kd.R_below (rup HO_9.out) hb);have BK150:=am (hbox);have GW150:=am (ge_ bl hg);have GE150:=am (ge_ bl hg);replace HB:=am (below_step bl hb);have NB142_150:=am (nl (bup BK142.out) hg);have NB150_142:=am (ng (bup BK142.out) hg);replace BK142:=am (blk_below (bup BK142.out) hb);clear hb hbox hg;have hnb16:=NB150_142.out;have hnc16:=NB142_150.out;have hcz17_0:=bc BK150.out 0;have hcz17_1:=bc BK150.out 1;have hcz17_2:=bc BK150.out 2;have hfz17_0:=blk_frozen BK150.out 0;have hfz17_1:=blk_frozen BK150.out 1;have hfz17_2:=blk_frozen BK150.out 2;have hcz18_0:=bc BK142.out 0;have hcz18_1:=bc BK142.out 1;have hfz18_0:=blk_frozen BK142.out 0;have hfz18_1:=blk_frozen BK142.out 1)|((with_reducible refine gate_callee (f:=44) rfl ?_);refine goesL_ (some 32) rfl rfl Try.func44 (by kernel_rfl) rfl #[.slice A0_0 l0_0.length c0_0,.int .i64 ((rd_T35 l1 x24_1).f0)] rfl tl ?_;(with_reducible refine(slices_Index_int_int.calls k1 _ _ l0_0 ((rd_T35 l1 x24_1).f0) t151 _ ?side1 ?side2 A14.out).mono ?_);(case side1=>exact Kd.C_below HR0_0.out bl);(case side2=>exact HC0_0.out);rintro e w' ⟨rfl,⟨nd,rfl⟩⟩;refine⟨_,rfl,?_⟩))
    go_loopg [13,35] k1 (fun kq v13 v35 w'=>∃(x8_2:List Bool) (x13_2:Int) (x35_2:Int),v13 = .int .i64 x13_2∧v35 = .int .i64 x35_2∧Aside0 (impl_matched.l1 kq l2 x8_2 x9_1 t151 x13_2 l1 (l1.length:Int) x24_1 l2 (l2.length:Int) x35_2 l0_0 a0_1=some (r1,r2))∧Aside0 (kq≤k1)∧Aside0 (Kd.R Kd.bool 4 w' w.heap.size (fun _=>True) v144 x8_2)∧Aside0 (Kd.R (Kd.int .i64) 3 w' w.heap.size (fun _=>True) u9 x9_1)∧Aside0 (w'.heap[gb142]?=some (.cells #[(.slice A0_0 l0_0.length c0_0),.int .i64 a0_1] 24 (0,0)))∧Aside0 (w'.heap[gb150]?=some (.cells #[.int .i64 ((rd_T35 l1 x24_1).f0),.int .i64 ((rd_T35 l1 x24_1).f1),.int .i64 ((rd_T35 l1 x24_1).f2)] 35 (0,0)))∧Aside0 (Below w.heap.size w w'))
    case atStart=>exact⟨(x8_1),((-1)),(0),fin2,fin2,H',⟨Nat.le_refl _⟩,⟨rup (Kd.R_mono (Kd.R_far (p:=⟨gb150,2,none⟩) (Kd.R_far (p:=⟨gb150,1,none⟩) (Kd.R_far (p:=⟨gb150,0,none⟩) (Kd.R_types HO_8.out BK150.out (by decide)) (fun _ hk=>hk.2) (.int .i64 ((rd_T35 l1 x24_1).f0))) (fun _ hk=>hk.2) (.int .i64 ((rd_T35 l1 x24_1).f1))) (fun _ hk=>hk.2) (.int .i64 ((rd_T35 l1 x24_1).f2))) (fun _ hk=>trivial))⟩,⟨rup (Kd.R_mono (Kd.R_far (p:=⟨gb150,2,none⟩) (Kd.R_far (p:=⟨gb150,1,none⟩) (Kd.R_far (p:=⟨gb150,0,none⟩) (Kd.R_types HO_9.out BK150.out (by decide)) (fun _ hk=>hk.2) (.int .i64 ((rd_T35 l1 x24_1).f0))) (fun _ hk=>hk.2) (.int .i64 ((rd_T35 l1 x24_1).f1))) (fun _ hk=>hk.2) (.int .i64 ((rd_T35 l1 x24_1).f2))) (fun _ hk=>trivial))⟩,⟨by(with_reducible repeat(first|refine bN_ ?_ _|refine bD_ ?_|refine bA_ ?_ _));refine blk_far ?_ NB142_150.out _;(with_reducible repeat(first|refine bN_ ?_ _|refine bD_ ?_|refine bA_ ?_ _));refine blk_far ?_ NB142_150.out _;(with_reducible repeat(first|refine bN_ ?_ _|refine bD_ ?_|refine bA_ ?_ _));refine blk_far ?_ NB142_150.out _;exact bup BK142.out⟩,⟨by(with_reducible repeat(first|refine bN_ ?_ _|refine bD_ ?_|refine bA_ ?_ _));refine blk_put (cs := #[.int .i64 ((rd_T35 l1 x24_1).f0),.int .i64 ((rd_T35 l1 x24_1).f1),.int .i64 0]) ?_ 2 _ rfl;(with_reducible repeat(first|refine bN_ ?_ _|refine bD_ ?_|refine bA_ ?_ _));refine blk_put (cs := #[.int .i64 ((rd_T35 l1 x24_1).f0),.int .i64 0,.int .i64 0]) ?_ 1 _ rfl;(with_reducible repeat(first|refine bN_ ?_ _|refine bD_ ?_|refine bA_ ?_ _));refine blk_put (cs := #[.int .i64 0,.int .i64 0,.int .i64 0]) ?_ 0 _ rfl;exact bup BK150.out⟩,⟨bl⟩⟩
    case round =>
     clear H'
     try clear c11b0
     try clear c12b0
     try clear c13b0
     try clear hcz17_0
     try clear hcz17_1
     try clear hcz17_2
     try clear hcz18_0
     try clear hcz18_1
     try clear hfz17_0
     try clear hfz17_1
     try clear hfz17_2
     try clear hfz18_0
     try clear hfz18_1
     try clear hx149_0
     try clear hx149_1
     try clear hx149_2
     try clear p149
     try clear q149
     obtain⟨x8_2,x13_2,x35_2,rfl,rfl,HA,HK2,HO_8,HO_9,BK142,BK150,HB⟩:=hrel
     cases gk with
     | zero=>exact absurd HA.out (by simp [impl_matched.l1])
     | succ k2 =>
      have H:=HA.out
      clear HA
      simp only[impl_matched.l1] at H
      rcases itc H with⟨c19,H⟩|⟨c19,H⟩
      ·have c19b0:=decide_eq_true c19
       clear c19
       obtain⟨c20b0,H⟩:=ifb H
       obtain⟨c21b0,H⟩:=ifb H
       rcases itc H with⟨c22,H⟩|⟨c22,H⟩
       ·have c22b0:decide (0≤t151)=true:=decide_eq_true c22
        clear c22
        rcases itc H with⟨c23,H⟩|⟨c23,H⟩
        ·have c23b0:(((rd_T60 l2 x35_2).f0) == t151)=true:=beq_iff_eq.mpr c23
         have c23b1:(((rd_T60 l2 x35_2).f0) != t151)=false:=bne_eq_false_iff_eq.mpr c23
         clear c23
         obtain⟨c24b0,H⟩:=ifb H
         obtain⟨bq25,hbq25⟩:∃ b_:Bool,b_=(rdOf false x8_2 x35_2):=⟨_,rfl⟩
         replace H:(if bq25=true then(impl_matched.l1 k2 l2 x8_2 x9_1 t151 x13_2 l1 (l1.length:Int) x24_1 l2 (l2.length:Int) (wrap64 (x35_2+1)) l0_0 a0_1) else(if x9_1.length<17592186044416 then(impl_matched.l0 k2 l2 (x8_2.set (x35_2:Int).toNat true) (x9_1 ++ [x35_2]) l1 (l1.length:Int) (wrap64 (x24_1+1)) l0_0 a0_1) else(none)))=some (r1,r2):=by rw[← hbq25] at H;exact H
         have Nbq25:=am hbq25
         clear hbq25
         by_cases c26:bq25=true
         ·subst c26
          replace H:=(if_pos rfl).symm.trans H
          have H':=am H
          clear H
          have p152:0≤(x35_2:Int):=od
          have q152:x35_2<(l2.length:Int):=od
          obtain⟨ad152,e152,hx152_0,hx152_1,hx152_2⟩:=at_T60 HR2.out x35_2 p152 q152
          cases e152
          replace hx152_0:=(HB.out.cell (World.block_lt_of_cell? w _ hx152_0)).trans hx152_0
          replace hx152_1:=(HB.out.cell (World.block_lt_of_cell? w _ hx152_1)).trans hx152_1
          replace hx152_2:=(HB.out.cell (World.block_lt_of_cell? w _ hx152_2)).trans hx152_2
          replace p152:=eq_true p152
          replace q152:=eq_true q152
          go_wp2_with (first|((with_reducible refine gate_dst (N:=15) rfl ?_);refine box_event ?hg (N:=15) ?hd (cs := #[.int .i64 0,.int .i64 0,.int .i64 0]) (t:=60) ?hr ?_;(case hd=>rfl);(case hg=>rfl);(case hr=>first|(go_simp;done)|(go_simp;rfl));intro gb153 hg w27 hbox hb;replace HO_8:=am (Kd.R_below (rup HO_8.out) hb);replace HO_9:=am (Kd.R_below (rup HO_9.out) hb);have BK153:=am (hbox);have GW153:=am (ge_ bl hg);have GE153:=am (ge_ bl hg);replace HB:=am (below_step bl hb);have NB142_153:=am (nl (bup BK142.out) hg);have NB153_142:=am (ng (bup BK142.out) hg);replace BK142:=am (blk_below (bup BK142.out) hb);have NB150_153:=am (nl (bup BK150.out) hg);have NB153_150:=am (ng (bup BK150.out) hg);replace BK150:=am (blk_below (bup BK150.out) hb);clear hb hbox hg;have hnb28:=NB153_142.out;have hnc28:=NB142_153.out;have hnb29:=NB153_150.out;have hnc29:=NB150_153.out;have hcz30_0:=bc BK153.out 0;have hcz30_1:=bc BK153.out 1;have hcz30_2:=bc BK153.out 2;have hfz30_0:=blk_frozen BK153.out 0;have hfz30_1:=blk_frozen BK153.out 1;have hfz30_2:=blk_frozen BK153.out 2;obtain⟨Ao31,co31,eo31⟩:=Kd.R_slice HO_8.out;subst eo31;have p154:0≤(x35_2:Int):=od;have q154:x35_2<(x8_2.length:Int):=od;obtain⟨ad154,e154,hx154_0⟩:=Kd.at_bool (Kd.R_reads' HO_8.out).2.2 x35_2 p154 q154;(try rw[← Nbq25.out] at hx154_0);cases e154;have hn154_0:ad154.block≠gb153:=Kd.own_blk (Kd.R_ne HO_8.out BK153.out (by decide));have hn154_1:ad154.block≠gb153:=Kd.own_blk (Kd.R_ne HO_8.out BK153.out (by decide));have hn154_2:ad154.block≠gb153:=Kd.own_blk (Kd.R_ne HO_8.out BK153.out (by decide));replace hx154_0:=(cell_far (p:=⟨gb153,0,none⟩) (by first|(rw[add_block];exact hn154_0)|(show(Addr.add _ _).block≠_;rw[add_block];exact hn154_0)|exact hn154_0) (.int .i64 ((rd_T60 l2 x35_2).f0))).trans hx154_0;replace hx154_0:=(cell_far (p:=⟨gb153,1,none⟩) (by first|(rw[add_block];exact hn154_1)|(show(Addr.add _ _).block≠_;rw[add_block];exact hn154_1)|exact hn154_1) (.int .i64 ((rd_T60 l2 x35_2).f1))).trans hx154_0;replace hx154_0:=(cell_far (p:=⟨gb153,2,none⟩) (by first|(rw[add_block];exact hn154_2)|(show(Addr.add _ _).block≠_;rw[add_block];exact hn154_2)|exact hn154_2) (.int .i64 ((rd_T60 l2 x35_2).f2))).trans hx154_0;clear hn154_0 hn154_1 hn154_2;replace p154:=eq_true p154;replace q154:=eq_true q154))
          go_roundg k2
          case measure=>have:=HK1.out;have:=HK2.out;omega
          case rel=>exact⟨(x8_2),(x13_2),(wrap64 (x35_2+1)),fin2,fin2,H',⟨by have:=HK1.out;have:=HK2.out;omega⟩,⟨rup (Kd.R_mono (Kd.R_far (p:=⟨gb153,2,none⟩) (Kd.R_far (p:=⟨gb153,1,none⟩) (Kd.R_far (p:=⟨gb153,0,none⟩) (Kd.R_types HO_8.out BK153.out (by decide)) (fun _ hk=>hk.2) (.int .i64 ((rd_T60 l2 x35_2).f0))) (fun _ hk=>hk.2) (.int .i64 ((rd_T60 l2 x35_2).f1))) (fun _ hk=>hk.2) (.int .i64 ((rd_T60 l2 x35_2).f2))) (fun _ hk=>trivial))⟩,⟨rup (Kd.R_mono (Kd.R_far (p:=⟨gb153,2,none⟩) (Kd.R_far (p:=⟨gb153,1,none⟩) (Kd.R_far (p:=⟨gb153,0,none⟩) (Kd.R_types HO_9.out BK153.out (by decide)) (fun _ hk=>hk.2) (.int .i64 ((rd_T60 l2 x35_2).f0))) (fun _ hk=>hk.2) (.int .i64 ((rd_T60 l2 x35_2).f1))) (fun _ hk=>hk.2) (.int .i64 ((rd_T60 l2 x35_2).f2))) (fun _ hk=>trivial))⟩,⟨by(with_reducible repeat(first|refine bN_ ?_ _|refine bD_ ?_|refine bA_ ?_ _));refine blk_far ?_ NB142_153.out _;(with_reducible repeat(first|refine bN_ ?_ _|refine bD_ ?_|refine bA_ ?_ _));refine blk_far ?_ NB142_153.out _;(with_reducible repeat(first|refine bN_ ?_ _|refine bD_ ?_|refine bA_ ?_ _));refine blk_far ?_ NB142_153.out _;exact bup BK142.out⟩,⟨by(with_reducible repeat(first|refine bN_ ?_ _|refine bD_ ?_|refine bA_ ?_ _));refine blk_far ?_ NB150_153.out _;(with_reducible repeat(first|refine bN_ ?_ _|refine bD_ ?_|refine bA_ ?_ _));refine blk_far ?_ NB150_153.out _;(with_reducible repeat(first|refine bN_ ?_ _|refine bD_ ?_|refine bA_ ?_ _));refine blk_far ?_ NB150_153.out _;exact bup BK150.out⟩,⟨bl⟩⟩
         ·replace c26:=Bool.eq_false_iff.mpr c26
          subst c26
          replace H:=(if_neg Bool.false_ne_true).symm.trans H
          obtain⟨y155,hy155⟩:∃ y_:List Bool,y_=(x8_2.set (x35_2:Int).toNat true):=⟨_,rfl⟩
          replace H:(if x9_1.length<17592186044416 then(impl_matched.l0 k2 l2 y155 (x9_1 ++ [x35_2]) l1 (l1.length:Int) (wrap64 (x24_1+1)) l0_0 a0_1) else(none))=some (r1,r2):=by subst hy155;exact H
          have Ny155:=am hy155
          clear hy155
          obtain⟨c33,H⟩:=ifp H
          have LMc33:=am c33
          clear c33
          obtain⟨y156,hy156⟩:∃ y_:List Int,y_=(x9_1 ++ [x35_2]):=⟨_,rfl⟩
          replace H:(impl_matched.l0 k2 l2 y155 y156 l1 (l1.length:Int) (wrap64 (x24_1+1)) l0_0 a0_1)=some (r1,r2):=by subst hy156;exact H
          have Ny156:=am hy156
          clear hy156
          have H':=am H
          clear H
          have p152:0≤(x35_2:Int):=od
          have q152:x35_2<(l2.length:Int):=od
          obtain⟨ad152,e152,hx152_0,hx152_1,hx152_2⟩:=at_T60 HR2.out x35_2 p152 q152
          cases e152
          replace hx152_0:=(HB.out.cell (World.block_lt_of_cell? w _ hx152_0)).trans hx152_0
          replace hx152_1:=(HB.out.cell (World.block_lt_of_cell? w _ hx152_1)).trans hx152_1
          replace hx152_2:=(HB.out.cell (World.block_lt_of_cell? w _ hx152_2)).trans hx152_2
          replace p152:=eq_true p152
          replace q152:=eq_true q152
          go_wp2_with (first|((with_reducible refine gate_dst (N:=15) rfl ?_);refine box_event ?hg (N:=15) ?hd (cs := #[.int .i64 0,.int .i64 0,.int .i64 0]) (t:=60) ?hr ?_;(case hd=>rfl);(case hg=>rfl);(case hr=>first|(go_simp;done)|(go_simp;rfl));intro gb153 hg w34 hbox hb;replace HO_8:=am (Kd.R_below (rup HO_8.out) hb);replace HO_9:=am (Kd.R_below (rup HO_9.out) hb);have BK153:=am (hbox);have GW153:=am (ge_ bl hg);have GE153:=am (ge_ bl hg);replace HB:=am (below_step bl hb);have NB142_153:=am (nl (bup BK142.out) hg);have NB153_142:=am (ng (bup BK142.out) hg);replace BK142:=am (blk_below (bup BK142.out) hb);have NB150_153:=am (nl (bup BK150.out) hg);have NB153_150:=am (ng (bup BK150.out) hg);replace BK150:=am (blk_below (bup BK150.out) hb);clear hb hbox hg;have hnb35:=NB153_142.out;have hnc35:=NB142_153.out;have hnb36:=NB153_150.out;have hnc36:=NB150_153.out;have hcz37_0:=bc BK153.out 0;have hcz37_1:=bc BK153.out 1;have hcz37_2:=bc BK153.out 2;have hfz37_0:=blk_frozen BK153.out 0;have hfz37_1:=blk_frozen BK153.out 1;have hfz37_2:=blk_frozen BK153.out 2)|((with_reducible refine gate_store (t:=60) (p:=15) rfl ?_);refine store_event (t:=60) (p:=15) (v:=?vo_w38) (w1:=(((w34.setCell ⟨gb153,0,none⟩ (.int .i64 ((rd_T60 l2 x35_2).f0))).setCell ⟨gb153,1,none⟩ (.int .i64 ((rd_T60 l2 x35_2).f1))).setCell ⟨gb153,2,none⟩ (.int .i64 ((rd_T60 l2 x35_2).f2)))) ?hg ?ho ?hn ?hr ?_;(case ho=>rfl);(case hg=>rfl);(case hn=>rfl);(case hr=>first|(go_simp;done)|(go_simp;rfl));intro w38 hw;have n0_:Aside0 (Kd.R Kd.bool 4 w38 w.heap.size (fun _=>True) v144 x8_2):=⟨(by rw[hw];exact(rup (Kd.R_mono (Kd.R_far (p:=⟨gb153,2,none⟩) (Kd.R_far (p:=⟨gb153,1,none⟩) (Kd.R_far (p:=⟨gb153,0,none⟩) (Kd.R_types HO_8.out BK153.out (by decide)) (fun _ hk=>hk.2) (.int .i64 ((rd_T60 l2 x35_2).f0))) (fun _ hk=>hk.2) (.int .i64 ((rd_T60 l2 x35_2).f1))) (fun _ hk=>hk.2) (.int .i64 ((rd_T60 l2 x35_2).f2))) (fun _ hk=>trivial))))⟩;have n1_:Aside0 (Kd.R (Kd.int .i64) 3 w38 w.heap.size (fun _=>True) u9 x9_1):=⟨(by rw[hw];exact(rup (Kd.R_mono (Kd.R_far (p:=⟨gb153,2,none⟩) (Kd.R_far (p:=⟨gb153,1,none⟩) (Kd.R_far (p:=⟨gb153,0,none⟩) (Kd.R_types HO_9.out BK153.out (by decide)) (fun _ hk=>hk.2) (.int .i64 ((rd_T60 l2 x35_2).f0))) (fun _ hk=>hk.2) (.int .i64 ((rd_T60 l2 x35_2).f1))) (fun _ hk=>hk.2) (.int .i64 ((rd_T60 l2 x35_2).f2))) (fun _ hk=>trivial))))⟩;have n2_:Aside0 (w38.heap[gb142]?=some (.cells #[.slice A0_0 l0_0.length c0_0,.int .i64 a0_1] 24 (0,0))):=⟨(by rw[hw];exact(by(with_reducible repeat(first|refine bN_ ?_ _|refine bD_ ?_|refine bA_ ?_ _));refine blk_far ?_ NB142_153.out _;(with_reducible repeat(first|refine bN_ ?_ _|refine bD_ ?_|refine bA_ ?_ _));refine blk_far ?_ NB142_153.out _;(with_reducible repeat(first|refine bN_ ?_ _|refine bD_ ?_|refine bA_ ?_ _));refine blk_far ?_ NB142_153.out _;exact bup BK142.out))⟩;have n3_:Aside0 (w38.heap[gb150]?=some (.cells #[.int .i64 ((rd_T35 l1 x24_1).f0),.int .i64 ((rd_T35 l1 x24_1).f1),.int .i64 ((rd_T35 l1 x24_1).f2)] 35 (0,0))):=⟨(by rw[hw];exact(by(with_reducible repeat(first|refine bN_ ?_ _|refine bD_ ?_|refine bA_ ?_ _));refine blk_far ?_ NB150_153.out _;(with_reducible repeat(first|refine bN_ ?_ _|refine bD_ ?_|refine bA_ ?_ _));refine blk_far ?_ NB150_153.out _;(with_reducible repeat(first|refine bN_ ?_ _|refine bD_ ?_|refine bA_ ?_ _));refine blk_far ?_ NB150_153.out _;exact bup BK150.out))⟩;have n4_:Aside0 (w38.heap[gb153]?=some (.cells #[.int .i64 ((rd_T60 l2 x35_2).f0),.int .i64 ((rd_T60 l2 x35_2).f1),.int .i64 ((rd_T60 l2 x35_2).f2)] 60 (0,0))):=⟨(by rw[hw];exact(by(with_reducible repeat(first|refine bN_ ?_ _|refine bD_ ?_|refine bA_ ?_ _));refine blk_put (cs := #[.int .i64 ((rd_T60 l2 x35_2).f0),.int .i64 ((rd_T60 l2 x35_2).f1),.int .i64 0]) ?_ 2 _ rfl;(with_reducible repeat(first|refine bN_ ?_ _|refine bD_ ?_|refine bA_ ?_ _));refine blk_put (cs := #[.int .i64 ((rd_T60 l2 x35_2).f0),.int .i64 0,.int .i64 0]) ?_ 1 _ rfl;(with_reducible repeat(first|refine bN_ ?_ _|refine bD_ ?_|refine bA_ ?_ _));refine blk_put (cs := #[.int .i64 0,.int .i64 0,.int .i64 0]) ?_ 0 _ rfl;exact bup BK153.out))⟩;have n5_:Aside0 (Below w.heap.size w w38):=⟨(by rw[hw];exact bl)⟩;clear hw HO_8 HO_9 BK142 BK150 BK153 HB;have HO_8:=n0_;have HO_9:=n1_;have BK142:=n2_;have BK150:=n3_;have BK153:=n4_;have HB:=n5_;clear n0_ n1_ n2_ n3_ n4_ n5_;have hcz39_0:=bc BK153.out 0;have hcz39_1:=bc BK153.out 1;have hcz39_2:=bc BK153.out 2;have hfz39_0:=blk_frozen BK153.out 0;have hfz39_1:=blk_frozen BK153.out 1;have hfz39_2:=blk_frozen BK153.out 2;obtain⟨Ao40,co40,eo40⟩:=Kd.R_slice HO_8.out;subst eo40;have p154:0≤(x35_2:Int):=od;have q154:x35_2<(x8_2.length:Int):=od;obtain⟨ad154,e154,hx154_0⟩:=Kd.at_bool (Kd.R_reads' HO_8.out).2.2 x35_2 p154 q154;(try rw[← Nbq25.out] at hx154_0);cases e154;replace p154:=eq_true p154;replace q154:=eq_true q154;have p32:0≤(x35_2:Int):=od;have q32:(x35_2:Int)<((x8_2.length:Int):Int):=od;obtain⟨go32,co32,eo32,gb32,gl32,cl32,HG32⟩:=Kd.R_form HO_8.out (by omega);(first|cases eo32|(injection eo32 with ea_ en_ ec_;(first|subst ea_|(injection ea_ with ea_;subst ea_));subst ec_;clear en_));have GB32:=am gb32;have GG32:=am HG32;clear gb32 gl32 HG32;(first|simp only[add_plain] at hx154_0|skip);obtain⟨hx32_0,hf32_0⟩:=Kd.R_celln false HO_8.out (x35_2:Int) p32 q32;replace p32:=eq_true p32;replace q32:=eq_true q32;obtain⟨hy41_,hz41_⟩:=Kd.R_celln false HO_8.out (x35_2:Int) (od) (od);have HP41:=Kd.R_putg HO_8.out (x35_2:Int) true)|((with_reducible refine gate_store (t:=4) (p:=58) rfl ?_);refine store_event (t:=4) (p:=58) (v:=?vo_w42) (w1:=(w38.setCell ⟨go32,(x35_2:Int).toNat,none⟩ (.bool true))) ?hg ?ho ?hn ?hr ?_;(case ho=>rfl);(case hg=>rfl);(case hn=>rfl);(case hr=>first|(go_simp;done)|(go_simp;rfl));intro w42 hw;have hg:w38.grownBy w42 (some go32):=(by rw[hw];exact HP41.2);have hp_:Kd.R Kd.bool 4 w42 w.heap.size (fun _=>True) (.slice (some ⟨go32,0,none⟩) x8_2.length co40) y155:=(by rw[hw,Ny155.out];exact HP41.1);clear HP41;replace HO_9:=am (Kd.R_over' (v:=(.slice (some ⟨go32,0,none⟩) x8_2.length co40)) (rup HO_9.out) (Kd.R_typed HO_8.out) (by decide) hg);replace BK142:=am (blk_grown (bup BK142.out) hg (Kd.R_ne HO_8.out BK142.out (by decide)));replace BK150:=am (blk_grown (bup BK150.out) hg (Kd.R_ne HO_8.out BK150.out (by decide)));replace BK153:=am (blk_grown (bup BK153.out) hg (Kd.R_ne HO_8.out BK153.out (by decide)));replace HO_8:=am (hp_);replace HB:=am ((by rw[hw];exact below_set (HB.out) GB32.out:Below w.heap.size w w42));clear hg hw hp_)|((with_reducible refine gate_builtin (b := .append) (xs := #[.tmp 60,.tmp 62]) rfl ?_);at_builtin;refine Kd.R_append (Kd.int .i64) (w0:=w) w.heap.size rfl (.tmp 60) (.tmp 62) 22 3 (.int .i64 0) 8 rfl Try.underlying22 info3 rfl (by decide) (by omega) u9 x9_1 x35_2 [.int .i64 x35_2] (fun _=>True) (fun _=>False) rfl rfl ?aP (fun _ hk=>hk.elim) ?aF ?aO ?aB ?aS ?aL ?_;(case aP=>exact rfl);(case aB=>exact bl);(case aF=>exact(fun _ _=>trivial));(case aO=>exact(rup HO_9.out));(case aS=>exact(below_size bl));(case aL=>have:=LMc33.out;omega);intro v157 w43 ho hb hg hat;rw[← Ny156.out] at ho;replace HO_8:=am (Kd.R_over' (rup HO_8.out) (Kd.R_typed (rup HO_9.out)) (by decide) hg);replace BK142:=am (blk_grown (bup BK142.out) hg (Kd.R_ne HO_9.out BK142.out (by decide)));replace BK150:=am (blk_grown (bup BK150.out) hg (Kd.R_ne HO_9.out BK150.out (by decide)));replace BK153:=am (blk_grown (bup BK153.out) hg (Kd.R_ne HO_9.out BK153.out (by decide)));replace HB:=am (hb);have HO158:=am (ho);clear HO_9 ho hb hg hat))
          go_roundg k2
          case measure=>have:=HK1.out;have:=HK2.out;omega
          case rel=>exact⟨(y155),(y156),(wrap64 (x24_1+1)),fin2,H',⟨by have:=HK1.out;have:=HK2.out;omega⟩,⟨rup HO_8.out⟩,⟨rup HO158.out⟩,⟨bup BK142.out⟩,⟨bl⟩⟩
        ·have c23b0:(((rd_T60 l2 x35_2).f0) == t151)=false:=beq_eq_false_iff_ne.mpr c23
         have c23b1:(((rd_T60 l2 x35_2).f0) != t151)=true:=bne_iff_ne.mpr c23
         have H':=am H
         clear H
         have p152:0≤(x35_2:Int):=od
         have q152:x35_2<(l2.length:Int):=od
         obtain⟨ad152,e152,hx152_0,hx152_1,hx152_2⟩:=at_T60 HR2.out x35_2 p152 q152
         cases e152
         replace hx152_0:=(HB.out.cell (World.block_lt_of_cell? w _ hx152_0)).trans hx152_0
         replace hx152_1:=(HB.out.cell (World.block_lt_of_cell? w _ hx152_1)).trans hx152_1
         replace hx152_2:=(HB.out.cell (World.block_lt_of_cell? w _ hx152_2)).trans hx152_2
         replace p152:=eq_true p152
         replace q152:=eq_true q152
         go_wp2_with (first|((with_reducible refine gate_dst (N:=15) rfl ?_);refine box_event ?hg (N:=15) ?hd (cs := #[.int .i64 0,.int .i64 0,.int .i64 0]) (t:=60) ?hr ?_;(case hd=>rfl);(case hg=>rfl);(case hr=>first|(go_simp;done)|(go_simp;rfl));intro gb153 hg w44 hbox hb;replace HO_8:=am (Kd.R_below (rup HO_8.out) hb);replace HO_9:=am (Kd.R_below (rup HO_9.out) hb);have BK153:=am (hbox);have GW153:=am (ge_ bl hg);have GE153:=am (ge_ bl hg);replace HB:=am (below_step bl hb);have NB142_153:=am (nl (bup BK142.out) hg);have NB153_142:=am (ng (bup BK142.out) hg);replace BK142:=am (blk_below (bup BK142.out) hb);have NB150_153:=am (nl (bup BK150.out) hg);have NB153_150:=am (ng (bup BK150.out) hg);replace BK150:=am (blk_below (bup BK150.out) hb);clear hb hbox hg;have hnb45:=NB153_142.out;have hnc45:=NB142_153.out;have hnb46:=NB153_150.out;have hnc46:=NB150_153.out;have hcz47_0:=bc BK153.out 0;have hcz47_1:=bc BK153.out 1;have hcz47_2:=bc BK153.out 2;have hfz47_0:=blk_frozen BK153.out 0;have hfz47_1:=blk_frozen BK153.out 1;have hfz47_2:=blk_frozen BK153.out 2))
         go_roundg k2
         case measure=>have:=HK1.out;have:=HK2.out;omega
         case rel=>exact⟨(x8_2),(x13_2),(wrap64 (x35_2+1)),fin2,fin2,H',⟨by have:=HK1.out;have:=HK2.out;omega⟩,⟨rup (Kd.R_mono (Kd.R_far (p:=⟨gb153,2,none⟩) (Kd.R_far (p:=⟨gb153,1,none⟩) (Kd.R_far (p:=⟨gb153,0,none⟩) (Kd.R_types HO_8.out BK153.out (by decide)) (fun _ hk=>hk.2) (.int .i64 ((rd_T60 l2 x35_2).f0))) (fun _ hk=>hk.2) (.int .i64 ((rd_T60 l2 x35_2).f1))) (fun _ hk=>hk.2) (.int .i64 ((rd_T60 l2 x35_2).f2))) (fun _ hk=>trivial))⟩,⟨rup (Kd.R_mono (Kd.R_far (p:=⟨gb153,2,none⟩) (Kd.R_far (p:=⟨gb153,1,none⟩) (Kd.R_far (p:=⟨gb153,0,none⟩) (Kd.R_types HO_9.out BK153.out (by decide)) (fun _ hk=>hk.2) (.int .i64 ((rd_T60 l2 x35_2).f0))) (fun _ hk=>hk.2) (.int .i64 ((rd_T60 l2 x35_2).f1))) (fun _ hk=>hk.2) (.int .i64 ((rd_T60 l2 x35_2).f2))) (fun _ hk=>trivial))⟩,⟨by(with_reducible repeat(first|refine bN_ ?_ _|refine bD_ ?_|refine bA_ ?_ _));refine blk_far ?_ NB142_153.out _;(with_reducible repeat(first|refine bN_ ?_ _|refine bD_ ?_|refine bA_ ?_ _));refine blk_far ?_ NB142_153.out _;(with_reducible repeat(first|refine bN_ ?_ _|refine bD_ ?_|refine bA_ ?_ _));refine blk_far ?_ NB142_153.out _;exact bup BK142.out⟩,⟨by(with_reducible repeat(first|refine bN_ ?_ _|refine bD_ ?_|refine bA_ ?_ _));refine blk_far ?_ NB150_153.out _;(with_reducible repeat(first|refine bN_ ?_ _|refine bD_ ?_|refine bA_ ?_ _));refine blk_far ?_ NB150_153.out _;(with_reducible repeat(first|refine bN_ ?_ _|refine bD_ ?_|refine bA_ ?_ _));refine blk_far ?_ NB150_153.out _;exact bup BK150.out⟩,⟨bl⟩⟩
       ·have c22b0:decide (0≤t151)=false:=decide_eq_false c22
        clear c22
        have H':=am H
        clear H
        have p152:0≤(x35_2:Int):=od
        have q152:x35_2<(l2.length:Int):=od
        obtain⟨ad152,e152,hx152_0,hx152_1,hx152_2⟩:=at_T60 HR2.out x35_2 p152 q152
        cases e152
        replace hx152_0:=(HB.out.cell (World.block_lt_of_cell? w _ hx152_0)).trans hx152_0
        replace hx152_1:=(HB.out.cell (World.block_lt_of_cell? w _ hx152_1)).trans hx152_1
        replace hx152_2:=(HB.out.cell (World.block_lt_of_cell? w _ hx152_2)).trans hx152_2
        replace p152:=eq_true p152
        replace q152:=eq_true q152
        go_wp2_with (first|((with_reducible refine gate_dst (N:=15) rfl ?_);refine box_event ?hg (N:=15) ?hd (cs := #[.int .i64 0,.int .i64 0,.int .i64 0]) (t:=60) ?hr ?_;(case hd=>rfl);(case hg=>rfl);(case hr=>first|(go_simp;done)|(go_simp;rfl));intro gb153 hg w48 hbox hb;replace HO_8:=am (Kd.R_below (rup HO_8.out) hb);replace HO_9:=am (Kd.R_below (rup HO_9.out) hb);have BK153:=am (hbox);have GW153:=am (ge_ bl hg);have GE153:=am (ge_ bl hg);replace HB:=am (below_step bl hb);have NB142_153:=am (nl (bup BK142.out) hg);have NB153_142:=am (ng (bup BK142.out) hg);replace BK142:=am (blk_below (bup BK142.out) hb);have NB150_153:=am (nl (bup BK150.out) hg);have NB153_150:=am (ng (bup BK150.out) hg);replace BK150:=am (blk_below (bup BK150.out) hb);clear hb hbox hg;have hnb49:=NB153_142.out;have hnc49:=NB142_153.out;have hnb50:=NB153_150.out;have hnc50:=NB150_153.out;have hcz51_0:=bc BK153.out 0;have hcz51_1:=bc BK153.out 1;have hcz51_2:=bc BK153.out 2;have hfz51_0:=blk_frozen BK153.out 0;have hfz51_1:=blk_frozen BK153.out 1;have hfz51_2:=blk_frozen BK153.out 2))
        go_roundg k2
        case measure=>have:=HK1.out;have:=HK2.out;omega
        case rel=>exact⟨(x8_2),(x13_2),(wrap64 (x35_2+1)),fin2,fin2,H',⟨by have:=HK1.out;have:=HK2.out;omega⟩,⟨rup (Kd.R_mono (Kd.R_far (p:=⟨gb153,2,none⟩) (Kd.R_far (p:=⟨gb153,1,none⟩) (Kd.R_far (p:=⟨gb153,0,none⟩) (Kd.R_types HO_8.out BK153.out (by decide)) (fun _ hk=>hk.2) (.int .i64 ((rd_T60 l2 x35_2).f0))) (fun _ hk=>hk.2) (.int .i64 ((rd_T60 l2 x35_2).f1))) (fun _ hk=>hk.2) (.int .i64 ((rd_T60 l2 x35_2).f2))) (fun _ hk=>trivial))⟩,⟨rup (Kd.R_mono (Kd.R_far (p:=⟨gb153,2,none⟩) (Kd.R_far (p:=⟨gb153,1,none⟩) (Kd.R_far (p:=⟨gb153,0,none⟩) (Kd.R_types HO_9.out BK153.out (by decide)) (fun _ hk=>hk.2) (.int .i64 ((rd_T60 l2 x35_2).f0))) (fun _ hk=>hk.2) (.int .i64 ((rd_T60 l2 x35_2).f1))) (fun _ hk=>hk.2) (.int .i64 ((rd_T60 l2 x35_2).f2))) (fun _ hk=>trivial))⟩,⟨by(with_reducible repeat(first|refine bN_ ?_ _|refine bD_ ?_|refine bA_ ?_ _));refine blk_far ?_ NB142_153.out _;(with_reducible repeat(first|refine bN_ ?_ _|refine bD_ ?_|refine bA_ ?_ _));refine blk_far ?_ NB142_153.out _;(with_reducible repeat(first|refine bN_ ?_ _|refine bD_ ?_|refine bA_ ?_ _));refine blk_far ?_ NB142_153.out _;exact bup BK142.out⟩,⟨by(with_reducible repeat(first|refine bN_ ?_ _|refine bD_ ?_|refine bA_ ?_ _));refine blk_far ?_ NB150_153.out _;(with_reducible repeat(first|refine bN_ ?_ _|refine bD_ ?_|refine bA_ ?_ _));refine blk_far ?_ NB150_153.out _;(with_reducible repeat(first|refine bN_ ?_ _|refine bD_ ?_|refine bA_ ?_ _));refine blk_far ?_ NB150_153.out _;exact bup BK150.out⟩,⟨bl⟩⟩
      ·have c19b0:=decide_eq_false c19
       clear c19
       obtain⟨c52,H⟩:=ifp H
       have LMc52:=am c52
       clear c52
       obtain⟨y159,hy159⟩:∃ y_:List Int,y_=(x9_1 ++ [x13_2]):=⟨_,rfl⟩
       replace H:(impl_matched.l0 k2 l2 x8_2 y159 l1 (l1.length:Int) (wrap64 (x24_1+1)) l0_0 a0_1)=some (r1,r2):=by subst hy159;exact H
       have Ny159:=am hy159
       clear hy159
       have H':=am H
       clear H
       go_wp2_with (first|((with_reducible refine gate_builtin (b := .append) (xs := #[.tmp 60,.tmp 62]) rfl ?_);at_builtin;refine Kd.R_append (Kd.int .i64) (w0:=w) w.heap.size rfl (.tmp 60) (.tmp 62) 22 3 (.int .i64 0) 8 rfl Try.underlying22 info3 rfl (by decide) (by omega) u9 x9_1 x13_2 [.int .i64 x13_2] (fun _=>True) (fun _=>False) rfl rfl ?aP (fun _ hk=>hk.elim) ?aF ?aO ?aB ?aS ?aL ?_;(case aP=>exact rfl);(case aB=>exact bl);(case aF=>exact(fun _ _=>trivial));(case aO=>exact(rup HO_9.out));(case aS=>exact(below_size bl));(case aL=>have:=LMc52.out;omega);intro v160 w53 ho hb hg hat;rw[← Ny159.out] at ho;replace HO_8:=am (Kd.R_over' (rup HO_8.out) (Kd.R_typed (rup HO_9.out)) (by decide) hg);replace BK142:=am (blk_grown (bup BK142.out) hg (Kd.R_ne HO_9.out BK142.out (by decide)));replace BK150:=am (blk_grown (bup BK150.out) hg (Kd.R_ne HO_9.out BK150.out (by decide)));replace HB:=am (hb);have HO161:=am (ho);clear HO_9 ho hb hg hat))
       go_roundg k2
       case measure=>have:=HK1.out;have:=HK2.out;omega
       case rel=>exact⟨(x8_2),(y159),(wrap64 (x24_1+1)),fin2,H',⟨by have:=HK1.out;have:=HK2.out;omega⟩,⟨rup HO_8.out⟩,⟨rup HO161.out⟩,⟨bup BK142.out⟩,⟨bl⟩⟩
   ·have c11b0:=decide_eq_false c11
    clear c11
    obtain⟨y162,hy162⟩:∃ y_:List Int,y_=(([]:List Int)):=⟨_,rfl⟩
    replace H:(impl_matched.l2 k1 x8_1 x9_1 y162 (l2.length:Int) 0)=some (r1,r2):=by subst hy162;exact H
    have Ny162:=am hy162
    clear hy162
    have H':=am H
    clear H
    go_wp2_with (first|((with_reducible refine gate_dst (N:=65) rfl ?_);refine Kd.R_lit (Kd.int .i64) _ 3 ?hg (N:=65) ?hd (xs:=([]:List Int)) (inner:=[]) (ok:=fun _=>True) (okp:=fun _=>True) ?hr ?hp (fun _ hk=>hk) trivial (Below.refl _ _) (Nat.le_refl _) (by simp) ?_;(case hd=>rfl);(case hg=>rfl);(case hr=>first|(go_simp;done)|(go_simp;rfl));(case hp=>exact(Reps.none _ _));intro v163 w54 ho55 hb hg_ hnew_;clear hg_ hnew_;(first|rw[← Ny162.out] at ho55|(simp only[Int.reduceToNat] at ho55;rw[← Ny162.out] at ho55));replace HO_8:=am (Kd.R_below (rup HO_8.out) hb);have HO164:=am (Kd.R_lower (Kd.R_new' ho55 (Kd.R_lt (rup HO_9.out))) (below_size bl));replace HO_9:=am (Kd.R_elder' (rup HO_9.out) (Kd.R_base ho55) hb);replace BK142:=am (blk_below (bup BK142.out) hb);replace HB:=am (below_step bl hb);clear hb ho55))
    go_loopg [16,68] k1 (fun kq v16 v68 w'=>∃(x16_2:List Int) (x68_2:Int),v68 = .int .i64 x68_2∧Aside0 (impl_matched.l2 kq x8_1 x9_1 x16_2 (l2.length:Int) x68_2=some (r1,r2))∧Aside0 (kq≤k1)∧Aside0 (Kd.R Kd.bool 4 w' w.heap.size (fun _=>True) v144 x8_1)∧Aside0 (Kd.R (Kd.int .i64) 3 w' w.heap.size (fun k_=>some k_≠(v16:Value).ownBlock) u9 x9_1)∧Aside0 (Kd.R (Kd.int .i64) 3 w' w.heap.size (fun k_=>some k_≠(u9:Value).ownBlock) v16 x16_2)∧Aside0 (w'.heap[gb142]?=some (.cells #[(.slice A0_0 l0_0.length c0_0),.int .i64 a0_1] 24 (0,0)))∧Aside0 (Below w.heap.size w w'))
    case atStart=>exact⟨(y162),(0),fin2,H',⟨Nat.le_refl _⟩,⟨rup HO_8.out⟩,⟨rup (Kd.R_mono HO_9.out (fun _ hk=>hk.2))⟩,⟨rup (Kd.R_mono HO164.out (fun _ hk=>hk.2))⟩,⟨bup BK142.out⟩,⟨bl⟩⟩
    case round =>
     clear H'
     try clear c11b0
     obtain⟨x16_2,x68_2,rfl,HA,HK2,HO_8,HO_9,HO_16,BK142,HB⟩:=hrel
     cases gk with
     | zero=>exact absurd HA.out (by simp [impl_matched.l2])
     | succ k2 =>
      have H:=HA.out
      clear HA
      simp only[impl_matched.l2] at H
      rcases itc H with⟨c56,H⟩|⟨c56,H⟩
      ·have c56b0:=decide_eq_true c56
       clear c56
       obtain⟨c57b0,H⟩:=ifb H
       obtain⟨c58b0,H⟩:=ifb H
       obtain⟨bq59,hbq59⟩:∃ b_:Bool,b_=(rdOf false x8_1 x68_2):=⟨_,rfl⟩
       replace H:(if bq59=true then(impl_matched.l2 k2 x8_1 x9_1 x16_2 (l2.length:Int) (wrap64 (x68_2+1))) else(if x16_2.length<17592186044416 then(impl_matched.l2 k2 x8_1 x9_1 (x16_2 ++ [x68_2]) (l2.length:Int) (wrap64 (x68_2+1))) else(none)))=some (r1,r2):=by rw[← hbq59] at H;exact H
       have Nbq59:=am hbq59
       clear hbq59
       by_cases c60:bq59=true
       ·subst c60
        replace H:=(if_pos rfl).symm.trans H
        have H':=am H
        clear H
        obtain⟨Ao61,co61,eo61⟩:=Kd.R_slice HO_8.out
        subst eo61
        have p165:0≤(x68_2:Int):=od
        have q165:x68_2<(x8_1.length:Int):=od
        obtain⟨ad165,e165,hx165_0⟩:=Kd.at_bool (Kd.R_reads' HO_8.out).2.2 x68_2 p165 q165
        (try rw[← Nbq59.out] at hx165_0)
        cases e165
        replace p165:=eq_true p165
        replace q165:=eq_true q165
        go_wp2
        go_roundg k2
        case measure=>have:=HK1.out;have:=HK2.out;omega
        case rel=>exact⟨(x16_2),(wrap64 (x68_2+1)),fin2,H',⟨by have:=HK1.out;have:=HK2.out;omega⟩,⟨rup HO_8.out⟩,⟨rup HO_9.out⟩,⟨rup HO_16.out⟩,⟨bup BK142.out⟩,⟨bl⟩⟩
       ·replace c60:=Bool.eq_false_iff.mpr c60
        subst c60
        replace H:=(if_neg Bool.false_ne_true).symm.trans H
        obtain⟨c62,H⟩:=ifp H
        have LMc62:=am c62
        clear c62
        obtain⟨y166,hy166⟩:∃ y_:List Int,y_=(x16_2 ++ [x68_2]):=⟨_,rfl⟩
        replace H:(impl_matched.l2 k2 x8_1 x9_1 y166 (l2.length:Int) (wrap64 (x68_2+1)))=some (r1,r2):=by subst hy166;exact H
        have Ny166:=am hy166
        clear hy166
        have H':=am H
        clear H
        obtain⟨Ao63,co63,eo63⟩:=Kd.R_slice HO_8.out
        subst eo63
        have p165:0≤(x68_2:Int):=od
        have q165:x68_2<(x8_1.length:Int):=od
        obtain⟨ad165,e165,hx165_0⟩:=Kd.at_bool (Kd.R_reads' HO_8.out).2.2 x68_2 p165 q165
        (try rw[← Nbq59.out] at hx165_0)
        cases e165
        replace p165:=eq_true p165
        replace q165:=eq_true q165
        go_wp2_with (first|((with_reducible refine gate_builtin (b := .append) (xs := #[.tmp 76,.tmp 78]) rfl ?_);at_builtin;refine Kd.R_append (Kd.int .i64) (w0:=w) w.heap.size rfl (.tmp 76) (.tmp 78) 22 3 (.int .i64 0) 8 rfl Try.underlying22 info3 rfl (by decide) (by omega) u16 x16_2 x68_2 [.int .i64 x68_2] (fun k_=>some k_≠(u9:Value).ownBlock) (fun _=>False) rfl rfl ?aP (fun _ hk=>hk.elim) ?aF ?aO ?aB ?aS ?aL ?_;(case aP=>exact rfl);(case aB=>exact bl);(case aF=>exact(fun k_ hk=>Kd.fresh' (Kd.R_lt (rup HO_9.out)) k_ hk));(case aO=>exact(rup HO_16.out));(case aS=>exact(below_size bl));(case aL=>have:=LMc62.out;omega);intro v167 w64 ho hb hg hat;rw[← Ny166.out] at ho;replace HO_8:=am (Kd.R_over' (rup HO_8.out) (Kd.R_typed (rup HO_16.out)) (by decide) hg);replace HO_9:=am (Kd.R_after (ok:=(fun _=>True)) (rup (Kd.R_mono HO_9.out (fun _ hk=>⟨trivial,hk⟩))) hg hat);replace BK142:=am (blk_grown (bup BK142.out) hg (Kd.R_ne HO_16.out BK142.out (by decide)));replace HB:=am (hb);have HO168:=am (ho);clear HO_16 ho hb hg hat))
        go_roundg k2
        case measure=>have:=HK1.out;have:=HK2.out;omega
        case rel=>exact⟨(y166),(wrap64 (x68_2+1)),fin2,H',⟨by have:=HK1.out;have:=HK2.out;omega⟩,⟨rup HO_8.out⟩,⟨rup (Kd.R_mono HO_9.out (fun _ hk=>hk.2))⟩,⟨rup HO168.out⟩,⟨bup BK142.out⟩,⟨bl⟩⟩
      ·have c56b0:=decide_eq_false c56
       clear c56
       simp only[Option.some.injEq,Prod.mk.injEq] at H
       obtain⟨rfl,rfl⟩:=H
       go_wp2
       go_ret2
       exact⟨_,_,fin1,by(with_reducible repeat(first|apply Kd.R_alloc|apply Kd.R_drewN|apply Kd.R_drew));exact HO_9.out,by(with_reducible repeat(first|apply Kd.R_alloc|apply Kd.R_drewN|apply Kd.R_drew));exact HO_16.out,bl⟩

def impl_holeErrors.f (a0_0:Int) (a0_1:Int) (a0_2:Int) (a1_0:Int) (a1_1:Int) (a1_2:Int):Option (List Int):=(impl_noteEnd.f a0_0 a0_1 a0_2).bind fun t171=>(some (([wrap64 (a1_1 - (wrap64 (2*a0_1))),wrap64 (a1_2 - (wrap64 ((wrap64 (2*t171)) - 1)))]:List Int)))
def impl_holeErrors.T1:Bool×List (List Nat×List Nat):=(true,[([],[]),([0],[0]),([],[]),([2],[2]),([3],[3]),([1,4],[1,4]),([],[]),([6],[6]),([],[]),([8],[8]),([9],[9]),([10],[10]),([7,11],[7,11]),([5,12],[5,12]),([13,9,0,1,2,3,4,5,6,7,8,9,10,11,12,13],[13])])
def impl_holeErrors.B1:List Nat:=[0,1,0,4,12,31,0,64,0,256,768,1792,4032,8191,16383]
theorem impl_holeErrors.tab1:rtab .any (opsOf Try.f29 1)=impl_holeErrors.T1:=by kernel_rfl
theorem impl_holeErrors.bits1:waitsOk impl_holeErrors.T1.2 impl_holeErrors.B1=true:=by kernel_rfl
set_option maxHeartbeats 8000000 in
set_option maxRecDepth 100000 in
theorem impl_holeErrors.calls (a0_0:Int) (a0_1:Int) (a0_2:Int) (a1_0:Int) (a1_1:Int) (a1_2:Int) (r:List Int) (w:World) (h:impl_holeErrors.f a0_0 a0_1 a0_2 a1_0 a1_1 a1_2=some r) :
  Calls Try.prog 29 #[.agg #[.int .i64 a0_0,.int .i64 a0_1,.int .i64 a0_2],.agg #[.int .i64 a1_0,.int .i64 a1_1,.int .i64 a1_2]] w fun e w'=>∃ v0_:Value,e = .returned (v0_)∧Kd.R (Kd.int .i64) 3 w' w.heap.size (fun _=>True) v0_ r∧Below w.heap.size w w':=by
 have hu35:=Try.underlying35
 have hu60:=Try.underlying60
 have HB:=am (Below.refl w.heap.size w)
 have H:((impl_noteEnd.f a0_0 a0_1 a0_2).bind fun t171=>(some (([wrap64 (a1_1 - (wrap64 (2*a0_1))),wrap64 (a1_2 - (wrap64 ((wrap64 (2*t171)) - 1)))]:List Int))))=some r:=h
 clear h
 obtain⟨t171,A3,H⟩:=bnd H
 obtain⟨y172,hy172⟩:∃ y_:List Int,y_=(([wrap64 (a1_1 - (wrap64 (2*a0_1))),wrap64 (a1_2 - (wrap64 ((wrap64 (2*t171)) - 1)))]:List Int)):=⟨_,rfl⟩
 replace H:(some y172)=some r:=by subst hy172;exact H
 have Ny172:=am hy172
 clear hy172
 obtain rfl:=Option.some.inj H
 go_enter Try.func29,Try.ntmps29
 try go_wp2_with (first|((with_reducible refine gate_dst (N:=2) rfl ?_);refine box_event ?hg (N:=2) ?hd (cs := #[.int .i64 a0_0,.int .i64 a0_1,.int .i64 a0_2]) (t:=35) ?hr ?_;(case hd=>rfl);(case hg=>rfl);(case hr=>first|(go_simp;done)|(go_simp;rfl));intro gb169 hg w4 hbox hb;have BK169:=am (hbox);have GW169:=am (ge_ bl hg);have GE169:=am (ge_ bl hg);replace HB:=am (below_step bl hb);clear hb hbox hg)|((with_reducible refine gate_dst (N:=3) rfl ?_);refine box_event ?hg (N:=3) ?hd (cs := #[.int .i64 a1_0,.int .i64 a1_1,.int .i64 a1_2]) (t:=60) ?hr ?_;(case hd=>rfl);(case hg=>rfl);(case hr=>first|(go_simp;done)|(go_simp;rfl));intro gb170 hg w5 hbox hb;have BK170:=am (hbox);have GW170:=am (ge_ bl hg);have GE170:=am (ge_ bl hg);replace HB:=am (below_step bl hb);have NB169_170:=am (nl (bup BK169.out) hg);have NB170_169:=am (ng (bup BK169.out) hg);replace BK169:=am (blk_below (bup BK169.out) hb);clear hb hbox hg))
 replace BK169:=am (bD_ BK169.out)
 replace BK170:=am (bD_ BK170.out)
 replace HB:=am (below_drew1 HB.out)
 refine start_ (n:=15) (S:=fun w'=>w'.cell? ⟨gb170,0,none⟩=some (.int .i64 a1_0)∧w'.cell? ⟨gb170,1,none⟩=some (.int .i64 a1_1)∧w'.cell? ⟨gb170,2,none⟩=some (.int .i64 a1_2)∧w'.cell? ⟨gb169,0,none⟩=some (.int .i64 a0_0)∧w'.cell? ⟨gb169,1,none⟩=some (.int .i64 a0_1)∧w'.cell? ⟨gb169,2,none⟩=some (.int .i64 a0_2)) (ds:=[]) (fl 0 15) (by kernel_rfl) rfl rfl ⟨bc BK170.out 0,bc BK170.out 1,bc BK170.out 2,bc BK169.out 0,bc BK169.out 1,bc BK169.out 2⟩ (fun hHeld=>?_);refine with_tabW impl_holeErrors.tab1 impl_holeErrors.bits1 (fun HT_ HW_=>?_)
 generalize w5.drew=w6 at BK169 BK170 HB hHeld ⊢
 refine pu HT_.out 0 (some 5) (fl 1 15) (h:=?_)
 refine pu HT_.out 2 (some 7) #[true,false,true,false,false,false,false,false,false,false,false,false,false,false,false] (h:=?_)
 refine pu HT_.out 6 (some 11) #[true,false,true,false,false,false,true,false,false,false,false,false,false,false,false] (h:=?_)
 refine ta HT_.out HW_.out 1 (some 6) #[true,true,true,false,false,false,true,false,false,false,false,false,false,false,false] hHeld rfl (by rintro w' ⟨s0,s1,s2,s3,s4,s5⟩;go_simp;with_reducible rfl) (h:=?_)
 refine ta HT_.out HW_.out 3 (some 8) #[true,true,true,true,false,false,true,false,false,false,false,false,false,false,false] hHeld rfl (by rintro w' ⟨s0,s1,s2,s3,s4,s5⟩;go_simp;with_reducible rfl) (h:=?_)
 refine pu HT_.out 4 (some 9) #[true,true,true,true,true,false,true,false,false,false,false,false,false,false,false] (h:=?_)
 refine pu HT_.out 5 (some 10) (fl 7 15) (h:=?_)
 refine ta HT_.out HW_.out 7 (some 12) (fl 8 15) hHeld rfl (by rintro w' ⟨s0,s1,s2,s3,s4,s5⟩;go_simp;with_reducible rfl) (h:=?_)
 refine ta HT_.out HW_.out 8 (some 13) (fl 9 15) hHeld rfl (by rintro w' ⟨s0,s1,s2,s3,s4,s5⟩;go_simp;with_reducible rfl) (h:=?_)
 refine one_ (i:=9) (N:=some 14) (fl 10 15) rfl rfl (one_of HT_.out (by kernel_rfl)) (by decide) (fun K hK=>?_)
 refine goes_ Try.func41 (by kernel_rfl) rfl #[.agg #[.int .i64 a0_0,.int .i64 a0_1,.int .i64 a0_2]] (by rfl) rfl rfl tl ?_
 with_reducible refine(impl_noteEnd.calls a0_0 a0_1 a0_2 t171 _ A3.out).mono ?_
 rintro e w7 ⟨rfl,hb⟩
 refine⟨_,rfl,?_⟩
 replace BK169:=am (blk_below (bup BK169.out) hb)
 replace BK170:=am (blk_below (bup BK170.out) hb)
 replace HB:=am (below_step bl hb)
 (try clear hb)
 refine hK.out _ _ ⟨bc BK170.out 0,bc BK170.out 1,bc BK170.out 2,bc BK169.out 0,bc BK169.out 1,bc BK169.out 2⟩ (fun hHeld=>?_)
 clear hK K
 refine norm_ (a':=?_) ?_ ?_
 rotate_left
 ·show Act.put _ (some 14) _=_
  simp only[Act.put,List.setIfInBounds_toArray,List.set_cons_zero,List.set_cons_succ,i64_w,i32_w]
  rfl
 refine pu HT_.out 10 (some 15) (fl 11 15) (h:=?_)
 refine pu HT_.out 11 (some 16) (fl 12 15) (h:=?_)
 refine pu HT_.out 12 (some 17) (fl 13 15) (h:=?_)
 refine one_ (i:=13) (N:=some 18) (fl 14 15) rfl rfl (one_of HT_.out (by kernel_rfl)) (by decide) (fun K hK=>?_)
 refine Kd.R_lit_step (Kd.int .i64) _ 3 ?hg (N:=18) ?hd (xs:=([wrap64 (a1_1 - (wrap64 (2*a0_1))),wrap64 (a1_2 - (wrap64 ((wrap64 (2*t171)) - 1)))]:List Int)) (inner:=[.int .i64 (wrap64 (a1_1 - (wrap64 (2*a0_1)))),.int .i64 (wrap64 (a1_2 - (wrap64 ((wrap64 (2*t171)) - 1))))]) (ok:=fun _=>True) (okp:=fun _=>True) ?hr ?hp (fun _ hk=>hk) trivial (Below.refl _ _) (Nat.le_refl _) (by simp) ?_;(case hd=>rfl);(case hg=>rfl);(case hr=>first|(go_simp;done)|(go_simp;rfl));(case hp=>exact(Reps.one (show Kd.M (Kd.int .i64) _ _ _ (wrap64 (a1_1 - (wrap64 (2*a0_1)))) [.int .i64 (wrap64 (a1_1 - (wrap64 (2*a0_1))))] from rfl) (Reps.one (show Kd.M (Kd.int .i64) _ _ _ (wrap64 (a1_2 - (wrap64 ((wrap64 (2*t171)) - 1)))) [.int .i64 (wrap64 (a1_2 - (wrap64 ((wrap64 (2*t171)) - 1))))] from rfl) (Reps.none _ _))))
 intro v173 w8 ho9 hb hg_ hnew_
 clear hg_ hnew_
 (first|rw[← Ny172.out] at ho9|(simp only[Int.reduceToNat] at ho9;rw[← Ny172.out] at ho9))
 have HO174:=am (Kd.R_lower ho9 (below_size bl))
 replace BK169:=am (blk_below (bup BK169.out) hb)
 replace BK170:=am (blk_below (bup BK170.out) hb)
 replace HB:=am (below_step bl hb)
 clear hb ho9
 refine hK.out _ _ ⟨bc BK170.out 0,bc BK170.out 1,bc BK170.out 2,bc BK169.out 0,bc BK169.out 1,bc BK169.out 2⟩ (fun hHeld=>?_)
 clear hK K
 refine norm_ (a':=?_) ?_ ?_
 rotate_left
 ·show Act.put _ (some 18) _=_
  simp only[Act.put,List.setIfInBounds_toArray,List.set_cons_zero,List.set_cons_succ,i64_w,i32_w]
  rfl
 refine pu HT_.out 14 (some 4) (fl 15 15) (h:=?_)
 refine done_ (done_of HT_.out (by kernel_rfl)) ?_
 try go_wp2
 go_ret
 exact⟨_,fin1,by(with_reducible repeat(first|apply Kd.R_alloc|apply Kd.R_drewN|apply Kd.R_drew));exact HO174.out,bl⟩

def impl_distance.f (a0:Int) (a1:Int):Option (Int):=some (mx (wrap64 (a0 - a1)) (wrap64 (a1 - a0)))
set_option maxHeartbeats 8000000 in
set_option maxRecDepth 100000 in
theorem impl_distance.calls (a0:Int) (a1:Int) (r:Int) (w:World) (h:impl_distance.f a0 a1=some r) :
  Calls Try.prog 30 #[.int .i64 a0,.int .i64 a1] w fun e w'=>e = .returned (.int .i64 r)∧Below w.heap.size w w':=by
 have HB:=am (Below.refl w.heap.size w)
 have H:(some (mx (wrap64 (a0 - a1)) (wrap64 (a1 - a0))))=some r:=h
 clear h
 obtain⟨ji3,hji3⟩:∃ j_:Int,(mx (wrap64 (a0 - a1)) (wrap64 (a1 - a0)))=j_:=⟨_,rfl⟩
 replace H:(some ji3)=some r:=by first|(rw[hji3] at H;exact H)|(simp only[hji3] at H ⊢;exact H)
 have hji3_:(if(wrap64 (a0 - a1))<(wrap64 (a1 - a0)) then(wrap64 (a1 - a0)) else(wrap64 (a0 - a1)))=ji3:=hji3
 obtain rfl:=Option.some.inj H
 go_enter Try.func30,Try.ntmps30
 go_wp2
 go_ret
 exact⟨by first|rfl|(simp [errW_none,errW_some]<;>rfl)|(simp only[← hji3];first|rfl|(simp [errW_none,errW_some]<;>rfl))|(simp [*,errW_none,errW_some]<;>rfl),bl⟩

def cmp_isNaN_int.f (a0:Int):Option (Bool):=some (a0 != a0)
set_option maxHeartbeats 8000000 in
set_option maxRecDepth 100000 in
theorem cmp_isNaN_int.calls (a0:Int) (r:Bool) (w:World) (h:cmp_isNaN_int.f a0=some r) :
  Calls Try.prog 63 #[.int .i64 a0] w fun e w'=>e = .returned (.bool r)∧Drawn0 w w':=by
 have H:(some (a0 != a0))=some r:=h
 clear h
 obtain rfl:=Option.some.inj H
 go_enter Try.func63,Try.ntmps63
 go_wp2
 go_ret
 exact⟨by first|rfl|(simp;done)|(simp [*];done),by repeat(first|exact Drawn0.refl _|apply Drawn0.step)⟩

end Go.Proofs.Ytdcchnfndhkfaaa.PFnPassesPlays
