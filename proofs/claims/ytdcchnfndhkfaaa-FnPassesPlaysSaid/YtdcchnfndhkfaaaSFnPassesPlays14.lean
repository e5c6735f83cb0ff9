/- Walks of functions that FnPassesPlays reaches. No conditions beyond the arguments' being read. -/
import Derived.Test.YtdcchnfndhkfaaaSFnPassesPlays0
import Derived.Test.YtdcchnfndhkfaaaSFnPassesPlays13
namespace Go.Proofs.Ytdcchnfndhkfaaa.PFnPassesPlays
open Go.RowKit Go.Proofs.YtdcchnfndhkfaaaW.PrintWords Go.Proofs.YtdcchnfndhkfaaaW.PrintLast Go.Proofs.YtdcchnfndhkfaaaW.PrintMore
attribute [local go_sem] max2_int min2_int max_two min_two max_three min_three max_four min_four
set_option linter.unusedVariables false
set_option linter.unusedSimpArgs false

mutual
def spec_vfMatch.l0:Nat→List (S60)→List Bool→List Int→List (S35)→Int→Int→List Int→Int→Option (List Int×List Int)
 | 0,_,_,_,_,_,_,_,_=>none
 | k+1,x2,x8,x9,x21,x22,x23,x325000,x325001=>if x23<x22 then(if 0≤x23 then(if x23<(x21.length:Int) then(spec_vfMatch.l1 k x2 x8 x9 (-1) x21 x22 x23 x2 (x2.length:Int) 0 x325000 x325001 ((rd_T35 x21 x23).f0) ((rd_T35 x21 x23).f1) ((rd_T35 x21 x23).f2)) else(none)) else(none)) else(spec_vfMatch.l2 k x9 ([]:List Int) x8 (x8.length:Int) 0)
def spec_vfMatch.l1:Nat→List (S60)→List Bool→List Int→Int→List (S35)→Int→Int→List (S60)→Int→Int→List Int→Int→Int→Int→Int→Option (List Int×List Int)
 | 0,_,_,_,_,_,_,_,_,_,_,_,_,_,_,_=>none
 | k+1,x2,x8,x9,x12,x21,x22,x23,x27,x28,x29,x325000,x325001,x330000,x330001,x330002=>if x29<x28 then(if 0≤x29 then(if x29<(x27.length:Int) then(if x12<0 then(if x29<(x8.length:Int) then(if rdOf false x8 x29=true then(spec_vfMatch.l1 k x2 x8 x9 x12 x21 x22 x23 x27 x28 (wrap64 (x29+1)) x325000 x325001 x330000 x330001 x330002) else((spec_inTrack.f k x325000 x325001 x330000).bind fun t333=>(if((rd_T60 x27 x29).f0)=t333 then(spec_vfMatch.l1 k x2 x8 x9 x29 x21 x22 x23 x27 x28 (wrap64 (x29+1)) x325000 x325001 x330000 x330001 x330002) else(spec_vfMatch.l1 k x2 x8 x9 x12 x21 x22 x23 x27 x28 (wrap64 (x29+1)) x325000 x325001 x330000 x330001 x330002)))) else(none)) else(spec_vfMatch.l1 k x2 x8 x9 x12 x21 x22 x23 x27 x28 (wrap64 (x29+1)) x325000 x325001 x330000 x330001 x330002)) else(none)) else(none)) else(if x12≥0 then(if 0≤x12 then(if x12<(x8.length:Int) then(if x9.length<17592186044416 then(spec_vfMatch.l0 k x2 (x8.set (x12:Int).toNat true) (x9 ++ [x12]) x21 x22 (wrap64 (x23+1)) x325000 x325001) else(none)) else(none)) else(none)) else(if x9.length<17592186044416 then(spec_vfMatch.l0 k x2 x8 (x9 ++ [x12]) x21 x22 (wrap64 (x23+1)) x325000 x325001) else(none)))
def spec_vfMatch.l2:Nat→List Int→List Int→List Bool→Int→Int→Option (List Int×List Int)
 | 0,_,_,_,_,_=>none
 | k+1,x9,x15,x64,x65,x66=>if x66<x65 then(if 0≤x66 then(if x66<(x64.length:Int) then(if rdOf false x64 x66=true then(spec_vfMatch.l2 k x9 x15 x64 x65 (wrap64 (x66+1))) else(if x15.length<17592186044416 then(spec_vfMatch.l2 k x9 (x15 ++ [x66]) x64 x65 (wrap64 (x66+1))) else(none))) else(none)) else(none)) else(some (x9,x15))
end
def spec_vfMatch.f (k:Nat) (l0_0:List Int) (a0_1:Int) (l1:List (S35)) (l2:List (S60)):Option (List Int×List Int):=if 0≤(l2.length:Int) then(if((l2.length:Int):Int).toNat≤281474976710656 then(spec_vfMatch.l0 k l2 (List.replicate ((l2.length:Int):Int).toNat false) ([]:List Int) l1 (l1.length:Int) 0 l0_0 a0_1) else(none)) else(none)
def spec_vfMatch.T10:Bool×List (List Nat×List Nat):=(true,[([],[]),([0],[0]),([1],[1]),([2],[2]),([2],[2]),([3,4,2],[2,3,4]),([5,2],[2,5]),([6,2],[2,6]),([2,7],[2,7]),([8,2],[8]),([9],[9]),([10,9],[9,10]),([9],[9]),([9],[9]),([13,9],[9,13]),([12,14,9,9],[9,12,14]),([11,15,9],[9,11,15]),([9,16],[9,16])])
def spec_vfMatch.B10:List Nat:=[0,1,3,7,7,31,63,127,255,511,1023,2047,1023,1023,9215,29695,65535,131071]
theorem spec_vfMatch.tab10:rtab .any (opsOf Try.f21 10)=spec_vfMatch.T10:=by kernel_rfl
theorem spec_vfMatch.bits10:waitsOk spec_vfMatch.T10.2 spec_vfMatch.B10=true:=by kernel_rfl
set_option maxHeartbeats 8000000 in
set_option maxRecDepth 100000 in
theorem spec_vfMatch.calls (k:Nat) (A0_0:Option Addr) (c0_0:Nat) (l0_0:List Int) (a0_1:Int) (A1:Option Addr) (c1:Nat) (l1:List (S35)) (A2:Option Addr) (c2:Nat) (l2:List (S60)) (r1:List Int) (r2:List Int) (w:World) (hr0_0:Kd.C (Kd.int .i64) w A0_0 l0_0.length l0_0) (hc0_0:l0_0.length≤c0_0) (hr1:Kd.C k35 w A1 l1.length l1) (hc1:l1.length≤c1) (hr2:Kd.C k60 w A2 l2.length l2) (hc2:l2.length≤c2) (h:spec_vfMatch.f k l0_0 a0_1 l1 l2=some (r1,r2)) :
  Calls Try.prog 21 #[.agg #[.slice A0_0 l0_0.length c0_0,.int .i64 a0_1],.slice A1 l1.length c1,.slice A2 l2.length c2] w fun e w'=>∃ v0_ v1_:Value,e = .returned (.tuple #[v0_,v1_])∧Kd.R (Kd.int .i64) 3 w' w.heap.size (fun k_=>some k_≠(v1_:Value).ownBlock) v0_ r1∧Kd.R (Kd.int .i64) 3 w' w.heap.size (fun k_=>some k_≠(v0_:Value).ownBlock) v1_ r2∧Below w.heap.size w w':=by
 have hu24:=Try.underlying24
 have hu35:=Try.underlying35
 have hu60:=Try.underlying60
 have HR0_0:=am hr0_0
 have HC0_0:=am hc0_0
 clear hr0_0 hc0_0
 have HR1:=am hr1
 have HC1:=am hc1
 clear hr1 hc1
 have HR2:=am hr2
 have HC2:=am hc2
 clear hr2 hc2
 have HB:=am (Below.refl w.heap.size w)
 have H:(if 0≤(l2.length:Int) then(if((l2.length:Int):Int).toNat≤281474976710656 then(spec_vfMatch.l0 k l2 (List.replicate ((l2.length:Int):Int).toNat false) ([]:List Int) l1 (l1.length:Int) 0 l0_0 a0_1) else(none)) else(none))=some (r1,r2):=h
 clear h
 obtain⟨c4,H⟩:=ifp H
 have c4b0:=eq_true c4
 have c4b1:decide (0≤(l2.length:Int))=true:=decide_eq_true c4
 clear c4
 obtain⟨c5,H⟩:=ifp H
 have c5b0:=eq_true c5
 have c5b1:decide (((l2.length:Int):Int).toNat≤281474976710656)=true:=decide_eq_true c5
 clear c5
 obtain⟨y325,hy325⟩:∃ y_:List Bool,y_=(List.replicate ((l2.length:Int):Int).toNat false):=⟨_,rfl⟩
 replace H:(spec_vfMatch.l0 k l2 y325 ([]:List Int) l1 (l1.length:Int) 0 l0_0 a0_1)=some (r1,r2):=by subst hy325;exact H
 have Ny325:=am hy325
 clear hy325
 have H':=am H
 clear H
 go_enter Try.func21,Try.ntmps21
 go_wp2_with (first|((with_reducible refine gate_dst (N:=3) rfl ?_);refine box_event ?hg (N:=3) ?hd (cs := #[.slice A0_0 l0_0.length c0_0,.int .i64 a0_1]) (t:=24) ?hr ?_;(case hd=>rfl);(case hg=>rfl);(case hr=>first|(go_simp;done)|(go_simp;rfl));intro gb324 hg w6 hbox hb;have BK324:=am (hbox);have GW324:=am (ge_ bl hg);have GE324:=am (ge_ bl hg);replace HB:=am (below_step bl hb);clear hb hbox hg)|((with_reducible refine gate_dst (N:=20) rfl ?_);refine Kd.R_make Kd.bool _ 4 rfl (N:=20) rfl 49 _ _ rfl (l2.length:Int) rfl rfl Try.underlying49 (.bool false) 1 info4 rfl (by decide) (by omega) false (ok:=fun _=>True) (okp:=fun _=>True) rfl (fun _ hk=>hk) trivial (od) (Nat.le_trans (Nat.mul_le_mul_right _ (od:(l2.length:Int).toNat≤281474976710656)) (by omega)) (Below.refl _ _) (Nat.le_refl _) ?_;intro v326 w7 ho8 hb hg_ hnew_;clear hg_ hnew_;(first|rw[← Ny325.out] at ho8|(simp only[Int.reduceToNat] at ho8;rw[← Ny325.out] at ho8));have HO327:=am (Kd.R_lower ho8 (below_size bl));replace BK324:=am (blk_below (bup BK324.out) hb);replace HB:=am (below_step bl hb);clear hb ho8))
 go_loopg [9,23] k (fun kq v9 v23 w'=>∃(x8_1:List Bool) (x9_1:List Int) (x23_1:Int),v23 = .int .i64 x23_1∧Aside0 (spec_vfMatch.l0 kq l2 x8_1 x9_1 l1 (l1.length:Int) x23_1 l0_0 a0_1=some (r1,r2))∧Aside0 (kq≤k)∧Aside0 (Kd.R Kd.bool 4 w' w.heap.size (fun _=>True) v326 x8_1)∧Aside0 (Kd.R (Kd.int .i64) 3 w' w.heap.size (fun _=>True) v9 x9_1)∧Aside0 (w'.heap[gb324]?=some (.cells #[(.slice A0_0 l0_0.length c0_0),.int .i64 a0_1] 24 (0,0)))∧Aside0 (Below w.heap.size w w'))
 case atStart=>exact⟨(y325),(([]:List Int)),(0),fin2,H',⟨Nat.le_refl _⟩,⟨rup HO327.out⟩,⟨by first|exact Kd.R_nil _ _ _ _ _|exact Kd.N_nil _ _ _ _ _|exact Kd.V_nil _ _ _ _ _|exact Kd.Q_nil _ _ _ _ _|exact Kd.S_nil _ _ _ _ _⟩,⟨bup BK324.out⟩,⟨bl⟩⟩
 case round =>
  clear H'
  try clear c4b0
  try clear c4b1
  try clear c5b0
  try clear c5b1
  obtain⟨x8_1,x9_1,x23_1,rfl,HA,HK1,HO_8,HO_9,BK324,HB⟩:=hrel
  cases gk with
  | zero=>exact absurd HA.out (by simp [spec_vfMatch.l0])
  | succ k1 =>
   have H:=HA.out
   clear HA
   simp only[spec_vfMatch.l0] at H
   rcases itc H with⟨c9,H⟩|⟨c9,H⟩
   ·have c9b0:=decide_eq_true c9
    clear c9
    obtain⟨c10b0,H⟩:=ifb H
    obtain⟨c11b0,H⟩:=ifb H
    have H':=am H
    clear H
    have p328:0≤(x23_1:Int):=od
    have q328:x23_1<(l1.length:Int):=od
    obtain⟨ad328,e328,hx328_0,hx328_1,hx328_2⟩:=at_T35 HR1.out x23_1 p328 q328
    cases e328
    replace hx328_0:=(HB.out.cell (World.block_lt_of_cell? w _ hx328_0)).trans hx328_0
    replace hx328_1:=(HB.out.cell (World.block_lt_of_cell? w _ hx328_1)).trans hx328_1
    replace hx328_2:=(HB.out.cell (World.block_lt_of_cell? w _ hx328_2)).trans hx328_2
    replace p328:=eq_true p328
    replace q328:=eq_true q328
    go_wp2_with (first|((with_reducible refine gate_dst (N:=11) rfl ?_);refine box_event ?hg (N:=11) ?hd (cs := #[.int .i64 0,.int .i64 0,.int .i64 0]) (t:=35) ?hr ?_;(case hd=>rfl);(case hg=>rfl);(case hr=>first|(go_simp;done)|(go_simp;rfl));intro gb329 hg w12 hbox hb;replace HO_8:=am (Kd.R_below (rup HO_8.out) hb);replace HO_9:=am (Kd.R_below (rup HO_9.out) hb);have BK329:=am (hbox);have GW329:=am (ge_ bl hg);have GE329:=am (ge_ bl hg);replace HB:=am (below_step bl hb);have NB324_329:=am (nl (bup BK324.out) hg);have NB329_324:=am (ng (bup BK324.out) hg);replace BK324:=am (blk_below (bup BK324.out) hb);clear hb hbox hg;have hnb13:=NB329_324.out;have hnc13:=NB324_329.out;have hcz14_0:=bc BK329.out 0;have hcz14_1:=bc BK329.out 1;have hcz14_2:=bc BK329.out 2;have hfz14_0:=blk_frozen BK329.out 0;have hfz14_1:=blk_frozen BK329.out 1;have hfz14_2:=blk_frozen BK329.out 2))
    go_loopg [12,29] k1 (fun kq v12 v29 w'=>∃(x12_2:Int) (x29_2:Int),v12 = .int .i64 x12_2∧v29 = .int .i64 x29_2∧Aside0 (spec_vfMatch.l1 kq l2 x8_1 x9_1 x12_2 l1 (l1.length:Int) x23_1 l2 (l2.length:Int) x29_2 l0_0 a0_1 ((rd_T35 l1 x23_1).f0) ((rd_T35 l1 x23_1).f1) ((rd_T35 l1 x23_1).f2)=some (r1,r2))∧Aside0 (kq≤k1)∧Aside0 (Kd.R Kd.bool 4 w' w.heap.size (fun _=>True) v326 x8_1)∧Aside0 (Kd.R (Kd.int .i64) 3 w' w.heap.size (fun _=>True) u9 x9_1)∧Aside0 (w'.heap[gb324]?=some (.cells #[(.slice A0_0 l0_0.length c0_0),.int .i64 a0_1] 24 (0,0)))∧Aside0 (w'.heap[gb329]?=some (.cells #[.int .i64 ((rd_T35 l1 x23_1).f0),.int .i64 ((rd_T35 l1 x23_1).f1),.int .i64 ((rd_T35 l1 x23_1).f2)] 35 (0,0)))∧Aside0 (Below w.heap.size w w'))
    case atStart=>exact⟨((-1)),(0),fin2,fin2,H',⟨Nat.le_refl _⟩,⟨rup (Kd.R_mono (Kd.R_far (p:=⟨gb329,2,none⟩) (Kd.R_far (p:=⟨gb329,1,none⟩) (Kd.R_far (p:=⟨gb329,0,none⟩) (Kd.R_types HO_8.out BK329.out (by decide)) (fun _ hk=>hk.2) (.int .i64 ((rd_T35 l1 x23_1).f0))) (fun _ hk=>hk.2) (.int .i64 ((rd_T35 l1 x23_1).f1))) (fun _ hk=>hk.2) (.int .i64 ((rd_T35 l1 x23_1).f2))) (fun _ hk=>trivial))⟩,⟨rup (Kd.R_mono (Kd.R_far (p:=⟨gb329,2,none⟩) (Kd.R_far (p:=⟨gb329,1,none⟩) (Kd.R_far (p:=⟨gb329,0,none⟩) (Kd.R_types HO_9.out BK329.out (by decide)) (fun _ hk=>hk.2) (.int .i64 ((rd_T35 l1 x23_1).f0))) (fun _ hk=>hk.2) (.int .i64 ((rd_T35 l1 x23_1).f1))) (fun _ hk=>hk.2) (.int .i64 ((rd_T35 l1 x23_1).f2))) (fun _ hk=>trivial))⟩,⟨by(with_reducible repeat(first|refine bN_ ?_ _|refine bD_ ?_|refine bA_ ?_ _));refine blk_far ?_ NB324_329.out _;(with_reducible repeat(first|refine bN_ ?_ _|refine bD_ ?_|refine bA_ ?_ _));refine blk_far ?_ NB324_329.out _;(with_reducible repeat(first|refine bN_ ?_ _|refine bD_ ?_|refine bA_ ?_ _));refine blk_far ?_ NB324_329.out _;exact bup BK324.out⟩,⟨by(with_reducible repeat(first|refine bN_ ?_ _|refine bD_ ?_|refine bA_ ?_ _));refine blk_put (cs := #[.int .i64 ((rd_T35 l1 x23_1).f0),.int .i64 ((rd_T35 l1 x23_1).f1),.int .i64 0]) ?_ 2 _ rfl;(with_reducible repeat(first|refine bN_ ?_ _|refine bD_ ?_|refine bA_ ?_ _));refine blk_put (cs := #[.int .i64 ((rd_T35 l1 x23_1).f0),.int .i64 0,.int .i64 0]) ?_ 1 _ rfl;(with_reducible repeat(first|refine bN_ ?_ _|refine bD_ ?_|refine bA_ ?_ _));refine blk_put (cs := #[.int .i64 0,.int .i64 0,.int .i64 0]) ?_ 0 _ rfl;exact bup BK329.out⟩,⟨bl⟩⟩
    case round =>
     clear H'
     try clear c9b0
     try clear c10b0
     try clear c11b0
     try clear hcz14_0
     try clear hcz14_1
     try clear hcz14_2
     try clear hfz14_0
     try clear hfz14_1
     try clear hfz14_2
     try clear hx328_0
     try clear hx328_1
     try clear hx328_2
     try clear p328
     try clear q328
     obtain⟨x12_2,x29_2,rfl,rfl,HA,HK2,HO_8,HO_9,BK324,BK329,HB⟩:=hrel
     cases gk with
     | zero=>exact absurd HA.out (by simp [spec_vfMatch.l1])
     | succ k2 =>
      have H:=HA.out
      clear HA
      simp only[spec_vfMatch.l1] at H
      rcases itc H with⟨c15,H⟩|⟨c15,H⟩
      ·have c15b0:=decide_eq_true c15
       clear c15
       obtain⟨c16b0,H⟩:=ifb H
       obtain⟨c17b0,H⟩:=ifb H
       rcases itc H with⟨c18,H⟩|⟨c18,H⟩
       ·have c18b0:=decide_eq_true c18
        clear c18
        obtain⟨c19b0,H⟩:=ifb H
        obtain⟨bq20,hbq20⟩:∃ b_:Bool,b_=(rdOf false x8_1 x29_2):=⟨_,rfl⟩
        replace H:(if bq20=true then(spec_vfMatch.l1 k2 l2 x8_1 x9_1 x12_2 l1 (l1.length:Int) x23_1 l2 (l2.length:Int) (wrap64 (x29_2+1)) l0_0 a0_1 ((rd_T35 l1 x23_1).f0) ((rd_T35 l1 x23_1).f1) ((rd_T35 l1 x23_1).f2)) else((spec_inTrack.f k2 l0_0 a0_1 ((rd_T35 l1 x23_1).f0)).bind fun t333=>(if((rd_T60 l2 x29_2).f0)=t333 then(spec_vfMatch.l1 k2 l2 x8_1 x9_1 x29_2 l1 (l1.length:Int) x23_1 l2 (l2.length:Int) (wrap64 (x29_2+1)) l0_0 a0_1 ((rd_T35 l1 x23_1).f0) ((rd_T35 l1 x23_1).f1) ((rd_T35 l1 x23_1).f2)) else(spec_vfMatch.l1 k2 l2 x8_1 x9_1 x12_2 l1 (l1.length:Int) x23_1 l2 (l2.length:Int) (wrap64 (x29_2+1)) l0_0 a0_1 ((rd_T35 l1 x23_1).f0) ((rd_T35 l1 x23_1).f1) ((rd_T35 l1 x23_1).f2)))))=some (r1,r2):=by rw[← hbq20] at H;exact H
        have Nbq20:=am hbq20
        clear hbq20
        by_cases c21:bq20=true
        ·subst c21
         replace H:=(if_pos rfl).symm.trans H
         have H':=am H
         clear H
         have p330:0≤(x29_2:Int):=od
         have q330:x29_2<(l2.length:Int):=od
         obtain⟨ad330,e330,hx330_0,hx330_1,hx330_2⟩:=at_T60 HR2.out x29_2 p330 q330
         cases e330
         replace hx330_0:=(HB.out.cell (World.block_lt_of_cell? w _ hx330_0)).trans hx330_0
         replace hx330_1:=(HB.out.cell (World.block_lt_of_cell? w _ hx330_1)).trans hx330_1
         replace hx330_2:=(HB.out.cell (World.block_lt_of_cell? w _ hx330_2)).trans hx330_2
         replace p330:=eq_true p330
         replace q330:=eq_true q330
         try go_wp2_with (first|((with_reducible refine gate_dst (N:=14) rfl ?_);refine box_event ?hg (N:=14) ?hd (cs := #[.int .i64 0,.int .i64 0,.int .i64 0]) (t:=60) ?hr ?_;(case hd=>rfl);(case hg=>rfl);(case hr=>first|(go_simp;done)|(go_simp;rfl));intro gb331 hg w22 hbox hb;replace HO_8:=am (Kd.R_below (rup HO_8.out) hb);replace HO_9:=am (Kd.R_below (rup HO_9.out) hb);have BK331:=am (hbox);have GW331:=am (ge_ bl hg);have GE331:=am (ge_ bl hg);replace HB:=am (below_step bl hb);have NB324_331:=am (nl (bup BK324.out) hg);have NB331_324:=am (ng (bup BK324.out) hg);replace BK324:=am (blk_below (bup BK324.out) hb);have NB329_331:=am (nl (bup BK329.out) hg);have NB331_329:=am (ng (bup BK329.out) hg);replace BK329:=am (blk_below (bup BK329.out) hb);clear hb hbox hg;have hnb23:=NB331_324.out;have hnc23:=NB324_331.out;have hnb24:=NB331_329.out;have hnc24:=NB329_331.out;have hcz25_0:=bc BK331.out 0;have hcz25_1:=bc BK331.out 1;have hcz25_2:=bc BK331.out 2;have hfz25_0:=blk_frozen BK331.out 0;have hfz25_1:=blk_frozen BK331.out 1;have hfz25_2:=blk_frozen BK331.out 2))
         have n0_:Aside0 (Kd.R Kd.bool 4 (((w22.setCell ⟨gb331,0,none⟩ (.int .i64 ((rd_T60 l2 x29_2).f0))).setCell ⟨gb331,1,none⟩ (.int .i64 ((rd_T60 l2 x29_2).f1))).setCell ⟨gb331,2,none⟩ (.int .i64 ((rd_T60 l2 x29_2).f2))) w.heap.size (fun _=>True) v326 x8_1):=⟨rup (Kd.R_mono (Kd.R_far (p:=⟨gb331,2,none⟩) (Kd.R_far (p:=⟨gb331,1,none⟩) (Kd.R_far (p:=⟨gb331,0,none⟩) (Kd.R_types HO_8.out BK331.out (by decide)) (fun _ hk=>hk.2) (.int .i64 ((rd_T60 l2 x29_2).f0))) (fun _ hk=>hk.2) (.int .i64 ((rd_T60 l2 x29_2).f1))) (fun _ hk=>hk.2) (.int .i64 ((rd_T60 l2 x29_2).f2))) (fun _ hk=>trivial))⟩
         have n1_:Aside0 (Kd.R (Kd.int .i64) 3 (((w22.setCell ⟨gb331,0,none⟩ (.int .i64 ((rd_T60 l2 x29_2).f0))).setCell ⟨gb331,1,none⟩ (.int .i64 ((rd_T60 l2 x29_2).f1))).setCell ⟨gb331,2,none⟩ (.int .i64 ((rd_T60 l2 x29_2).f2))) w.heap.size (fun _=>True) u9 x9_1):=⟨rup (Kd.R_mono (Kd.R_far (p:=⟨gb331,2,none⟩) (Kd.R_far (p:=⟨gb331,1,none⟩) (Kd.R_far (p:=⟨gb331,0,none⟩) (Kd.R_types HO_9.out BK331.out (by decide)) (fun _ hk=>hk.2) (.int .i64 ((rd_T60 l2 x29_2).f0))) (fun _ hk=>hk.2) (.int .i64 ((rd_T60 l2 x29_2).f1))) (fun _ hk=>hk.2) (.int .i64 ((rd_T60 l2 x29_2).f2))) (fun _ hk=>trivial))⟩
         have n2_:Aside0 ((((w22.setCell ⟨gb331,0,none⟩ (.int .i64 ((rd_T60 l2 x29_2).f0))).setCell ⟨gb331,1,none⟩ (.int .i64 ((rd_T60 l2 x29_2).f1))).setCell ⟨gb331,2,none⟩ (.int .i64 ((rd_T60 l2 x29_2).f2))).heap[gb324]?=some (.cells #[.slice A0_0 l0_0.length c0_0,.int .i64 a0_1] 24 (0,0))):=⟨by(with_reducible repeat(first|refine bN_ ?_ _|refine bD_ ?_|refine bA_ ?_ _));refine blk_far ?_ NB324_331.out _;(with_reducible repeat(first|refine bN_ ?_ _|refine bD_ ?_|refine bA_ ?_ _));refine blk_far ?_ NB324_331.out _;(with_reducible repeat(first|refine bN_ ?_ _|refine bD_ ?_|refine bA_ ?_ _));refine blk_far ?_ NB324_331.out _;exact bup BK324.out⟩
         have n3_:Aside0 ((((w22.setCell ⟨gb331,0,none⟩ (.int .i64 ((rd_T60 l2 x29_2).f0))).setCell ⟨gb331,1,none⟩ (.int .i64 ((rd_T60 l2 x29_2).f1))).setCell ⟨gb331,2,none⟩ (.int .i64 ((rd_T60 l2 x29_2).f2))).heap[gb329]?=some (.cells #[.int .i64 ((rd_T35 l1 x23_1).f0),.int .i64 ((rd_T35 l1 x23_1).f1),.int .i64 ((rd_T35 l1 x23_1).f2)] 35 (0,0))):=⟨by(with_reducible repeat(first|refine bN_ ?_ _|refine bD_ ?_|refine bA_ ?_ _));refine blk_far ?_ NB329_331.out _;(with_reducible repeat(first|refine bN_ ?_ _|refine bD_ ?_|refine bA_ ?_ _));refine blk_far ?_ NB329_331.out _;(with_reducible repeat(first|refine bN_ ?_ _|refine bD_ ?_|refine bA_ ?_ _));refine blk_far ?_ NB329_331.out _;exact bup BK329.out⟩
         have n4_:Aside0 ((((w22.setCell ⟨gb331,0,none⟩ (.int .i64 ((rd_T60 l2 x29_2).f0))).setCell ⟨gb331,1,none⟩ (.int .i64 ((rd_T60 l2 x29_2).f1))).setCell ⟨gb331,2,none⟩ (.int .i64 ((rd_T60 l2 x29_2).f2))).heap[gb331]?=some (.cells #[.int .i64 ((rd_T60 l2 x29_2).f0),.int .i64 ((rd_T60 l2 x29_2).f1),.int .i64 ((rd_T60 l2 x29_2).f2)] 60 (0,0))):=⟨by(with_reducible repeat(first|refine bN_ ?_ _|refine bD_ ?_|refine bA_ ?_ _));refine blk_put (cs := #[.int .i64 ((rd_T60 l2 x29_2).f0),.int .i64 ((rd_T60 l2 x29_2).f1),.int .i64 0]) ?_ 2 _ rfl;(with_reducible repeat(first|refine bN_ ?_ _|refine bD_ ?_|refine bA_ ?_ _));refine blk_put (cs := #[.int .i64 ((rd_T60 l2 x29_2).f0),.int .i64 0,.int .i64 0]) ?_ 1 _ rfl;(with_reducible repeat(first|refine bN_ ?_ _|refine bD_ ?_|refine bA_ ?_ _));refine blk_put (cs := #[.int .i64 0,.int .i64 0,.int .i64 0]) ?_ 0 _ rfl;exact bup BK331.out⟩
         have n5_:Aside0 (Below w.heap.size w (((w22.setCell ⟨gb331,0,none⟩ (.int .i64 ((rd_T60 l2 x29_2).f0))).setCell ⟨gb331,1,none⟩ (.int .i64 ((rd_T60 l2 x29_2).f1))).setCell ⟨gb331,2,none⟩ (.int .i64 ((rd_T60 l2 x29_2).f2)))):=⟨bl⟩
         (try clear HO_8)
         (try clear HO_9)
         (try clear BK324)
         (try clear BK329)
         (try clear BK331)
         generalize (((w22.setCell ⟨gb331,0,none⟩ (.int .i64 ((rd_T60 l2 x29_2).f0))).setCell ⟨gb331,1,none⟩ (.int .i64 ((rd_T60 l2 x29_2).f1))).setCell ⟨gb331,2,none⟩ (.int .i64 ((rd_T60 l2 x29_2).f2)))=w26 at n0_ n1_ n2_ n3_ n4_ n5_ ⊢
         have HO_8:=n0_
         have HO_9:=n1_
         have BK324:=n2_
         have BK329:=n3_
         have BK331:=n4_
         have HB:=n5_
         clear n0_ n1_ n2_ n3_ n4_ n5_
         replace HO_8:=am (Kd.R_drew HO_8.out)
         replace HO_9:=am (Kd.R_drew HO_9.out)
         replace BK324:=am (bD_ BK324.out)
         replace BK329:=am (bD_ BK329.out)
         replace BK331:=am (bD_ BK331.out)
         replace HB:=am (below_drew1 HB.out)
         obtain⟨Ao28,co28,eo28⟩:=Kd.R_slice HO_8.out
         (first|subst eo28|(injection eo28 with f1_ f2_ f3_;have f4_:=f1_.symm;have f5_:=f3_.symm;clear f1_ f2_ f3_;subst f4_;subst f5_))
         have p332:0≤(x29_2:Int):=od
         have q332:x29_2<(x8_1.length:Int):=od
         obtain⟨ad332,e332,hx332_0⟩:=Kd.at_bool (Kd.R_reads' HO_8.out).2.2 x29_2 p332 q332
         (try rw[← Nbq20.out] at hx332_0)
         cases e332
         replace p332:=eq_true p332
         replace q332:=eq_true q332
         refine start_ (n:=18) (S:=fun w'=>w'.cell? (ad332.add (x29_2).toNat)=some (.bool true)) (ds:=[]) (fl 0 18) (by kernel_rfl) rfl rfl (hx332_0) (fun hHeld=>?_);refine with_tabW spec_vfMatch.tab10 spec_vfMatch.bits10 (fun HT_ HW_=>?_)
         generalize w26.drew=w27 at HO_8 HO_9 BK324 BK329 BK331 HB hx332_0 hHeld ⊢
         refine pu HT_.out 0 (some 34) (fl 1 18) (h:=?_)
         refine pu HT_.out 1 (some 35) (fl 2 18) (h:=?_)
         refine pu HT_.out 2 (some 36) (fl 3 18) (h:=?_)
         refine pu HT_.out 3 (some 37) (fl 4 18) (h:=?_)
         refine pu HT_.out 4 (some 38) (fl 5 18) (h:=?_)
         refine pu HT_.out 5 (some 39) (fl 6 18) (h:=?_)
         refine take_ (i:=6) (N:=some 40) (v:=?_) (a':=?_) (fl 7 18) rfl rfl (take_ofW HT_.out HW_.out (by kernel_rfl)) (fun _ _ _ h=>h) (Or.inl ⟨by rfl,?_⟩) hHeld ?_ ?_
         rotate_left
         ·intro w' s0
          go_simp
          with_reducible rfl
         rotate_left
         ·simp only[Act.put,List.setIfInBounds_toArray,List.set_cons_zero,List.set_cons_succ,i64_w,i32_w]
          rfl
         refine pu HT_.out 7 (some 41) (fl 8 18) (h:=?_)
         refine pu HT_.out 8 (some 42) (fl 9 18) (h:=?_)
         refine pu HT_.out 9 (some 43) (fl 10 18) (h:=?_)
         refine pz HT_.out 10 (some 44) (fl 11 18) (h:=?_)
         refine pz HT_.out 11 (some 45) (fl 12 18) (h:=?_)
         refine pz HT_.out 12 (some 46) (fl 13 18) (h:=?_)
         refine pz HT_.out 13 (some 47) (fl 14 18) (h:=?_)
         refine pz HT_.out 14 (some 48) (fl 15 18) (h:=?_)
         refine pz HT_.out 15 (some 49) (fl 16 18) (h:=?_)
         refine pz HT_.out 16 (some 50) (fl 17 18) (h:=?_)
         refine pu HT_.out 17 (some 51) (fl 18 18) (h:=?_)
         refine done_ (done_of HT_.out (by kernel_rfl)) ?_
         try go_wp2
         go_roundg k2
         case measure=>have:=HK1.out;have:=HK2.out;omega
         case rel=>exact⟨(x12_2),(wrap64 (x29_2+1)),fin2,fin2,H',⟨by have:=HK1.out;have:=HK2.out;omega⟩,⟨rup HO_8.out⟩,⟨rup HO_9.out⟩,⟨bup BK324.out⟩,⟨bup BK329.out⟩,⟨bl⟩⟩
        ·replace c21:=Bool.eq_false_iff.mpr c21
         subst c21
         replace H:=(if_neg Bool.false_ne_true).symm.trans H
         replace H:=Option.bind_eq_some_iff.mp H
         obtain⟨t333,A290,H⟩:=H
         replace H:(if((rd_T60 l2 x29_2).f0)=t333 then(spec_vfMatch.l1 k2 l2 x8_1 x9_1 x29_2 l1 (l1.length:Int) x23_1 l2 (l2.length:Int) (wrap64 (x29_2+1)) l0_0 a0_1 ((rd_T35 l1 x23_1).f0) ((rd_T35 l1 x23_1).f1) ((rd_T35 l1 x23_1).f2)) else(spec_vfMatch.l1 k2 l2 x8_1 x9_1 x12_2 l1 (l1.length:Int) x23_1 l2 (l2.length:Int) (wrap64 (x29_2+1)) l0_0 a0_1 ((rd_T35 l1 x23_1).f0) ((rd_T35 l1 x23_1).f1) ((rd_T35 l1 x23_1).f2)))=some (r1,r2):=H
         have A29:=am A290
         clear A290
         rcases itc H with⟨c30,H⟩|⟨c30,H⟩
         ·have c30b0:(((rd_T60 l2 x29_2).f0) == t333)=true:=beq_iff_eq.mpr c30
          have c30b1:(((rd_T60 l2 x29_2).f0) != t333)=false:=bne_eq_false_iff_eq.mpr c30
          clear c30
          have H':=am H
          clear H
          have p330:0≤(x29_2:Int):=od
          have q330:x29_2<(l2.length:Int):=od
          obtain⟨ad330,e330,hx330_0,hx330_1,hx330_2⟩:=at_T60 HR2.out x29_2 p330 q330
          cases e330
          replace hx330_0:=(HB.out.cell (World.block_lt_of_cell? w _ hx330_0)).trans hx330_0
          replace hx330_1:=(HB.out.cell (World.block_lt_of_cell? w _ hx330_1)).trans hx330_1
          replace hx330_2:=(HB.out.cell (World.block_lt_of_cell? w _ hx330_2)).trans hx330_2
          replace p330:=eq_true p330
          replace q330:=eq_true q330
          try go_wp2_with (first|((with_reducible refine gate_dst (N:=14) rfl ?_);refine box_event ?hg (N:=14) ?hd (cs := #[.int .i64 0,.int .i64 0,.int .i64 0]) (t:=60) ?hr ?_;(case hd=>rfl);(case hg=>rfl);(case hr=>first|(go_simp;done)|(go_simp;rfl));intro gb331 hg w31 hbox hb;replace HO_8:=am (Kd.R_below (rup HO_8.out) hb);replace HO_9:=am (Kd.R_below (rup HO_9.out) hb);have BK331:=am (hbox);have GW331:=am (ge_ bl hg);have GE331:=am (ge_ bl hg);replace HB:=am (below_step bl hb);have NB324_331:=am (nl (bup BK324.out) hg);have NB331_324:=am (ng (bup BK324.out) hg);replace BK324:=am (blk_below (bup BK324.out) hb);have NB329_331:=am (nl (bup BK329.out) hg);have NB331_329:=am (ng (bup BK329.out) hg);replace BK329:=am (blk_below (bup BK329.out) hb);clear hb hbox hg;have hnb32:=NB331_324.out;have hnc32:=NB324_331.out;have hnb33:=NB331_329.out;have hnc33:=NB329_331.out;have hcz34_0:=bc BK331.out 0;have hcz34_1:=bc BK331.out 1;have hcz34_2:=bc BK331.out 2;have hfz34_0:=blk_frozen BK331.out 0;have hfz34_1:=blk_frozen BK331.out 1;have hfz34_2:=blk_frozen BK331.out 2))
          have n0_:Aside0 (Kd.R Kd.bool 4 (((w31.setCell ⟨gb331,0,none⟩ (.int .i64 ((rd_T60 l2 x29_2).f0))).setCell ⟨gb331,1,none⟩ (.int .i64 ((rd_T60 l2 x29_2).f1))).setCell ⟨gb331,2,none⟩ (.int .i64 ((rd_T60 l2 x29_2).f2))) w.heap.size (fun _=>True) v326 x8_1):=⟨rup (Kd.R_mono (Kd.R_far (p:=⟨gb331,2,none⟩) (Kd.R_far (p:=⟨gb331,1,none⟩) (Kd.R_far (p:=⟨gb331,0,none⟩) (Kd.R_types HO_8.out BK331.out (by decide)) (fun _ hk=>hk.2) (.int .i64 ((rd_T60 l2 x29_2).f0))) (fun _ hk=>hk.2) (.int .i64 ((rd_T60 l2 x29_2).f1))) (fun _ hk=>hk.2) (.int .i64 ((rd_T60 l2 x29_2).f2))) (fun _ hk=>trivial))⟩
          have n1_:Aside0 (Kd.R (Kd.int .i64) 3 (((w31.setCell ⟨gb331,0,none⟩ (.int .i64 ((rd_T60 l2 x29_2).f0))).setCell ⟨gb331,1,none⟩ (.int .i64 ((rd_T60 l2 x29_2).f1))).setCell ⟨gb331,2,none⟩ (.int .i64 ((rd_T60 l2 x29_2).f2))) w.heap.size (fun _=>True) u9 x9_1):=⟨rup (Kd.R_mono (Kd.R_far (p:=⟨gb331,2,none⟩) (Kd.R_far (p:=⟨gb331,1,none⟩) (Kd.R_far (p:=⟨gb331,0,none⟩) (Kd.R_types HO_9.out BK331.out (by decide)) (fun _ hk=>hk.2) (.int .i64 ((rd_T60 l2 x29_2).f0))) (fun _ hk=>hk.2) (.int .i64 ((rd_T60 l2 x29_2).f1))) (fun _ hk=>hk.2) (.int .i64 ((rd_T60 l2 x29_2).f2))) (fun _ hk=>trivial))⟩
          have n2_:Aside0 ((((w31.setCell ⟨gb331,0,none⟩ (.int .i64 ((rd_T60 l2 x29_2).f0))).setCell ⟨gb331,1,none⟩ (.int .i64 ((rd_T60 l2 x29_2).f1))).setCell ⟨gb331,2,none⟩ (.int .i64 ((rd_T60 l2 x29_2).f2))).heap[gb324]?=some (.cells #[.slice A0_0 l0_0.length c0_0,.int .i64 a0_1] 24 (0,0))):=⟨by(with_reducible repeat(first|refine bN_ ?_ _|refine bD_ ?_|refine bA_ ?_ _));refine blk_far ?_ NB324_331.out _;(with_reducible repeat(first|refine bN_ ?_ _|refine bD_ ?_|refine bA_ ?_ _));refine blk_far ?_ NB324_331.out _;(with_reducible repeat(first|refine bN_ ?_ _|refine bD_ ?_|refine bA_ ?_ _));refine blk_far ?_ NB324_331.out _;exact bup BK324.out⟩
          have n3_:Aside0 ((((w31.setCell ⟨gb331,0,none⟩ (.int .i64 ((rd_T60 l2 x29_2).f0))).setCell ⟨gb331,1,none⟩ (.int .i64 ((rd_T60 l2 x29_2).f1))).setCell ⟨gb331,2,none⟩ (.int .i64 ((rd_T60 l2 x29_2).f2))).heap[gb329]?=some (.cells #[.int .i64 ((rd_T35 l1 x23_1).f0),.int .i64 ((rd_T35 l1 x23_1).f1),.int .i64 ((rd_T35 l1 x23_1).f2)] 35 (0,0))):=⟨by(with_reducible repeat(first|refine bN_ ?_ _|refine bD_ ?_|refine bA_ ?_ _));refine blk_far ?_ NB329_331.out _;(with_reducible repeat(first|refine bN_ ?_ _|refine bD_ ?_|refine bA_ ?_ _));refine blk_far ?_ NB329_331.out _;(with_reducible repeat(first|refine bN_ ?_ _|refine bD_ ?_|refine bA_ ?_ _));refine blk_far ?_ NB329_331.out _;exact bup BK329.out⟩
          have n4_:Aside0 ((((w31.setCell ⟨gb331,0,none⟩ (.int .i64 ((rd_T60 l2 x29_2).f0))).setCell ⟨gb331,1,none⟩ (.int .i64 ((rd_T60 l2 x29_2).f1))).setCell ⟨gb331,2,none⟩ (.int .i64 ((rd_T60 l2 x29_2).f2))).heap[gb331]?=some (.cells #[.int .i64 ((rd_T60 l2 x29_2).f0),.int .i64 ((rd_T60 l2 x29_2).f1),.int .i64 ((rd_T60 l2 x29_2).f2)] 60 (0,0))):=⟨by(with_reducible repeat(first|refine bN_ ?_ _|refine bD_ ?_|refine bA_ ?_ _));refine blk_put (cs := #[.int .i64 ((rd_T60 l2 x29_2).f0),.int .i64 ((rd_T60 l2 x29_2).f1),.int .i64 0]) ?_ 2 _ rfl;(with_reducible repeat(first|refine bN_ ?_ _|refine bD_ ?_|refine bA_ ?_ _));refine blk_put (cs := #[.int .i64 ((rd_T60 l2 x29_2).f0),.int .i64 0,.int .i64 0]) ?_ 1 _ rfl;(with_reducible repeat(first|refine bN_ ?_ _|refine bD_ ?_|refine bA_ ?_ _));refine blk_put (cs := #[.int .i64 0,.int .i64 0,.int .i64 0]) ?_ 0 _ rfl;exact bup BK331.out⟩
          have n5_:Aside0 (Below w.heap.size w (((w31.setCell ⟨gb331,0,none⟩ (.int .i64 ((rd_T60 l2 x29_2).f0))).setCell ⟨gb331,1,none⟩ (.int .i64 ((rd_T60 l2 x29_2).f1))).setCell ⟨gb331,2,none⟩ (.int .i64 ((rd_T60 l2 x29_2).f2)))):=⟨bl⟩
          (try clear HO_8)
          (try clear HO_9)
          (try clear BK324)
          (try clear BK329)
          (try clear BK331)
          generalize (((w31.setCell ⟨gb331,0,none⟩ (.int .i64 ((rd_T60 l2 x29_2).f0))).setCell ⟨gb331,1,none⟩ (.int .i64 ((rd_T60 l2 x29_2).f1))).setCell ⟨gb331,2,none⟩ (.int .i64 ((rd_T60 l2 x29_2).f2)))=w35 at n0_ n1_ n2_ n3_ n4_ n5_ ⊢
          have HO_8:=n0_
          have HO_9:=n1_
          have BK324:=n2_
          have BK329:=n3_
          have BK331:=n4_
          have HB:=n5_
          clear n0_ n1_ n2_ n3_ n4_ n5_
          replace HO_8:=am (Kd.R_drew HO_8.out)
          replace HO_9:=am (Kd.R_drew HO_9.out)
          replace BK324:=am (bD_ BK324.out)
          replace BK329:=am (bD_ BK329.out)
          replace BK331:=am (bD_ BK331.out)
          replace HB:=am (below_drew1 HB.out)
          obtain⟨Ao37,co37,eo37⟩:=Kd.R_slice HO_8.out
          (first|subst eo37|(injection eo37 with f1_ f2_ f3_;have f4_:=f1_.symm;have f5_:=f3_.symm;clear f1_ f2_ f3_;subst f4_;subst f5_))
          have p332:0≤(x29_2:Int):=od
          have q332:x29_2<(x8_1.length:Int):=od
          obtain⟨ad332,e332,hx332_0⟩:=Kd.at_bool (Kd.R_reads' HO_8.out).2.2 x29_2 p332 q332
          (try rw[← Nbq20.out] at hx332_0)
          cases e332
          replace p332:=eq_true p332
          replace q332:=eq_true q332
          refine start_ (n:=18) (S:=fun w'=>w'.cell? ⟨gb331,0,none⟩=some (.int .i64 ((rd_T60 l2 x29_2).f0))∧w'.cell? ⟨gb331,1,none⟩=some (.int .i64 ((rd_T60 l2 x29_2).f1))∧w'.cell? ⟨gb331,2,none⟩=some (.int .i64 ((rd_T60 l2 x29_2).f2))∧w'.cell? ⟨gb324,0,none⟩=some (.slice A0_0 l0_0.length c0_0)∧w'.cell? ⟨gb324,1,none⟩=some (.int .i64 a0_1)∧w'.cell? ⟨gb329,0,none⟩=some (.int .i64 ((rd_T35 l1 x23_1).f0))∧w'.cell? ⟨gb329,1,none⟩=some (.int .i64 ((rd_T35 l1 x23_1).f1))∧w'.cell? ⟨gb329,2,none⟩=some (.int .i64 ((rd_T35 l1 x23_1).f2))∧w'.cell? (ad332.add (x29_2).toNat)=some (.bool false)) (ds:=[]) (fl 0 18) (by kernel_rfl) rfl rfl ⟨bc BK331.out 0,bc BK331.out 1,bc BK331.out 2,bc BK324.out 0,bc BK324.out 1,bc BK329.out 0,bc BK329.out 1,bc BK329.out 2,hx332_0⟩ (fun hHeld=>?_);refine with_tabW spec_vfMatch.tab10 spec_vfMatch.bits10 (fun HT_ HW_=>?_)
          generalize w35.drew=w36 at HO_8 HO_9 BK324 BK329 BK331 HB hx332_0 hHeld ⊢
          refine pu HT_.out 0 (some 34) (fl 1 18) (h:=?_)
          refine pu HT_.out 1 (some 35) (fl 2 18) (h:=?_)
          refine pu HT_.out 2 (some 36) (fl 3 18) (h:=?_)
          refine pu HT_.out 3 (some 37) (fl 4 18) (h:=?_)
          refine pu HT_.out 4 (some 38) (fl 5 18) (h:=?_)
          refine pu HT_.out 5 (some 39) (fl 6 18) (h:=?_)
          refine ta HT_.out HW_.out 6 (some 40) (fl 7 18) hHeld rfl (by rintro w' ⟨s0,s1,s2,s3,s4,s5,s6,s7,s8⟩;go_simp;with_reducible rfl) (h:=?_)
          refine pu HT_.out 7 (some 41) (fl 8 18) (h:=?_)
          refine pu HT_.out 8 (some 42) (fl 9 18) (h:=?_)
          refine pu HT_.out 9 (some 43) (fl 10 18) (h:=?_)
          refine pu HT_.out 10 (some 44) (fl 11 18) (h:=?_)
          refine pu HT_.out 13 (some 47) #[true,true,true,true,true,true,true,true,true,true,true,false,false,true,false,false,false,false] (h:=?_)
          refine ta HT_.out HW_.out 11 (some 45) #[true,true,true,true,true,true,true,true,true,true,true,true,false,true,false,false,false,false] hHeld rfl (by rintro w' ⟨s0,s1,s2,s3,s4,s5,s6,s7,s8⟩;go_simp;with_reducible rfl) (h:=?_)
          refine ta HT_.out HW_.out 12 (some 46) (fl 14 18) hHeld rfl (by rintro w' ⟨s0,s1,s2,s3,s4,s5,s6,s7,s8⟩;go_simp;with_reducible rfl) (h:=?_)
          refine ta HT_.out HW_.out 14 (some 48) (fl 15 18) hHeld rfl (by rintro w' ⟨s0,s1,s2,s3,s4,s5,s6,s7,s8⟩;go_simp;with_reducible rfl) (h:=?_)
          refine one_ (i:=15) (N:=some 49) (fl 16 18) rfl rfl (one_of HT_.out (by kernel_rfl)) (by decide) (fun K hK=>?_)
          refine goes_ Try.func36 (by kernel_rfl) rfl #[.agg #[.slice A0_0 l0_0.length c0_0,.int .i64 a0_1],.int .i64 ((rd_T35 l1 x23_1).f0)] (by rfl) rfl rfl tl ?_
          with_reducible refine(spec_inTrack.calls k2 _ _ l0_0 a0_1 ((rd_T35 l1 x23_1).f0) t333 _ ?side1 ?side2 A29.out).mono ?_
          (case side1=>exact cup (Kd.C_below HR0_0.out HB.out))
          (case side2=>exact HC0_0.out)
          rintro e w38 ⟨rfl,hb⟩
          have HS8_:=(hb.cell (World.block_lt_of_cell? _ _ (hHeld.2.2.2.2.2.2.2.2))).trans (hHeld.2.2.2.2.2.2.2.2)
          refine⟨_,rfl,?_⟩
          replace HO_8:=am (Kd.R_below (rup HO_8.out) hb)
          replace HO_9:=am (Kd.R_below (rup HO_9.out) hb)
          replace BK324:=am (blk_below (bup BK324.out) hb)
          replace BK329:=am (blk_below (bup BK329.out) hb)
          replace BK331:=am (blk_below (bup BK331.out) hb)
          replace HB:=am (below_step bl hb)
          (try clear hb)
          refine hK.out _ _ ⟨bc BK331.out 0,bc BK331.out 1,bc BK331.out 2,bc BK324.out 0,bc BK324.out 1,bc BK329.out 0,bc BK329.out 1,bc BK329.out 2,HS8_⟩ (fun hHeld=>?_)
          clear hK K
          refine norm_ (a':=?_) ?_ ?_
          rotate_left
          ·show Act.put _ (some 49) _=_
           simp only[Act.put,List.setIfInBounds_toArray,List.set_cons_zero,List.set_cons_succ,i64_w,i32_w]
           rfl
          refine pu HT_.out 16 (some 50) (fl 17 18) (h:=?_)
          refine pu HT_.out 17 (some 51) (fl 18 18) (h:=?_)
          refine done_ (done_of HT_.out (by kernel_rfl)) ?_
          try go_wp2
          go_roundg k2
          case measure=>have:=HK1.out;have:=HK2.out;omega
          case rel=>exact⟨(x29_2),(wrap64 (x29_2+1)),fin2,fin2,H',⟨by have:=HK1.out;have:=HK2.out;omega⟩,⟨rup HO_8.out⟩,⟨rup HO_9.out⟩,⟨bup BK324.out⟩,⟨bup BK329.out⟩,⟨bl⟩⟩
         ·have c30b0:(((rd_T60 l2 x29_2).f0) == t333)=false:=beq_eq_false_iff_ne.mpr c30
          have c30b1:(((rd_T60 l2 x29_2).f0) != t333)=true:=bne_iff_ne.mpr c30
          have H':=am H
          clear H
          have p330:0≤(x29_2:Int):=od
          have q330:x29_2<(l2.length:Int):=od
          obtain⟨ad330,e330,hx330_0,hx330_1,hx330_2⟩:=at_T60 HR2.out x29_2 p330 q330
          cases e330
          replace hx330_0:=(HB.out.cell (World.block_lt_of_cell? w _ hx330_0)).trans hx330_0
          replace hx330_1:=(HB.out.cell (World.block_lt_of_cell? w _ hx330_1)).trans hx330_1
          replace hx330_2:=(HB.out.cell (World.block_lt_of_cell? w _ hx330_2)).trans hx330_2
          replace p330:=eq_true p330
          replace q330:=eq_true q330
          try go_wp2_with (first|((with_reducible refine gate_dst (N:=14) rfl ?_);refine box_event ?hg (N:=14) ?hd (cs := #[.int .i64 0,.int .i64 0,.int .i64 0]) (t:=60) ?hr ?_;(case hd=>rfl);(case hg=>rfl);(case hr=>first|(go_simp;done)|(go_simp;rfl));intro gb331 hg w39 hbox hb;replace HO_8:=am (Kd.R_below (rup HO_8.out) hb);replace HO_9:=am (Kd.R_below (rup HO_9.out) hb);have BK331:=am (hbox);have GW331:=am (ge_ bl hg);have GE331:=am (ge_ bl hg);replace HB:=am (below_step bl hb);have NB324_331:=am (nl (bup BK324.out) hg);have NB331_324:=am (ng (bup BK324.out) hg);replace BK324:=am (blk_below (bup BK324.out) hb);have NB329_331:=am (nl (bup BK329.out) hg);have NB331_329:=am (ng (bup BK329.out) hg);replace BK329:=am (blk_below (bup BK329.out) hb);clear hb hbox hg;have hnb40:=NB331_324.out;have hnc40:=NB324_331.out;have hnb41:=NB331_329.out;have hnc41:=NB329_331.out;have hcz42_0:=bc BK331.out 0;have hcz42_1:=bc BK331.out 1;have hcz42_2:=bc BK331.out 2;have hfz42_0:=blk_frozen BK331.out 0;have hfz42_1:=blk_frozen BK331.out 1;have hfz42_2:=blk_frozen BK331.out 2))
          have n0_:Aside0 (Kd.R Kd.bool 4 (((w39.setCell ⟨gb331,0,none⟩ (.int .i64 ((rd_T60 l2 x29_2).f0))).setCell ⟨gb331,1,none⟩ (.int .i64 ((rd_T60 l2 x29_2).f1))).setCell ⟨gb331,2,none⟩ (.int .i64 ((rd_T60 l2 x29_2).f2))) w.heap.size (fun _=>True) v326 x8_1):=⟨rup (Kd.R_mono (Kd.R_far (p:=⟨gb331,2,none⟩) (Kd.R_far (p:=⟨gb331,1,none⟩) (Kd.R_far (p:=⟨gb331,0,none⟩) (Kd.R_types HO_8.out BK331.out (by decide)) (fun _ hk=>hk.2) (.int .i64 ((rd_T60 l2 x29_2).f0))) (fun _ hk=>hk.2) (.int .i64 ((rd_T60 l2 x29_2).f1))) (fun _ hk=>hk.2) (.int .i64 ((rd_T60 l2 x29_2).f2))) (fun _ hk=>trivial))⟩
          have n1_:Aside0 (Kd.R (Kd.int .i64) 3 (((w39.setCell ⟨gb331,0,none⟩ (.int .i64 ((rd_T60 l2 x29_2).f0))).setCell ⟨gb331,1,none⟩ (.int .i64 ((rd_T60 l2 x29_2).f1))).setCell ⟨gb331,2,none⟩ (.int .i64 ((rd_T60 l2 x29_2).f2))) w.heap.size (fun _=>True) u9 x9_1):=⟨rup (Kd.R_mono (Kd.R_far (p:=⟨gb331,2,none⟩) (Kd.R_far (p:=⟨gb331,1,none⟩) (Kd.R_far (p:=⟨gb331,0,none⟩) (Kd.R_types HO_9.out BK331.out (by decide)) (fun _ hk=>hk.2) (.int .i64 ((rd_T60 l2 x29_2).f0))) (fun _ hk=>hk.2) (.int .i64 ((rd_T60 l2 x29_2).f1))) (fun _ hk=>hk.2) (.int .i64 ((rd_T60 l2 x29_2).f2))) (fun _ hk=>trivial))⟩
          have n2_:Aside0 ((((w39.setCell ⟨gb331,0,none⟩ (.int .i64 ((rd_T60 l2 x29_2).f0))).setCell ⟨gb331,1,none⟩ (.int .i64 ((rd_T60 l2 x29_2).f1))).setCell ⟨gb331,2,none⟩ (.int .i64 ((rd_T60 l2 x29_2).f2))).heap[gb324]?=some (.cells #[.slice A0_0 l0_0.length c0_0,.int .i64 a0_1] 24 (0,0))):=⟨by(with_reducible repeat(first|refine bN_ ?_ _|refine bD_ ?_|refine bA_ ?_ _));refine blk_far ?_ NB324_331.out _;(with_reducible repeat(first|refine bN_ ?_ _|refine bD_ ?_|refine bA_ ?_ _));refine blk_far ?_ NB324_331.out _;(with_reducible repeat(first|refine bN_ ?_ _|refine bD_ ?_|refine bA_ ?_ _));refine blk_far ?_ NB324_331.out _;exact bup BK324.out⟩
          have n3_:Aside0 ((((w39.setCell ⟨gb331,0,none⟩ (.int .i64 ((rd_T60 l2 x29_2).f0))).setCell ⟨gb331,1,none⟩ (.int .i64 ((rd_T60 l2 x29_2).f1))).setCell ⟨gb331,2,none⟩ (.int .i64 ((rd_T60 l2 x29_2).f2))).heap[gb329]?=some (.cells #[.int .i64 ((rd_T35 l1 x23_1).f0),.int .i64 ((rd_T35 l1 x23_1).f1),.int .i64 ((rd_T35 l1 x23_1).f2)] 35 (0,0))):=⟨by(with_reducible repeat(first|refine bN_ ?_ _|refine bD_ ?_|refine bA_ ?_ _));refine blk_far ?_ NB329_331.out _;(with_reducible repeat(first|refine bN_ ?_ _|refine bD_ ?_|refine bA_ ?_ _));refine blk_far ?_ NB329_331.out _;(with_reducible repeat(first|refine bN_ ?_ _|refine bD_ ?_|refine bA_ ?_ _));refine blk_far ?_ NB329_331.out _;exact bup BK329.out⟩
          have n4_:Aside0 ((((w39.setCell ⟨gb331,0,none⟩ (.int .i64 ((rd_T60 l2 x29_2).f0))).setCell ⟨gb331,1,none⟩ (.int .i64 ((rd_T60 l2 x29_2).f1))).setCell ⟨gb331,2,none⟩ (.int .i64 ((rd_T60 l2 x29_2).f2))).heap[gb331]?=some (.cells #[.int .i64 ((rd_T60 l2 x29_2).f0),.int .i64 ((rd_T60 l2 x29_2).f1),.int .i64 ((rd_T60 l2 x29_2).f2)] 60 (0,0))):=⟨by(with_reducible repeat(first|refine bN_ ?_ _|refine bD_ ?_|refine bA_ ?_ _));refine blk_put (cs := #[.int .i64 ((rd_T60 l2 x29_2).f0),.int .i64 ((rd_T60 l2 x29_2).f1),.int .i64 0]) ?_ 2 _ rfl;(with_reducible repeat(first|refine bN_ ?_ _|refine bD_ ?_|refine bA_ ?_ _));refine blk_put (cs := #[.int .i64 ((rd_T60 l2 x29_2).f0),.int .i64 0,.int .i64 0]) ?_ 1 _ rfl;(with_reducible repeat(first|refine bN_ ?_ _|refine bD_ ?_|refine bA_ ?_ _));refine blk_put (cs := #[.int .i64 0,.int .i64 0,.int .i64 0]) ?_ 0 _ rfl;exact bup BK331.out⟩
          have n5_:Aside0 (Below w.heap.size w (((w39.setCell ⟨gb331,0,none⟩ (.int .i64 ((rd_T60 l2 x29_2).f0))).setCell ⟨gb331,1,none⟩ (.int .i64 ((rd_T60 l2 x29_2).f1))).setCell ⟨gb331,2,none⟩ (.int .i64 ((rd_T60 l2 x29_2).f2)))):=⟨bl⟩
          (try clear HO_8)
          (try clear HO_9)
          (try clear BK324)
          (try clear BK329)
          (try clear BK331)
          generalize (((w39.setCell ⟨gb331,0,none⟩ (.int .i64 ((rd_T60 l2 x29_2).f0))).setCell ⟨gb331,1,none⟩ (.int .i64 ((rd_T60 l2 x29_2).f1))).setCell ⟨gb331,2,none⟩ (.int .i64 ((rd_T60 l2 x29_2).f2)))=w43 at n0_ n1_ n2_ n3_ n4_ n5_ ⊢
          have HO_8:=n0_
          have HO_9:=n1_
          have BK324:=n2_
          have BK329:=n3_
          have BK331:=n4_
          have HB:=n5_
          clear n0_ n1_ n2_ n3_ n4_ n5_
          replace HO_8:=am (Kd.R_drew HO_8.out)
          replace HO_9:=am (Kd.R_drew HO_9.out)
          replace BK324:=am (bD_ BK324.out)
          replace BK329:=am (bD_ BK329.out)
          replace BK331:=am (bD_ BK331.out)
          replace HB:=am (below_drew1 HB.out)
          obtain⟨Ao45,co45,eo45⟩:=Kd.R_slice HO_8.out
          (first|subst eo45|(injection eo45 with f1_ f2_ f3_;have f4_:=f1_.symm;have f5_:=f3_.symm;clear f1_ f2_ f3_;subst f4_;subst f5_))
          have p332:0≤(x29_2:Int):=od
          have q332:x29_2<(x8_1.length:Int):=od
          obtain⟨ad332,e332,hx332_0⟩:=Kd.at_bool (Kd.R_reads' HO_8.out).2.2 x29_2 p332 q332
          (try rw[← Nbq20.out] at hx332_0)
          cases e332
          replace p332:=eq_true p332
          replace q332:=eq_true q332
          refine start_ (n:=18) (S:=fun w'=>w'.cell? ⟨gb331,0,none⟩=some (.int .i64 ((rd_T60 l2 x29_2).f0))∧w'.cell? ⟨gb331,1,none⟩=some (.int .i64 ((rd_T60 l2 x29_2).f1))∧w'.cell? ⟨gb331,2,none⟩=some (.int .i64 ((rd_T60 l2 x29_2).f2))∧w'.cell? ⟨gb324,0,none⟩=some (.slice A0_0 l0_0.length c0_0)∧w'.cell? ⟨gb324,1,none⟩=some (.int .i64 a0_1)∧w'.cell? ⟨gb329,0,none⟩=some (.int .i64 ((rd_T35 l1 x23_1).f0))∧w'.cell? ⟨gb329,1,none⟩=some (.int .i64 ((rd_T35 l1 x23_1).f1))∧w'.cell? ⟨gb329,2,none⟩=some (.int .i64 ((rd_T35 l1 x23_1).f2))∧w'.cell? (ad332.add (x29_2).toNat)=some (.bool false)) (ds:=[]) (fl 0 18) (by kernel_rfl) rfl rfl ⟨bc BK331.out 0,bc BK331.out 1,bc BK331.out 2,bc BK324.out 0,bc BK324.out 1,bc BK329.out 0,bc BK329.out 1,bc BK329.out 2,hx332_0⟩ (fun hHeld=>?_);refine with_tabW spec_vfMatch.tab10 spec_vfMatch.bits10 (fun HT_ HW_=>?_)
          generalize w43.drew=w44 at HO_8 HO_9 BK324 BK329 BK331 HB hx332_0 hHeld ⊢
          refine pu HT_.out 0 (some 34) (fl 1 18) (h:=?_)
          refine pu HT_.out 1 (some 35) (fl 2 18) (h:=?_)
          refine pu HT_.out 2 (some 36) (fl 3 18) (h:=?_)
          refine pu HT_.out 3 (some 37) (fl 4 18) (h:=?_)
          refine pu HT_.out 4 (some 38) (fl 5 18) (h:=?_)
          refine pu HT_.out 5 (some 39) (fl 6 18) (h:=?_)
          refine ta HT_.out HW_.out 6 (some 40) (fl 7 18) hHeld rfl (by rintro w' ⟨s0,s1,s2,s3,s4,s5,s6,s7,s8⟩;go_simp;with_reducible rfl) (h:=?_)
          refine pu HT_.out 7 (some 41) (fl 8 18) (h:=?_)
          refine pu HT_.out 8 (some 42) (fl 9 18) (h:=?_)
          refine pu HT_.out 9 (some 43) (fl 10 18) (h:=?_)
          refine pu HT_.out 10 (some 44) (fl 11 18) (h:=?_)
          refine pu HT_.out 13 (some 47) #[true,true,true,true,true,true,true,true,true,true,true,false,false,true,false,false,false,false] (h:=?_)
          refine ta HT_.out HW_.out 11 (some 45) #[true,true,true,true,true,true,true,true,true,true,true,true,false,true,false,false,false,false] hHeld rfl (by rintro w' ⟨s0,s1,s2,s3,s4,s5,s6,s7,s8⟩;go_simp;with_reducible rfl) (h:=?_)
          refine ta HT_.out HW_.out 12 (some 46) (fl 14 18) hHeld rfl (by rintro w' ⟨s0,s1,s2,s3,s4,s5,s6,s7,s8⟩;go_simp;with_reducible rfl) (h:=?_)
          refine ta HT_.out HW_.out 14 (some 48) (fl 15 18) hHeld rfl (by rintro w' ⟨s0,s1,s2,s3,s4,s5,s6,s7,s8⟩;go_simp;with_reducible rfl) (h:=?_)
          refine one_ (i:=15) (N:=some 49) (fl 16 18) rfl rfl (one_of HT_.out (by kernel_rfl)) (by decide) (fun K hK=>?_)
          refine goes_ Try.func36 (by kernel_rfl) rfl #[.agg #[.slice A0_0 l0_0.length c0_0,.int .i64 a0_1],.int .i64 ((rd_T35 l1 x23_1).f0)] (by rfl) rfl rfl tl ?_
          with_reducible refine(spec_inTrack.calls k2 _ _ l0_0 a0_1 ((rd_T35 l1 x23_1).f0) t333 _ ?side1 ?side2 A29.out).mono ?_
          (case side1=>exact cup (Kd.C_below HR0_0.out HB.out))
          (case side2=>exact HC0_0.out)
          rintro e w46 ⟨rfl,hb⟩
          have HS8_:=(hb.cell (World.block_lt_of_cell? _ _ (hHeld.2.2.2.2.2.2.2.2))).trans (hHeld.2.2.2.2.2.2.2.2)
          refine⟨_,rfl,?_⟩
          replace HO_8:=am (Kd.R_below (rup HO_8.out) hb)
          replace HO_9:=am (Kd.R_below (rup HO_9.out) hb)
          replace BK324:=am (blk_below (bup BK324.out) hb)
          replace BK329:=am (blk_below (bup BK329.out) hb)
          replace BK331:=am (blk_below (bup BK331.out) hb)
          replace HB:=am (below_step bl hb)
          (try clear hb)
          refine hK.out _ _ ⟨bc BK331.out 0,bc BK331.out 1,bc BK331.out 2,bc BK324.out 0,bc BK324.out 1,bc BK329.out 0,bc BK329.out 1,bc BK329.out 2,HS8_⟩ (fun hHeld=>?_)
          clear hK K
          refine norm_ (a':=?_) ?_ ?_
          rotate_left
          ·show Act.put _ (some 49) _=_
           simp only[Act.put,List.setIfInBounds_toArray,List.set_cons_zero,List.set_cons_succ,i64_w,i32_w]
           rfl
          refine pu HT_.out 16 (some 50) (fl 17 18) (h:=?_)
          refine pu HT_.out 17 (some 51) (fl 18 18) (h:=?_)
          refine done_ (done_of HT_.out (by kernel_rfl)) ?_
          try go_wp2
          go_roundg k2
          case measure=>have:=HK1.out;have:=HK2.out;omega
          case rel=>exact⟨(x12_2),(wrap64 (x29_2+1)),fin2,fin2,H',⟨by have:=HK1.out;have:=HK2.out;omega⟩,⟨rup HO_8.out⟩,⟨rup HO_9.out⟩,⟨bup BK324.out⟩,⟨bup BK329.out⟩,⟨bl⟩⟩
       ·have c18b0:=decide_eq_false c18
        clear c18
        have H':=am H
        clear H
        have p330:0≤(x29_2:Int):=od
        have q330:x29_2<(l2.length:Int):=od
        obtain⟨ad330,e330,hx330_0,hx330_1,hx330_2⟩:=at_T60 HR2.out x29_2 p330 q330
        cases e330
        replace hx330_0:=(HB.out.cell (World.block_lt_of_cell? w _ hx330_0)).trans hx330_0
        replace hx330_1:=(HB.out.cell (World.block_lt_of_cell? w _ hx330_1)).trans hx330_1
        replace hx330_2:=(HB.out.cell (World.block_lt_of_cell? w _ hx330_2)).trans hx330_2
        replace p330:=eq_true p330
        replace q330:=eq_true q330
        try go_wp2_with (first|((with_reducible refine gate_dst (N:=14) rfl ?_);refine box_event ?hg (N:=14) ?hd (cs := #[.int .i64 0,.int .i64 0,.int .i64 0]) (t:=60) ?hr ?_;(case hd=>rfl);(case hg=>rfl);(case hr=>first|(go_simp;done)|(go_simp;rfl));intro gb331 hg w47 hbox hb;replace HO_8:=am (Kd.R_below (rup HO_8.out) hb);replace HO_9:=am (Kd.R_below (rup HO_9.out) hb);have BK331:=am (hbox);have GW331:=am (ge_ bl hg);have GE331:=am (ge_ bl hg);replace HB:=am (below_step bl hb);have NB324_331:=am (nl (bup BK324.out) hg);have NB331_324:=am (ng (bup BK324.out) hg);replace BK324:=am (blk_below (bup BK324.out) hb);have NB329_331:=am (nl (bup BK329.out) hg);have NB331_329:=am (ng (bup BK329.out) hg);replace BK329:=am (blk_below (bup BK329.out) hb);clear hb hbox hg;have hnb48:=NB331_324.out;have hnc48:=NB324_331.out;have hnb49:=NB331_329.out;have hnc49:=NB329_331.out;have hcz50_0:=bc BK331.out 0;have hcz50_1:=bc BK331.out 1;have hcz50_2:=bc BK331.out 2;have hfz50_0:=blk_frozen BK331.out 0;have hfz50_1:=blk_frozen BK331.out 1;have hfz50_2:=blk_frozen BK331.out 2))
        have n0_:Aside0 (Kd.R Kd.bool 4 (((w47.setCell ⟨gb331,0,none⟩ (.int .i64 ((rd_T60 l2 x29_2).f0))).setCell ⟨gb331,1,none⟩ (.int .i64 ((rd_T60 l2 x29_2).f1))).setCell ⟨gb331,2,none⟩ (.int .i64 ((rd_T60 l2 x29_2).f2))) w.heap.size (fun _=>True) v326 x8_1):=⟨rup (Kd.R_mono (Kd.R_far (p:=⟨gb331,2,none⟩) (Kd.R_far (p:=⟨gb331,1,none⟩) (Kd.R_far (p:=⟨gb331,0,none⟩) (Kd.R_types HO_8.out BK331.out (by decide)) (fun _ hk=>hk.2) (.int .i64 ((rd_T60 l2 x29_2).f0))) (fun _ hk=>hk.2) (.int .i64 ((rd_T60 l2 x29_2).f1))) (fun _ hk=>hk.2) (.int .i64 ((rd_T60 l2 x29_2).f2))) (fun _ hk=>trivial))⟩
        have n1_:Aside0 (Kd.R (Kd.int .i64) 3 (((w47.setCell ⟨gb331,0,none⟩ (.int .i64 ((rd_T60 l2 x29_2).f0))).setCell ⟨gb331,1,none⟩ (.int .i64 ((rd_T60 l2 x29_2).f1))).setCell ⟨gb331,2,none⟩ (.int .i64 ((rd_T60 l2 x29_2).f2))) w.heap.size (fun _=>True) u9 x9_1):=⟨rup (Kd.R_mono (Kd.R_far (p:=⟨gb331,2,none⟩) (Kd.R_far (p:=⟨gb331,1,none⟩) (Kd.R_far (p:=⟨gb331,0,none⟩) (Kd.R_types HO_9.out BK331.out (by decide)) (fun _ hk=>hk.2) (.int .i64 ((rd_T60 l2 x29_2).f0))) (fun _ hk=>hk.2) (.int .i64 ((rd_T60 l2 x29_2).f1))) (fun _ hk=>hk.2) (.int .i64 ((rd_T60 l2 x29_2).f2))) (fun _ hk=>trivial))⟩
        have n2_:Aside0 ((((w47.setCell ⟨gb331,0,none⟩ (.int .i64 ((rd_T60 l2 x29_2).f0))).setCell ⟨gb331,1,none⟩ (.int .i64 ((rd_T60 l2 x29_2).f1))).setCell ⟨gb331,2,none⟩ (.int .i64 ((rd_T60 l2 x29_2).f2))).heap[gb324]?=some (.cells #[.slice A0_0 l0_0.length c0_0,.int .i64 a0_1] 24 (0,0))):=⟨by(with_reducible repeat(first|refine bN_ ?_ _|refine bD_ ?_|refine bA_ ?_ _));refine blk_far ?_ NB324_331.out _;(with_reducible repeat(first|refine bN_ ?_ _|refine bD_ ?_|refine bA_ ?_ _));refine blk_far ?_ NB324_331.out _;(with_reducible repeat(first|refine bN_ ?_ _|refine bD_ ?_|refine bA_ ?_ _));refine blk_far ?_ NB324_331.out _;exact bup BK324.out⟩
        have n3_:Aside0 ((((w47.setCell ⟨gb331,0,none⟩ (.int .i64 ((rd_T60 l2 x29_2).f0))).setCell ⟨gb331,1,none⟩ (.int .i64 ((rd_T60 l2 x29_2).f1))).setCell ⟨gb331,2,none⟩ (.int .i64 ((rd_T60 l2 x29_2).f2))).heap[gb329]?=some (.cells #[.int .i64 ((rd_T35 l1 x23_1).f0),.int .i64 ((rd_T35 l1 x23_1).f1),.int .i64 ((rd_T35 l1 x23_1).f2)] 35 (0,0))):=⟨by(with_reducible repeat(first|refine bN_ ?_ _|refine bD_ ?_|refine bA_ ?_ _));refine blk_far ?_ NB329_331.out _;(with_reducible repeat(first|refine bN_ ?_ _|refine bD_ ?_|refine bA_ ?_ _));refine blk_far ?_ NB329_331.out _;(with_reducible repeat(first|refine bN_ ?_ _|refine bD_ ?_|refine bA_ ?_ _));refine blk_far ?_ NB329_331.out _;exact bup BK329.out⟩
        have n4_:Aside0 ((((w47.setCell ⟨gb331,0,none⟩ (.int .i64 ((rd_T60 l2 x29_2).f0))).setCell ⟨gb331,1,none⟩ (.int .i64 ((rd_T60 l2 x29_2).f1))).setCell ⟨gb331,2,none⟩ (.int .i64 ((rd_T60 l2 x29_2).f2))).heap[gb331]?=some (.cells #[.int .i64 ((rd_T60 l2 x29_2).f0),.int .i64 ((rd_T60 l2 x29_2).f1),.int .i64 ((rd_T60 l2 x29_2).f2)] 60 (0,0))):=⟨by(with_reducible repeat(first|refine bN_ ?_ _|refine bD_ ?_|refine bA_ ?_ _));refine blk_put (cs := #[.int .i64 ((rd_T60 l2 x29_2).f0),.int .i64 ((rd_T60 l2 x29_2).f1),.int .i64 0]) ?_ 2 _ rfl;(with_reducible repeat(first|refine bN_ ?_ _|refine bD_ ?_|refine bA_ ?_ _));refine blk_put (cs := #[.int .i64 ((rd_T60 l2 x29_2).f0),.int .i64 0,.int .i64 0]) ?_ 1 _ rfl;(with_reducible repeat(first|refine bN_ ?_ _|refine bD_ ?_|refine bA_ ?_ _));refine blk_put (cs := #[.int .i64 0,.int .i64 0,.int .i64 0]) ?_ 0 _ rfl;exact bup BK331.out⟩
        have n5_:Aside0 (Below w.heap.size w (((w47.setCell ⟨gb331,0,none⟩ (.int .i64 ((rd_T60 l2 x29_2).f0))).setCell ⟨gb331,1,none⟩ (.int .i64 ((rd_T60 l2 x29_2).f1))).setCell ⟨gb331,2,none⟩ (.int .i64 ((rd_T60 l2 x29_2).f2)))):=⟨bl⟩
        (try clear HO_8)
        (try clear HO_9)
        (try clear BK324)
        (try clear BK329)
        (try clear BK331)
        generalize (((w47.setCell ⟨gb331,0,none⟩ (.int .i64 ((rd_T60 l2 x29_2).f0))).setCell ⟨gb331,1,none⟩ (.int .i64 ((rd_T60 l2 x29_2).f1))).setCell ⟨gb331,2,none⟩ (.int .i64 ((rd_T60 l2 x29_2).f2)))=w51 at n0_ n1_ n2_ n3_ n4_ n5_ ⊢
        have HO_8:=n0_
        have HO_9:=n1_
        have BK324:=n2_
        have BK329:=n3_
        have BK331:=n4_
        have HB:=n5_
        clear n0_ n1_ n2_ n3_ n4_ n5_
        replace HO_8:=am (Kd.R_drew HO_8.out)
        replace HO_9:=am (Kd.R_drew HO_9.out)
        replace BK324:=am (bD_ BK324.out)
        replace BK329:=am (bD_ BK329.out)
        replace BK331:=am (bD_ BK331.out)
        replace HB:=am (below_drew1 HB.out)
        refine start_ (n:=18) (S:=fun w'=>True) (ds:=[]) (fl 0 18) (by kernel_rfl) rfl rfl trivial (fun hHeld=>?_);refine with_tabW spec_vfMatch.tab10 spec_vfMatch.bits10 (fun HT_ HW_=>?_)
        generalize w51.drew=w52 at HO_8 HO_9 BK324 BK329 BK331 HB hHeld ⊢
        refine pu HT_.out 0 (some 34) (fl 1 18) (h:=?_)
        refine pu HT_.out 1 (some 35) (fl 2 18) (h:=?_)
        refine pu HT_.out 2 (some 36) (fl 3 18) (h:=?_)
        refine pz HT_.out 3 (some 37) (fl 4 18) (h:=?_)
        refine pz HT_.out 4 (some 38) (fl 5 18) (h:=?_)
        refine pz HT_.out 5 (some 39) (fl 6 18) (h:=?_)
        refine pz HT_.out 6 (some 40) (fl 7 18) (h:=?_)
        refine pz HT_.out 7 (some 41) (fl 8 18) (h:=?_)
        refine pu HT_.out 8 (some 42) (fl 9 18) (h:=?_)
        refine pu HT_.out 9 (some 43) (fl 10 18) (h:=?_)
        refine pz HT_.out 10 (some 44) (fl 11 18) (h:=?_)
        refine pz HT_.out 11 (some 45) (fl 12 18) (h:=?_)
        refine pz HT_.out 12 (some 46) (fl 13 18) (h:=?_)
        refine pz HT_.out 13 (some 47) (fl 14 18) (h:=?_)
        refine pz HT_.out 14 (some 48) (fl 15 18) (h:=?_)
        refine pz HT_.out 15 (some 49) (fl 16 18) (h:=?_)
        refine pz HT_.out 16 (some 50) (fl 17 18) (h:=?_)
        refine pu HT_.out 17 (some 51) (fl 18 18) (h:=?_)
        refine done_ (done_of HT_.out (by kernel_rfl)) ?_
        try go_wp2
        go_roundg k2
        case measure=>have:=HK1.out;have:=HK2.out;omega
        case rel=>exact⟨(x12_2),(wrap64 (x29_2+1)),fin2,fin2,H',⟨by have:=HK1.out;have:=HK2.out;omega⟩,⟨rup HO_8.out⟩,⟨rup HO_9.out⟩,⟨bup BK324.out⟩,⟨bup BK329.out⟩,⟨bl⟩⟩
      ·have c15b0:=decide_eq_false c15
       clear c15
       rcases itc H with⟨c53,H⟩|⟨c53,H⟩
       ·have c53b0:decide (0≤x12_2)=true:=decide_eq_true c53
        clear c53
        obtain⟨c54b0,H⟩:=ifb H
        obtain⟨c55b0,H⟩:=ifb H
        obtain⟨y334,hy334⟩:∃ y_:List Bool,y_=(x8_1.set (x12_2:Int).toNat true):=⟨_,rfl⟩
        replace H:(if x9_1.length<17592186044416 then(spec_vfMatch.l0 k2 l2 y334 (x9_1 ++ [x12_2]) l1 (l1.length:Int) (wrap64 (x23_1+1)) l0_0 a0_1) else(none))=some (r1,r2):=by subst hy334;exact H
        have Ny334:=am hy334
        clear hy334
        obtain⟨c57,H⟩:=ifp H
        have LMc57:=am c57
        clear c57
        obtain⟨y335,hy335⟩:∃ y_:List Int,y_=(x9_1 ++ [x12_2]):=⟨_,rfl⟩
        replace H:(spec_vfMatch.l0 k2 l2 y334 y335 l1 (l1.length:Int) (wrap64 (x23_1+1)) l0_0 a0_1)=some (r1,r2):=by subst hy335;exact H
        have Ny335:=am hy335
        clear hy335
        have H':=am H
        clear H
        have p56:0≤(x12_2:Int):=od
        have q56:(x12_2:Int)<((x8_1.length:Int):Int):=od
        obtain⟨go56,co56,eo56,gb56,gl56,cl56,HG56⟩:=Kd.R_form HO_8.out (by omega)
        (first|cases eo56|(injection eo56 with ea_ en_ ec_;(first|subst ea_|(injection ea_ with ea_;subst ea_));subst ec_;clear en_))
        have GB56:=am gb56
        have GG56:=am HG56
        clear gb56 gl56 HG56
        obtain⟨hx56_0,hf56_0⟩:=Kd.R_celln false HO_8.out (x12_2:Int) p56 q56
        replace p56:=eq_true p56
        replace q56:=eq_true q56
        have HP58:=Kd.R_putg HO_8.out (x12_2:Int) true
        go_wp2_with (first|((with_reducible refine gate_store (t:=4) (p:=58) rfl ?_);refine store_event (t:=4) (p:=58) (v:=?vo_w59) (w1:=(wr.setCell ⟨go56,(x12_2:Int).toNat,none⟩ (.bool true))) ?hg ?ho ?hn ?hr ?_;(case ho=>rfl);(case hg=>rfl);(case hn=>rfl);(case hr=>first|(go_simp;done)|(go_simp;rfl));intro w59 hw;have hg:wr.grownBy w59 (some go56):=(by rw[hw];exact HP58.2);have hp_:Kd.R Kd.bool 4 w59 w.heap.size (fun _=>True) (.slice (some ⟨go56,0,none⟩) x8_1.length co56) y334:=(by rw[hw,Ny334.out];exact HP58.1);clear HP58;replace HO_9:=am (Kd.R_over' (v:=(.slice (some ⟨go56,0,none⟩) x8_1.length co56)) (rup HO_9.out) (Kd.R_typed HO_8.out) (by decide) hg);replace BK324:=am (blk_grown (bup BK324.out) hg (Kd.R_ne HO_8.out BK324.out (by decide)));replace BK329:=am (blk_grown (bup BK329.out) hg (Kd.R_ne HO_8.out BK329.out (by decide)));replace HO_8:=am (hp_);replace HB:=am ((by rw[hw];exact below_set (HB.out) GB56.out:Below w.heap.size w w59));clear hg hw hp_)|((with_reducible refine gate_builtin (b := .append) (xs := #[.tmp 59,.tmp 61]) rfl ?_);at_builtin;refine Kd.R_append (Kd.int .i64) (w0:=w) w.heap.size rfl (.tmp 59) (.tmp 61) 22 3 (.int .i64 0) 8 rfl Try.underlying22 info3 rfl (by decide) (by omega) u9 x9_1 x12_2 [.int .i64 x12_2] (fun _=>True) (fun _=>False) rfl rfl ?aP (fun _ hk=>hk.elim) ?aF ?aO ?aB ?aS ?aL ?_;(case aP=>exact rfl);(case aB=>exact bl);(case aF=>exact(fun _ _=>trivial));(case aO=>exact(rup HO_9.out));(case aS=>exact(below_size bl));(case aL=>have:=LMc57.out;omega);intro v336 w60 ho hb hg hat;rw[← Ny335.out] at ho;replace HO_8:=am (Kd.R_over' (rup HO_8.out) (Kd.R_typed (rup HO_9.out)) (by decide) hg);replace BK324:=am (blk_grown (bup BK324.out) hg (Kd.R_ne HO_9.out BK324.out (by decide)));replace BK329:=am (blk_grown (bup BK329.out) hg (Kd.R_ne HO_9.out BK329.out (by decide)));replace HB:=am (hb);have HO337:=am (ho);clear HO_9 ho hb hg hat))
        go_roundg k2
        case measure=>have:=HK1.out;have:=HK2.out;omega
        case rel=>exact⟨(y334),(y335),(wrap64 (x23_1+1)),fin2,H',⟨by have:=HK1.out;have:=HK2.out;omega⟩,⟨rup HO_8.out⟩,⟨rup HO337.out⟩,⟨bup BK324.out⟩,⟨bl⟩⟩
       ·have c53b0:decide (0≤x12_2)=false:=decide_eq_false c53
        clear c53
        obtain⟨c61,H⟩:=ifp H
        have LMc61:=am c61
        clear c61
        obtain⟨y338,hy338⟩:∃ y_:List Int,y_=(x9_1 ++ [x12_2]):=⟨_,rfl⟩
        replace H:(spec_vfMatch.l0 k2 l2 x8_1 y338 l1 (l1.length:Int) (wrap64 (x23_1+1)) l0_0 a0_1)=some (r1,r2):=by subst hy338;exact H
        have Ny338:=am hy338
        clear hy338
        have H':=am H
        clear H
        go_wp2_with (first|((with_reducible refine gate_builtin (b := .append) (xs := #[.tmp 59,.tmp 61]) rfl ?_);at_builtin;refine Kd.R_append (Kd.int .i64) (w0:=w) w.heap.size rfl (.tmp 59) (.tmp 61) 22 3 (.int .i64 0) 8 rfl Try.underlying22 info3 rfl (by decide) (by omega) u9 x9_1 x12_2 [.int .i64 x12_2] (fun _=>True) (fun _=>False) rfl rfl ?aP (fun _ hk=>hk.elim) ?aF ?aO ?aB ?aS ?aL ?_;(case aP=>exact rfl);(case aB=>exact bl);(case aF=>exact(fun _ _=>trivial));(case aO=>exact(rup HO_9.out));(case aS=>exact(below_size bl));(case aL=>have:=LMc61.out;omega);intro v339 w62 ho hb hg hat;rw[← Ny338.out] at ho;replace HO_8:=am (Kd.R_over' (rup HO_8.out) (Kd.R_typed (rup HO_9.out)) (by decide) hg);replace BK324:=am (blk_grown (bup BK324.out) hg (Kd.R_ne HO_9.out BK324.out (by decide)));replace BK329:=am (blk_grown (bup BK329.out) hg (Kd.R_ne HO_9.out BK329.out (by decide)));replace HB:=am (hb);have HO340:=am (ho);clear HO_9 ho hb hg hat))
        go_roundg k2
        case measure=>have:=HK1.out;have:=HK2.out;omega
        case rel=>exact⟨(x8_1),(y338),(wrap64 (x23_1+1)),fin2,H',⟨by have:=HK1.out;have:=HK2.out;omega⟩,⟨rup HO_8.out⟩,⟨rup HO340.out⟩,⟨bup BK324.out⟩,⟨bl⟩⟩
   ·have c9b0:=decide_eq_false c9
    clear c9
    have H':=am H
    clear H
    obtain⟨Ao63,co63,eo63⟩:=Kd.R_slice HO_8.out
    subst eo63
    go_wp2
    go_loopg [15,66] k1 (fun kq v15 v66 w'=>∃(x15_2:List Int) (x66_2:Int),v66 = .int .i64 x66_2∧Aside0 (spec_vfMatch.l2 kq x9_1 x15_2 x8_1 (x8_1.length:Int) x66_2=some (r1,r2))∧Aside0 (kq≤k1)∧Aside0 (Kd.R (Kd.int .i64) 3 w' w.heap.size (fun k_=>some k_≠(v15:Value).ownBlock) u9 x9_1)∧Aside0 (Kd.R (Kd.int .i64) 3 w' w.heap.size (fun k_=>some k_≠(u9:Value).ownBlock) v15 x15_2)∧Aside0 (Kd.R Kd.bool 4 w' w.heap.size (fun _=>True) (.slice Ao63 x8_1.length co63) x8_1)∧Aside0 (w'.heap[gb324]?=some (.cells #[(.slice A0_0 l0_0.length c0_0),.int .i64 a0_1] 24 (0,0)))∧Aside0 (Below w.heap.size w w'))
    case atStart=>exact⟨(([]:List Int)),(0),fin2,H',⟨Nat.le_refl _⟩,⟨rup (Kd.R_mono HO_9.out (fun _ hk=>(by simp [Value.ownBlock])))⟩,⟨by first|exact Kd.R_nil _ _ _ _ _|exact Kd.N_nil _ _ _ _ _|exact Kd.V_nil _ _ _ _ _|exact Kd.Q_nil _ _ _ _ _|exact Kd.S_nil _ _ _ _ _⟩,⟨rup HO_8.out⟩,⟨bup BK324.out⟩,⟨bl⟩⟩
    case round =>
     clear H'
     try clear c9b0
     obtain⟨x15_2,x66_2,rfl,HA,HK2,HO_9,HO_15,HO_64,BK324,HB⟩:=hrel
     cases gk with
     | zero=>exact absurd HA.out (by simp [spec_vfMatch.l2])
     | succ k2 =>
      have H:=HA.out
      clear HA
      simp only[spec_vfMatch.l2] at H
      rcases itc H with⟨c64,H⟩|⟨c64,H⟩
      ·have c64b0:=decide_eq_true c64
       clear c64
       obtain⟨c65b0,H⟩:=ifb H
       obtain⟨c66b0,H⟩:=ifb H
       obtain⟨bq67,hbq67⟩:∃ b_:Bool,b_=(rdOf false x8_1 x66_2):=⟨_,rfl⟩
       replace H:(if bq67=true then(spec_vfMatch.l2 k2 x9_1 x15_2 x8_1 (x8_1.length:Int) (wrap64 (x66_2+1))) else(if x15_2.length<17592186044416 then(spec_vfMatch.l2 k2 x9_1 (x15_2 ++ [x66_2]) x8_1 (x8_1.length:Int) (wrap64 (x66_2+1))) else(none)))=some (r1,r2):=by rw[← hbq67] at H;exact H
       have Nbq67:=am hbq67
       clear hbq67
       by_cases c68:bq67=true
       ·subst c68
        replace H:=(if_pos rfl).symm.trans H
        have H':=am H
        clear H
        have p341:0≤(x66_2:Int):=od
        have q341:x66_2<(x8_1.length:Int):=od
        obtain⟨ad341,e341,hx341_0⟩:=Kd.at_bool (Kd.R_reads' HO_64.out).2.2 x66_2 p341 q341
        (try rw[← Nbq67.out] at hx341_0)
        cases e341
        replace p341:=eq_true p341
        replace q341:=eq_true q341
        go_wp2
        go_roundg k2
        case measure=>have:=HK1.out;have:=HK2.out;omega
        case rel=>exact⟨(x15_2),(wrap64 (x66_2+1)),fin2,H',⟨by have:=HK1.out;have:=HK2.out;omega⟩,⟨rup HO_9.out⟩,⟨rup HO_15.out⟩,⟨rup HO_64.out⟩,⟨bup BK324.out⟩,⟨bl⟩⟩
       ·replace c68:=Bool.eq_false_iff.mpr c68
        subst c68
        replace H:=(if_neg Bool.false_ne_true).symm.trans H
        obtain⟨c69,H⟩:=ifp H
        have LMc69:=am c69
        clear c69
        obtain⟨y342,hy342⟩:∃ y_:List Int,y_=(x15_2 ++ [x66_2]):=⟨_,rfl⟩
        replace H:(spec_vfMatch.l2 k2 x9_1 y342 x8_1 (x8_1.length:Int) (wrap64 (x66_2+1)))=some (r1,r2):=by subst hy342;exact H
        have Ny342:=am hy342
        clear hy342
        have H':=am H
        clear H
        have p341:0≤(x66_2:Int):=od
        have q341:x66_2<(x8_1.length:Int):=od
        obtain⟨ad341,e341,hx341_0⟩:=Kd.at_bool (Kd.R_reads' HO_64.out).2.2 x66_2 p341 q341
        (try rw[← Nbq67.out] at hx341_0)
        cases e341
        replace p341:=eq_true p341
        replace q341:=eq_true q341
        go_wp2_with (first|((with_reducible refine gate_builtin (b := .append) (xs := #[.tmp 73,.tmp 75]) rfl ?_);at_builtin;refine Kd.R_append (Kd.int .i64) (w0:=w) w.heap.size rfl (.tmp 73) (.tmp 75) 22 3 (.int .i64 0) 8 rfl Try.underlying22 info3 rfl (by decide) (by omega) u15 x15_2 x66_2 [.int .i64 x66_2] (fun k_=>some k_≠(u9:Value).ownBlock) (fun _=>False) rfl rfl ?aP (fun _ hk=>hk.elim) ?aF ?aO ?aB ?aS ?aL ?_;(case aP=>exact rfl);(case aB=>exact bl);(case aF=>exact(fun k_ hk=>Kd.fresh' (Kd.R_lt (rup HO_9.out)) k_ hk));(case aO=>exact(rup HO_15.out));(case aS=>exact(below_size bl));(case aL=>have:=LMc69.out;omega);intro v343 w70 ho hb hg hat;rw[← Ny342.out] at ho;replace HO_9:=am (Kd.R_after (ok:=(fun _=>True)) (rup (Kd.R_mono HO_9.out (fun _ hk=>⟨trivial,hk⟩))) hg hat);replace HO_64:=am (Kd.R_over' (rup HO_64.out) (Kd.R_typed (rup HO_15.out)) (by decide) hg);replace BK324:=am (blk_grown (bup BK324.out) hg (Kd.R_ne HO_15.out BK324.out (by decide)));replace HB:=am (hb);have HO344:=am (ho);clear HO_15 ho hb hg hat))
        go_roundg k2
        case measure=>have:=HK1.out;have:=HK2.out;omega
        case rel=>exact⟨(y342),(wrap64 (x66_2+1)),fin2,H',⟨by have:=HK1.out;have:=HK2.out;omega⟩,⟨rup (Kd.R_mono HO_9.out (fun _ hk=>hk.2))⟩,⟨rup HO344.out⟩,⟨rup HO_64.out⟩,⟨bup BK324.out⟩,⟨bl⟩⟩
      ·have c64b0:=decide_eq_false c64
       clear c64
       simp only[Option.some.injEq,Prod.mk.injEq] at H
       obtain⟨rfl,rfl⟩:=H
       go_wp2
       go_ret2
       exact⟨_,_,fin1,by(with_reducible repeat(first|apply Kd.R_alloc|apply Kd.R_drewN|apply Kd.R_drew));exact HO_9.out,by(with_reducible repeat(first|apply Kd.R_alloc|apply Kd.R_drewN|apply Kd.R_drew));exact HO_15.out,bl⟩

end Go.Proofs.Ytdcchnfndhkfaaa.PFnPassesPlays
