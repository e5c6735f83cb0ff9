/- Walks of functions that FnPassesPlays reaches. No conditions beyond the arguments' being read. -/
import Derived.Test.YtdcchnfndhkfaaaSFnPassesPlays0
import Derived.Test.YtdcchnfndhkfaaaSFnPassesPlays14
import Derived.Test.YtdcchnfndhkfaaaSFnPassesPlays15
namespace Go.Proofs.Ytdcchnfndhkfaaa.PFnPassesPlays
open Go.RowKit Go.Proofs.YtdcchnfndhkfaaaW.PrintWords Go.Proofs.YtdcchnfndhkfaaaW.PrintLast Go.Proofs.YtdcchnfndhkfaaaW.PrintMore
attribute [local go_sem] max2_int min2_int max_two min_two max_three min_three max_four min_four
set_option linter.unusedVariables false
set_option linter.unusedSimpArgs false

def spec_vfErrors.l0:Nat→List (S35)→List (S60)→List (List Int)→List Int→Int→Int→Option ((List (List Int)))
 | 0,_,_,_,_,_,_=>none
 | k+1,x1,x2,x9,x20,x21,x22=>if x22<x21 then(if 0≤x22 then(if x22<(x20.length:Int) then(if(rd x20 x22)<0 then(if x9.length<5864062014805 then(spec_vfErrors.l0 k x1 x2 (x9 ++ [[]]) x20 x21 (wrap64 (x22+1))) else(none)) else(if x22<(x1.length:Int) then(if 0≤(rd x20 x22) then(if(rd x20 x22)<(x2.length:Int) then(if x9.length<5864062014805 then(spec_vfErrors.l0 k x1 x2 (x9 ++ [(([wrap64 (((rd_T60 x2 (rd x20 x22)).f1) - (wrap64 (2*((rd_T35 x1 x22).f1)))),wrap64 ((wrap64 (((rd_T60 x2 (rd x20 x22)).f2) - (wrap64 (2*(wrap64 (((rd_T35 x1 x22).f1)+((rd_T35 x1 x22).f2)))))))+1)]:List Int))]) x20 x21 (wrap64 (x22+1))) else(none)) else(none)) else(none)) else(none))) else(none)) else(none)) else(some x9)
def spec_vfErrors.f (k:Nat) (l0_0:List Int) (a0_1:Int) (l1:List (S35)) (l2:List (S60)):Option ((List (List Int))):=(spec_vfMatch.f k l0_0 a0_1 l1 l2).bind fun bt372=>(spec_vfErrors.l0 k l1 l2 ([]:List (List Int)) bt372.1 (bt372.1.length:Int) 0)
def spec_vfErrors.T9:Bool×List (List Nat×List Nat):=(true,[([],[]),([],[]),([],[]),([1,2],[1,2]),([3],[3]),([4],[4]),([],[]),([6],[6]),([7],[7]),([5,8],[5,8]),([],[]),([],[]),([10,11],[10,11]),([12],[12]),([13],[13]),([],[]),([15],[15]),([],[]),([17],[17]),([16,18],[16,18]),([19],[19]),([14,20],[14,20]),([21],[21]),([9,22],[9,22]),([23],[23]),([0,24],[0,24]),([25,25,0,1,2,3,4,5,6,7,8,9,10,11,12,13,14,15,16,17,18,19,20,21,22,23,24,25],[0,25])])
def spec_vfErrors.B9:List Nat:=[0,0,0,6,14,30,0,64,192,510,0,0,3072,7168,15360,0,32768,0,131072,491520,1015808,2096128,4193280,8388606,16777214,33554431,67108863]
theorem spec_vfErrors.tab9:rtab .any (opsOf Try.f23 9)=spec_vfErrors.T9:=by kernel_rfl
theorem spec_vfErrors.bits9:waitsOk spec_vfErrors.T9.2 spec_vfErrors.B9=true:=by kernel_rfl
set_option maxHeartbeats 8000000 in
set_option maxRecDepth 100000 in
theorem spec_vfErrors.calls (k:Nat) (A0_0:Option Addr) (c0_0:Nat) (l0_0:List Int) (a0_1:Int) (A1:Option Addr) (c1:Nat) (l1:List (S35)) (A2:Option Addr) (c2:Nat) (l2:List (S60)) (r:List (List Int)) (w:World) (hr0_0:Kd.C (Kd.int .i64) w A0_0 l0_0.length l0_0) (hc0_0:l0_0.length≤c0_0) (hr1:Kd.C k35 w A1 l1.length l1) (hc1:l1.length≤c1) (hr2:Kd.C k60 w A2 l2.length l2) (hc2:l2.length≤c2) (h:spec_vfErrors.f k l0_0 a0_1 l1 l2=some r) :
  Calls Try.prog 23 #[.agg #[.slice A0_0 l0_0.length c0_0,.int .i64 a0_1],.slice A1 l1.length c1,.slice A2 l2.length c2] w fun e w'=>∃ v0_:Value,e = .returned (v0_)∧Kd.S (Kd.slice 3 (Kd.int .i64)) 22 w' w.heap.size (fun _=>True) v0_ r∧Below w.heap.size w w':=by
 have hu24:=Try.underlying24
 have hu35:=Try.underlying35
 have HR0_0:=am hr0_0
 have HC0_0:=am hc0_0
 clear hr0_0 hc0_0
 have HR1:=am hr1
 have HC1:=am hc1
 clear hr1 hc1
 have HR2:=am hr2
 have HC2:=am hc2
 clear hr2 hc2
 have HB:=am (Below.refl w.heap.size w)
 have H:((spec_vfMatch.f k l0_0 a0_1 l1 l2).bind fun bt372=>(spec_vfErrors.l0 k l1 l2 ([]:List (List Int)) bt372.1 (bt372.1.length:Int) 0))=some r:=h
 clear h
 obtain⟨⟨t372,t375⟩,A4,H⟩:=bnd H;dsimp only at H
 have H':=am H
 clear H
 go_enter Try.func23,Try.ntmps23
 go_wp2_with (first|((with_reducible refine gate_dst (N:=3) rfl ?_);refine box_event ?hg (N:=3) ?hd (cs := #[.slice A0_0 l0_0.length c0_0,.int .i64 a0_1]) (t:=24) ?hr ?_;(case hd=>rfl);(case hg=>rfl);(case hr=>first|(go_simp;done)|(go_simp;rfl));intro gb371 hg w5 hbox hb;have BK371:=am (hbox);have GW371:=am (ge_ bl hg);have GE371:=am (ge_ bl hg);replace HB:=am (below_step bl hb);clear hb hbox hg;have hcz6_0:=bc BK371.out 0;have hcz6_1:=bc BK371.out 1;have hfz6_0:=blk_frozen BK371.out 0;have hfz6_1:=blk_frozen BK371.out 1)|((with_reducible refine gate_callee (f:=21) rfl ?_);refine goesL_ (some 17) rfl rfl Try.func21 (by kernel_rfl) rfl #[.agg #[.slice A0_0 l0_0.length c0_0,.int .i64 a0_1],.slice A1 l1.length c1,.slice A2 l2.length c2] rfl tl ?_;(with_reducible refine(spec_vfMatch.calls k _ _ l0_0 a0_1 _ _ l1 _ _ l2 t372 t375 _ ?side1 ?side2 ?side3 ?side4 ?side5 ?side6 A4.out).mono ?_);(case side1=>exact cup (Kd.C_below HR0_0.out HB.out));(case side2=>exact HC0_0.out);(case side3=>exact cup (Kd.C_below HR1.out HB.out));(case side4=>exact HC1.out);(case side5=>exact cup (Kd.C_below HR2.out HB.out));(case side6=>exact HC2.out);rintro e w7 ⟨v373,v376,rfl,ho0,ho1,hb⟩;refine⟨_,rfl,?_⟩;have HO374:=am (Kd.R_lower ho0 (below_size bl));have HO377:=am (Kd.R_lower ho1 (below_size bl));replace BK371:=am (blk_below (bup BK371.out) hb);replace HB:=am (below_step bl hb);(try clear hb);(try clear ho0);(try clear ho1);obtain⟨Ao8,co8,eo8⟩:=Kd.R_slice HO374.out;subst eo8))
 go_loopg [9,22] k (fun kq v9 v22 w'=>∃(x9_1:List (List Int)) (x22_1:Int),v22 = .int .i64 x22_1∧Aside0 (spec_vfErrors.l0 kq l1 l2 x9_1 t372 (t372.length:Int) x22_1=some r)∧Aside0 (kq≤k)∧Aside0 (Kd.S (Kd.slice 3 (Kd.int .i64)) 22 w' w.heap.size (fun k_=>some k_≠((.slice Ao8 t372.length co8):Value).ownBlock) v9 x9_1)∧Aside0 (Kd.R (Kd.int .i64) 3 w' w.heap.size (fun _=>True) (.slice Ao8 t372.length co8) t372)∧Aside0 (w'.heap[gb371]?=some (.cells #[(.slice A0_0 l0_0.length c0_0),.int .i64 a0_1] 24 (0,0)))∧Aside0 (Below w.heap.size w w'))
 case atStart=>exact⟨(([]:List (List Int))),(0),fin2,H',⟨Nat.le_refl _⟩,⟨by first|exact Kd.S_nil _ _ _ _ _|exact Kd.N_nil _ _ _ _ _|exact Kd.V_nil _ _ _ _ _|exact Kd.Q_nil _ _ _ _ _|exact Kd.R_nil _ _ _ _ _⟩,⟨rup (Kd.R_mono HO374.out (fun _ hk=>trivial))⟩,⟨bup BK371.out⟩,⟨bl⟩⟩
 case round =>
  clear H'
  try clear hcz6_0
  try clear hcz6_1
  try clear hfz6_0
  try clear hfz6_1
  obtain⟨x9_1,x22_1,rfl,HA,HK1,HO_9,HO_20,BK371,HB⟩:=hrel
  cases gk with
  | zero=>exact absurd HA.out (by simp [spec_vfErrors.l0])
  | succ k1 =>
   have H:=HA.out
   clear HA
   simp only[spec_vfErrors.l0] at H
   rcases itc H with⟨c9,H⟩|⟨c9,H⟩
   ·have c9b0:=decide_eq_true c9
    clear c9
    obtain⟨c10b0,H⟩:=ifb H
    obtain⟨c11b0,H⟩:=ifb H
    rcases itc H with⟨c12,H⟩|⟨c12,H⟩
    ·have c12b0:=decide_eq_true c12
     clear c12
     obtain⟨c13,H⟩:=ifp H
     have LMc13:=am c13
     clear c13
     obtain⟨y379,hy379⟩:∃ y_:List (List Int),y_=(x9_1 ++ [[]]):=⟨_,rfl⟩
     replace H:(spec_vfErrors.l0 k1 l1 l2 y379 t372 (t372.length:Int) (wrap64 (x22_1+1)))=some r:=by subst hy379;exact H
     have Ny379:=am hy379
     clear hy379
     have H':=am H
     clear H
     have p378:0≤(x22_1:Int):=od
     have q378:x22_1<(t372.length:Int):=od
     obtain⟨ad378,e378,hx378_0⟩:=Kd.at_int (Kd.R_reads' HO_20.out).2.2 x22_1 p378 q378
     cases e378
     replace p378:=eq_true p378
     replace q378:=eq_true q378
     go_wp2_with (first|((with_reducible refine gate_builtin (b := .append) (xs := #[.tmp 29,.tmp 30]) rfl ?_);at_builtin;refine Kd.S_append (Kd.slice 3 (Kd.int .i64)) (w0:=w) w.heap.size rfl (.tmp 29) (.tmp 30) 39 22 (.slice none 0 0) 24 rfl Try.underlying39 info22 rfl (by decide) (by omega) u9 x9_1 [] [.slice none 0 0] (fun k_=>some k_≠(.slice (some ad378) t372.length co8:Value).ownBlock) (fun _=>False) rfl rfl ?aP (fun _ hk=>hk.elim) ?aF ?aO ?aB ?aS ?aL ?_;(case aP=>exact⟨_,rfl,Kd.R_nil _ _ _ _ _⟩);(case aB=>exact bl);(case aF=>exact(fun k_ hk=>Kd.fresh' (Kd.R_lt (rup HO_20.out)) k_ hk));(case aO=>exact(by(with_reducible repeat(first|apply Kd.S_alloc|apply Kd.S_drewN|apply Kd.S_drew));exact Kd.S_mono HO_9.out (fun k_ hk=>⟨hk,fun e_=>e_⟩)));(case aS=>exact(below_size bl));(case aL=>have:=LMc13.out;omega);intro v380 w14 ho hb hg hat;rw[← Ny379.out] at ho;replace HO_20:=am (Kd.R_over' (rup HO_20.out) (Kd.S_typed (by(with_reducible repeat(first|apply Kd.S_alloc|apply Kd.S_drewN|apply Kd.S_drew));exact HO_9.out)) (by decide) hg);replace BK371:=am (blk_grown (bup BK371.out) hg (Kd.S_ne HO_9.out BK371.out (by decide)));replace HB:=am (hb);have HO381:=am (ho);clear HO_9 ho hb hg hat))
     go_roundg k1
     case measure=>have:=HK1.out;omega
     case rel=>exact⟨(y379),(wrap64 (x22_1+1)),fin2,H',⟨by have:=HK1.out;omega⟩,⟨by(with_reducible repeat(first|apply Kd.S_alloc|apply Kd.S_drewN|apply Kd.S_drew));exact HO381.out⟩,⟨rup HO_20.out⟩,⟨bup BK371.out⟩,⟨bl⟩⟩
    ·have c12b0:=decide_eq_false c12
     clear c12
     obtain⟨c15b0,H⟩:=ifb H
     obtain⟨c16b0,H⟩:=ifb H
     obtain⟨c17b0,H⟩:=ifb H
     obtain⟨y386,hy386⟩:∃ y_:List Int,y_=(([wrap64 (((rd_T60 l2 (rd t372 x22_1)).f1) - (wrap64 (2*((rd_T35 l1 x22_1).f1)))),wrap64 ((wrap64 (((rd_T60 l2 (rd t372 x22_1)).f2) - (wrap64 (2*(wrap64 (((rd_T35 l1 x22_1).f1)+((rd_T35 l1 x22_1).f2)))))))+1)]:List Int)):=⟨_,rfl⟩
     replace H:(if x9_1.length<5864062014805 then(spec_vfErrors.l0 k1 l1 l2 (x9_1 ++ [y386]) t372 (t372.length:Int) (wrap64 (x22_1+1))) else(none))=some r:=by subst hy386;exact H
     have Ny386:=am hy386
     clear hy386
     obtain⟨c18,H⟩:=ifp H
     have LMc18:=am c18
     clear c18
     obtain⟨y389,hy389⟩:∃ y_:List (List Int),y_=(x9_1 ++ [y386]):=⟨_,rfl⟩
     replace H:(spec_vfErrors.l0 k1 l1 l2 y389 t372 (t372.length:Int) (wrap64 (x22_1+1)))=some r:=by subst hy389;exact H
     have Ny389:=am hy389
     clear hy389
     have H':=am H
     clear H
     have p378:0≤(x22_1:Int):=od
     have q378:x22_1<(t372.length:Int):=od
     obtain⟨ad378,e378,hx378_0⟩:=Kd.at_int (Kd.R_reads' HO_20.out).2.2 x22_1 p378 q378
     cases e378
     replace p378:=eq_true p378
     replace q378:=eq_true q378
     have p382:0≤(x22_1:Int):=od
     have q382:x22_1<(l1.length:Int):=od
     obtain⟨ad382,e382,hx382_0,hx382_1,hx382_2⟩:=at_T35 HR1.out x22_1 p382 q382
     cases e382
     replace hx382_0:=(HB.out.cell (World.block_lt_of_cell? w _ hx382_0)).trans hx382_0
     replace hx382_1:=(HB.out.cell (World.block_lt_of_cell? w _ hx382_1)).trans hx382_1
     replace hx382_2:=(HB.out.cell (World.block_lt_of_cell? w _ hx382_2)).trans hx382_2
     replace p382:=eq_true p382
     replace q382:=eq_true q382
     try go_wp2_with (first|((with_reducible refine gate_dst (N:=12) rfl ?_);refine box_event ?hg (N:=12) ?hd (cs := #[.int .i64 0,.int .i64 0,.int .i64 0]) (t:=35) ?hr ?_;(case hd=>rfl);(case hg=>rfl);(case hr=>first|(go_simp;done)|(go_simp;rfl));intro gb383 hg w19 hbox hb;replace HO_9:=am (Kd.S_below (by(with_reducible repeat(first|apply Kd.S_alloc|apply Kd.S_drewN|apply Kd.S_drew));exact HO_9.out) hb);replace HO_20:=am (Kd.R_below (rup HO_20.out) hb);have BK383:=am (hbox);have GW383:=am (ge_ bl hg);have GE383:=am (ge_ bl hg);replace HB:=am (below_step bl hb);have NB371_383:=am (nl (bup BK371.out) hg);have NB383_371:=am (ng (bup BK371.out) hg);replace BK371:=am (blk_below (bup BK371.out) hb);clear hb hbox hg;have hnb20:=NB383_371.out;have hnc20:=NB371_383.out;have hcz21_0:=bc BK383.out 0;have hcz21_1:=bc BK383.out 1;have hcz21_2:=bc BK383.out 2;have hfz21_0:=blk_frozen BK383.out 0;have hfz21_1:=blk_frozen BK383.out 1;have hfz21_2:=blk_frozen BK383.out 2))
     have n0_:Aside0 (Kd.S (Kd.slice 3 (Kd.int .i64)) 22 (((w19.setCell ⟨gb383,0,none⟩ (.int .i64 ((rd_T35 l1 x22_1).f0))).setCell ⟨gb383,1,none⟩ (.int .i64 ((rd_T35 l1 x22_1).f1))).setCell ⟨gb383,2,none⟩ (.int .i64 ((rd_T35 l1 x22_1).f2))) w.heap.size (fun k_=>some k_≠(.slice (some ad378) t372.length co8:Value).ownBlock) u9 x9_1):=⟨by(with_reducible repeat(first|apply Kd.S_alloc|apply Kd.S_drewN|apply Kd.S_drew));exact Kd.S_mono (Kd.S_far (p:=⟨gb383,2,none⟩) (Kd.S_far (p:=⟨gb383,1,none⟩) (Kd.S_far (p:=⟨gb383,0,none⟩) (Kd.S_types HO_9.out BK383.out (by decide)) (fun _ hk=>hk.2) (.int .i64 ((rd_T35 l1 x22_1).f0))) (fun _ hk=>hk.2) (.int .i64 ((rd_T35 l1 x22_1).f1))) (fun _ hk=>hk.2) (.int .i64 ((rd_T35 l1 x22_1).f2))) (fun _ hk=>hk.1)⟩
     have n1_:Aside0 (Kd.R (Kd.int .i64) 3 (((w19.setCell ⟨gb383,0,none⟩ (.int .i64 ((rd_T35 l1 x22_1).f0))).setCell ⟨gb383,1,none⟩ (.int .i64 ((rd_T35 l1 x22_1).f1))).setCell ⟨gb383,2,none⟩ (.int .i64 ((rd_T35 l1 x22_1).f2))) w.heap.size (fun _=>True) (.slice (some ad378) t372.length co8) t372):=⟨rup (Kd.R_mono (Kd.R_far (p:=⟨gb383,2,none⟩) (Kd.R_far (p:=⟨gb383,1,none⟩) (Kd.R_far (p:=⟨gb383,0,none⟩) (Kd.R_types HO_20.out BK383.out (by decide)) (fun _ hk=>hk.2) (.int .i64 ((rd_T35 l1 x22_1).f0))) (fun _ hk=>hk.2) (.int .i64 ((rd_T35 l1 x22_1).f1))) (fun _ hk=>hk.2) (.int .i64 ((rd_T35 l1 x22_1).f2))) (fun _ hk=>trivial))⟩
     have n2_:Aside0 ((((w19.setCell ⟨gb383,0,none⟩ (.int .i64 ((rd_T35 l1 x22_1).f0))).setCell ⟨gb383,1,none⟩ (.int .i64 ((rd_T35 l1 x22_1).f1))).setCell ⟨gb383,2,none⟩ (.int .i64 ((rd_T35 l1 x22_1).f2))).heap[gb371]?=some (.cells #[.slice A0_0 l0_0.length c0_0,.int .i64 a0_1] 24 (0,0))):=⟨by(with_reducible repeat(first|refine bN_ ?_ _|refine bD_ ?_|refine bA_ ?_ _));refine blk_far ?_ NB371_383.out _;(with_reducible repeat(first|refine bN_ ?_ _|refine bD_ ?_|refine bA_ ?_ _));refine blk_far ?_ NB371_383.out _;(with_reducible repeat(first|refine bN_ ?_ _|refine bD_ ?_|refine bA_ ?_ _));refine blk_far ?_ NB371_383.out _;exact bup BK371.out⟩
     have n3_:Aside0 ((((w19.setCell ⟨gb383,0,none⟩ (.int .i64 ((rd_T35 l1 x22_1).f0))).setCell ⟨gb383,1,none⟩ (.int .i64 ((rd_T35 l1 x22_1).f1))).setCell ⟨gb383,2,none⟩ (.int .i64 ((rd_T35 l1 x22_1).f2))).heap[gb383]?=some (.cells #[.int .i64 ((rd_T35 l1 x22_1).f0),.int .i64 ((rd_T35 l1 x22_1).f1),.int .i64 ((rd_T35 l1 x22_1).f2)] 35 (0,0))):=⟨by(with_reducible repeat(first|refine bN_ ?_ _|refine bD_ ?_|refine bA_ ?_ _));refine blk_put (cs := #[.int .i64 ((rd_T35 l1 x22_1).f0),.int .i64 ((rd_T35 l1 x22_1).f1),.int .i64 0]) ?_ 2 _ rfl;(with_reducible repeat(first|refine bN_ ?_ _|refine bD_ ?_|refine bA_ ?_ _));refine blk_put (cs := #[.int .i64 ((rd_T35 l1 x22_1).f0),.int .i64 0,.int .i64 0]) ?_ 1 _ rfl;(with_reducible repeat(first|refine bN_ ?_ _|refine bD_ ?_|refine bA_ ?_ _));refine blk_put (cs := #[.int .i64 0,.int .i64 0,.int .i64 0]) ?_ 0 _ rfl;exact bup BK383.out⟩
     have n4_:Aside0 (Below w.heap.size w (((w19.setCell ⟨gb383,0,none⟩ (.int .i64 ((rd_T35 l1 x22_1).f0))).setCell ⟨gb383,1,none⟩ (.int .i64 ((rd_T35 l1 x22_1).f1))).setCell ⟨gb383,2,none⟩ (.int .i64 ((rd_T35 l1 x22_1).f2)))):=⟨bl⟩
     (try clear HO_9)
     (try clear HO_20)
     (try clear BK371)
     (try clear BK383)
     (try clear HB)
     generalize (((w19.setCell ⟨gb383,0,none⟩ (.int .i64 ((rd_T35 l1 x22_1).f0))).setCell ⟨gb383,1,none⟩ (.int .i64 ((rd_T35 l1 x22_1).f1))).setCell ⟨gb383,2,none⟩ (.int .i64 ((rd_T35 l1 x22_1).f2)))=w22 at n0_ n1_ n2_ n3_ n4_ ⊢
     have HO_9:=n0_
     have HO_20:=n1_
     have BK371:=n2_
     have BK383:=n3_
     have HB:=n4_
     clear n0_ n1_ n2_ n3_ n4_
     replace HO_9:=am (Kd.S_drew HO_9.out)
     replace HO_20:=am (Kd.R_drew HO_20.out)
     replace BK371:=am (bD_ BK371.out)
     replace BK383:=am (bD_ BK383.out)
     replace HB:=am (below_drew1 HB.out)
     have p384:0≤((rd t372 x22_1):Int):=od
     have q384:(rd t372 x22_1)<(l2.length:Int):=od
     obtain⟨ad384,e384,hx384_0,hx384_1,hx384_2⟩:=at_T60 HR2.out (rd t372 x22_1) p384 q384
     have hw384_2:=hx384_2
     have hw384_1:=hx384_1
     have hw384_0:=hx384_0
     cases e384
     replace hx384_0:=(HB.out.cell (World.block_lt_of_cell? w _ hx384_0)).trans hx384_0
     replace hx384_1:=(HB.out.cell (World.block_lt_of_cell? w _ hx384_1)).trans hx384_1
     replace hx384_2:=(HB.out.cell (World.block_lt_of_cell? w _ hx384_2)).trans hx384_2
     replace p384:=eq_true p384
     replace q384:=eq_true q384
     have p385:0≤((rd t372 x22_1):Int):=od
     have q385:(rd t372 x22_1)<(l2.length:Int):=od
     obtain⟨ad385,e385,hx385_0,hx385_1,hx385_2⟩:=at_T60 HR2.out (rd t372 x22_1) p385 q385
     have hw385_2:=hx385_2
     have hw385_1:=hx385_1
     have hw385_0:=hx385_0
     obtain rfl:ad384=ad385:=(by injection e385)
     replace hx385_0:=(HB.out.cell (World.block_lt_of_cell? w _ hx385_0)).trans hx385_0
     replace hx385_1:=(HB.out.cell (World.block_lt_of_cell? w _ hx385_1)).trans hx385_1
     replace hx385_2:=(HB.out.cell (World.block_lt_of_cell? w _ hx385_2)).trans hx385_2
     replace p385:=eq_true p385
     replace q385:=eq_true q385
     refine start_ (n:=27) (S:=fun w'=>w'.cell? ⟨gb383,0,none⟩=some (.int .i64 ((rd_T35 l1 x22_1).f0))∧w'.cell? ⟨gb383,1,none⟩=some (.int .i64 ((rd_T35 l1 x22_1).f1))∧w'.cell? ⟨gb383,2,none⟩=some (.int .i64 ((rd_T35 l1 x22_1).f2))∧w'.cell? (ad384.add (((rd t372 x22_1)).toNat*3))=some (.int .i64 ((rd_T60 l2 (rd t372 x22_1)).f0))∧w'.cell? ⟨(ad384.add (((rd t372 x22_1)).toNat*3)).block,(ad384.add (((rd t372 x22_1)).toNat*3)).off+1,none⟩=some (.int .i64 ((rd_T60 l2 (rd t372 x22_1)).f1))∧w'.cell? ⟨(ad384.add (((rd t372 x22_1)).toNat*3)).block,(ad384.add (((rd t372 x22_1)).toNat*3)).off+2,none⟩=some (.int .i64 ((rd_T60 l2 (rd t372 x22_1)).f2))∧w'.cell? (ad384.add (((rd t372 x22_1)).toNat*3))=some (.int .i64 ((rd_T60 l2 (rd t372 x22_1)).f0))∧w'.cell? ⟨(ad384.add (((rd t372 x22_1)).toNat*3)).block,(ad384.add (((rd t372 x22_1)).toNat*3)).off+1,none⟩=some (.int .i64 ((rd_T60 l2 (rd t372 x22_1)).f1))∧w'.cell? ⟨(ad384.add (((rd t372 x22_1)).toNat*3)).block,(ad384.add (((rd t372 x22_1)).toNat*3)).off+2,none⟩=some (.int .i64 ((rd_T60 l2 (rd t372 x22_1)).f2))) (ds:=[]) (fl 0 27) (by kernel_rfl) rfl rfl ⟨bc BK383.out 0,bc BK383.out 1,bc BK383.out 2,((HB.out.cell (World.block_lt_of_cell? w _ hw384_0)).trans hw384_0),((HB.out.cell (World.block_lt_of_cell? w _ hw384_1)).trans hw384_1),((HB.out.cell (World.block_lt_of_cell? w _ hw384_2)).trans hw384_2),((HB.out.cell (World.block_lt_of_cell? w _ hw385_0)).trans hw385_0),((HB.out.cell (World.block_lt_of_cell? w _ hw385_1)).trans hw385_1),((HB.out.cell (World.block_lt_of_cell? w _ hw385_2)).trans hw385_2)⟩ (fun hHeld=>?_);refine with_tabW spec_vfErrors.tab9 spec_vfErrors.bits9 (fun HT_ HW_=>?_)
     generalize w22.drew=w23 at HO_9 HO_20 BK371 BK383 HB hx384_0 hx384_1 hx384_2 hx385_0 hx385_1 hx385_2 hHeld ⊢
     refine pu HT_.out 0 (some 36) (fl 1 27) (h:=?_)
     refine pu HT_.out 1 (some 37) (fl 2 27) (h:=?_)
     refine pu HT_.out 2 (some 38) (fl 3 27) (h:=?_)
     refine pu HT_.out 3 (some 39) (fl 4 27) (h:=?_)
     refine pu HT_.out 4 (some 40) (fl 5 27) (h:=?_)
     refine pu HT_.out 6 (some 42) #[true,true,true,true,true,false,true,false,false,false,false,false,false,false,false,false,false,false,false,false,false,false,false,false,false,false,false] (h:=?_)
     refine pu HT_.out 10 (some 46) #[true,true,true,true,true,false,true,false,false,false,true,false,false,false,false,false,false,false,false,false,false,false,false,false,false,false,false] (h:=?_)
     refine pu HT_.out 11 (some 47) #[true,true,true,true,true,false,true,false,false,false,true,true,false,false,false,false,false,false,false,false,false,false,false,false,false,false,false] (h:=?_)
     refine pu HT_.out 12 (some 48) #[true,true,true,true,true,false,true,false,false,false,true,true,true,false,false,false,false,false,false,false,false,false,false,false,false,false,false] (h:=?_)
     refine pu HT_.out 13 (some 49) #[true,true,true,true,true,false,true,false,false,false,true,true,true,true,false,false,false,false,false,false,false,false,false,false,false,false,false] (h:=?_)
     refine pu HT_.out 15 (some 51) #[true,true,true,true,true,false,true,false,false,false,true,true,true,true,false,true,false,false,false,false,false,false,false,false,false,false,false] (h:=?_)
     refine pu HT_.out 17 (some 53) #[true,true,true,true,true,false,true,false,false,false,true,true,true,true,false,true,false,true,false,false,false,false,false,false,false,false,false] (h:=?_)
     refine ta HT_.out HW_.out 5 (some 41) #[true,true,true,true,true,true,true,false,false,false,true,true,true,true,false,true,false,true,false,false,false,false,false,false,false,false,false] hHeld rfl (by rintro w' ⟨s0,s1,s2,s3,s4,s5,s6,s7,s8⟩;go_simp;with_reducible rfl) (h:=?_)
     refine ta HT_.out HW_.out 7 (some 43) #[true,true,true,true,true,true,true,true,false,false,true,true,true,true,false,true,false,true,false,false,false,false,false,false,false,false,false] hHeld rfl (by rintro w' ⟨s0,s1,s2,s3,s4,s5,s6,s7,s8⟩;go_simp;with_reducible rfl) (h:=?_)
     refine pu HT_.out 8 (some 44) #[true,true,true,true,true,true,true,true,true,false,true,true,true,true,false,true,false,true,false,false,false,false,false,false,false,false,false] (h:=?_)
     refine pu HT_.out 9 (some 45) #[true,true,true,true,true,true,true,true,true,true,true,true,true,true,false,true,false,true,false,false,false,false,false,false,false,false,false] (h:=?_)
     refine ta HT_.out HW_.out 14 (some 50) #[true,true,true,true,true,true,true,true,true,true,true,true,true,true,true,true,false,true,false,false,false,false,false,false,false,false,false] hHeld rfl (by rintro w' ⟨s0,s1,s2,s3,s4,s5,s6,s7,s8⟩;go_simp;with_reducible rfl) (h:=?_)
     refine ta HT_.out HW_.out 16 (some 52) (fl 18 27) hHeld rfl (by rintro w' ⟨s0,s1,s2,s3,s4,s5,s6,s7,s8⟩;go_simp;with_reducible rfl) (h:=?_)
     refine ta HT_.out HW_.out 18 (some 54) (fl 19 27) hHeld rfl (by rintro w' ⟨s0,s1,s2,s3,s4,s5,s6,s7,s8⟩;go_simp;with_reducible rfl) (h:=?_)
     refine pu HT_.out 19 (some 55) (fl 20 27) (h:=?_)
     refine pu HT_.out 20 (some 56) (fl 21 27) (h:=?_)
     refine pu HT_.out 21 (some 57) (fl 22 27) (h:=?_)
     refine pu HT_.out 22 (some 58) (fl 23 27) (h:=?_)
     refine one_ (i:=23) (N:=some 59) (fl 24 27) rfl rfl (one_of HT_.out (by kernel_rfl)) (by decide) (fun K hK=>?_)
     refine Kd.R_lit_step (Kd.int .i64) _ 3 ?hg (N:=59) ?hd (xs:=([wrap64 (((rd_T60 l2 (rd t372 x22_1)).f1) - (wrap64 (2*((rd_T35 l1 x22_1).f1)))),wrap64 ((wrap64 (((rd_T60 l2 (rd t372 x22_1)).f2) - (wrap64 (2*(wrap64 (((rd_T35 l1 x22_1).f1)+((rd_T35 l1 x22_1).f2)))))))+1)]:List Int)) (inner:=[.int .i64 (wrap64 (((rd_T60 l2 (rd t372 x22_1)).f1) - (wrap64 (2*((rd_T35 l1 x22_1).f1))))),.int .i64 (wrap64 ((wrap64 (((rd_T60 l2 (rd t372 x22_1)).f2) - (wrap64 (2*(wrap64 (((rd_T35 l1 x22_1).f1)+((rd_T35 l1 x22_1).f2)))))))+1))]) (ok:=fun _=>True) (okp:=fun _=>True) ?hr ?hp (fun _ hk=>hk) trivial (Below.refl _ _) (Nat.le_refl _) (by simp) ?_;(case hd=>rfl);(case hg=>rfl);(case hr=>first|(go_simp;done)|(go_simp;rfl));(case hp=>exact(Reps.one (show Kd.M (Kd.int .i64) _ _ _ (wrap64 (((rd_T60 l2 (rd t372 x22_1)).f1) - (wrap64 (2*((rd_T35 l1 x22_1).f1))))) [.int .i64 (wrap64 (((rd_T60 l2 (rd t372 x22_1)).f1) - (wrap64 (2*((rd_T35 l1 x22_1).f1)))))] from rfl) (Reps.one (show Kd.M (Kd.int .i64) _ _ _ (wrap64 ((wrap64 (((rd_T60 l2 (rd t372 x22_1)).f2) - (wrap64 (2*(wrap64 (((rd_T35 l1 x22_1).f1)+((rd_T35 l1 x22_1).f2)))))))+1)) [.int .i64 (wrap64 ((wrap64 (((rd_T60 l2 (rd t372 x22_1)).f2) - (wrap64 (2*(wrap64 (((rd_T35 l1 x22_1).f1)+((rd_T35 l1 x22_1).f2)))))))+1))] from rfl) (Reps.none _ _))))
     intro v387 w24 ho25 hb hg_ hnew_
     clear hg_ hnew_
     (first|rw[← Ny386.out] at ho25|(simp only[Int.reduceToNat] at ho25;rw[← Ny386.out] at ho25))
     replace HO_9:=am (Kd.S_elder' (by(with_reducible repeat(first|apply Kd.S_alloc|apply Kd.S_drewN|apply Kd.S_drew));exact HO_9.out) (Kd.R_base ho25) hb)
     have HO388:=am (Kd.R_lower (Kd.R_new' ho25 (Kd.R_lt (rup HO_20.out))) (below_size bl))
     replace HO_20:=am (Kd.R_elder' (rup HO_20.out) (Kd.R_base ho25) hb)
     replace BK371:=am (blk_below (bup BK371.out) hb)
     replace BK383:=am (blk_below (bup BK383.out) hb)
     replace HB:=am (below_step bl hb)
     clear hb ho25
     obtain⟨Ao27,co27,eo27⟩:=Kd.R_slice HO388.out
     (first|subst eo27|(injection eo27 with f1_ f2_ f3_;have f4_:=f1_.symm;have f5_:=f3_.symm;clear f1_ f2_ f3_;subst f4_;subst f5_))
     refine hK.out _ _ ⟨bc BK383.out 0,bc BK383.out 1,bc BK383.out 2,((HB.out.cell (World.block_lt_of_cell? w _ hw384_0)).trans hw384_0),((HB.out.cell (World.block_lt_of_cell? w _ hw384_1)).trans hw384_1),((HB.out.cell (World.block_lt_of_cell? w _ hw384_2)).trans hw384_2),((HB.out.cell (World.block_lt_of_cell? w _ hw385_0)).trans hw385_0),((HB.out.cell (World.block_lt_of_cell? w _ hw385_1)).trans hw385_1),((HB.out.cell (World.block_lt_of_cell? w _ hw385_2)).trans hw385_2)⟩ (fun hHeld=>?_)
     clear hK K
     refine norm_ (a':=?_) ?_ ?_
     rotate_left
     ·show Act.put _ (some 59) _=_
      simp only[Act.put,List.setIfInBounds_toArray,List.set_cons_zero,List.set_cons_succ,i64_w,i32_w]
      rfl
     refine one_ (i:=24) (N:=some 60) (fl 25 27) rfl rfl (one_of HT_.out (by kernel_rfl)) (by decide) (fun K hK=>?_)
     refine value_ (w1:=?_) (v:=?_) (by rfl) rfl ?_ ?_
     rotate_left 2
     ·go_simp
      constructor
      ·rfl
      ·rfl
     refine hK.out _ _ ⟨(blk_cell (bA_ BK383.out _) 0).trans rfl,(blk_cell (bA_ BK383.out _) 1).trans rfl,(blk_cell (bA_ BK383.out _) 2).trans rfl,(World.cell?_alloc_lt _ _ _ (World.block_lt_of_cell? _ _ (((HB.out.cell (World.block_lt_of_cell? w _ hw384_0)).trans hw384_0)))).trans (((HB.out.cell (World.block_lt_of_cell? w _ hw384_0)).trans hw384_0)),(World.cell?_alloc_lt _ _ _ (World.block_lt_of_cell? _ _ (((HB.out.cell (World.block_lt_of_cell? w _ hw384_1)).trans hw384_1)))).trans (((HB.out.cell (World.block_lt_of_cell? w _ hw384_1)).trans hw384_1)),(World.cell?_alloc_lt _ _ _ (World.block_lt_of_cell? _ _ (((HB.out.cell (World.block_lt_of_cell? w _ hw384_2)).trans hw384_2)))).trans (((HB.out.cell (World.block_lt_of_cell? w _ hw384_2)).trans hw384_2)),(World.cell?_alloc_lt _ _ _ (World.block_lt_of_cell? _ _ (((HB.out.cell (World.block_lt_of_cell? w _ hw385_0)).trans hw385_0)))).trans (((HB.out.cell (World.block_lt_of_cell? w _ hw385_0)).trans hw385_0)),(World.cell?_alloc_lt _ _ _ (World.block_lt_of_cell? _ _ (((HB.out.cell (World.block_lt_of_cell? w _ hw385_1)).trans hw385_1)))).trans (((HB.out.cell (World.block_lt_of_cell? w _ hw385_1)).trans hw385_1)),(World.cell?_alloc_lt _ _ _ (World.block_lt_of_cell? _ _ (((HB.out.cell (World.block_lt_of_cell? w _ hw385_2)).trans hw385_2)))).trans (((HB.out.cell (World.block_lt_of_cell? w _ hw385_2)).trans hw385_2))⟩ (fun hHeld=>?_)
     clear hK K
     refine norm_ (a':=?_) ?_ ?_
     rotate_left
     ·show Act.put _ (some 60) _=_
      simp only[Act.put,List.setIfInBounds_toArray,List.set_cons_zero,List.set_cons_succ,i64_w,i32_w]
      rfl
     refine one_ (i:=25) (N:=some 61) (fl 26 27) rfl rfl (one_of HT_.out (by kernel_rfl)) (by decide) (fun K hK=>?_)
     refine Kd.S_append_step (Kd.slice 3 (Kd.int .i64)) (w0:=w) w.heap.size (by rfl) (.tmp 36) (.tmp 60) 39 22 (.slice none 0 0) 24 rfl Try.underlying39 info22 rfl (by decide) (by omega) u9 x9_1 y386 [.slice Ao27 y386.length co27] (fun k_=>some k_≠(.slice (some ad378) t372.length co8:Value).ownBlock) (fun k_=>some k_=(.slice Ao27 y386.length co27:Value).ownBlock) rfl rfl ?aP (fun k_ hk_=>((Kd.R_mono (ok':=fun k_=>((fun k_=>some k_≠(.slice (some ad378) t372.length co8:Value).ownBlock)) k_∧some k_≠(u9:Value).ownBlock) (Kd.R_apart' (HO388.out) (Kd.S_typed HO_9.out) (by decide)) (fun k_ hk=>⟨hk.1.2,hk.2⟩))).1 k_ hk_.symm) ?aF ?aO ?aB ?aS ?aL ?_
     (case aP=>exact Kd.M_row (Kd.R_mono (Kd.R_tight rfl (Kd.R_mono (ok':=fun k_=>((fun k_=>some k_≠(.slice (some ad378) t372.length co8:Value).ownBlock)) k_∧some k_≠(u9:Value).ownBlock) (Kd.R_apart' (HO388.out) (Kd.S_typed HO_9.out) (by decide)) (fun k_ hk=>⟨hk.1.2,hk.2⟩))) (fun _ h_=>h_)))
     (case aB=>exact bl)
     (case aF=>exact(fun k_ hk=>Kd.fresh' (Kd.R_lt (rup HO_20.out)) k_ hk))
     (case aO=>exact(by(with_reducible repeat(first|apply Kd.S_alloc|apply Kd.S_drewN|apply Kd.S_drew));exact Kd.S_mono HO_9.out (fun k_ hk=>⟨hk.1,fun e_=>hk.2 e_⟩)))
     (case aS=>exact(below_size bl))
     (case aL=>have:=LMc18.out;omega)
     intro v390 w26 ho hb hg hat
     rw[← Ny389.out] at ho
     replace HO_20:=am (Kd.R_over' (rup HO_20.out) (Kd.S_typed (by(with_reducible repeat(first|apply Kd.S_alloc|apply Kd.S_drewN|apply Kd.S_drew));exact HO_9.out)) (by decide) hg)
     replace BK371:=am (blk_grown (bup BK371.out) hg (Kd.S_ne HO_9.out BK371.out (by decide)))
     replace BK383:=am (blk_grown (bup BK383.out) hg (Kd.S_ne HO_9.out BK383.out (by decide)))
     replace HB:=am (hb)
     have HO391:=am (ho)
     clear HO_9 HO388
     clear ho hb hg hat
     refine hK.out _ _ ⟨bc BK383.out 0,bc BK383.out 1,bc BK383.out 2,((HB.out.cell (World.block_lt_of_cell? w _ hw384_0)).trans hw384_0),((HB.out.cell (World.block_lt_of_cell? w _ hw384_1)).trans hw384_1),((HB.out.cell (World.block_lt_of_cell? w _ hw384_2)).trans hw384_2),((HB.out.cell (World.block_lt_of_cell? w _ hw385_0)).trans hw385_0),((HB.out.cell (World.block_lt_of_cell? w _ hw385_1)).trans hw385_1),((HB.out.cell (World.block_lt_of_cell? w _ hw385_2)).trans hw385_2)⟩ (fun hHeld=>?_)
     clear hK K
     refine norm_ (a':=?_) ?_ ?_
     rotate_left
     ·show Act.put _ (some 61) _=_
      simp only[Act.put,List.setIfInBounds_toArray,List.set_cons_zero,List.set_cons_succ,i64_w,i32_w]
      rfl
     refine pu HT_.out 26 (some 9) (fl 27 27) (h:=?_)
     refine done_ (done_of HT_.out (by kernel_rfl)) ?_
     try go_wp2
     go_roundg k1
     case measure=>have:=HK1.out;omega
     case rel=>exact⟨(y389),(wrap64 (x22_1+1)),fin2,H',⟨by have:=HK1.out;omega⟩,⟨by(with_reducible repeat(first|apply Kd.S_alloc|apply Kd.S_drewN|apply Kd.S_drew));exact HO391.out⟩,⟨rup (Kd.R_mono HO_20.out (fun _ hk=>trivial))⟩,⟨bup BK371.out⟩,⟨bl⟩⟩
   ·have c9b0:=decide_eq_false c9
    clear c9
    obtain rfl:=Option.some.inj H
    go_wp2
    go_ret
    exact⟨_,fin1,by(with_reducible repeat(first|apply Kd.S_alloc|apply Kd.S_drewN|apply Kd.S_drew));exact Kd.S_mono HO_9.out (fun _ hk=>trivial),bl⟩

def spec_l1Most.f (a0:Int) (a1:Int):Option (Int):=if a0>a1 then(some a0) else(some a1)
set_option maxHeartbeats 8000000 in
set_option maxRecDepth 100000 in
theorem spec_l1Most.calls (a0:Int) (a1:Int) (r:Int) (w:World) (h:spec_l1Most.f a0 a1=some r) :
  Calls Try.prog 37 #[.int .i64 a0,.int .i64 a1] w fun e w'=>e = .returned (.int .i64 r)∧Drawn0 w w':=by
 have H:(if a0>a1 then(some a0) else(some a1))=some r:=h
 clear h
 rcases itc H with⟨c3,H⟩|⟨c3,H⟩
 ·have c3b0:decide (a1<a0)=true:=decide_eq_true c3
  clear c3
  obtain rfl:=Option.some.inj H
  go_enter Try.func37,Try.ntmps37
  go_wp2
  go_ret
  exact⟨by first|rfl|(simp;done)|(simp [*];done),by repeat(first|exact Drawn0.refl _|apply Drawn0.step)⟩
 ·have c3b0:decide (a1<a0)=false:=decide_eq_false c3
  clear c3
  obtain rfl:=Option.some.inj H
  go_enter Try.func37,Try.ntmps37
  go_wp2
  go_ret
  exact⟨by first|rfl|(simp;done)|(simp [*];done),by repeat(first|exact Drawn0.refl _|apply Drawn0.step)⟩

def spec_l1Abs.f (a0:Int):Option (Int):=(spec_l1Most.f a0 (wrap64 (-a0))).bind fun t392=>(some t392)
set_option maxHeartbeats 8000000 in
set_option maxRecDepth 100000 in
theorem spec_l1Abs.calls (a0:Int) (r:Int) (w:World) (h:spec_l1Abs.f a0=some r) :
  Calls Try.prog 24 #[.int .i64 a0] w fun e w'=>e = .returned (.int .i64 r)∧Drawn0 w w':=by
 have H:((spec_l1Most.f a0 (wrap64 (-a0))).bind fun t392=>(some t392))=some r:=h
 clear h
 obtain⟨t392,A2,H⟩:=bnd H
 obtain rfl:=Option.some.inj H
 go_enter Try.func24,Try.ntmps24
 go_wp2_with (first|((with_reducible refine gate_callee (f:=37) rfl ?_);refine goesL_ (some 6) rfl rfl Try.func37 (by kernel_rfl) rfl #[.int .i64 a0,.int .i64 (wrap64 (-a0))] rfl tl ?_;(with_reducible refine(spec_l1Most.calls a0 (wrap64 (-a0)) t392 _ A2.out).mono ?_);rintro e w' ⟨rfl,⟨nd,rfl⟩⟩;refine⟨_,rfl,?_⟩))
 go_ret
 exact⟨by first|rfl|(simp;done)|(simp [*];done),by repeat(first|exact Drawn0.refl _|apply Drawn0.step)⟩

namespace vff
def absV (x:Int):Int:=if x>wrap64 (-x) then x else wrap64 (-x)
def missAt (e:List (List Int)) (j:Nat):Bool:=decide ((e.getD j []).length=0)
def offAt (most c:Int) (e:List (List Int)) (j:Nat):Bool:=!missAt e j&&decide (absV (rd (e.getD j []) c)>most)
def pick (p:Nat→Bool) (n:Nat):List Int:=((List.range n).filter p).map fun(j:Nat)=>(j:Int)
def rows (c:Int) (l:List Int):List (List Int):=l.map fun i=>[c,i]
def faults (e:List (List Int)) (extra silent:List Int) (most:Int):List (List Int) :=
 rows 0 (pick (missAt e) e.length) ++ rows 1 extra ++ rows 2 (pick (offAt most 0 e) e.length) ++ rows 3 (pick (offAt most 1 e) e.length) ++ rows 4 silent
theorem pick_succ (p:Nat→Bool) (n:Nat):pick p (n+1)=if p n=true then pick p n ++ [(n:Int)] else pick p n:=by
 unfold pick
 rw[List.range_succ,List.filter_append]
 by_cases h:p n=true
 ·rw[if_pos h,List.filter_cons_of_pos h,List.map_append];rfl
 ·rw[if_neg h,List.filter_cons_of_neg h,List.filter_nil,List.append_nil]
end vff
namespace vff
theorem pick_len (p:Nat→Bool) (n:Nat):(pick p n).length≤n:=by
 unfold pick
 rw[List.length_map]
 exact Nat.le_trans (List.length_filter_le _ _) (Nat.le_of_eq List.length_range)
theorem abs_eq (x:Int):spec_l1Abs.f x=some (absV x):=by
 unfold spec_l1Abs.f spec_l1Most.f absV
 split<;>rfl
def okE (e:List (List Int)) (x s:List Int):Prop:=e.length≤1000000∧x.length≤1000000∧s.length≤1000000∧∀ r∈e,r.length=0∨2≤r.length
instance (e:List (List Int)) (x s:List Int):Decidable (okE e x s):=by unfold okE;infer_instance
def outs (ls:List (List Int)):Nat→List (List Int)
 | 0=>[]
 | n+1=>outs ls n ++ rows (n:Int) (ls.getD n [])
theorem rows_snoc (c:Int) (l:List Int) (x:Int):rows c (l ++ [x])=rows c l ++ [[c,x]]:=by unfold rows;rw[List.map_append];rfl
theorem pool {e:Nat} {W:World} {base n cap g:Nat} {ok:Nat→Prop} {xs:List (List Int)} (h:Kd.S (Kd.slice 3 (Kd.int .i64)) e W base ok (.slice (some ⟨g,0,none⟩) n cap) xs) (i:Nat) (hi:i<xs.length) :
  ∃ hv,W.cell? ⟨g,i,none⟩=some hv∧Kd.R (Kd.int .i64) 3 W base (fun k=>ok k∧k≠g) hv (xs.getD i []):=by
 obtain⟨f,hR⟩:=h
 have hgo:some g=(Value.slice (some ⟨g,0,none⟩) n cap).ownBlock:=by simp [Value.ownBlock]
 obtain⟨hok0,inner,ho,hr⟩:=hR
 have hM:(Kd.slice 3 (Kd.int .i64)).M W base (fun k=>(ok k∧some k≠(Value.slice (some ⟨g,0,none⟩) n cap).ownBlock)∧f k=i) xs[i] ((inner.drop (i*1)).take 1):=hr.2 i (xs[i],i) (Kd.zip_at (List.getElem?_eq_getElem hi))
 obtain⟨hv,he,hrow⟩:=hM
 have hin:inner[i]?=some hv:=by
  have h1:((inner.drop (i*1)).take 1)[0]?=some hv:=by rw[he];rfl
  rw[List.getElem?_take,if_pos (by omega),List.getElem?_drop] at h1
  simpa using h1
 have hc:=ho.cells (g:=g) hgo.symm i hv hin
 rw[add_plain] at hc
 refine⟨hv,hc,?_⟩
 rw[List.getD_eq_getElem?_getD,List.getElem?_eq_getElem hi]
 exact Kd.R_mono hrow (fun k hk=>⟨hk.1.1,fun e=>hk.1.2 (by rw[e];exact hgo)⟩)
theorem get {e:Nat} {W:World} {base cap g:Nat} {ok:Nat→Prop} {xs:List (List Int)} (h:Kd.S (Kd.slice 3 (Kd.int .i64)) e W base ok (.slice (some ⟨g,0,none⟩) 5 cap) xs) (i:Nat) (hi:i<5) :
  ∃(oki:Nat→Prop) (v:Value),W.cell? ⟨g,i,none⟩=some v∧W.frozen? ⟨g,i,none⟩=false∧Kd.R (Kd.int .i64) 3 W base oki v (xs.getD i [])∧(∀ k,oki k→ok k∧k≠g)∧Kd.H (Kd.slice 3 (Kd.int .i64)) e W base ok (.slice (some ⟨g,0,none⟩) 5 cap) xs (i:Int) oki [v]:=by
 obtain⟨oki,c,hcl,hM,hcc,hfr,hoki,hH⟩:=Kd.S_elem h [] (i:Int) (by omega) (by omega)
 obtain⟨v,rfl,hR⟩:=hM
 have h1:=hcc 0 v rfl
 have h2:=hfr 0
 rw[show(i:Int).toNat*(Kd.slice 3 (Kd.int .i64)).sz+0=i from by rw[show(Kd.slice 3 (Kd.int .i64)).sz=1 from rfl];omega] at h1 h2
 rw[Int.toNat_natCast] at hR
 exact⟨oki,v,h1,h2,hR,hoki,hH⟩
theorem put {e:Nat} {W:World} {base cap g:Nat} {ok oki okp okg:Nat→Prop} {xs:List (List Int)} {i:Nat} {v v1:Value} {D:List Int} (h:Kd.H (Kd.slice 3 (Kd.int .i64)) e W base ok (.slice (some ⟨g,0,none⟩) 5 cap) xs (i:Int) oki [v]) (hi:i<5)
  (hR:Kd.R (Kd.int .i64) 3 W base okp v1 D) (hokp:∀ k,okp k→oki k∨okg k) (hne:∀ k,okg k→¬ ok k) (hg:∀ k,okg k→k≠g) :
  Kd.S (Kd.slice 3 (Kd.int .i64)) e (W.setCell ⟨g,i,none⟩ v1) base (fun k=>ok k∨okg k) (.slice (some ⟨g,0,none⟩) 5 cap) (xs.set i D)∧W.grownBy (W.setCell ⟨g,i,none⟩ v1) (some g):=by
 have h0:=Kd.S_seg (okg:=okg) (ok:=fun k=>ok k∨okg k) (okp:=okp) (x':=D) (seg:=[v1]) (j:=0) (Kd.H_mono h (fun k hk=>⟨.inl hk,fun h2=>hne k h2 hk⟩)) (by omega) (by omega) (Nat.le_refl 1) (by
  show(Kd.slice 3 (Kd.int .i64)).M W base okp D [v1]
  exact⟨v1,rfl,hR⟩) hokp (fun k hk=>⟨.inr hk,hg k hk⟩)
 have e1:W.setCells g ((i:Int).toNat*(Kd.slice 3 (Kd.int .i64)).sz+0) [v1]=W.setCell ⟨g,i,none⟩ v1:=by
  rw[show(i:Int).toNat*(Kd.slice 3 (Kd.int .i64)).sz+0=i from by rw[show(Kd.slice 3 (Kd.int .i64)).sz=1 from rfl];omega]
  rfl
 rw[e1,Int.toNat_natCast] at h0
 exact h0
theorem meas {i n:Nat} (h:i<n) (hn:n≤1000000):n - (intOf (Value.int .i64 (wrap64 ((i:Int)+1)))).toNat<n - (intOf (Value.int .i64 (i:Int))).toNat:=by
 have hw:wrap64 ((i:Int)+1)=((i+1:Nat):Int):=by unfold wrap64;omega
 rw[hw]
 show n - ((i+1:Nat):Int).toNat<n - ((i:Nat):Int).toNat
 rw[Int.toNat_natCast,Int.toNat_natCast]
 omega
theorem bnd0 {a b:Nat} (h:a≤b):a≤b+0:=h
theorem start {o a:List (List Int)} {c:Int} {x:List Int} (h:o=a):o=a ++ rows c (x.take 0):=by
 rw[h]
 exact(List.append_nil a).symm
theorem appended {e:Nat} {W wa:World} {base cap g:Nat} {ok ok0 okx:Nat→Prop} {xs:List (List Int)} {i:Nat} {vc va:Value} {D D':List Int} (hR:Kd.R (Kd.int .i64) 3 W base ok0 vc D) (hH:Kd.H (Kd.slice 3 (Kd.int .i64)) e W base ok (.slice (some ⟨g,0,none⟩) 5 cap) xs (i:Int) ok0 [vc]) (ho:Kd.R (Kd.int .i64) 3 wa base okx va D') (hg:W.grownBy wa vc.ownBlock) (hat:va.ownBlock=vc.ownBlock∨∃ b,va.ownBlock=some b∧W.heap.size≤b) (hf:∀ k,W.heap.size≤k→ok k) :
  ∃ okq,Kd.H (Kd.slice 3 (Kd.int .i64)) e wa base ok (.slice (some ⟨g,0,none⟩) 5 cap) xs (i:Int) okq [vc]∧Kd.R (Kd.int .i64) 3 wa base okq va D':=by
 refine⟨fun k=>ok0 k∨ok k∧W.heap.size≤k,Kd.H_grown (Kd.H_widen hH) hg (fun k hk => .inl (hR.1 k hk)),Kd.R_mono (Kd.R_tight rfl ho) (fun k hk=>?_)⟩
 rcases hat with h|⟨b,hb,hl⟩
 ·exact .inl (hR.1 k (by rw[← h];exact hk.symm))
 ·have hkb:k=b:=by rw[hb] at hk;injection hk
  subst hkb
  exact .inr ⟨hf k hl,hl⟩
theorem cell_grown {W w1:World} {row:Option Nat} {g i:Nat} (hg:W.grownBy w1 row) (hl:g<W.heap.size) (hne:some g≠row):w1.cell? ⟨g,i,none⟩=W.cell? ⟨g,i,none⟩∧w1.frozen? ⟨g,i,none⟩=W.frozen? ⟨g,i,none⟩:=by
 have h:=hg.block g hl hne
 constructor
 ·simp only[World.cell?,h]
 ·simp only[World.frozen?,h]
end vff
def spec_vfFaults.f (k:Nat) (l0_0:List Int) (a0_1:Int) (l1:List (S35)) (l2:List (S60)) (a3_0:Int) (a3_1:Int) (a3_2:Int) (a4:Int):Option (List (List Int)) :=
 (spec_vfMatch.f k l0_0 a0_1 l1 l2).bind fun m=>(spec_pyAll.f k l0_0 a0_1 l2 a3_0 a3_1 a3_2).bind fun p=>(spec_vfErrors.f k l0_0 a0_1 l1 l2).bind fun e=>if vff.okE e m.2 p.2 then some (vff.faults e m.2 p.2 a4) else none
set_option maxHeartbeats 16000000 in
set_option maxRecDepth 100000 in
theorem spec_vfFaults.calls (k:Nat) (A0_0:Option Addr) (c0_0:Nat) (l0_0:List Int) (a0_1:Int) (A1:Option Addr) (c1:Nat) (l1:List (S35)) (A2:Option Addr) (c2:Nat) (l2:List (S60)) (a3_0:Int) (a3_1:Int) (a3_2:Int) (a4:Int) (r:List (List Int)) (w:World) (hr0_0:Kd.C (Kd.int .i64) w A0_0 l0_0.length l0_0) (hc0_0:l0_0.length≤c0_0) (hr1:Kd.C k35 w A1 l1.length l1) (hc1:l1.length≤c1) (hr2:Kd.C k60 w A2 l2.length l2) (hc2:l2.length≤c2) (h:spec_vfFaults.f k l0_0 a0_1 l1 l2 a3_0 a3_1 a3_2 a4=some r) :
  Calls Try.prog 10 #[.agg #[.slice A0_0 l0_0.length c0_0,.int .i64 a0_1],.slice A1 l1.length c1,.slice A2 l2.length c2,.agg #[.int .i64 a3_0,.int .i64 a3_1,.int .i64 a3_2],.int .i64 a4] w fun e w'=>∃ v0_:Value,e = .returned (v0_)∧Kd.S (Kd.slice 3 (Kd.int .i64)) 22 w' w.heap.size (fun _=>True) v0_ r∧Below w.heap.size w w':=by
 have hu34:=Try.underlying24
 have hu40:=Try.underlying28
 have HR0_0:=am hr0_0
 have HC0_0:=am hc0_0
 have HR1:=am hr1
 have HC1:=am hc1
 have HR2:=am hr2
 have HC2:=am hc2
 clear hr0_0 hc0_0 hr1 hc1 hr2 hc2
 have HB:=am (Below.refl w.heap.size w)
 obtain⟨⟨t0,X⟩,hA1,h⟩:=Option.bind_eq_some_iff.mp h
 obtain⟨⟨t2,SI⟩,hA2,h⟩:=Option.bind_eq_some_iff.mp h
 obtain⟨es,hA3,h⟩:=Option.bind_eq_some_iff.mp h
 have A1_:=am hA1
 have A2_:=am hA2
 have A3_:=am hA3
 clear hA1 hA2 hA3
 have hok:vff.okE es X SI:=by
  by_cases c:vff.okE es X SI
  ·exact c
  ·rw[if_neg c] at h;cases h
 rw[if_pos hok] at h
 obtain rfl:=Option.some.inj h
 clear h
 have HOK:=am hok
 clear hok
 go_enter Try.func10,Try.ntmps10
 go_wp2_with (first|((with_reducible refine gate_dst (N:=5) rfl ?_);refine box_event ?hg (N:=5) ?hd (cs := #[.slice A0_0 l0_0.length c0_0,.int .i64 a0_1]) (t:=24) ?hr ?_;(case hd=>rfl);(case hg=>rfl);(case hr=>first|(go_simp;done)|(go_simp;rfl));intro ga hg wb hbox hb;have n1_:=am (below_step (by repeat(first|exact HB.out|apply below_alloc|apply pw_below_drewN|apply below_drew1)) hb);have n2_:=am hbox;clear HB;have HB:=n1_;have BKga:=n2_;clear n1_ n2_ hb hbox hg)|((with_reducible refine gate_dst (N:=8) rfl ?_);refine box_event ?hg (N:=8) ?hd (cs := #[.int .i64 a3_0,.int .i64 a3_1,.int .i64 a3_2]) (t:=28) ?hr ?_;(case hd=>rfl);(case hg=>rfl);(case hr=>first|(go_simp;done)|(go_simp;rfl));intro gb hg wb hbox hb;replace BKga:=am (blk_below (g:=ga) (o := .cells #[.slice A0_0 l0_0.length c0_0,.int .i64 a0_1] 24 (0,0)) (by exact bup BKga.out) hb);have n1_:=am (below_step (by repeat(first|exact HB.out|apply below_alloc|apply pw_below_drewN|apply below_drew1)) hb);have n2_:=am hbox;clear HB;have HB:=n1_;have BKgb:=n2_;clear n1_ n2_ hb hbox hg;have hca0:=bc BKga.out 0;have hfa0:=blk_frozen BKga.out 0;have hca1:=bc BKga.out 1;have hfa1:=blk_frozen BKga.out 1;have hcb0:=bc BKgb.out 0;have hfb0:=blk_frozen BKgb.out 0;have hcb1:=bc BKgb.out 1;have hfb1:=blk_frozen BKgb.out 1;have hcb2:=bc BKgb.out 2;have hfb2:=blk_frozen BKgb.out 2)|((with_reducible refine gate_callee (f:=21) rfl ?_);refine goesL_ (some 27) rfl rfl Try.func21 (by kernel_rfl) rfl #[.agg #[.slice A0_0 l0_0.length c0_0,.int .i64 a0_1],.slice A1 l1.length c1,.slice A2 l2.length c2] rfl (by(try simp only[List.map_toArray,List.map_cons,List.map_nil]);first|done|rfl) ?_;(with_reducible refine(spec_vfMatch.calls k _ _ l0_0 a0_1 _ _ l1 _ _ l2 t0 X _ ?s1 ?s2 ?s3 ?s4 ?s5 ?s6 A1_.out).mono ?_);(case s1=>exact cup (Kd.C_below HR0_0.out HB.out));(case s2=>exact HC0_0.out);(case s3=>exact cup (Kd.C_below HR1.out HB.out));(case s4=>exact HC1.out);(case s5=>exact cup (Kd.C_below HR2.out HB.out));(case s6=>exact HC2.out);rintro e wm ⟨vq,vx,rfl,ho0,ho1,hb⟩;refine⟨_,rfl,?_⟩;have n5_:=am (blk_below (g:=ga) (o := .cells #[.slice A0_0 l0_0.length c0_0,.int .i64 a0_1] 24 (0,0)) (by exact bup BKga.out) hb);have n6_:=am (blk_below (g:=gb) (o := .cells #[.int .i64 a3_0,.int .i64 a3_1,.int .i64 a3_2] 28 (0,0)) (by exact bup BKgb.out) hb);clear BKga BKgb;have BKga:=n5_;have BKgb:=n6_;clear n5_ n6_;have HX:=am (Kd.R_mono (Kd.R_bound (Kd.R_lower ho1 (below_size (by repeat(first|exact HB.out|apply below_alloc|apply pw_below_drewN|apply below_drew1))))) (ok':=fun k=>k<wm.heap.size) (fun k hk=>hk.2.2.1));replace HB:=am (below_step (by repeat(first|exact HB.out|apply below_alloc|apply pw_below_drewN|apply below_drew1)) hb);clear hb ho0 ho1;have hca0:=bc BKga.out 0;have hfa0:=blk_frozen BKga.out 0;have hca1:=bc BKga.out 1;have hfa1:=blk_frozen BKga.out 1;have hcb0:=bc BKgb.out 0;have hfb0:=blk_frozen BKgb.out 0;have hcb1:=bc BKgb.out 1;have hfb1:=blk_frozen BKgb.out 1;have hcb2:=bc BKgb.out 2;have hfb2:=blk_frozen BKgb.out 2)|((with_reducible refine gate_callee (f:=22) rfl ?_);refine goesL_ (some 34) rfl rfl Try.func22 (by kernel_rfl) rfl #[.agg #[.slice A0_0 l0_0.length c0_0,.int .i64 a0_1],.slice A2 l2.length c2,.agg #[.int .i64 a3_0,.int .i64 a3_1,.int .i64 a3_2]] rfl (by(try simp only[List.map_toArray,List.map_cons,List.map_nil]);first|done|rfl) ?_;(with_reducible refine(spec_pyAll.calls k _ _ l0_0 a0_1 _ _ l2 a3_0 a3_1 a3_2 t2 SI _ ?s1 ?s2 ?s3 ?s4 A2_.out).mono ?_);(case s1=>exact cup (Kd.C_below HR0_0.out HB.out));(case s2=>exact HC0_0.out);(case s3=>exact cup (Kd.C_below HR2.out HB.out));(case s4=>exact HC2.out);rintro e wp ⟨vq2,vs,rfl,ho0,ho1,hb⟩;refine⟨_,rfl,?_⟩;have n5_:=am (blk_below (g:=ga) (o := .cells #[.slice A0_0 l0_0.length c0_0,.int .i64 a0_1] 24 (0,0)) (by exact bup BKga.out) hb);have n6_:=am (blk_below (g:=gb) (o := .cells #[.int .i64 a3_0,.int .i64 a3_1,.int .i64 a3_2] 28 (0,0)) (by exact bup BKgb.out) hb);clear BKga BKgb;have BKga:=n5_;have BKgb:=n6_;clear n5_ n6_;have n0_:=am (Kd.R_mono (Kd.R_bound ho1) (ok':=fun k=>wm.heap.size≤k∧k<wp.heap.size) (fun k hk=>⟨hk.2.1,hk.2.2.1⟩));have n1_:=am (below_step (by repeat(first|exact HB.out|apply below_alloc|apply pw_below_drewN|apply below_drew1)) hb);have n2_:=am (Kd.R_below (rup (HX.out)) hb);have n3_:=am (Kd.R_lower n0_.out (below_size (by repeat(first|exact HB.out|apply below_alloc|apply pw_below_drewN|apply below_drew1))));have HNP:=am (show wm.heap.size≤wp.heap.size from hb.size);clear HB HX n0_;have HB:=n1_;have HX:=n2_;have HS:=n3_;clear n1_ n2_ n3_ hb ho0 ho1;have hca0:=bc BKga.out 0;have hfa0:=blk_frozen BKga.out 0;have hca1:=bc BKga.out 1;have hfa1:=blk_frozen BKga.out 1;have hcb0:=bc BKgb.out 0;have hfb0:=blk_frozen BKgb.out 0;have hcb1:=bc BKgb.out 1;have hfb1:=blk_frozen BKgb.out 1;have hcb2:=bc BKgb.out 2;have hfb2:=blk_frozen BKgb.out 2)|((with_reducible refine gate_dst (N:=37) rfl ?_);refine Kd.S_make (Kd.slice 3 (Kd.int .i64)) _ 22 rfl (N:=37) rfl 39 _ _ rfl 5 rfl rfl Try.underlying39 (.slice none 0 0) 24 info22 rfl (by decide) (by omega) [] (ok:=fun _=>True) (okp:=fun _=>True) ⟨_,rfl,Kd.R_nil _ _ _ _ _⟩ (fun _ hk=>hk) trivial (by omega) (by omega) (Below.refl _ _) (Nat.le_refl _) ?_;intro vl wl ho hb hg_ hnew_;clear hg_ hnew_;have n5_:=am (blk_below (g:=ga) (o := .cells #[.slice A0_0 l0_0.length c0_0,.int .i64 a0_1] 24 (0,0)) (by exact bup BKga.out) hb);have n6_:=am (blk_below (g:=gb) (o := .cells #[.int .i64 a3_0,.int .i64 a3_1,.int .i64 a3_2] 28 (0,0)) (by exact bup BKgb.out) hb);clear BKga BKgb;have BKga:=n5_;have BKgb:=n6_;clear n5_ n6_;have n0_:=am (Kd.S_mono (Kd.S_bound ho) (ok':=fun k=>wp.heap.size≤k∧k<wl.heap.size) (fun k hk=>⟨hk.2.1,hk.2.2.1⟩));have n1_:=am (below_step (by repeat(first|exact HB.out|apply below_alloc|apply pw_below_drewN|apply below_drew1)) hb);have n2_:=am (Kd.R_below (rup (HX.out)) hb);have n3_:=am (Kd.R_below (rup (HS.out)) hb);have n4_:=am (Kd.S_lower n0_.out (below_size (by repeat(first|exact HB.out|apply below_alloc|apply pw_below_drewN|apply below_drew1))));have HNL:=am (show wp.heap.size≤wl.heap.size from hb.size);clear HB HX HS n0_;have HB:=n1_;have HX:=n2_;have HS:=n3_;have HL:=n4_;clear n1_ n2_ n3_ n4_ hb ho;obtain⟨gl,cl,el,_⟩:=Kd.S_form HL.out (show 0<(List.replicate (5:Int).toNat ([]:List Int)).length from by decide);subst el;have hca0:=bc BKga.out 0;have hfa0:=blk_frozen BKga.out 0;have hca1:=bc BKga.out 1;have hfa1:=blk_frozen BKga.out 1;have hcb0:=bc BKgb.out 0;have hfb0:=blk_frozen BKgb.out 0;have hcb1:=bc BKgb.out 1;have hfb1:=blk_frozen BKgb.out 1;have hcb2:=bc BKgb.out 2;have hfb2:=blk_frozen BKgb.out 2)|((with_reducible refine gate_callee (f:=23) rfl ?_);refine goesL_ (some 41) rfl rfl Try.func23 (by kernel_rfl) rfl #[.agg #[.slice A0_0 l0_0.length c0_0,.int .i64 a0_1],.slice A1 l1.length c1,.slice A2 l2.length c2] rfl (by(try simp only[List.map_toArray,List.map_cons,List.map_nil]);first|done|rfl) ?_;(with_reducible refine(spec_vfErrors.calls k _ _ l0_0 a0_1 _ _ l1 _ _ l2 es _ ?s1 ?s2 ?s3 ?s4 ?s5 ?s6 A3_.out).mono ?_);(case s1=>exact cup (Kd.C_below HR0_0.out HB.out));(case s2=>exact HC0_0.out);(case s3=>exact cup (Kd.C_below HR1.out HB.out));(case s4=>exact HC1.out);(case s5=>exact cup (Kd.C_below HR2.out HB.out));(case s6=>exact HC2.out);rintro e we ⟨ve,rfl,ho0,hb⟩;refine⟨_,rfl,?_⟩;clear BKga BKgb;have n0_:=am (Kd.S_mono (Kd.S_bound ho0) (ok':=fun k=>wl.heap.size≤k∧k<we.heap.size) (fun k hk=>⟨hk.2.1,hk.2.2.1⟩));have n1_:=am (below_step (by repeat(first|exact HB.out|apply below_alloc|apply pw_below_drewN|apply below_drew1)) hb);have n2_:=am (Kd.R_below (rup (HX.out)) hb);have n3_:=am (Kd.R_below (rup (HS.out)) hb);have n4_:=am (Kd.S_lower n0_.out (below_size (by repeat(first|exact HB.out|apply below_alloc|apply pw_below_drewN|apply below_drew1))));have n5_:=am (Kd.S_mono (Kd.S_below (by(with_reducible repeat(first|apply Kd.S_alloc|apply Kd.S_drewN|apply Kd.S_drew));exact HL.out) hb) (ok':=fun k=>(wp.heap.size≤k∧k<wl.heap.size)∨we.heap.size≤k) (fun k hk => .inl hk));have HNE:=am (show wl.heap.size≤we.heap.size from hb.size);clear HB HX HS HL n0_;have HB:=n1_;have HX:=n2_;have HS:=n3_;have HE:=n4_;have HL:=n5_;clear n1_ n2_ n3_ n4_ n5_ hb ho0;obtain⟨Ae,ce,ee⟩:=Kd.S_slice HE.out;subst ee))
 have HW:=am (Nat.le_refl we.heap.size)
 go_loopw [43] (fun v43 wr=>∃(i:Nat),v43 = .int .i64 (i:Int)∧Aside0 (i≤es.length)∧Aside0 (Kd.R (Kd.int .i64) 3 wr w.heap.size (fun k=>k<wm.heap.size) vx X)∧Aside0 (Kd.R (Kd.int .i64) 3 wr w.heap.size (fun k=>wm.heap.size≤k∧k<wp.heap.size) vs SI)∧Aside0 (Kd.S (Kd.slice 3 (Kd.int .i64)) 22 wr w.heap.size (fun k=>wl.heap.size≤k∧k<we.heap.size) (.slice Ae es.length ce) es)∧Aside0 (Kd.S (Kd.slice 3 (Kd.int .i64)) 22 wr w.heap.size (fun k=>(wp.heap.size≤k∧k<wl.heap.size)∨we.heap.size≤k) (.slice (some ⟨gl,0,none⟩) 5 cl) [vff.pick (vff.missAt es) i,[],vff.pick (vff.offAt a4 0 es) i,vff.pick (vff.offAt a4 1 es) i,[]])∧Aside0 (we.heap.size≤wr.heap.size)∧Aside0 (Below w.heap.size w wr)) (fun v43 _=>es.length - (intOf v43).toNat)
 case atStart=>exact⟨0,rfl,⟨Nat.zero_le _⟩,HX,HS,HE,⟨HL.out⟩,HW,HB⟩
 case round =>
  clear HX HS HE HL HW HB
  obtain⟨i,rfl,HI,HX,HS,HE,HL,HW,HB⟩:=hrel
  have HGL:=am (show(wp.heap.size≤gl∧gl<wl.heap.size)∨we.heap.size≤gl from(Kd.S_R HL.out).1 gl (by simp [Value.ownBlock]))
  have HGS:=am (Kd.S_lt HL.out gl (by simp [Value.ownBlock]))
  by_cases q:(i:Int)<(es.length:Int)
  ·have hlt:i<es.length:=by omega
   have HLT:=am hlt
   obtain⟨ge,hAe⟩:∃ ge,Ae=some ⟨ge,0,none⟩:=by
    obtain⟨g,c,e,_⟩:=Kd.S_form HE.out (by omega)
    exact⟨g,by injection e⟩
   subst hAe
   obtain⟨hv,hcv,hrow⟩:=vff.pool HE.out i hlt
   obtain⟨x,hx⟩:∃ x,x=es.getD i []:=⟨_,rfl⟩
   rw[← hx] at hrow
   have HXX:=am hx
   obtain⟨Ax,cx,ex⟩:=Kd.R_slice hrow
   subst ex
   have HR:=am (Kd.R_mono hrow (ok':=fun k=>wl.heap.size≤k∧k<we.heap.size) (fun k hk=>hk.1))
   have HXL:=am (show x.length=0∨2≤x.length from by
    rw[hx,List.getD_eq_getElem?_getD,List.getElem?_eq_getElem hlt]
    exact HOK.out.2.2.2 _ (List.getElem_mem hlt))
   have hmx:vff.missAt es i=decide (x.length=0):=by unfold vff.missAt;rw[← hx]
   have hox:∀ c,vff.offAt a4 c es i=(!decide (x.length=0)&&decide (vff.absV (rd x c)>a4)):=fun c=>by unfold vff.offAt;rw[hmx,← hx]
   have HMX:=am hmx
   have HOX:=am hox
   clear hrow hx hmx hox
   have p:(0:Int)≤(i:Int):=by omega
   have qb:decide ((i:Int)<(es.length:Int))=true:=decide_eq_true q
   replace p:=eq_true p
   replace q:=eq_true q
   have HILEN:=am (show es.length≤1000000 from HOK.out.1)
   by_cases cl:x.length=0
   ·as_aux_lemma =>
     have cl0:((x.length:Int) == 0)=true:=beq_iff_eq.mpr (by omega)
     have HM0:=am (show vff.missAt es i=true from by rw[HMX.out];simp [cl])
     have HM1:=am (show ¬ vff.offAt a4 0 es i=true from by rw[HOX.out];simp [cl])
     have HM2:=am (show ¬ vff.offAt a4 1 es i=true from by rw[HOX.out];simp [cl])
     obtain⟨ok0,vc0,hc0,hf0,hR0,hk0,hH0⟩:=vff.get HL.out 0 (by decide)
     have HRC0:=am hR0
     have HKC0:=am hk0
     have HHC0:=am hH0
     clear hR0 hk0 hH0
     clear cl
     go_wp2_with (first|((with_reducible refine gate_builtin (b := .append) (xs := #[.tmp 54,.tmp 56]) rfl ?_);at_builtin;refine Kd.R_append (Kd.int .i64) (w0:=w) w.heap.size rfl (.tmp 54) (.tmp 56) 22 3 (.int .i64 0) 8 rfl Try.underlying22 info3 rfl (by decide) (by omega) vc0 (vff.pick (vff.missAt es) i) (i:Int) [.int .i64 (i:Int)] (fun k_=>ok0 k_∨we.heap.size≤k_) (fun _=>False) rfl rfl ?aP (fun _ hk=>hk.elim) ?aF ?aO ?aB ?aS ?aL ?_;(case aP=>exact rfl);(case aB=>exact HB.out);(case aF=>exact(fun k_ hk_ => .inr (Nat.le_trans HW.out hk_)));(case aO=>exact Kd.R_mono HRC0.out (fun _ h_ => .inl h_));(case aS=>exact(below_size HB.out));(case aL=>have h_:=vff.pick_len (vff.missAt es) i;have h2_:=HI.out;have h3_:=HILEN.out;omega);intro va wa ho hb hg hat;obtain⟨okq,hh_,hr_⟩:=vff.appended HRC0.out HHC0.out ho hg hat (fun k_ h_ => .inr (Nat.le_trans HW.out h_));have n0_:=am (Kd.R_grown HX.out hg (fun k_ hk_ e_=>by have h_:=((HKC0.out k_ (HRC0.out.1 k_ e_.symm)).1:(wp.heap.size≤k_∧k_<wl.heap.size)∨we.heap.size≤k_);have h1_:=HNP.out;have h2_:=HNL.out;have h3_:=HNE.out;omega));have n1_:=am (Kd.R_grown HS.out hg (fun k_ hk_ e_=>by have h_:=((HKC0.out k_ (HRC0.out.1 k_ e_.symm)).1:(wp.heap.size≤k_∧k_<wl.heap.size)∨we.heap.size≤k_);have h1_:=HNP.out;have h2_:=HNL.out;have h3_:=HNE.out;omega));have n2_:=am (Kd.S_grown HE.out hg (fun k_ hk_ e_=>by have h_:=((HKC0.out k_ (HRC0.out.1 k_ e_.symm)).1:(wp.heap.size≤k_∧k_<wl.heap.size)∨we.heap.size≤k_);have h1_:=HNP.out;have h2_:=HNL.out;have h3_:=HNE.out;omega));have n4_:=am (Nat.le_trans HW.out hg.size);have n6_:=vff.cell_grown (g:=gl) (i:=0) hg HGS.out (fun e_=>(HKC0.out gl (HRC0.out.1 gl e_.symm)).2 rfl);have hcd:=n6_.1.trans hc0;have hfd:=n6_.2.trans hf0;have n9_:=am (Nat.lt_of_lt_of_le HGS.out hg.size);clear HX HS HE HL HW HB HGS hc0 hf0 n6_;have HX:=n0_;have HS:=n1_;have HE:=n2_;have HW:=n4_;have HGS:=n9_;have HB:=am hb;have HRD:=am hr_;have HHD:=am hh_;clear n0_ n1_ n2_ n4_ n9_ ho hb hg hat hr_ hh_;obtain⟨Av,cv,ev⟩:=Kd.R_slice HRD.out;subst ev)|((with_reducible refine gate_store (t:=22) (p:=58) rfl ?_);refine store_event (t:=22) (p:=58) (v:=?vo_58) (w1:=(wa.setCell ⟨gl,0,none⟩ (.slice Av ((vff.pick (vff.missAt es) i) ++ [(i:Int)]).length cv))) ?hg ?ho ?hn ?hr ?_;(case ho=>rfl);(case hg=>rfl);(case hn=>rfl);(case hr=>first|(go_simp;done)|(go_simp;rfl));intro wb hw;have hp_:=vff.put (i:=0) (v1:=(.slice Av ((vff.pick (vff.missAt es) i) ++ [(i:Int)]).length cv)) (okg:=fun _=>False) HHD.out (by decide) HRD.out (fun k_ hk_ => .inl hk_) (fun _ h_=>h_.elim) (fun _ h_=>h_.elim);rw[← hw] at hp_;have n0_:=am (Kd.R_grown HX.out hp_.2 (fun k_ hk_ e_=>by cases e_;have h_:=HGL.out;have h1_:=HNP.out;have h2_:=HNL.out;have h3_:=HNE.out;omega));have n1_:=am (Kd.R_grown HS.out hp_.2 (fun k_ hk_ e_=>by cases e_;have h_:=HGL.out;have h1_:=HNP.out;have h2_:=HNL.out;have h3_:=HNE.out;omega));have n2_:=am (Kd.S_grown HE.out hp_.2 (fun k_ hk_ e_=>by cases e_;have h_:=HGL.out;have h1_:=HNP.out;have h2_:=HNL.out;have h3_:=HNE.out;omega));have n4_:=am (Nat.le_trans HW.out hp_.2.size);have n5_:=am (Kd.S_mono hp_.1 (ok':=(fun k=>(wp.heap.size≤k∧k<wl.heap.size)∨we.heap.size≤k)) (fun _ h_=>h_.elim id False.elim));have n6_:=am (HB.out.grown hp_.2 (below_size HB.out) (fun k_ e_=>by cases e_;exact Kd.S_base n5_.out gl (by simp [Value.ownBlock])));have n7_:=am (Nat.lt_of_lt_of_le HGS.out hp_.2.size);clear HX HS HE HW HB HGS HHD HRD hcd hfd hp_ hw HRC0 HKC0 HHC0;have HX:=n0_;have HS:=n1_;have HE:=n2_;have HW:=n4_;have HL:=n5_;have HB:=n6_;have HGS:=n7_;clear n0_ n1_ n2_ n4_ n5_ n6_ n7_))
     go_roundw
     case rel=>exact⟨i+1,(by first|rfl|(congr 1;have h_:=HLT.out;have h2_:=HILEN.out;unfold wrap64;omega)),⟨by have h_:=HLT.out;omega⟩,HX,HS,HE,⟨by have h_:=HL.out;rw[vff.pick_succ (vff.missAt es),vff.pick_succ (vff.offAt a4 0 es),vff.pick_succ (vff.offAt a4 1 es),if_pos HM0.out,if_neg HM1.out,if_neg HM2.out];exact h_⟩,HW,HB⟩
     case measure=>exact vff.meas HLT.out HILEN.out
   ·have cl0:((x.length:Int) == 0)=false:=beq_eq_false_iff_ne.mpr (by omega)
    have HX2:=am (show 2≤x.length from HXL.out.resolve_left cl)
    obtain⟨gr,cr',er,_⟩:=Kd.R_form HR.out (by have h_:=HX2.out;omega)
    cases er
    have hcr0:wr.cell? ⟨gr,0,none⟩=some (.int .i64 (rd x 0)):=(Kd.R_celln 0 HR.out 0 (by omega) (by have h_:=HX2.out;omega)).1;have hcr1:wr.cell? ⟨gr,1,none⟩=some (.int .i64 (rd x 1)):=(Kd.R_celln 0 HR.out 1 (by omega) (by have h_:=HX2.out;omega)).1
    have pn0:=eq_true (show 0<x.length from by have h_:=HX2.out;omega)
    have pn1:=eq_true (show 1<x.length from by have h_:=HX2.out;omega)
    have px0:=eq_true (show(0:Int)<(x.length:Int) from by have h_:=HX2.out;omega)
    have px1:=eq_true (show(1:Int)<(x.length:Int) from by have h_:=HX2.out;omega)
    by_cases c0:vff.absV (rd x 0)>a4
    ·have d0:decide (a4<vff.absV (rd x 0))=true:=decide_eq_true c0
     by_cases c1:vff.absV (rd x 1)>a4
     ·as_aux_lemma =>
       have d1:decide (a4<vff.absV (rd x 1))=true:=decide_eq_true c1
       have HM0:=am (show ¬ vff.missAt es i=true from by rw[HMX.out];simp [cl])
       have HM1:=am (show vff.offAt a4 0 es i=true from by rw[HOX.out];simp [cl,c0])
       have HM2:=am (show vff.offAt a4 1 es i=true from by rw[HOX.out];simp [cl,c1])
       clear cl c0 c1
       go_wp2_with (first|((with_reducible refine gate_callee (f:=24) rfl ?_);refine goesL_ (some 62) rfl rfl Try.func24 (by kernel_rfl) rfl #[.int .i64 (rd x 0)] rfl (by(try simp only[List.map_toArray,List.map_cons,List.map_nil]);first|done|rfl) ?_;(with_reducible refine(spec_l1Abs.calls _ _ _ (vff.abs_eq (rd x 0))).mono ?_);rintro e wd ⟨rfl,⟨nd,hd⟩⟩;refine⟨_,rfl,?_⟩;have n0_:=am (Kd.R_drewN HX.out nd);have n1_:=am (Kd.R_drewN HS.out nd);have n2_:=am (Kd.S_drewN HE.out nd);have n3_:=am (Kd.R_drewN HR.out nd);have n4_:=am (Kd.S_drewN HL.out nd);have n5_:=am (pw_below_drewN HB.out nd);rw[← hd] at n0_ n1_ n2_ n3_ n4_ n5_;have n6_:=am (show we.heap.size≤wd.heap.size from by rw[hd];exact HW.out);have n7_:=am (show gl<wd.heap.size from by rw[hd];exact HGS.out);clear HX HS HE HR HL HB HW HGS hd hcr0 hcr1;have HX:=n0_;have HS:=n1_;have HE:=n2_;have HR:=n3_;have HL:=n4_;have HB:=n5_;have HW:=n6_;have HGS:=n7_;clear n0_ n1_ n2_ n3_ n4_ n5_ n6_ n7_;have hcr0:wd.cell? ⟨gr,0,none⟩=some (.int .i64 (rd x 0)):=(Kd.R_celln 0 HR.out 0 (by omega) (by have h_:=HX2.out;omega)).1;have hcr1:wd.cell? ⟨gr,1,none⟩=some (.int .i64 (rd x 1)):=(Kd.R_celln 0 HR.out 1 (by omega) (by have h_:=HX2.out;omega)).1;obtain⟨ok2,vc2,hc2,hf2,hR2,hk2,hH2⟩:=vff.get HL.out 2 (by decide);have HRC2:=am hR2;have HKC2:=am hk2;have HHC2:=am hH2;clear hR2 hk2 hH2)|((with_reducible refine gate_callee (f:=24) rfl ?_);refine goesL_ (some 76) rfl rfl Try.func24 (by kernel_rfl) rfl #[.int .i64 (rd x 1)] rfl (by(try simp only[List.map_toArray,List.map_cons,List.map_nil]);first|done|rfl) ?_;(with_reducible refine(spec_l1Abs.calls _ _ _ (vff.abs_eq (rd x 1))).mono ?_);rintro e wd ⟨rfl,⟨nd,hd⟩⟩;refine⟨_,rfl,?_⟩;have n0_:=am (Kd.R_drewN HX.out nd);have n1_:=am (Kd.R_drewN HS.out nd);have n2_:=am (Kd.S_drewN HE.out nd);have n3_:=am (Kd.R_drewN HR.out nd);have n4_:=am (Kd.S_drewN HL.out nd);have n5_:=am (pw_below_drewN HB.out nd);rw[← hd] at n0_ n1_ n2_ n3_ n4_ n5_;have n6_:=am (show we.heap.size≤wd.heap.size from by rw[hd];exact HW.out);have n7_:=am (show gl<wd.heap.size from by rw[hd];exact HGS.out);clear HX HS HE HR HL HB HW HGS hd hcr0 hcr1;have HX:=n0_;have HS:=n1_;have HE:=n2_;have HR:=n3_;have HL:=n4_;have HB:=n5_;have HW:=n6_;have HGS:=n7_;clear n0_ n1_ n2_ n3_ n4_ n5_ n6_ n7_;have hcr0:wd.cell? ⟨gr,0,none⟩=some (.int .i64 (rd x 0)):=(Kd.R_celln 0 HR.out 0 (by omega) (by have h_:=HX2.out;omega)).1;have hcr1:wd.cell? ⟨gr,1,none⟩=some (.int .i64 (rd x 1)):=(Kd.R_celln 0 HR.out 1 (by omega) (by have h_:=HX2.out;omega)).1;obtain⟨ok3,vc3,hc3,hf3,hR3,hk3,hH3⟩:=vff.get HL.out 3 (by decide);have HRC3:=am hR3;have HKC3:=am hk3;have HHC3:=am hH3;clear hR3 hk3 hH3)|((with_reducible refine gate_builtin (b := .append) (xs := #[.tmp 68,.tmp 70]) rfl ?_);at_builtin;refine Kd.R_append (Kd.int .i64) (w0:=w) w.heap.size rfl (.tmp 68) (.tmp 70) 22 3 (.int .i64 0) 8 rfl Try.underlying22 info3 rfl (by decide) (by omega) vc2 (vff.pick (vff.offAt a4 0 es) i) (i:Int) [.int .i64 (i:Int)] (fun k_=>ok2 k_∨we.heap.size≤k_) (fun _=>False) rfl rfl ?aP (fun _ hk=>hk.elim) ?aF ?aO ?aB ?aS ?aL ?_;(case aP=>exact rfl);(case aB=>exact HB.out);(case aF=>exact(fun k_ hk_ => .inr (Nat.le_trans HW.out hk_)));(case aO=>exact Kd.R_mono HRC2.out (fun _ h_ => .inl h_));(case aS=>exact(below_size HB.out));(case aL=>have h_:=vff.pick_len (vff.offAt a4 0 es) i;have h2_:=HI.out;have h3_:=HILEN.out;omega);intro va wa ho hb hg hat;obtain⟨okq,hh_,hr_⟩:=vff.appended HRC2.out HHC2.out ho hg hat (fun k_ h_ => .inr (Nat.le_trans HW.out h_));have n0_:=am (Kd.R_grown HX.out hg (fun k_ hk_ e_=>by have h_:=((HKC2.out k_ (HRC2.out.1 k_ e_.symm)).1:(wp.heap.size≤k_∧k_<wl.heap.size)∨we.heap.size≤k_);have h1_:=HNP.out;have h2_:=HNL.out;have h3_:=HNE.out;omega));have n1_:=am (Kd.R_grown HS.out hg (fun k_ hk_ e_=>by have h_:=((HKC2.out k_ (HRC2.out.1 k_ e_.symm)).1:(wp.heap.size≤k_∧k_<wl.heap.size)∨we.heap.size≤k_);have h1_:=HNP.out;have h2_:=HNL.out;have h3_:=HNE.out;omega));have n2_:=am (Kd.S_grown HE.out hg (fun k_ hk_ e_=>by have h_:=((HKC2.out k_ (HRC2.out.1 k_ e_.symm)).1:(wp.heap.size≤k_∧k_<wl.heap.size)∨we.heap.size≤k_);have h1_:=HNP.out;have h2_:=HNL.out;have h3_:=HNE.out;omega));have n3_:=am (Kd.R_grown HR.out hg (fun k_ hk_ e_=>by have h_:=((HKC2.out k_ (HRC2.out.1 k_ e_.symm)).1:(wp.heap.size≤k_∧k_<wl.heap.size)∨we.heap.size≤k_);have h1_:=HNP.out;have h2_:=HNL.out;have h3_:=HNE.out;omega));have n4_:=am (Nat.le_trans HW.out hg.size);have n6_:=vff.cell_grown (g:=gl) (i:=2) hg HGS.out (fun e_=>(HKC2.out gl (HRC2.out.1 gl e_.symm)).2 rfl);have hcd:=n6_.1.trans hc2;have hfd:=n6_.2.trans hf2;have n9_:=am (Nat.lt_of_lt_of_le HGS.out hg.size);clear HX HS HE HL HW HB HGS HR hc2 hf2 n6_;have HX:=n0_;have HS:=n1_;have HE:=n2_;have HR:=n3_;have HW:=n4_;have HGS:=n9_;have HB:=am hb;have HRD:=am hr_;have HHD:=am hh_;clear n0_ n1_ n2_ n3_ n4_ n9_ ho hb hg hat hr_ hh_;obtain⟨Av,cv,ev⟩:=Kd.R_slice HRD.out;subst ev)|((with_reducible refine gate_store (t:=22) (p:=72) rfl ?_);refine store_event (t:=22) (p:=72) (v:=?vo_72) (w1:=(wa.setCell ⟨gl,2,none⟩ (.slice Av ((vff.pick (vff.offAt a4 0 es) i) ++ [(i:Int)]).length cv))) ?hg ?ho ?hn ?hr ?_;(case ho=>rfl);(case hg=>rfl);(case hn=>rfl);(case hr=>first|(go_simp;done)|(go_simp;rfl));intro wb hw;have hp_:=vff.put (i:=2) (v1:=(.slice Av ((vff.pick (vff.offAt a4 0 es) i) ++ [(i:Int)]).length cv)) (okg:=fun _=>False) HHD.out (by decide) HRD.out (fun k_ hk_ => .inl hk_) (fun _ h_=>h_.elim) (fun _ h_=>h_.elim);rw[← hw] at hp_;have n0_:=am (Kd.R_grown HX.out hp_.2 (fun k_ hk_ e_=>by cases e_;have h_:=HGL.out;have h1_:=HNP.out;have h2_:=HNL.out;have h3_:=HNE.out;omega));have n1_:=am (Kd.R_grown HS.out hp_.2 (fun k_ hk_ e_=>by cases e_;have h_:=HGL.out;have h1_:=HNP.out;have h2_:=HNL.out;have h3_:=HNE.out;omega));have n2_:=am (Kd.S_grown HE.out hp_.2 (fun k_ hk_ e_=>by cases e_;have h_:=HGL.out;have h1_:=HNP.out;have h2_:=HNL.out;have h3_:=HNE.out;omega));have n3_:=am (Kd.R_grown HR.out hp_.2 (fun k_ hk_ e_=>by cases e_;have h_:=HGL.out;have h1_:=HNP.out;have h2_:=HNL.out;have h3_:=HNE.out;omega));have n4_:=am (Nat.le_trans HW.out hp_.2.size);have n5_:=am (Kd.S_mono hp_.1 (ok':=(fun k=>(wp.heap.size≤k∧k<wl.heap.size)∨we.heap.size≤k)) (fun _ h_=>h_.elim id False.elim));have n6_:=am (HB.out.grown hp_.2 (below_size HB.out) (fun k_ e_=>by cases e_;exact Kd.S_base n5_.out gl (by simp [Value.ownBlock])));have n7_:=am (Nat.lt_of_lt_of_le HGS.out hp_.2.size);clear HX HS HE HW HB HGS HR HHD HRD hcd hfd hp_ hw HRC2 HKC2 HHC2;have HX:=n0_;have HS:=n1_;have HE:=n2_;have HR:=n3_;have HW:=n4_;have HL:=n5_;have HB:=n6_;have HGS:=n7_;clear n0_ n1_ n2_ n3_ n4_ n5_ n6_ n7_;have hcr0:wb.cell? ⟨gr,0,none⟩=some (.int .i64 (rd x 0)):=(Kd.R_celln 0 HR.out 0 (by omega) (by have h_:=HX2.out;omega)).1;have hcr1:wb.cell? ⟨gr,1,none⟩=some (.int .i64 (rd x 1)):=(Kd.R_celln 0 HR.out 1 (by omega) (by have h_:=HX2.out;omega)).1)|((with_reducible refine gate_builtin (b := .append) (xs := #[.tmp 82,.tmp 84]) rfl ?_);at_builtin;refine Kd.R_append (Kd.int .i64) (w0:=w) w.heap.size rfl (.tmp 82) (.tmp 84) 22 3 (.int .i64 0) 8 rfl Try.underlying22 info3 rfl (by decide) (by omega) vc3 (vff.pick (vff.offAt a4 1 es) i) (i:Int) [.int .i64 (i:Int)] (fun k_=>ok3 k_∨we.heap.size≤k_) (fun _=>False) rfl rfl ?aP (fun _ hk=>hk.elim) ?aF ?aO ?aB ?aS ?aL ?_;(case aP=>exact rfl);(case aB=>exact HB.out);(case aF=>exact(fun k_ hk_ => .inr (Nat.le_trans HW.out hk_)));(case aO=>exact Kd.R_mono HRC3.out (fun _ h_ => .inl h_));(case aS=>exact(below_size HB.out));(case aL=>have h_:=vff.pick_len (vff.offAt a4 1 es) i;have h2_:=HI.out;have h3_:=HILEN.out;omega);intro va wa ho hb hg hat;obtain⟨okq,hh_,hr_⟩:=vff.appended HRC3.out HHC3.out ho hg hat (fun k_ h_ => .inr (Nat.le_trans HW.out h_));have n0_:=am (Kd.R_grown HX.out hg (fun k_ hk_ e_=>by have h_:=((HKC3.out k_ (HRC3.out.1 k_ e_.symm)).1:(wp.heap.size≤k_∧k_<wl.heap.size)∨we.heap.size≤k_);have h1_:=HNP.out;have h2_:=HNL.out;have h3_:=HNE.out;omega));have n1_:=am (Kd.R_grown HS.out hg (fun k_ hk_ e_=>by have h_:=((HKC3.out k_ (HRC3.out.1 k_ e_.symm)).1:(wp.heap.size≤k_∧k_<wl.heap.size)∨we.heap.size≤k_);have h1_:=HNP.out;have h2_:=HNL.out;have h3_:=HNE.out;omega));have n2_:=am (Kd.S_grown HE.out hg (fun k_ hk_ e_=>by have h_:=((HKC3.out k_ (HRC3.out.1 k_ e_.symm)).1:(wp.heap.size≤k_∧k_<wl.heap.size)∨we.heap.size≤k_);have h1_:=HNP.out;have h2_:=HNL.out;have h3_:=HNE.out;omega));have n4_:=am (Nat.le_trans HW.out hg.size);have n6_:=vff.cell_grown (g:=gl) (i:=3) hg HGS.out (fun e_=>(HKC3.out gl (HRC3.out.1 gl e_.symm)).2 rfl);have hcd:=n6_.1.trans hc3;have hfd:=n6_.2.trans hf3;have n9_:=am (Nat.lt_of_lt_of_le HGS.out hg.size);clear HX HS HE HL HW HB HGS hc3 hf3 n6_;have HX:=n0_;have HS:=n1_;have HE:=n2_;have HW:=n4_;have HGS:=n9_;have HB:=am hb;have HRD:=am hr_;have HHD:=am hh_;clear n0_ n1_ n2_ n4_ n9_ ho hb hg hat hr_ hh_;obtain⟨Av,cv,ev⟩:=Kd.R_slice HRD.out;subst ev)|((with_reducible refine gate_store (t:=22) (p:=86) rfl ?_);refine store_event (t:=22) (p:=86) (v:=?vo_86) (w1:=(wa.setCell ⟨gl,3,none⟩ (.slice Av ((vff.pick (vff.offAt a4 1 es) i) ++ [(i:Int)]).length cv))) ?hg ?ho ?hn ?hr ?_;(case ho=>rfl);(case hg=>rfl);(case hn=>rfl);(case hr=>first|(go_simp;done)|(go_simp;rfl));intro wb hw;have hp_:=vff.put (i:=3) (v1:=(.slice Av ((vff.pick (vff.offAt a4 1 es) i) ++ [(i:Int)]).length cv)) (okg:=fun _=>False) HHD.out (by decide) HRD.out (fun k_ hk_ => .inl hk_) (fun _ h_=>h_.elim) (fun _ h_=>h_.elim);rw[← hw] at hp_;have n0_:=am (Kd.R_grown HX.out hp_.2 (fun k_ hk_ e_=>by cases e_;have h_:=HGL.out;have h1_:=HNP.out;have h2_:=HNL.out;have h3_:=HNE.out;omega));have n1_:=am (Kd.R_grown HS.out hp_.2 (fun k_ hk_ e_=>by cases e_;have h_:=HGL.out;have h1_:=HNP.out;have h2_:=HNL.out;have h3_:=HNE.out;omega));have n2_:=am (Kd.S_grown HE.out hp_.2 (fun k_ hk_ e_=>by cases e_;have h_:=HGL.out;have h1_:=HNP.out;have h2_:=HNL.out;have h3_:=HNE.out;omega));have n4_:=am (Nat.le_trans HW.out hp_.2.size);have n5_:=am (Kd.S_mono hp_.1 (ok':=(fun k=>(wp.heap.size≤k∧k<wl.heap.size)∨we.heap.size≤k)) (fun _ h_=>h_.elim id False.elim));have n6_:=am (HB.out.grown hp_.2 (below_size HB.out) (fun k_ e_=>by cases e_;exact Kd.S_base n5_.out gl (by simp [Value.ownBlock])));have n7_:=am (Nat.lt_of_lt_of_le HGS.out hp_.2.size);clear HX HS HE HW HB HGS HHD HRD hcd hfd hp_ hw HRC3 HKC3 HHC3;have HX:=n0_;have HS:=n1_;have HE:=n2_;have HW:=n4_;have HL:=n5_;have HB:=n6_;have HGS:=n7_;clear n0_ n1_ n2_ n4_ n5_ n6_ n7_))
       go_roundw
       case rel=>exact⟨i+1,(by first|rfl|(congr 1;have h_:=HLT.out;have h2_:=HILEN.out;unfold wrap64;omega)),⟨by have h_:=HLT.out;omega⟩,HX,HS,HE,⟨by have h_:=HL.out;rw[vff.pick_succ (vff.missAt es),vff.pick_succ (vff.offAt a4 0 es),vff.pick_succ (vff.offAt a4 1 es),if_neg HM0.out,if_pos HM1.out,if_pos HM2.out];exact h_⟩,HW,HB⟩
       case measure=>exact vff.meas HLT.out HILEN.out
     ·as_aux_lemma =>
       have d1:decide (a4<vff.absV (rd x 1))=false:=decide_eq_false c1
       have HM0:=am (show ¬ vff.missAt es i=true from by rw[HMX.out];simp [cl])
       have HM1:=am (show vff.offAt a4 0 es i=true from by rw[HOX.out];simp [cl,c0])
       have HM2:=am (show ¬ vff.offAt a4 1 es i=true from by rw[HOX.out];simp [cl,c1])
       clear cl c0 c1
       go_wp2_with (first|((with_reducible refine gate_callee (f:=24) rfl ?_);refine goesL_ (some 62) rfl rfl Try.func24 (by kernel_rfl) rfl #[.int .i64 (rd x 0)] rfl (by(try simp only[List.map_toArray,List.map_cons,List.map_nil]);first|done|rfl) ?_;(with_reducible refine(spec_l1Abs.calls _ _ _ (vff.abs_eq (rd x 0))).mono ?_);rintro e wd ⟨rfl,⟨nd,hd⟩⟩;refine⟨_,rfl,?_⟩;have n0_:=am (Kd.R_drewN HX.out nd);have n1_:=am (Kd.R_drewN HS.out nd);have n2_:=am (Kd.S_drewN HE.out nd);have n3_:=am (Kd.R_drewN HR.out nd);have n4_:=am (Kd.S_drewN HL.out nd);have n5_:=am (pw_below_drewN HB.out nd);rw[← hd] at n0_ n1_ n2_ n3_ n4_ n5_;have n6_:=am (show we.heap.size≤wd.heap.size from by rw[hd];exact HW.out);have n7_:=am (show gl<wd.heap.size from by rw[hd];exact HGS.out);clear HX HS HE HR HL HB HW HGS hd hcr0 hcr1;have HX:=n0_;have HS:=n1_;have HE:=n2_;have HR:=n3_;have HL:=n4_;have HB:=n5_;have HW:=n6_;have HGS:=n7_;clear n0_ n1_ n2_ n3_ n4_ n5_ n6_ n7_;have hcr0:wd.cell? ⟨gr,0,none⟩=some (.int .i64 (rd x 0)):=(Kd.R_celln 0 HR.out 0 (by omega) (by have h_:=HX2.out;omega)).1;have hcr1:wd.cell? ⟨gr,1,none⟩=some (.int .i64 (rd x 1)):=(Kd.R_celln 0 HR.out 1 (by omega) (by have h_:=HX2.out;omega)).1;obtain⟨ok2,vc2,hc2,hf2,hR2,hk2,hH2⟩:=vff.get HL.out 2 (by decide);have HRC2:=am hR2;have HKC2:=am hk2;have HHC2:=am hH2;clear hR2 hk2 hH2)|((with_reducible refine gate_callee (f:=24) rfl ?_);refine goesL_ (some 76) rfl rfl Try.func24 (by kernel_rfl) rfl #[.int .i64 (rd x 1)] rfl (by(try simp only[List.map_toArray,List.map_cons,List.map_nil]);first|done|rfl) ?_;(with_reducible refine(spec_l1Abs.calls _ _ _ (vff.abs_eq (rd x 1))).mono ?_);rintro e wd ⟨rfl,⟨nd,hd⟩⟩;refine⟨_,rfl,?_⟩;have n0_:=am (Kd.R_drewN HX.out nd);have n1_:=am (Kd.R_drewN HS.out nd);have n2_:=am (Kd.S_drewN HE.out nd);have n3_:=am (Kd.R_drewN HR.out nd);have n4_:=am (Kd.S_drewN HL.out nd);have n5_:=am (pw_below_drewN HB.out nd);rw[← hd] at n0_ n1_ n2_ n3_ n4_ n5_;have n6_:=am (show we.heap.size≤wd.heap.size from by rw[hd];exact HW.out);have n7_:=am (show gl<wd.heap.size from by rw[hd];exact HGS.out);clear HX HS HE HR HL HB HW HGS hd hcr0 hcr1;have HX:=n0_;have HS:=n1_;have HE:=n2_;have HR:=n3_;have HL:=n4_;have HB:=n5_;have HW:=n6_;have HGS:=n7_;clear n0_ n1_ n2_ n3_ n4_ n5_ n6_ n7_;have hcr0:wd.cell? ⟨gr,0,none⟩=some (.int .i64 (rd x 0)):=(Kd.R_celln 0 HR.out 0 (by omega) (by have h_:=HX2.out;omega)).1;have hcr1:wd.cell? ⟨gr,1,none⟩=some (.int .i64 (rd x 1)):=(Kd.R_celln 0 HR.out 1 (by omega) (by have h_:=HX2.out;omega)).1;skip)|((with_reducible refine gate_builtin (b := .append) (xs := #[.tmp 68,.tmp 70]) rfl ?_);at_builtin;refine Kd.R_append (Kd.int .i64) (w0:=w) w.heap.size rfl (.tmp 68) (.tmp 70) 22 3 (.int .i64 0) 8 rfl Try.underlying22 info3 rfl (by decide) (by omega) vc2 (vff.pick (vff.offAt a4 0 es) i) (i:Int) [.int .i64 (i:Int)] (fun k_=>ok2 k_∨we.heap.size≤k_) (fun _=>False) rfl rfl ?aP (fun _ hk=>hk.elim) ?aF ?aO ?aB ?aS ?aL ?_;(case aP=>exact rfl);(case aB=>exact HB.out);(case aF=>exact(fun k_ hk_ => .inr (Nat.le_trans HW.out hk_)));(case aO=>exact Kd.R_mono HRC2.out (fun _ h_ => .inl h_));(case aS=>exact(below_size HB.out));(case aL=>have h_:=vff.pick_len (vff.offAt a4 0 es) i;have h2_:=HI.out;have h3_:=HILEN.out;omega);intro va wa ho hb hg hat;obtain⟨okq,hh_,hr_⟩:=vff.appended HRC2.out HHC2.out ho hg hat (fun k_ h_ => .inr (Nat.le_trans HW.out h_));have n0_:=am (Kd.R_grown HX.out hg (fun k_ hk_ e_=>by have h_:=((HKC2.out k_ (HRC2.out.1 k_ e_.symm)).1:(wp.heap.size≤k_∧k_<wl.heap.size)∨we.heap.size≤k_);have h1_:=HNP.out;have h2_:=HNL.out;have h3_:=HNE.out;omega));have n1_:=am (Kd.R_grown HS.out hg (fun k_ hk_ e_=>by have h_:=((HKC2.out k_ (HRC2.out.1 k_ e_.symm)).1:(wp.heap.size≤k_∧k_<wl.heap.size)∨we.heap.size≤k_);have h1_:=HNP.out;have h2_:=HNL.out;have h3_:=HNE.out;omega));have n2_:=am (Kd.S_grown HE.out hg (fun k_ hk_ e_=>by have h_:=((HKC2.out k_ (HRC2.out.1 k_ e_.symm)).1:(wp.heap.size≤k_∧k_<wl.heap.size)∨we.heap.size≤k_);have h1_:=HNP.out;have h2_:=HNL.out;have h3_:=HNE.out;omega));have n3_:=am (Kd.R_grown HR.out hg (fun k_ hk_ e_=>by have h_:=((HKC2.out k_ (HRC2.out.1 k_ e_.symm)).1:(wp.heap.size≤k_∧k_<wl.heap.size)∨we.heap.size≤k_);have h1_:=HNP.out;have h2_:=HNL.out;have h3_:=HNE.out;omega));have n4_:=am (Nat.le_trans HW.out hg.size);have n6_:=vff.cell_grown (g:=gl) (i:=2) hg HGS.out (fun e_=>(HKC2.out gl (HRC2.out.1 gl e_.symm)).2 rfl);have hcd:=n6_.1.trans hc2;have hfd:=n6_.2.trans hf2;have n9_:=am (Nat.lt_of_lt_of_le HGS.out hg.size);clear HX HS HE HL HW HB HGS HR hc2 hf2 n6_;have HX:=n0_;have HS:=n1_;have HE:=n2_;have HR:=n3_;have HW:=n4_;have HGS:=n9_;have HB:=am hb;have HRD:=am hr_;have HHD:=am hh_;clear n0_ n1_ n2_ n3_ n4_ n9_ ho hb hg hat hr_ hh_;obtain⟨Av,cv,ev⟩:=Kd.R_slice HRD.out;subst ev)|((with_reducible refine gate_store (t:=22) (p:=72) rfl ?_);refine store_event (t:=22) (p:=72) (v:=?vo_72) (w1:=(wa.setCell ⟨gl,2,none⟩ (.slice Av ((vff.pick (vff.offAt a4 0 es) i) ++ [(i:Int)]).length cv))) ?hg ?ho ?hn ?hr ?_;(case ho=>rfl);(case hg=>rfl);(case hn=>rfl);(case hr=>first|(go_simp;done)|(go_simp;rfl));intro wb hw;have hp_:=vff.put (i:=2) (v1:=(.slice Av ((vff.pick (vff.offAt a4 0 es) i) ++ [(i:Int)]).length cv)) (okg:=fun _=>False) HHD.out (by decide) HRD.out (fun k_ hk_ => .inl hk_) (fun _ h_=>h_.elim) (fun _ h_=>h_.elim);rw[← hw] at hp_;have n0_:=am (Kd.R_grown HX.out hp_.2 (fun k_ hk_ e_=>by cases e_;have h_:=HGL.out;have h1_:=HNP.out;have h2_:=HNL.out;have h3_:=HNE.out;omega));have n1_:=am (Kd.R_grown HS.out hp_.2 (fun k_ hk_ e_=>by cases e_;have h_:=HGL.out;have h1_:=HNP.out;have h2_:=HNL.out;have h3_:=HNE.out;omega));have n2_:=am (Kd.S_grown HE.out hp_.2 (fun k_ hk_ e_=>by cases e_;have h_:=HGL.out;have h1_:=HNP.out;have h2_:=HNL.out;have h3_:=HNE.out;omega));have n3_:=am (Kd.R_grown HR.out hp_.2 (fun k_ hk_ e_=>by cases e_;have h_:=HGL.out;have h1_:=HNP.out;have h2_:=HNL.out;have h3_:=HNE.out;omega));have n4_:=am (Nat.le_trans HW.out hp_.2.size);have n5_:=am (Kd.S_mono hp_.1 (ok':=(fun k=>(wp.heap.size≤k∧k<wl.heap.size)∨we.heap.size≤k)) (fun _ h_=>h_.elim id False.elim));have n6_:=am (HB.out.grown hp_.2 (below_size HB.out) (fun k_ e_=>by cases e_;exact Kd.S_base n5_.out gl (by simp [Value.ownBlock])));have n7_:=am (Nat.lt_of_lt_of_le HGS.out hp_.2.size);clear HX HS HE HW HB HGS HR HHD HRD hcd hfd hp_ hw HRC2 HKC2 HHC2;have HX:=n0_;have HS:=n1_;have HE:=n2_;have HR:=n3_;have HW:=n4_;have HL:=n5_;have HB:=n6_;have HGS:=n7_;clear n0_ n1_ n2_ n3_ n4_ n5_ n6_ n7_;have hcr0:wb.cell? ⟨gr,0,none⟩=some (.int .i64 (rd x 0)):=(Kd.R_celln 0 HR.out 0 (by omega) (by have h_:=HX2.out;omega)).1;have hcr1:wb.cell? ⟨gr,1,none⟩=some (.int .i64 (rd x 1)):=(Kd.R_celln 0 HR.out 1 (by omega) (by have h_:=HX2.out;omega)).1))
       go_roundw
       case rel=>exact⟨i+1,(by first|rfl|(congr 1;have h_:=HLT.out;have h2_:=HILEN.out;unfold wrap64;omega)),⟨by have h_:=HLT.out;omega⟩,HX,HS,HE,⟨by have h_:=HL.out;rw[vff.pick_succ (vff.missAt es),vff.pick_succ (vff.offAt a4 0 es),vff.pick_succ (vff.offAt a4 1 es),if_neg HM0.out,if_pos HM1.out,if_neg HM2.out];exact h_⟩,HW,HB⟩
       case measure=>exact vff.meas HLT.out HILEN.out
    ·have d0:decide (a4<vff.absV (rd x 0))=false:=decide_eq_false c0
     by_cases c1:vff.absV (rd x 1)>a4
     ·as_aux_lemma =>
       have d1:decide (a4<vff.absV (rd x 1))=true:=decide_eq_true c1
       have HM0:=am (show ¬ vff.missAt es i=true from by rw[HMX.out];simp [cl])
       have HM1:=am (show ¬ vff.offAt a4 0 es i=true from by rw[HOX.out];simp [cl,c0])
       have HM2:=am (show vff.offAt a4 1 es i=true from by rw[HOX.out];simp [cl,c1])
       clear cl c0 c1
       go_wp2_with (first|((with_reducible refine gate_callee (f:=24) rfl ?_);refine goesL_ (some 62) rfl rfl Try.func24 (by kernel_rfl) rfl #[.int .i64 (rd x 0)] rfl (by(try simp only[List.map_toArray,List.map_cons,List.map_nil]);first|done|rfl) ?_;(with_reducible refine(spec_l1Abs.calls _ _ _ (vff.abs_eq (rd x 0))).mono ?_);rintro e wd ⟨rfl,⟨nd,hd⟩⟩;refine⟨_,rfl,?_⟩;have n0_:=am (Kd.R_drewN HX.out nd);have n1_:=am (Kd.R_drewN HS.out nd);have n2_:=am (Kd.S_drewN HE.out nd);have n3_:=am (Kd.R_drewN HR.out nd);have n4_:=am (Kd.S_drewN HL.out nd);have n5_:=am (pw_below_drewN HB.out nd);rw[← hd] at n0_ n1_ n2_ n3_ n4_ n5_;have n6_:=am (show we.heap.size≤wd.heap.size from by rw[hd];exact HW.out);have n7_:=am (show gl<wd.heap.size from by rw[hd];exact HGS.out);clear HX HS HE HR HL HB HW HGS hd hcr0 hcr1;have HX:=n0_;have HS:=n1_;have HE:=n2_;have HR:=n3_;have HL:=n4_;have HB:=n5_;have HW:=n6_;have HGS:=n7_;clear n0_ n1_ n2_ n3_ n4_ n5_ n6_ n7_;have hcr0:wd.cell? ⟨gr,0,none⟩=some (.int .i64 (rd x 0)):=(Kd.R_celln 0 HR.out 0 (by omega) (by have h_:=HX2.out;omega)).1;have hcr1:wd.cell? ⟨gr,1,none⟩=some (.int .i64 (rd x 1)):=(Kd.R_celln 0 HR.out 1 (by omega) (by have h_:=HX2.out;omega)).1;skip)|((with_reducible refine gate_callee (f:=24) rfl ?_);refine goesL_ (some 76) rfl rfl Try.func24 (by kernel_rfl) rfl #[.int .i64 (rd x 1)] rfl (by(try simp only[List.map_toArray,List.map_cons,List.map_nil]);first|done|rfl) ?_;(with_reducible refine(spec_l1Abs.calls _ _ _ (vff.abs_eq (rd x 1))).mono ?_);rintro e wd ⟨rfl,⟨nd,hd⟩⟩;refine⟨_,rfl,?_⟩;have n0_:=am (Kd.R_drewN HX.out nd);have n1_:=am (Kd.R_drewN HS.out nd);have n2_:=am (Kd.S_drewN HE.out nd);have n3_:=am (Kd.R_drewN HR.out nd);have n4_:=am (Kd.S_drewN HL.out nd);have n5_:=am (pw_below_drewN HB.out nd);rw[← hd] at n0_ n1_ n2_ n3_ n4_ n5_;have n6_:=am (show we.heap.size≤wd.heap.size from by rw[hd];exact HW.out);have n7_:=am (show gl<wd.heap.size from by rw[hd];exact HGS.out);clear HX HS HE HR HL HB HW HGS hd hcr0 hcr1;have HX:=n0_;have HS:=n1_;have HE:=n2_;have HR:=n3_;have HL:=n4_;have HB:=n5_;have HW:=n6_;have HGS:=n7_;clear n0_ n1_ n2_ n3_ n4_ n5_ n6_ n7_;have hcr0:wd.cell? ⟨gr,0,none⟩=some (.int .i64 (rd x 0)):=(Kd.R_celln 0 HR.out 0 (by omega) (by have h_:=HX2.out;omega)).1;have hcr1:wd.cell? ⟨gr,1,none⟩=some (.int .i64 (rd x 1)):=(Kd.R_celln 0 HR.out 1 (by omega) (by have h_:=HX2.out;omega)).1;obtain⟨ok3,vc3,hc3,hf3,hR3,hk3,hH3⟩:=vff.get HL.out 3 (by decide);have HRC3:=am hR3;have HKC3:=am hk3;have HHC3:=am hH3;clear hR3 hk3 hH3)|((with_reducible refine gate_builtin (b := .append) (xs := #[.tmp 82,.tmp 84]) rfl ?_);at_builtin;refine Kd.R_append (Kd.int .i64) (w0:=w) w.heap.size rfl (.tmp 82) (.tmp 84) 22 3 (.int .i64 0) 8 rfl Try.underlying22 info3 rfl (by decide) (by omega) vc3 (vff.pick (vff.offAt a4 1 es) i) (i:Int) [.int .i64 (i:Int)] (fun k_=>ok3 k_∨we.heap.size≤k_) (fun _=>False) rfl rfl ?aP (fun _ hk=>hk.elim) ?aF ?aO ?aB ?aS ?aL ?_;(case aP=>exact rfl);(case aB=>exact HB.out);(case aF=>exact(fun k_ hk_ => .inr (Nat.le_trans HW.out hk_)));(case aO=>exact Kd.R_mono HRC3.out (fun _ h_ => .inl h_));(case aS=>exact(below_size HB.out));(case aL=>have h_:=vff.pick_len (vff.offAt a4 1 es) i;have h2_:=HI.out;have h3_:=HILEN.out;omega);intro va wa ho hb hg hat;obtain⟨okq,hh_,hr_⟩:=vff.appended HRC3.out HHC3.out ho hg hat (fun k_ h_ => .inr (Nat.le_trans HW.out h_));have n0_:=am (Kd.R_grown HX.out hg (fun k_ hk_ e_=>by have h_:=((HKC3.out k_ (HRC3.out.1 k_ e_.symm)).1:(wp.heap.size≤k_∧k_<wl.heap.size)∨we.heap.size≤k_);have h1_:=HNP.out;have h2_:=HNL.out;have h3_:=HNE.out;omega));have n1_:=am (Kd.R_grown HS.out hg (fun k_ hk_ e_=>by have h_:=((HKC3.out k_ (HRC3.out.1 k_ e_.symm)).1:(wp.heap.size≤k_∧k_<wl.heap.size)∨we.heap.size≤k_);have h1_:=HNP.out;have h2_:=HNL.out;have h3_:=HNE.out;omega));have n2_:=am (Kd.S_grown HE.out hg (fun k_ hk_ e_=>by have h_:=((HKC3.out k_ (HRC3.out.1 k_ e_.symm)).1:(wp.heap.size≤k_∧k_<wl.heap.size)∨we.heap.size≤k_);have h1_:=HNP.out;have h2_:=HNL.out;have h3_:=HNE.out;omega));have n4_:=am (Nat.le_trans HW.out hg.size);have n6_:=vff.cell_grown (g:=gl) (i:=3) hg HGS.out (fun e_=>(HKC3.out gl (HRC3.out.1 gl e_.symm)).2 rfl);have hcd:=n6_.1.trans hc3;have hfd:=n6_.2.trans hf3;have n9_:=am (Nat.lt_of_lt_of_le HGS.out hg.size);clear HX HS HE HL HW HB HGS hc3 hf3 n6_;have HX:=n0_;have HS:=n1_;have HE:=n2_;have HW:=n4_;have HGS:=n9_;have HB:=am hb;have HRD:=am hr_;have HHD:=am hh_;clear n0_ n1_ n2_ n4_ n9_ ho hb hg hat hr_ hh_;obtain⟨Av,cv,ev⟩:=Kd.R_slice HRD.out;subst ev)|((with_reducible refine gate_store (t:=22) (p:=86) rfl ?_);refine store_event (t:=22) (p:=86) (v:=?vo_86) (w1:=(wa.setCell ⟨gl,3,none⟩ (.slice Av ((vff.pick (vff.offAt a4 1 es) i) ++ [(i:Int)]).length cv))) ?hg ?ho ?hn ?hr ?_;(case ho=>rfl);(case hg=>rfl);(case hn=>rfl);(case hr=>first|(go_simp;done)|(go_simp;rfl));intro wb hw;have hp_:=vff.put (i:=3) (v1:=(.slice Av ((vff.pick (vff.offAt a4 1 es) i) ++ [(i:Int)]).length cv)) (okg:=fun _=>False) HHD.out (by decide) HRD.out (fun k_ hk_ => .inl hk_) (fun _ h_=>h_.elim) (fun _ h_=>h_.elim);rw[← hw] at hp_;have n0_:=am (Kd.R_grown HX.out hp_.2 (fun k_ hk_ e_=>by cases e_;have h_:=HGL.out;have h1_:=HNP.out;have h2_:=HNL.out;have h3_:=HNE.out;omega));have n1_:=am (Kd.R_grown HS.out hp_.2 (fun k_ hk_ e_=>by cases e_;have h_:=HGL.out;have h1_:=HNP.out;have h2_:=HNL.out;have h3_:=HNE.out;omega));have n2_:=am (Kd.S_grown HE.out hp_.2 (fun k_ hk_ e_=>by cases e_;have h_:=HGL.out;have h1_:=HNP.out;have h2_:=HNL.out;have h3_:=HNE.out;omega));have n4_:=am (Nat.le_trans HW.out hp_.2.size);have n5_:=am (Kd.S_mono hp_.1 (ok':=(fun k=>(wp.heap.size≤k∧k<wl.heap.size)∨we.heap.size≤k)) (fun _ h_=>h_.elim id False.elim));have n6_:=am (HB.out.grown hp_.2 (below_size HB.out) (fun k_ e_=>by cases e_;exact Kd.S_base n5_.out gl (by simp [Value.ownBlock])));have n7_:=am (Nat.lt_of_lt_of_le HGS.out hp_.2.size);clear HX HS HE HW HB HGS HHD HRD hcd hfd hp_ hw HRC3 HKC3 HHC3;have HX:=n0_;have HS:=n1_;have HE:=n2_;have HW:=n4_;have HL:=n5_;have HB:=n6_;have HGS:=n7_;clear n0_ n1_ n2_ n4_ n5_ n6_ n7_))
       go_roundw
       case rel=>exact⟨i+1,(by first|rfl|(congr 1;have h_:=HLT.out;have h2_:=HILEN.out;unfold wrap64;omega)),⟨by have h_:=HLT.out;omega⟩,HX,HS,HE,⟨by have h_:=HL.out;rw[vff.pick_succ (vff.missAt es),vff.pick_succ (vff.offAt a4 0 es),vff.pick_succ (vff.offAt a4 1 es),if_neg HM0.out,if_neg HM1.out,if_pos HM2.out];exact h_⟩,HW,HB⟩
       case measure=>exact vff.meas HLT.out HILEN.out
     ·as_aux_lemma =>
       have d1:decide (a4<vff.absV (rd x 1))=false:=decide_eq_false c1
       have HM0:=am (show ¬ vff.missAt es i=true from by rw[HMX.out];simp [cl])
       have HM1:=am (show ¬ vff.offAt a4 0 es i=true from by rw[HOX.out];simp [cl,c0])
       have HM2:=am (show ¬ vff.offAt a4 1 es i=true from by rw[HOX.out];simp [cl,c1])
       clear cl c0 c1
       go_wp2_with (first|((with_reducible refine gate_callee (f:=24) rfl ?_);refine goesL_ (some 62) rfl rfl Try.func24 (by kernel_rfl) rfl #[.int .i64 (rd x 0)] rfl (by(try simp only[List.map_toArray,List.map_cons,List.map_nil]);first|done|rfl) ?_;(with_reducible refine(spec_l1Abs.calls _ _ _ (vff.abs_eq (rd x 0))).mono ?_);rintro e wd ⟨rfl,⟨nd,hd⟩⟩;refine⟨_,rfl,?_⟩;have n0_:=am (Kd.R_drewN HX.out nd);have n1_:=am (Kd.R_drewN HS.out nd);have n2_:=am (Kd.S_drewN HE.out nd);have n3_:=am (Kd.R_drewN HR.out nd);have n4_:=am (Kd.S_drewN HL.out nd);have n5_:=am (pw_below_drewN HB.out nd);rw[← hd] at n0_ n1_ n2_ n3_ n4_ n5_;have n6_:=am (show we.heap.size≤wd.heap.size from by rw[hd];exact HW.out);have n7_:=am (show gl<wd.heap.size from by rw[hd];exact HGS.out);clear HX HS HE HR HL HB HW HGS hd hcr0 hcr1;have HX:=n0_;have HS:=n1_;have HE:=n2_;have HR:=n3_;have HL:=n4_;have HB:=n5_;have HW:=n6_;have HGS:=n7_;clear n0_ n1_ n2_ n3_ n4_ n5_ n6_ n7_;have hcr0:wd.cell? ⟨gr,0,none⟩=some (.int .i64 (rd x 0)):=(Kd.R_celln 0 HR.out 0 (by omega) (by have h_:=HX2.out;omega)).1;have hcr1:wd.cell? ⟨gr,1,none⟩=some (.int .i64 (rd x 1)):=(Kd.R_celln 0 HR.out 1 (by omega) (by have h_:=HX2.out;omega)).1;skip)|((with_reducible refine gate_callee (f:=24) rfl ?_);refine goesL_ (some 76) rfl rfl Try.func24 (by kernel_rfl) rfl #[.int .i64 (rd x 1)] rfl (by(try simp only[List.map_toArray,List.map_cons,List.map_nil]);first|done|rfl) ?_;(with_reducible refine(spec_l1Abs.calls _ _ _ (vff.abs_eq (rd x 1))).mono ?_);rintro e wd ⟨rfl,⟨nd,hd⟩⟩;refine⟨_,rfl,?_⟩;have n0_:=am (Kd.R_drewN HX.out nd);have n1_:=am (Kd.R_drewN HS.out nd);have n2_:=am (Kd.S_drewN HE.out nd);have n3_:=am (Kd.R_drewN HR.out nd);have n4_:=am (Kd.S_drewN HL.out nd);have n5_:=am (pw_below_drewN HB.out nd);rw[← hd] at n0_ n1_ n2_ n3_ n4_ n5_;have n6_:=am (show we.heap.size≤wd.heap.size from by rw[hd];exact HW.out);have n7_:=am (show gl<wd.heap.size from by rw[hd];exact HGS.out);clear HX HS HE HR HL HB HW HGS hd hcr0 hcr1;have HX:=n0_;have HS:=n1_;have HE:=n2_;have HR:=n3_;have HL:=n4_;have HB:=n5_;have HW:=n6_;have HGS:=n7_;clear n0_ n1_ n2_ n3_ n4_ n5_ n6_ n7_;have hcr0:wd.cell? ⟨gr,0,none⟩=some (.int .i64 (rd x 0)):=(Kd.R_celln 0 HR.out 0 (by omega) (by have h_:=HX2.out;omega)).1;have hcr1:wd.cell? ⟨gr,1,none⟩=some (.int .i64 (rd x 1)):=(Kd.R_celln 0 HR.out 1 (by omega) (by have h_:=HX2.out;omega)).1;skip))
       go_roundw
       case rel=>exact⟨i+1,(by first|rfl|(congr 1;have h_:=HLT.out;have h2_:=HILEN.out;unfold wrap64;omega)),⟨by have h_:=HLT.out;omega⟩,HX,HS,HE,⟨by have h_:=HL.out;rw[vff.pick_succ (vff.missAt es),vff.pick_succ (vff.offAt a4 0 es),vff.pick_succ (vff.offAt a4 1 es),if_neg HM0.out,if_neg HM1.out,if_neg HM2.out];exact h_⟩,HW,HB⟩
       case measure=>exact vff.meas HLT.out HILEN.out
  ·as_aux_lemma =>
    have qf:decide ((i:Int)<(es.length:Int))=false:=decide_eq_false q
    obtain rfl:i=es.length:=by have h_:=HI.out;omega
    obtain⟨Avx,cvx,evx⟩:=Kd.R_slice HX.out
    subst evx
    obtain⟨Avs,cvs,evs⟩:=Kd.R_slice HS.out
    subst evs
    obtain⟨ok1,vc1,hc1,hf1,hR1,hk1,hH1⟩:=vff.get HL.out 1 (by decide)
    have HRC1:=am hR1
    have HKC1:=am hk1
    have HHC1:=am hH1
    clear hR1 hk1 hH1
    go_wp2_with (first|((with_reducible refine gate_store (t:=22) (p:=90) rfl ?_);refine store_event (t:=22) (p:=90) (v:=?vo_90) (w1:=(wr.setCell ⟨gl,1,none⟩ (.slice Avx X.length cvx))) ?hg ?ho ?hn ?hr ?_;(case ho=>rfl);(case hg=>rfl);(case hn=>rfl);(case hr=>first|(go_simp;done)|(go_simp;rfl));intro wb hw;have hp_:=vff.put (i:=1) (v1:=(.slice Avx X.length cvx)) (okp:=fun k=>k<wm.heap.size) (okg:=fun k=>k<wm.heap.size) HHC1.out (by decide) HX.out (fun _ h_ => .inr h_) (fun k_ h_ h0_=>by have h1_:=HNP.out;have h2_:=HNL.out;have h3_:=HNE.out;have h4_:=HGL.out;omega) (fun k_ h_ e_=>by have h1_:=HNP.out;have h2_:=HNL.out;have h3_:=HNE.out;have h4_:=HGL.out;omega);rw[← hw] at hp_;have n1_:=am (Kd.R_grown HS.out hp_.2 (fun k_ hk_ e_=>by cases e_;have h1_:=HNP.out;have h2_:=HNL.out;have h3_:=HNE.out;have h4_:=HGL.out;omega));have n5_:=am hp_.1;have n6_:=am (HB.out.grown hp_.2 (below_size HB.out) (fun k_ e_=>by cases e_;exact Kd.S_base n5_.out gl (by simp [Value.ownBlock])));have n7_:=am (Nat.lt_of_lt_of_le HGS.out hp_.2.size);clear HX HS HE HL HB HGS HW hp_ hw hc1 hf1 HRC1 HKC1 HHC1;have HS:=n1_;have HL:=n5_;have HB:=n6_;have HGS:=n7_;clear n1_ n5_ n6_ n7_;obtain⟨ok4,vc4,hc4,hf4,hR4,hk4,hH4⟩:=vff.get HL.out 4 (by decide);have HRC4:=am hR4;have HKC4:=am hk4;have HHC4:=am hH4;clear hR4 hk4 hH4)|((with_reducible refine gate_store (t:=22) (p:=93) rfl ?_);refine store_event (t:=22) (p:=93) (v:=?vo_93) (w1:=(wb.setCell ⟨gl,4,none⟩ (.slice Avs SI.length cvs))) ?hg ?ho ?hn ?hr ?_;(case ho=>rfl);(case hg=>rfl);(case hn=>rfl);(case hr=>first|(go_simp;done)|(go_simp;rfl));intro wc hw;have hp_:=vff.put (i:=4) (v1:=(.slice Avs SI.length cvs)) (okp:=fun k=>wm.heap.size≤k∧k<wp.heap.size) (okg:=fun k=>wm.heap.size≤k∧k<wp.heap.size) HHC4.out (by decide) HS.out (fun _ h_ => .inr h_) (fun k_ h_ h0_=>by rcases h0_ with h0_|h0_<;>(have h1_:=HNP.out;have h2_:=HNL.out;have h3_:=HNE.out;have h4_:=HGL.out;omega)) (fun k_ h_ e_=>by have h1_:=HNP.out;have h2_:=HNL.out;have h3_:=HNE.out;have h4_:=HGL.out;omega);rw[← hw] at hp_;have n5_:=am (Kd.S_mono (Kd.S_bound hp_.1) (ok':=fun k=>k<wc.heap.size) (fun _ h_=>h_.2.2.1));have n6_:=am (HB.out.grown hp_.2 (below_size HB.out) (fun k_ e_=>by cases e_;exact Kd.S_base n5_.out gl (by simp [Value.ownBlock])));clear HS HL HB HGS hp_ hw hc4 hf4 HRC4 HKC4 HHC4;have HL:=n5_;have HB:=n6_;clear n5_ n6_))
    obtain⟨ls,hls⟩:∃ ls:List (List Int),ls=[vff.pick (vff.missAt es) es.length,X,vff.pick (vff.offAt a4 0 es) es.length,vff.pick (vff.offAt a4 1 es) es.length,SI]:=⟨_,rfl⟩
    have HLL:=am (show Kd.S (Kd.slice 3 (Kd.int .i64)) 22 wc w.heap.size (fun k=>k<wc.heap.size) (.slice (some ⟨gl,0,none⟩) 5 cl) ls from by rw[hls];exact HL.out)
    have H5:=am (show ls.length=5 from by rw[hls];rfl)
    have HLB:=am (show ∀ n,(ls.getD n []).length≤1000000 from fun n=>by
     have h1:=HOK.out
     unfold vff.okE at h1
     have h2:=vff.pick_len (vff.missAt es) es.length
     have h3:=vff.pick_len (vff.offAt a4 0 es) es.length
     have h4:=vff.pick_len (vff.offAt a4 1 es) es.length
     rw[hls]
     match n with
     | 0=>simp only[List.getD_cons_zero,List.getD_cons_succ,List.getD_nil,List.length_nil];omega
     | 1=>simp only[List.getD_cons_zero,List.getD_cons_succ,List.getD_nil,List.length_nil];omega
     | 2=>simp only[List.getD_cons_zero,List.getD_cons_succ,List.getD_nil,List.length_nil];omega
     | 3=>simp only[List.getD_cons_zero,List.getD_cons_succ,List.getD_nil,List.length_nil];omega
     | 4=>simp only[List.getD_cons_zero,List.getD_cons_succ,List.getD_nil,List.length_nil];omega
     | n+5=>simp only[List.getD_cons_zero,List.getD_cons_succ,List.getD_nil,List.length_nil];omega
     )
    have HLS:=am (show vff.outs ls 5=vff.faults es X SI a4 from by rw[hls];rfl)
    have HWC:=am (Nat.le_refl wc.heap.size)
    clear hls HL
    go_loopw [18,96] (fun v18 v96 wr=>∃(n:Nat) (o:List (List Int)),v96 = .int .i64 (n:Int)∧Aside0 (n≤5)∧Aside0 (o=vff.outs ls n)∧Aside0 (o.length≤n*1000000)∧Aside0 (Kd.S (Kd.slice 3 (Kd.int .i64)) 22 wr w.heap.size (fun k=>wc.heap.size≤k) v18 o)∧Aside0 (Kd.S (Kd.slice 3 (Kd.int .i64)) 22 wr w.heap.size (fun k=>k<wc.heap.size) (.slice (some ⟨gl,0,none⟩) 5 cl) ls)∧Aside0 (wc.heap.size≤wr.heap.size)∧Aside0 (Below w.heap.size w wr)) (fun _ v96 _=>5 - (intOf v96).toNat)
    case atStart=>exact⟨0,[],rfl,⟨Nat.zero_le _⟩,⟨rfl⟩,⟨Nat.zero_le _⟩,⟨Kd.S_nil _ _ _ _ _⟩,HLL,HWC,HB⟩
    case round =>
     clear HLL HWC HB
     obtain⟨n,o,rfl,HN,HO,HOL,HOO,HL,HW,HB⟩:=hrel
     by_cases q2:(n:Int)<5
     ·as_aux_lemma =>
       have hn5:n<5:=by omega
       have HN5:=am hn5
       obtain⟨hv,hcv,hrow⟩:=vff.pool HL.out n (by have h_:=H5.out;omega)
       obtain⟨x,hx⟩:∃ x,x=ls.getD n []:=⟨_,rfl⟩
       rw[← hx] at hrow
       have HXX:=am hx
       have HXB:=am (show x.length≤1000000 from by rw[hx];exact HLB.out n)
       obtain⟨Ax,cx,ex⟩:=Kd.R_slice hrow
       subst ex
       have HR:=am (Kd.R_mono hrow (ok':=fun k=>k<wc.heap.size) (fun k hk=>hk.1))
       clear hrow hx hn5
       have p2:(0:Int)≤(n:Int):=by omega
       have qb2:decide ((n:Int)<5)=true:=decide_eq_true q2
       replace p2:=eq_true p2
       replace q2:=eq_true q2
       go_wp2
       go_loopw [18,103] (fun v18 v103 wr=>∃(j:Nat) (o:List (List Int)),v103 = .int .i64 (j:Int)∧Aside0 (j≤x.length)∧Aside0 (o=vff.outs ls n ++ vff.rows (n:Int) (x.take j))∧Aside0 (o.length≤n*1000000+j)∧Aside0 (Kd.R (Kd.int .i64) 3 wr w.heap.size (fun k=>k<wc.heap.size) (.slice Ax x.length cx) x)∧Aside0 (Kd.S (Kd.slice 3 (Kd.int .i64)) 22 wr w.heap.size (fun k=>wc.heap.size≤k) v18 o)∧Aside0 (Kd.S (Kd.slice 3 (Kd.int .i64)) 22 wr w.heap.size (fun k=>k<wc.heap.size) (.slice (some ⟨gl,0,none⟩) 5 cl) ls)∧Aside0 (wc.heap.size≤wr.heap.size)∧Aside0 (Below w.heap.size w wr)) (fun _ v103 _=>x.length - (intOf v103).toNat)
       case atStart=>exact⟨0,o,rfl,⟨Nat.zero_le _⟩,⟨vff.start HO.out⟩,⟨vff.bnd0 HOL.out⟩,HR,HOO,HL,HW,HB⟩
       case round =>
        clear HO HOL HR HOO HL HW HB
        obtain⟨j,o2,rfl,HJ,HO,HOL,HR,HOO,HL,HW,HB⟩:=hrel
        by_cases q3:(j:Int)<(x.length:Int)
        ·as_aux_lemma =>
          have HJL:=am (show j<x.length from by omega)
          have p3:(0:Int)≤(j:Int):=by omega
          have qb3:decide ((j:Int)<(x.length:Int))=true:=decide_eq_true q3
          obtain⟨ad,ea,hxa⟩:=Kd.at_int (Kd.R_reads' HR.out).2.2 (j:Int) p3 q3
          cases ea
          rw[Int.toNat_natCast] at hxa
          replace p3:=eq_true p3
          replace q3:=eq_true q3
          obtain⟨y,hy⟩:∃ y:List Int,y=[(n:Int),rd x (j:Int)]:=⟨_,rfl⟩
          have Ny:=am hy
          clear hy
          go_wp2_with (first|((with_reducible refine gate_dst (N:=110) rfl ?_);refine Kd.R_lit (Kd.int .i64) _ 3 ?hg (N:=110) ?hd (xs:=([(n:Int),rd x (j:Int)]:List Int)) (inner:=[.int .i64 (n:Int),.int .i64 (rd x (j:Int))]) (ok:=fun _=>True) (okp:=fun _=>True) ?hr ?hp (fun _ hk=>hk) trivial (Below.refl _ _) (Nat.le_refl _) (by simp) ?_;(case hd=>rfl);(case hg=>rfl);(case hr=>first|(go_simp;done)|(go_simp;rfl));(case hp=>exact(Reps.one (show Kd.M (Kd.int .i64) _ _ _ (n:Int) [.int .i64 (n:Int)] from rfl) (Reps.one (show Kd.M (Kd.int .i64) _ _ _ (rd x (j:Int)) [.int .i64 (rd x (j:Int))] from rfl) (Reps.none _ _))));intro vy wy ho hb hg_ hnew_;clear hg_;rw[← Ny.out] at ho;have n0_:=am (Kd.S_elder' HOO.out (Kd.R_base ho) hb);have n1_:=am (Kd.R_below HR.out hb);have n2_:=am (Kd.S_below HL.out hb);have n3_:=am (Kd.R_mono (Kd.R_tight rfl (Kd.R_lower ho (below_size HB.out))) (ok':=fun k_=>some k_=(vy:Value).ownBlock) (fun _ h_=>h_));have n6_:=am (show ∀ k_,some k_=(vy:Value).ownBlock→wc.heap.size≤k_∧some k_≠(u18:Value).ownBlock from fun k_ e_=>by obtain⟨b_,e1_,h1_⟩:=hnew_;rw[e1_] at e_;cases e_;exact⟨Nat.le_trans HW.out h1_,fun e2_=>by have h2_:=Kd.S_lt HOO.out _ e2_.symm;omega⟩);have n4_:=am (below_step HB.out hb);have n5_:=am (Nat.le_trans HW.out hb.size);clear HOO HR HL HB HW;have HOO:=n0_;have HR:=n1_;have HL:=n2_;have HY:=n3_;have HB:=n4_;have HW:=n5_;have HYK:=n6_;clear n0_ n1_ n2_ n3_ n4_ n5_ n6_ hb ho hnew_;obtain⟨Ay,cy,ey⟩:=Kd.R_slice HY.out;subst ey)|((with_reducible refine gate_builtin (b := .append) (xs := #[.tmp 107,.tmp 111]) rfl ?_);at_builtin;refine Kd.S_append (Kd.slice 3 (Kd.int .i64)) (w0:=w) w.heap.size rfl (.tmp 107) (.tmp 111) 39 22 (.slice none 0 0) 24 rfl Try.underlying39 info22 rfl (by decide) (by omega) u18 o2 y [.slice Ay y.length cy] (fun k_=>wc.heap.size≤k_) (fun k_=>some k_=(.slice Ay y.length cy:Value).ownBlock) rfl rfl ?aP (fun k_ hk_=>HYK.out k_ hk_) ?aF ?aO ?aB ?aS ?aL ?_;(case aP=>exact Kd.M_row HY.out);(case aB=>exact HB.out);(case aF=>exact(fun k_ hk=>Nat.le_trans HW.out hk));(case aO=>exact Kd.S_mono HOO.out (fun k_ hk=>⟨hk.1,fun e_=>hk.2 e_⟩));(case aS=>exact below_size HB.out);(case aL=>have h_:=HOL.out;have h2_:=HN5.out;have h3_:=HJL.out;have h4_:=HXB.out;omega);intro vn wn ho hb hg hat;have n1_:=am (Kd.R_grown HR.out hg (fun k_ hk_ e_=>by have h_:=(Kd.S_R HOO.out).1 k_ e_.symm;omega));have n2_:=am (Kd.S_grown HL.out hg (fun k_ hk_ e_=>by have h_:=(Kd.S_R HOO.out).1 k_ e_.symm;omega));have n3_:=am (Nat.le_trans HW.out hg.size);clear HOO HR HL HB HW HY HYK;have HOO:=am ho;have HR:=n1_;have HL:=n2_;have HW:=n3_;have HB:=am hb;clear n1_ n2_ n3_ ho hb hg hat))
          go_roundw
          case rel=>exact⟨j+1,o2 ++ [y],(by first|rfl|(congr 1;have h_:=HJL.out;have h2_:=HXB.out;unfold wrap64;omega)),⟨by have h_:=HJL.out;omega⟩,⟨by rw[HO.out,Ny.out,List.take_add_one,List.getElem?_eq_getElem HJL.out];show _=_ ++ vff.rows (n:Int) (x.take j ++ [x[j]'HJL.out]);rw[vff.rows_snoc,List.append_assoc,show rd x (j:Int)=x[j]'HJL.out from by unfold rd;rw[Int.toNat_natCast,List.getD_eq_getElem?_getD,List.getElem?_eq_getElem HJL.out];rfl]⟩,⟨by have h_:=HOL.out;rw[List.length_append,List.length_singleton];omega⟩,HR,HOO,HL,HW,HB⟩
          case measure=>exact vff.meas HJL.out HXB.out
        ·as_aux_lemma =>
          have qb3:decide ((j:Int)<(x.length:Int))=false:=decide_eq_false q3
          obtain rfl:j=x.length:=by have h_:=HJ.out;omega
          go_wp2
          go_roundw
          case rel=>exact⟨n+1,o2,(by first|rfl|(congr 1;have h_:=HN5.out;unfold wrap64;omega)),⟨by have h_:=HN5.out;omega⟩,⟨by rw[HO.out,List.take_length];show _=vff.outs ls n ++ vff.rows (n:Int) (ls.getD n []);rw[HXX.out]⟩,⟨by have h_:=HOL.out;have h2_:=HXB.out;omega⟩,HOO,HL,HW,HB⟩
          case measure=>exact vff.meas HN5.out (by decide)
     ·as_aux_lemma =>
       have qb2:decide ((n:Int)<5)=false:=decide_eq_false q2
       obtain rfl:n=5:=by have h_:=HN.out;omega
       have HF:=am (HO.out.trans HLS.out)
       go_wp2
       go_ret
       exact⟨_,rfl,by rw[← HF.out];exact Kd.S_mono HOO.out (fun _ _=>trivial),HB.out⟩

end Go.Proofs.Ytdcchnfndhkfaaa.PFnPassesPlays
