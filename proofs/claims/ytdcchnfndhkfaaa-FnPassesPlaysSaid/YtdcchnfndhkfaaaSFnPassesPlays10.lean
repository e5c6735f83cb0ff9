/- Walks of functions that FnPassesPlays reaches. No conditions beyond the arguments' being read. -/
import Derived.Test.YtdcchnfndhkfaaaSFnPassesPlays0
import Derived.Test.YtdcchnfndhkfaaaSFnPassesPlays9
namespace Go.Proofs.Ytdcchnfndhkfaaa.PFnPassesPlays
open Go.RowKit Go.Proofs.YtdcchnfndhkfaaaW.PrintWords Go.Proofs.YtdcchnfndhkfaaaW.PrintLast Go.Proofs.YtdcchnfndhkfaaaW.PrintMore
attribute [local go_sem] max2_int min2_int max_two min_two max_three min_three max_four min_four
set_option linter.unusedVariables false
set_option linter.unusedSimpArgs false

mutual
def spec_ntGood.l0:Nat→List (S35)→List (S35)→Int→Int→Option (Bool)
 | 0,_,_,_,_=>none
 | k+1,x0,x7,x8,x9=>if x9<x8 then(if 0≤x9 then(if x9<(x7.length:Int) then((spec_ntNote.f ((rd_T35 x7 x9).f0) ((rd_T35 x7 x9).f1) ((rd_T35 x7 x9).f2)).bind fun t279=>(if t279=true then(if x9>0 then(if 0≤(wrap64 (x9 - 1)) then(if(wrap64 (x9 - 1))<(x0.length:Int) then((spec_ntBefore.f ((rd_T35 x0 (wrap64 (x9 - 1))).f0) ((rd_T35 x0 (wrap64 (x9 - 1))).f1) ((rd_T35 x0 (wrap64 (x9 - 1))).f2) ((rd_T35 x7 x9).f0) ((rd_T35 x7 x9).f1) ((rd_T35 x7 x9).f2)).bind fun t281=>(spec_ntGood.j1 k x0 x9 x7 x8 x9 (!t281) ((rd_T35 x7 x9).f0) ((rd_T35 x7 x9).f1) ((rd_T35 x7 x9).f2))) else(none)) else(none)) else(spec_ntGood.j1 k x0 x9 x7 x8 x9 false ((rd_T35 x7 x9).f0) ((rd_T35 x7 x9).f1) ((rd_T35 x7 x9).f2))) else(spec_ntGood.j1 k x0 x9 x7 x8 x9 true ((rd_T35 x7 x9).f0) ((rd_T35 x7 x9).f1) ((rd_T35 x7 x9).f2)))) else(none)) else(none)) else(some (decide ((x0.length:Int)≤30)))
def spec_ntGood.j1:Nat→List (S35)→Int→List (S35)→Int→Int→Bool→Int→Int→Int→Option (Bool)
 | 0,_,_,_,_,_,_,_,_,_=>none
 | k+1,x0,x3,x7,x8,x9,x30,x279000,x279001,x279002=>if x30=true then(some false) else(if 0≤x3 then(if x3≤(x0.length:Int) then((some (x0.take (x3:Int).toNat:List (S35))).bind fun y282=>(spec_ntGood.l1 k x0 x7 x8 x9 y282 (y282.length:Int) 0 x279000 x279001 x279002)) else(none)) else(none))
def spec_ntGood.l1:Nat→List (S35)→List (S35)→Int→Int→List (S35)→Int→Int→Int→Int→Int→Option (Bool)
 | 0,_,_,_,_,_,_,_,_,_,_=>none
 | k+1,x0,x7,x8,x9,x33,x34,x35,x279000,x279001,x279002=>if x35<x34 then(if 0≤x35 then(if x35<(x33.length:Int) then((spec_ntMeet.f x279000 x279001 x279002 ((rd_T35 x33 x35).f0) ((rd_T35 x33 x35).f1) ((rd_T35 x33 x35).f2)).bind fun t288=>(if t288=true then(some false) else(spec_ntGood.l1 k x0 x7 x8 x9 x33 x34 (wrap64 (x35+1)) x279000 x279001 x279002))) else(none)) else(none)) else(spec_ntGood.l0 k x0 x7 x8 (wrap64 (x9+1)))
end
def spec_ntGood.f (k:Nat) (l0:List (S35)):Option (Bool):=spec_ntGood.l0 k l0 l0 (l0.length:Int) 0
def spec_ntGood.T4:Bool×List (List Nat×List Nat):=(true,[([],[]),([0],[0]),([1],[1]),([2,1],[2]),([3],[3]),([4,3],[3,4]),([5,3,3],[3,5]),([6],[6]),([6],[6]),([8,6],[6,8]),([7,9,6],[6,7,9]),([10,6],[6,10]),([6],[6]),([11,12,6,6],[6,11,12]),([13,6],[6,13]),([6,14,3],[3,6,14]),([3,15],[3,15])])
def spec_ntGood.B4:List Nat:=[0,1,3,7,15,31,63,127,127,383,1023,2047,127,8191,16383,32767,65535]
theorem spec_ntGood.tab4:rtab .any (opsOf Try.f49 4)=spec_ntGood.T4:=by kernel_rfl
theorem spec_ntGood.bits4:waitsOk spec_ntGood.T4.2 spec_ntGood.B4=true:=by kernel_rfl
set_option maxHeartbeats 8000000 in
set_option maxRecDepth 100000 in
theorem spec_ntGood.calls (k:Nat) (A0:Option Addr) (c0:Nat) (l0:List (S35)) (r:Bool) (w:World) (hr0:Kd.C k35 w A0 l0.length l0) (hc0:l0.length≤c0) (h:spec_ntGood.f k l0=some r) :
  Calls Try.prog 49 #[.slice A0 l0.length c0] w fun e w'=>e = .returned (.bool r)∧Below w.heap.size w w':=by
 have hu35:=Try.underlying35
 have HR0:=am hr0
 have HC0:=am hc0
 clear hr0 hc0
 have HB:=am (Below.refl w.heap.size w)
 have H:(spec_ntGood.l0 k l0 l0 (l0.length:Int) 0)=some r:=h
 clear h
 have H':=am H
 clear H
 go_enter Try.func49,Try.ntmps49
 go_wp2
 go_loopg [9] k (fun kq v9 w'=>∃(x9_1:Int),v9 = .int .i64 x9_1∧Aside0 (spec_ntGood.l0 kq l0 l0 (l0.length:Int) x9_1=some r)∧Aside0 (kq≤k)∧Aside0 (Below w.heap.size w w'))
 case atStart=>exact⟨(0),fin2,H',⟨Nat.le_refl _⟩,⟨bl⟩⟩
 case round =>
  clear H'
  obtain⟨x9_1,rfl,HA,HK1,HB⟩:=hrel
  cases gk with
  | zero=>exact absurd HA.out (by simp [spec_ntGood.l0])
  | succ k1 =>
   have H:=HA.out
   clear HA
   simp only[spec_ntGood.l0] at H
   rcases itc H with⟨c2,H⟩|⟨c2,H⟩
   ·have c2b0:=decide_eq_true c2
    clear c2
    obtain⟨c3b0,H⟩:=ifb H
    obtain⟨c4b0,H⟩:=ifb H
    have HC5:=am H
    clear H
    have p277:0≤(x9_1:Int):=od
    have q277:x9_1<(l0.length:Int):=od
    obtain⟨ad277,e277,hx277_0,hx277_1,hx277_2⟩:=at_T35 HR0.out x9_1 p277 q277
    cases e277
    replace hx277_0:=(HB.out.cell (World.block_lt_of_cell? w _ hx277_0)).trans hx277_0
    replace hx277_1:=(HB.out.cell (World.block_lt_of_cell? w _ hx277_1)).trans hx277_1
    replace hx277_2:=(HB.out.cell (World.block_lt_of_cell? w _ hx277_2)).trans hx277_2
    replace p277:=eq_true p277
    replace q277:=eq_true q277
    go_upto_region 4 with(first|((with_reducible refine gate_dst (N:=4) rfl ?_);refine box_event ?hg (N:=4) ?hd (cs := #[.int .i64 0,.int .i64 0,.int .i64 0]) (t:=35) ?hr ?_;(case hd=>rfl);(case hg=>rfl);(case hr=>first|(go_simp;done)|(go_simp;rfl));intro gb278 hg w6 hbox hb;have BK278:=am (hbox);have GW278:=am (ge_ bl hg);have GE278:=am (ge_ bl hg);replace HB:=am (below_step bl hb);clear hb hbox hg;have hcz7_0:=bc BK278.out 0;have hcz7_1:=bc BK278.out 1;have hcz7_2:=bc BK278.out 2;have hfz7_0:=blk_frozen BK278.out 0;have hfz7_1:=blk_frozen BK278.out 1;have hfz7_2:=blk_frozen BK278.out 2))
    (try simp only[Act.put,List.setIfInBounds_toArray,List.set_cons_zero,List.set_cons_succ])
    go_cut [30] (fun v30 wc=>∃(kq:Nat) (x30_4:Bool),v30 = .bool x30_4∧Aside0 (spec_ntGood.j1 kq l0 x9_1 l0 (l0.length:Int) x9_1 x30_4 ((rd_T35 l0 x9_1).f0) ((rd_T35 l0 x9_1).f1) ((rd_T35 l0 x9_1).f2)=some r)∧Aside0 (kq≤k1)∧Aside0 (wc.heap[gb278]?=some (.cells #[.int .i64 ((rd_T35 l0 x9_1).f0),.int .i64 ((rd_T35 l0 x9_1).f1),.int .i64 ((rd_T35 l0 x9_1).f2)] 35 (0,0)))∧Aside0 (Below w.heap.size w wc))
    case first =>
     have H:=HC5.out
     clear HC5
     obtain⟨t279,A8,H⟩:=bnd H
     by_cases c9:t279=true
     ·subst c9
      replace H:=(if_pos rfl).symm.trans H
      rcases itc H with⟨c10,H⟩|⟨c10,H⟩
      ·have c10b0:decide (0<x9_1)=true:=decide_eq_true c10
       clear c10
       (first|rw[c10b0]|(simp only[i64_w,i32_w];rw[c10b0])|skip)
       obtain⟨ji11,hji11⟩:∃ j_:Int,(wrap64 (x9_1 - 1))=j_:=⟨_,rfl⟩
       replace H:(if 0≤(ji11) then(if(ji11)<(l0.length:Int) then((spec_ntBefore.f ((rd_T35 l0 (ji11)).f0) ((rd_T35 l0 (ji11)).f1) ((rd_T35 l0 (ji11)).f2) ((rd_T35 l0 x9_1).f0) ((rd_T35 l0 x9_1).f1) ((rd_T35 l0 x9_1).f2)).bind fun t281=>(spec_ntGood.j1 k1 l0 x9_1 l0 (l0.length:Int) x9_1 (!t281) ((rd_T35 l0 x9_1).f0) ((rd_T35 l0 x9_1).f1) ((rd_T35 l0 x9_1).f2))) else(none)) else(none))=some r:=by first|(rw[hji11] at H;exact H)|(simp only[hji11] at H ⊢;exact H)
       (try rw[hji11] at A8)
       have hji11w:(IntKind.i64.wrap (x9_1 - 1))=ji11:=(i64_w _).trans hji11
       obtain⟨c12b0,H⟩:=ifb H
       obtain⟨c13b0,H⟩:=ifb H
       obtain⟨t281,A14,H⟩:=bnd H
       have H':=am H
       clear H
       try go_wp2
       have n0_:Aside0 ((((w6.setCell ⟨gb278,0,none⟩ (.int .i64 ((rd_T35 l0 x9_1).f0))).setCell ⟨gb278,1,none⟩ (.int .i64 ((rd_T35 l0 x9_1).f1))).setCell ⟨gb278,2,none⟩ (.int .i64 ((rd_T35 l0 x9_1).f2))).heap[gb278]?=some (.cells #[.int .i64 ((rd_T35 l0 x9_1).f0),.int .i64 ((rd_T35 l0 x9_1).f1),.int .i64 ((rd_T35 l0 x9_1).f2)] 35 (0,0))):=⟨by(with_reducible repeat(first|refine bN_ ?_ _|refine bD_ ?_|refine bA_ ?_ _));refine blk_put (cs := #[.int .i64 ((rd_T35 l0 x9_1).f0),.int .i64 ((rd_T35 l0 x9_1).f1),.int .i64 0]) ?_ 2 _ rfl;(with_reducible repeat(first|refine bN_ ?_ _|refine bD_ ?_|refine bA_ ?_ _));refine blk_put (cs := #[.int .i64 ((rd_T35 l0 x9_1).f0),.int .i64 0,.int .i64 0]) ?_ 1 _ rfl;(with_reducible repeat(first|refine bN_ ?_ _|refine bD_ ?_|refine bA_ ?_ _));refine blk_put (cs := #[.int .i64 0,.int .i64 0,.int .i64 0]) ?_ 0 _ rfl;exact bup BK278.out⟩
       have n1_:Aside0 (Below w.heap.size w (((w6.setCell ⟨gb278,0,none⟩ (.int .i64 ((rd_T35 l0 x9_1).f0))).setCell ⟨gb278,1,none⟩ (.int .i64 ((rd_T35 l0 x9_1).f1))).setCell ⟨gb278,2,none⟩ (.int .i64 ((rd_T35 l0 x9_1).f2)))):=⟨bl⟩
       (try clear BK278)
       (try clear HB)
       generalize (((w6.setCell ⟨gb278,0,none⟩ (.int .i64 ((rd_T35 l0 x9_1).f0))).setCell ⟨gb278,1,none⟩ (.int .i64 ((rd_T35 l0 x9_1).f1))).setCell ⟨gb278,2,none⟩ (.int .i64 ((rd_T35 l0 x9_1).f2)))=w15 at n0_ n1_ ⊢
       have BK278:=n0_
       have HB:=n1_
       clear n0_ n1_
       replace BK278:=am (bD_ BK278.out)
       replace HB:=am (below_drew1 HB.out)
       have p280:0≤((ji11):Int):=od
       have q280:(ji11)<(l0.length:Int):=od
       obtain⟨ad280,e280,hx280_0,hx280_1,hx280_2⟩:=at_T35 HR0.out (ji11) p280 q280
       have hw280_2:=hx280_2
       have hw280_1:=hx280_1
       have hw280_0:=hx280_0
       obtain rfl:ad277=ad280:=(by injection e280)
       replace hx280_0:=(HB.out.cell (World.block_lt_of_cell? w _ hx280_0)).trans hx280_0
       replace hx280_1:=(HB.out.cell (World.block_lt_of_cell? w _ hx280_1)).trans hx280_1
       replace hx280_2:=(HB.out.cell (World.block_lt_of_cell? w _ hx280_2)).trans hx280_2
       replace p280:=eq_true p280
       replace q280:=eq_true q280
       refine start_ (n:=17) (S:=fun w'=>w'.cell? ⟨gb278,0,none⟩=some (.int .i64 ((rd_T35 l0 x9_1).f0))∧w'.cell? ⟨gb278,1,none⟩=some (.int .i64 ((rd_T35 l0 x9_1).f1))∧w'.cell? ⟨gb278,2,none⟩=some (.int .i64 ((rd_T35 l0 x9_1).f2))∧w'.cell? (ad277.add (((ji11)).toNat*3))=some (.int .i64 ((rd_T35 l0 (ji11)).f0))∧w'.cell? ⟨(ad277.add (((ji11)).toNat*3)).block,(ad277.add (((ji11)).toNat*3)).off+1,none⟩=some (.int .i64 ((rd_T35 l0 (ji11)).f1))∧w'.cell? ⟨(ad277.add (((ji11)).toNat*3)).block,(ad277.add (((ji11)).toNat*3)).off+2,none⟩=some (.int .i64 ((rd_T35 l0 (ji11)).f2))) (ds:=[]) (fl 0 17) (by kernel_rfl) rfl rfl ⟨bc BK278.out 0,bc BK278.out 1,bc BK278.out 2,((HB.out.cell (World.block_lt_of_cell? w _ hw280_0)).trans hw280_0),((HB.out.cell (World.block_lt_of_cell? w _ hw280_1)).trans hw280_1),((HB.out.cell (World.block_lt_of_cell? w _ hw280_2)).trans hw280_2)⟩ (fun hHeld=>?_);refine with_tabW spec_ntGood.tab4 spec_ntGood.bits4 (fun HT_ HW_=>?_)
       generalize w15.drew=w16 at BK278 HB hx280_0 hx280_1 hx280_2 hHeld ⊢
       refine ta HT_.out HW_.out 0 (some 14) (fl 1 17) hHeld rfl (by rintro w' ⟨s0,s1,s2,s3,s4,s5⟩;go_simp;with_reducible rfl) (h:=?_)
       refine one_ (i:=1) (N:=some 15) (fl 2 17) rfl rfl (one_of HT_.out (by kernel_rfl)) (by decide) (fun K hK=>?_)
       refine goes_ Try.func65 (by kernel_rfl) rfl #[.agg #[.int .i64 ((rd_T35 l0 x9_1).f0),.int .i64 ((rd_T35 l0 x9_1).f1),.int .i64 ((rd_T35 l0 x9_1).f2)]] (by rfl) rfl rfl tl ?_
       with_reducible refine(spec_ntNote.calls ((rd_T35 l0 x9_1).f0) ((rd_T35 l0 x9_1).f1) ((rd_T35 l0 x9_1).f2) true _ A8.out).mono ?_
       rintro e w17 ⟨rfl,hb⟩
       refine⟨_,rfl,?_⟩
       replace BK278:=am (blk_below (bup BK278.out) hb)
       replace HB:=am (below_step bl hb)
       (try clear hb)
       refine hK.out _ _ ⟨bc BK278.out 0,bc BK278.out 1,bc BK278.out 2,((HB.out.cell (World.block_lt_of_cell? w _ hw280_0)).trans hw280_0),((HB.out.cell (World.block_lt_of_cell? w _ hw280_1)).trans hw280_1),((HB.out.cell (World.block_lt_of_cell? w _ hw280_2)).trans hw280_2)⟩ (fun hHeld=>?_)
       clear hK K
       refine norm_ (a':=?_) ?_ ?_
       rotate_left
       ·show Act.put _ (some 15) _=_
        simp only[Act.put,List.setIfInBounds_toArray,List.set_cons_zero,List.set_cons_succ,i64_w,i32_w]
        rfl
       refine pu HT_.out 2 (some 16) (fl 3 17) (h:=?_)
       refine pu HT_.out 3 (some 17) (fl 4 17) (h:=?_)
       refine pu HT_.out 4 (some 18) (fl 5 17) (h:=?_)
       refine pu HT_.out 5 (some 19) (fl 6 17) (h:=?_)
       refine pu HT_.out 6 (some 20) (fl 7 17) (h:=?_)
       refine pu HT_.out 7 (some 21) (fl 8 17) (h:=?_)
       refine pu HT_.out 8 (some 22) (fl 9 17) (h:=?_)
       refine pu HT_.out 9 (some 23) (fl 10 17) (h:=?_)
       refine pu HT_.out 10 (some 24) (fl 11 17) (h:=?_)
       refine ta HT_.out HW_.out 11 (some 25) (fl 12 17) hHeld rfl (by rintro w' ⟨s0,s1,s2,s3,s4,s5⟩;go_simp;with_reducible rfl) (h:=?_)
       refine ta HT_.out HW_.out 12 (some 26) (fl 13 17) hHeld rfl (by rintro w' ⟨s0,s1,s2,s3,s4,s5⟩;go_simp;with_reducible rfl) (h:=?_)
       refine one_ (i:=13) (N:=some 27) (fl 14 17) rfl rfl (one_of HT_.out (by kernel_rfl)) (by decide) (fun K hK=>?_)
       refine goes_ Try.func66 (by kernel_rfl) rfl #[.agg #[.int .i64 ((rd_T35 l0 (ji11)).f0),.int .i64 ((rd_T35 l0 (ji11)).f1),.int .i64 ((rd_T35 l0 (ji11)).f2)],.agg #[.int .i64 ((rd_T35 l0 x9_1).f0),.int .i64 ((rd_T35 l0 x9_1).f1),.int .i64 ((rd_T35 l0 x9_1).f2)]] (by rfl) rfl rfl (by(try simp only[List.map_toArray,List.map_cons,List.map_nil]);first|done|(simp only[hji11];rfl)|rfl|(simp only[List.length_drop,List.length_take];rfl)) ?_
       with_reducible refine(spec_ntBefore.calls ((rd_T35 l0 (ji11)).f0) ((rd_T35 l0 (ji11)).f1) ((rd_T35 l0 (ji11)).f2) ((rd_T35 l0 x9_1).f0) ((rd_T35 l0 x9_1).f1) ((rd_T35 l0 x9_1).f2) t281 _ A14.out).mono ?_
       rintro e w18 ⟨rfl,hb⟩
       refine⟨_,rfl,?_⟩
       replace BK278:=am (blk_below (bup BK278.out) hb)
       replace HB:=am (below_step bl hb)
       (try clear hb)
       refine hK.out _ _ ⟨bc BK278.out 0,bc BK278.out 1,bc BK278.out 2,((HB.out.cell (World.block_lt_of_cell? w _ hw280_0)).trans hw280_0),((HB.out.cell (World.block_lt_of_cell? w _ hw280_1)).trans hw280_1),((HB.out.cell (World.block_lt_of_cell? w _ hw280_2)).trans hw280_2)⟩ (fun hHeld=>?_)
       clear hK K
       refine norm_ (a':=?_) ?_ ?_
       rotate_left
       ·show Act.put _ (some 27) _=_
        simp only[Act.put,List.setIfInBounds_toArray,List.set_cons_zero,List.set_cons_succ,i64_w,i32_w]
        rfl
       refine pu HT_.out 14 (some 28) (fl 15 17) (h:=?_)
       refine pu HT_.out 15 (some 29) (fl 16 17) (h:=?_)
       refine pu HT_.out 16 (some 30) (fl 17 17) (h:=?_)
       refine done_ (done_of HT_.out (by kernel_rfl)) ?_
       try go_wp2
       go_meet
       case rel=>exact⟨_,(!t281),fin2,H',⟨by have:=HK1.out;first|omega|exact Nat.le_refl _⟩,⟨bup BK278.out⟩,⟨bl⟩⟩
      ·have c10b0:decide (0<x9_1)=false:=decide_eq_false c10
       clear c10
       (first|rw[c10b0]|(simp only[i64_w,i32_w];rw[c10b0])|skip)
       have H':=am H
       clear H
       try go_wp2
       have n0_:Aside0 ((((w6.setCell ⟨gb278,0,none⟩ (.int .i64 ((rd_T35 l0 x9_1).f0))).setCell ⟨gb278,1,none⟩ (.int .i64 ((rd_T35 l0 x9_1).f1))).setCell ⟨gb278,2,none⟩ (.int .i64 ((rd_T35 l0 x9_1).f2))).heap[gb278]?=some (.cells #[.int .i64 ((rd_T35 l0 x9_1).f0),.int .i64 ((rd_T35 l0 x9_1).f1),.int .i64 ((rd_T35 l0 x9_1).f2)] 35 (0,0))):=⟨by(with_reducible repeat(first|refine bN_ ?_ _|refine bD_ ?_|refine bA_ ?_ _));refine blk_put (cs := #[.int .i64 ((rd_T35 l0 x9_1).f0),.int .i64 ((rd_T35 l0 x9_1).f1),.int .i64 0]) ?_ 2 _ rfl;(with_reducible repeat(first|refine bN_ ?_ _|refine bD_ ?_|refine bA_ ?_ _));refine blk_put (cs := #[.int .i64 ((rd_T35 l0 x9_1).f0),.int .i64 0,.int .i64 0]) ?_ 1 _ rfl;(with_reducible repeat(first|refine bN_ ?_ _|refine bD_ ?_|refine bA_ ?_ _));refine blk_put (cs := #[.int .i64 0,.int .i64 0,.int .i64 0]) ?_ 0 _ rfl;exact bup BK278.out⟩
       have n1_:Aside0 (Below w.heap.size w (((w6.setCell ⟨gb278,0,none⟩ (.int .i64 ((rd_T35 l0 x9_1).f0))).setCell ⟨gb278,1,none⟩ (.int .i64 ((rd_T35 l0 x9_1).f1))).setCell ⟨gb278,2,none⟩ (.int .i64 ((rd_T35 l0 x9_1).f2)))):=⟨bl⟩
       (try clear BK278)
       (try clear HB)
       generalize (((w6.setCell ⟨gb278,0,none⟩ (.int .i64 ((rd_T35 l0 x9_1).f0))).setCell ⟨gb278,1,none⟩ (.int .i64 ((rd_T35 l0 x9_1).f1))).setCell ⟨gb278,2,none⟩ (.int .i64 ((rd_T35 l0 x9_1).f2)))=w19 at n0_ n1_ ⊢
       have BK278:=n0_
       have HB:=n1_
       clear n0_ n1_
       replace BK278:=am (bD_ BK278.out)
       replace HB:=am (below_drew1 HB.out)
       refine start_ (n:=17) (S:=fun w'=>w'.cell? ⟨gb278,0,none⟩=some (.int .i64 ((rd_T35 l0 x9_1).f0))∧w'.cell? ⟨gb278,1,none⟩=some (.int .i64 ((rd_T35 l0 x9_1).f1))∧w'.cell? ⟨gb278,2,none⟩=some (.int .i64 ((rd_T35 l0 x9_1).f2))) (ds:=[]) (fl 0 17) (by kernel_rfl) rfl rfl ⟨bc BK278.out 0,bc BK278.out 1,bc BK278.out 2⟩ (fun hHeld=>?_);refine with_tabW spec_ntGood.tab4 spec_ntGood.bits4 (fun HT_ HW_=>?_)
       generalize w19.drew=w20 at BK278 HB hHeld ⊢
       refine ta HT_.out HW_.out 0 (some 14) (fl 1 17) hHeld rfl (by rintro w' ⟨s0,s1,s2⟩;go_simp;with_reducible rfl) (h:=?_)
       refine one_ (i:=1) (N:=some 15) (fl 2 17) rfl rfl (one_of HT_.out (by kernel_rfl)) (by decide) (fun K hK=>?_)
       refine goes_ Try.func65 (by kernel_rfl) rfl #[.agg #[.int .i64 ((rd_T35 l0 x9_1).f0),.int .i64 ((rd_T35 l0 x9_1).f1),.int .i64 ((rd_T35 l0 x9_1).f2)]] (by rfl) rfl rfl tl ?_
       with_reducible refine(spec_ntNote.calls ((rd_T35 l0 x9_1).f0) ((rd_T35 l0 x9_1).f1) ((rd_T35 l0 x9_1).f2) true _ A8.out).mono ?_
       rintro e w21 ⟨rfl,hb⟩
       refine⟨_,rfl,?_⟩
       replace BK278:=am (blk_below (bup BK278.out) hb)
       replace HB:=am (below_step bl hb)
       (try clear hb)
       refine hK.out _ _ ⟨bc BK278.out 0,bc BK278.out 1,bc BK278.out 2⟩ (fun hHeld=>?_)
       clear hK K
       refine norm_ (a':=?_) ?_ ?_
       rotate_left
       ·show Act.put _ (some 15) _=_
        simp only[Act.put,List.setIfInBounds_toArray,List.set_cons_zero,List.set_cons_succ,i64_w,i32_w]
        rfl
       refine pu HT_.out 2 (some 16) (fl 3 17) (h:=?_)
       refine pu HT_.out 3 (some 17) (fl 4 17) (h:=?_)
       refine pu HT_.out 4 (some 18) (fl 5 17) (h:=?_)
       refine pu HT_.out 5 (some 19) (fl 6 17) (h:=?_)
       refine pu HT_.out 6 (some 20) (fl 7 17) (h:=?_)
       refine pz HT_.out 7 (some 21) (fl 8 17) (h:=?_)
       refine pz HT_.out 8 (some 22) (fl 9 17) (h:=?_)
       refine pz HT_.out 9 (some 23) (fl 10 17) (h:=?_)
       refine pz HT_.out 10 (some 24) (fl 11 17) (h:=?_)
       refine pz HT_.out 11 (some 25) (fl 12 17) (h:=?_)
       refine pz HT_.out 12 (some 26) (fl 13 17) (h:=?_)
       refine pz HT_.out 13 (some 27) (fl 14 17) (h:=?_)
       refine pz HT_.out 14 (some 28) (fl 15 17) (h:=?_)
       refine pu HT_.out 15 (some 29) (fl 16 17) (h:=?_)
       refine pu HT_.out 16 (some 30) (fl 17 17) (h:=?_)
       refine done_ (done_of HT_.out (by kernel_rfl)) ?_
       try go_wp2
       go_meet
       case rel=>exact⟨_,(false),fin2,H',⟨by have:=HK1.out;first|omega|exact Nat.le_refl _⟩,⟨bup BK278.out⟩,⟨bl⟩⟩
     ·replace c9:=Bool.eq_false_iff.mpr c9
      subst c9
      replace H:=(if_neg Bool.false_ne_true).symm.trans H
      have H':=am H
      clear H
      try go_wp2
      have n0_:Aside0 ((((w6.setCell ⟨gb278,0,none⟩ (.int .i64 ((rd_T35 l0 x9_1).f0))).setCell ⟨gb278,1,none⟩ (.int .i64 ((rd_T35 l0 x9_1).f1))).setCell ⟨gb278,2,none⟩ (.int .i64 ((rd_T35 l0 x9_1).f2))).heap[gb278]?=some (.cells #[.int .i64 ((rd_T35 l0 x9_1).f0),.int .i64 ((rd_T35 l0 x9_1).f1),.int .i64 ((rd_T35 l0 x9_1).f2)] 35 (0,0))):=⟨by(with_reducible repeat(first|refine bN_ ?_ _|refine bD_ ?_|refine bA_ ?_ _));refine blk_put (cs := #[.int .i64 ((rd_T35 l0 x9_1).f0),.int .i64 ((rd_T35 l0 x9_1).f1),.int .i64 0]) ?_ 2 _ rfl;(with_reducible repeat(first|refine bN_ ?_ _|refine bD_ ?_|refine bA_ ?_ _));refine blk_put (cs := #[.int .i64 ((rd_T35 l0 x9_1).f0),.int .i64 0,.int .i64 0]) ?_ 1 _ rfl;(with_reducible repeat(first|refine bN_ ?_ _|refine bD_ ?_|refine bA_ ?_ _));refine blk_put (cs := #[.int .i64 0,.int .i64 0,.int .i64 0]) ?_ 0 _ rfl;exact bup BK278.out⟩
      have n1_:Aside0 (Below w.heap.size w (((w6.setCell ⟨gb278,0,none⟩ (.int .i64 ((rd_T35 l0 x9_1).f0))).setCell ⟨gb278,1,none⟩ (.int .i64 ((rd_T35 l0 x9_1).f1))).setCell ⟨gb278,2,none⟩ (.int .i64 ((rd_T35 l0 x9_1).f2)))):=⟨bl⟩
      (try clear BK278)
      (try clear HB)
      generalize (((w6.setCell ⟨gb278,0,none⟩ (.int .i64 ((rd_T35 l0 x9_1).f0))).setCell ⟨gb278,1,none⟩ (.int .i64 ((rd_T35 l0 x9_1).f1))).setCell ⟨gb278,2,none⟩ (.int .i64 ((rd_T35 l0 x9_1).f2)))=w22 at n0_ n1_ ⊢
      have BK278:=n0_
      have HB:=n1_
      clear n0_ n1_
      replace BK278:=am (bD_ BK278.out)
      replace HB:=am (below_drew1 HB.out)
      refine start_ (n:=17) (S:=fun w'=>w'.cell? ⟨gb278,0,none⟩=some (.int .i64 ((rd_T35 l0 x9_1).f0))∧w'.cell? ⟨gb278,1,none⟩=some (.int .i64 ((rd_T35 l0 x9_1).f1))∧w'.cell? ⟨gb278,2,none⟩=some (.int .i64 ((rd_T35 l0 x9_1).f2))) (ds:=[]) (fl 0 17) (by kernel_rfl) rfl rfl ⟨bc BK278.out 0,bc BK278.out 1,bc BK278.out 2⟩ (fun hHeld=>?_);refine with_tabW spec_ntGood.tab4 spec_ntGood.bits4 (fun HT_ HW_=>?_)
      generalize w22.drew=w23 at BK278 HB hHeld ⊢
      refine ta HT_.out HW_.out 0 (some 14) (fl 1 17) hHeld rfl (by rintro w' ⟨s0,s1,s2⟩;go_simp;with_reducible rfl) (h:=?_)
      refine one_ (i:=1) (N:=some 15) (fl 2 17) rfl rfl (one_of HT_.out (by kernel_rfl)) (by decide) (fun K hK=>?_)
      refine goes_ Try.func65 (by kernel_rfl) rfl #[.agg #[.int .i64 ((rd_T35 l0 x9_1).f0),.int .i64 ((rd_T35 l0 x9_1).f1),.int .i64 ((rd_T35 l0 x9_1).f2)]] (by rfl) rfl rfl tl ?_
      with_reducible refine(spec_ntNote.calls ((rd_T35 l0 x9_1).f0) ((rd_T35 l0 x9_1).f1) ((rd_T35 l0 x9_1).f2) false _ A8.out).mono ?_
      rintro e w24 ⟨rfl,hb⟩
      refine⟨_,rfl,?_⟩
      replace BK278:=am (blk_below (bup BK278.out) hb)
      replace HB:=am (below_step bl hb)
      (try clear hb)
      refine hK.out _ _ ⟨bc BK278.out 0,bc BK278.out 1,bc BK278.out 2⟩ (fun hHeld=>?_)
      clear hK K
      refine norm_ (a':=?_) ?_ ?_
      rotate_left
      ·show Act.put _ (some 15) _=_
       simp only[Act.put,List.setIfInBounds_toArray,List.set_cons_zero,List.set_cons_succ,i64_w,i32_w]
       rfl
      refine pu HT_.out 2 (some 16) (fl 3 17) (h:=?_)
      refine pu HT_.out 3 (some 17) (fl 4 17) (h:=?_)
      refine pz HT_.out 4 (some 18) (fl 5 17) (h:=?_)
      refine pz HT_.out 5 (some 19) (fl 6 17) (h:=?_)
      refine pz HT_.out 6 (some 20) (fl 7 17) (h:=?_)
      refine pz HT_.out 7 (some 21) (fl 8 17) (h:=?_)
      refine pz HT_.out 8 (some 22) (fl 9 17) (h:=?_)
      refine pz HT_.out 9 (some 23) (fl 10 17) (h:=?_)
      refine pz HT_.out 10 (some 24) (fl 11 17) (h:=?_)
      refine pz HT_.out 11 (some 25) (fl 12 17) (h:=?_)
      refine pz HT_.out 12 (some 26) (fl 13 17) (h:=?_)
      refine pz HT_.out 13 (some 27) (fl 14 17) (h:=?_)
      refine pz HT_.out 14 (some 28) (fl 15 17) (h:=?_)
      refine pz HT_.out 15 (some 29) (fl 16 17) (h:=?_)
      refine pu HT_.out 16 (some 30) (fl 17 17) (h:=?_)
      refine done_ (done_of HT_.out (by kernel_rfl)) ?_
      try go_wp2
      go_meet
      case rel=>exact⟨_,(true),fin2,H',⟨by have:=HK1.out;first|omega|exact Nat.le_refl _⟩,⟨bup BK278.out⟩,⟨bl⟩⟩
    case rest =>
     clear HC5
     try clear c2b0
     try clear c3b0
     try clear c4b0
     try clear hcz7_0
     try clear hcz7_1
     try clear hcz7_2
     try clear hfz7_0
     try clear hfz7_1
     try clear hfz7_2
     try clear hx277_0
     try clear hx277_1
     try clear hx277_2
     try clear p277
     try clear q277
     obtain⟨kq,x30_4,rfl,HA,HJ4,BK278,HB⟩:=hcut
     cases kq with
     | zero=>exact absurd HA.out (by simp [spec_ntGood.j1])
     | succ kj4 =>
      have H:=HA.out
      clear HA
      simp only[spec_ntGood.j1] at H
      by_cases c25:x30_4=true
      ·subst c25
       replace H:=(if_pos rfl).symm.trans H
       obtain rfl:=Option.some.inj H
       go_wp2
       go_ret
       exact⟨fin1,bl⟩
      ·replace c25:=Bool.eq_false_iff.mpr c25
       subst c25
       replace H:=(if_neg Bool.false_ne_true).symm.trans H
       obtain⟨c26,H⟩:=ifp H
       have c26b0:=eq_true c26
       have c26b1:decide (0≤x9_1)=true:=decide_eq_true c26
       clear c26
       obtain⟨c27,H⟩:=ifp H
       have c27b0:=eq_true c27
       have c27b1:decide (x9_1≤(l0.length:Int))=true:=decide_eq_true c27
       clear c27
       obtain⟨y282,hy282⟩:∃ y_:List (S35),y_=(l0.take (x9_1:Int).toNat):=⟨_,rfl⟩
       replace H:(spec_ntGood.l1 kj4 l0 l0 (l0.length:Int) x9_1 y282 (y282.length:Int) 0 ((rd_T35 l0 x9_1).f0) ((rd_T35 l0 x9_1).f1) ((rd_T35 l0 x9_1).f2))=some r:=by subst hy282;exact H
       have Ny282:=am hy282
       clear hy282
       have H':=am H
       clear H
       have q28:(x9_1:Int)≤((l0.length:Int):Int):=od
       obtain⟨i028,hi028,_,hsz28,_⟩:=info_parts info35
       have hroom28:l0.length≤c0:=HC0.out
       have hC28:Kd.C k35 _ (some ad277) l0.length l0:=HR0.out
       have hcut28:=cut_to (P:=Try.prog) 25 35 .i64 Try.underlying25 hi028 (some ad277) l0.length c0 x9_1 (od) q28 hroom28
       have hr28:=Kd.C_take (m:=(x9_1:Int).toNat) hC28 (by omega)
       have hy28:y282.length=(x9_1:Int).toNat:=(by rw[Ny282.out,List.length_take];omega)
       rw[← Ny282.out] at hr28
       rw[← hy28] at hcut28
       have HR285:=am hr28
       have HC285:=am (show y282.length≤c0 from by omega)
       clear hr28 hC28 hroom28 hi028 hsz28
       have KY28:=am hy28
       clear hy28
       replace q28:=eq_true q28
       go_wp2
       go_loopg [35] kj4 (fun kq v35 w'=>∃(x35_3:Int),v35 = .int .i64 x35_3∧Aside0 (spec_ntGood.l1 kq l0 l0 (l0.length:Int) x9_1 y282 (y282.length:Int) x35_3 ((rd_T35 l0 x9_1).f0) ((rd_T35 l0 x9_1).f1) ((rd_T35 l0 x9_1).f2)=some r)∧Aside0 (kq≤kj4)∧Aside0 (w'.heap[gb278]?=some (.cells #[.int .i64 ((rd_T35 l0 x9_1).f0),.int .i64 ((rd_T35 l0 x9_1).f1),.int .i64 ((rd_T35 l0 x9_1).f2)] 35 (0,0)))∧Aside0 (Below w.heap.size w w'))
       case atStart=>exact⟨(0),fin2,H',⟨Nat.le_refl _⟩,⟨bup BK278.out⟩,⟨bl⟩⟩
       case round =>
        clear H'
        try clear c25
        try clear c26b0
        try clear c26b1
        try clear c27b0
        try clear c27b1
        try clear q28
        obtain⟨x35_3,rfl,HA,HK3,BK278,HB⟩:=hrel
        cases gk with
        | zero=>exact absurd HA.out (by simp [spec_ntGood.l1])
        | succ k3 =>
         have H:=HA.out
         clear HA
         simp only[spec_ntGood.l1] at H
         rcases itc H with⟨c29,H⟩|⟨c29,H⟩
         ·have c29b0:=decide_eq_true c29
          clear c29
          obtain⟨c30b0,H⟩:=ifb H
          obtain⟨c31b0,H⟩:=ifb H
          obtain⟨t288,A32,H⟩:=bnd H
          by_cases c33:t288=true
          ·subst c33
           replace H:=(if_pos rfl).symm.trans H
           obtain rfl:=Option.some.inj H
           have p286:0≤(x35_3:Int):=od
           have q286:x35_3<(y282.length:Int):=od
           obtain⟨ad286,e286,hx286_0,hx286_1,hx286_2⟩:=at_T35 HR285.out x35_3 p286 q286
           obtain rfl:ad277=ad286:=(by injection e286)
           replace hx286_0:=(HB.out.cell (World.block_lt_of_cell? w _ hx286_0)).trans hx286_0
           replace hx286_1:=(HB.out.cell (World.block_lt_of_cell? w _ hx286_1)).trans hx286_1
           replace hx286_2:=(HB.out.cell (World.block_lt_of_cell? w _ hx286_2)).trans hx286_2
           replace p286:=eq_true p286
           replace q286:=eq_true q286
           go_wp2_with (first|((with_reducible refine gate_dst (N:=6) rfl ?_);refine box_event ?hg (N:=6) ?hd (cs := #[.int .i64 0,.int .i64 0,.int .i64 0]) (t:=35) ?hr ?_;(case hd=>rfl);(case hg=>rfl);(case hr=>first|(go_simp;done)|(go_simp;rfl));intro gb287 hg w34 hbox hb;have BK287:=am (hbox);have GW287:=am (ge_ bl hg);have GE287:=am (ge_ bl hg);replace HB:=am (below_step bl hb);have NB278_287:=am (nl (bup BK278.out) hg);have NB287_278:=am (ng (bup BK278.out) hg);replace BK278:=am (blk_below (bup BK278.out) hb);clear hb hbox hg;have hnb35:=NB287_278.out;have hnc35:=NB278_287.out;have hcz36_0:=bc BK287.out 0;have hcz36_1:=bc BK287.out 1;have hcz36_2:=bc BK287.out 2;have hfz36_0:=blk_frozen BK287.out 0;have hfz36_1:=blk_frozen BK287.out 1;have hfz36_2:=blk_frozen BK287.out 2;have hcz37_0:=bc BK278.out 0;have hcz37_1:=bc BK278.out 1;have hcz37_2:=bc BK278.out 2;have hfz37_0:=blk_frozen BK278.out 0;have hfz37_1:=blk_frozen BK278.out 1;have hfz37_2:=blk_frozen BK278.out 2)|((with_reducible refine gate_callee (f:=67) rfl ?_);refine goesL_ (some 41) rfl rfl Try.func67 (by kernel_rfl) rfl #[.agg #[.int .i64 ((rd_T35 l0 x9_1).f0),.int .i64 ((rd_T35 l0 x9_1).f1),.int .i64 ((rd_T35 l0 x9_1).f2)],.agg #[.int .i64 ((rd_T35 y282 x35_3).f0),.int .i64 ((rd_T35 y282 x35_3).f1),.int .i64 ((rd_T35 y282 x35_3).f2)]] rfl tl ?_;(with_reducible refine(spec_ntMeet.calls ((rd_T35 l0 x9_1).f0) ((rd_T35 l0 x9_1).f1) ((rd_T35 l0 x9_1).f2) ((rd_T35 y282 x35_3).f0) ((rd_T35 y282 x35_3).f1) ((rd_T35 y282 x35_3).f2) true _ A32.out).mono ?_);rintro e w38 ⟨rfl,hb⟩;refine⟨_,rfl,?_⟩;replace BK278:=am (blk_below (g:=gb278) (o := .cells #[.int .i64 ((rd_T35 l0 x9_1).f0),.int .i64 ((rd_T35 l0 x9_1).f1),.int .i64 ((rd_T35 l0 x9_1).f2)] 35 (0,0)) (by(with_reducible repeat(first|refine bN_ ?_ _|refine bD_ ?_|refine bA_ ?_ _));refine blk_far ?_ NB278_287.out _;(with_reducible repeat(first|refine bN_ ?_ _|refine bD_ ?_|refine bA_ ?_ _));refine blk_far ?_ NB278_287.out _;(with_reducible repeat(first|refine bN_ ?_ _|refine bD_ ?_|refine bA_ ?_ _));refine blk_far ?_ NB278_287.out _;exact bup BK278.out) hb);replace BK287:=am (blk_below (g:=gb287) (o := .cells #[.int .i64 ((rd_T35 y282 x35_3).f0),.int .i64 ((rd_T35 y282 x35_3).f1),.int .i64 ((rd_T35 y282 x35_3).f2)] 35 (0,0)) (by(with_reducible repeat(first|refine bN_ ?_ _|refine bD_ ?_|refine bA_ ?_ _));refine blk_put (cs := #[.int .i64 ((rd_T35 y282 x35_3).f0),.int .i64 ((rd_T35 y282 x35_3).f1),.int .i64 0]) ?_ 2 _ rfl;(with_reducible repeat(first|refine bN_ ?_ _|refine bD_ ?_|refine bA_ ?_ _));refine blk_put (cs := #[.int .i64 ((rd_T35 y282 x35_3).f0),.int .i64 0,.int .i64 0]) ?_ 1 _ rfl;(with_reducible repeat(first|refine bN_ ?_ _|refine bD_ ?_|refine bA_ ?_ _));refine blk_put (cs := #[.int .i64 0,.int .i64 0,.int .i64 0]) ?_ 0 _ rfl;exact bup BK287.out) hb);replace HB:=am (below_step bl hb);(try clear hb)))
           go_ret
           exact⟨fin1,bl⟩
          ·replace c33:=Bool.eq_false_iff.mpr c33
           subst c33
           replace H:=(if_neg Bool.false_ne_true).symm.trans H
           have H':=am H
           clear H
           have p286:0≤(x35_3:Int):=od
           have q286:x35_3<(y282.length:Int):=od
           obtain⟨ad286,e286,hx286_0,hx286_1,hx286_2⟩:=at_T35 HR285.out x35_3 p286 q286
           obtain rfl:ad277=ad286:=(by injection e286)
           replace hx286_0:=(HB.out.cell (World.block_lt_of_cell? w _ hx286_0)).trans hx286_0
           replace hx286_1:=(HB.out.cell (World.block_lt_of_cell? w _ hx286_1)).trans hx286_1
           replace hx286_2:=(HB.out.cell (World.block_lt_of_cell? w _ hx286_2)).trans hx286_2
           replace p286:=eq_true p286
           replace q286:=eq_true q286
           go_wp2_with (first|((with_reducible refine gate_dst (N:=6) rfl ?_);refine box_event ?hg (N:=6) ?hd (cs := #[.int .i64 0,.int .i64 0,.int .i64 0]) (t:=35) ?hr ?_;(case hd=>rfl);(case hg=>rfl);(case hr=>first|(go_simp;done)|(go_simp;rfl));intro gb287 hg w39 hbox hb;have BK287:=am (hbox);have GW287:=am (ge_ bl hg);have GE287:=am (ge_ bl hg);replace HB:=am (below_step bl hb);have NB278_287:=am (nl (bup BK278.out) hg);have NB287_278:=am (ng (bup BK278.out) hg);replace BK278:=am (blk_below (bup BK278.out) hb);clear hb hbox hg;have hnb40:=NB287_278.out;have hnc40:=NB278_287.out;have hcz41_0:=bc BK287.out 0;have hcz41_1:=bc BK287.out 1;have hcz41_2:=bc BK287.out 2;have hfz41_0:=blk_frozen BK287.out 0;have hfz41_1:=blk_frozen BK287.out 1;have hfz41_2:=blk_frozen BK287.out 2;have hcz42_0:=bc BK278.out 0;have hcz42_1:=bc BK278.out 1;have hcz42_2:=bc BK278.out 2;have hfz42_0:=blk_frozen BK278.out 0;have hfz42_1:=blk_frozen BK278.out 1;have hfz42_2:=blk_frozen BK278.out 2)|((with_reducible refine gate_callee (f:=67) rfl ?_);refine goesL_ (some 41) rfl rfl Try.func67 (by kernel_rfl) rfl #[.agg #[.int .i64 ((rd_T35 l0 x9_1).f0),.int .i64 ((rd_T35 l0 x9_1).f1),.int .i64 ((rd_T35 l0 x9_1).f2)],.agg #[.int .i64 ((rd_T35 y282 x35_3).f0),.int .i64 ((rd_T35 y282 x35_3).f1),.int .i64 ((rd_T35 y282 x35_3).f2)]] rfl tl ?_;(with_reducible refine(spec_ntMeet.calls ((rd_T35 l0 x9_1).f0) ((rd_T35 l0 x9_1).f1) ((rd_T35 l0 x9_1).f2) ((rd_T35 y282 x35_3).f0) ((rd_T35 y282 x35_3).f1) ((rd_T35 y282 x35_3).f2) false _ A32.out).mono ?_);rintro e w43 ⟨rfl,hb⟩;refine⟨_,rfl,?_⟩;replace BK278:=am (blk_below (g:=gb278) (o := .cells #[.int .i64 ((rd_T35 l0 x9_1).f0),.int .i64 ((rd_T35 l0 x9_1).f1),.int .i64 ((rd_T35 l0 x9_1).f2)] 35 (0,0)) (by(with_reducible repeat(first|refine bN_ ?_ _|refine bD_ ?_|refine bA_ ?_ _));refine blk_far ?_ NB278_287.out _;(with_reducible repeat(first|refine bN_ ?_ _|refine bD_ ?_|refine bA_ ?_ _));refine blk_far ?_ NB278_287.out _;(with_reducible repeat(first|refine bN_ ?_ _|refine bD_ ?_|refine bA_ ?_ _));refine blk_far ?_ NB278_287.out _;exact bup BK278.out) hb);replace BK287:=am (blk_below (g:=gb287) (o := .cells #[.int .i64 ((rd_T35 y282 x35_3).f0),.int .i64 ((rd_T35 y282 x35_3).f1),.int .i64 ((rd_T35 y282 x35_3).f2)] 35 (0,0)) (by(with_reducible repeat(first|refine bN_ ?_ _|refine bD_ ?_|refine bA_ ?_ _));refine blk_put (cs := #[.int .i64 ((rd_T35 y282 x35_3).f0),.int .i64 ((rd_T35 y282 x35_3).f1),.int .i64 0]) ?_ 2 _ rfl;(with_reducible repeat(first|refine bN_ ?_ _|refine bD_ ?_|refine bA_ ?_ _));refine blk_put (cs := #[.int .i64 ((rd_T35 y282 x35_3).f0),.int .i64 0,.int .i64 0]) ?_ 1 _ rfl;(with_reducible repeat(first|refine bN_ ?_ _|refine bD_ ?_|refine bA_ ?_ _));refine blk_put (cs := #[.int .i64 0,.int .i64 0,.int .i64 0]) ?_ 0 _ rfl;exact bup BK287.out) hb);replace HB:=am (below_step bl hb);(try clear hb)))
           go_roundg k3
           case measure=>have:=HK1.out;have:=HJ4.out;have:=HK3.out;omega
           case rel=>exact⟨(wrap64 (x35_3+1)),fin2,H',⟨by have:=HK1.out;have:=HJ4.out;have:=HK3.out;omega⟩,⟨bup BK278.out⟩,⟨bl⟩⟩
         ·have c29b0:=decide_eq_false c29
          clear c29
          have H':=am H
          clear H
          go_wp2
          go_roundg k3
          case measure=>have:=HK1.out;have:=HJ4.out;have:=HK3.out;omega
          case rel=>exact⟨(wrap64 (x9_1+1)),fin2,H',⟨by have:=HK1.out;have:=HJ4.out;have:=HK3.out;omega⟩,⟨bl⟩⟩
   ·have c2b0:=decide_eq_false c2
    clear c2
    obtain rfl:=Option.some.inj H
    go_wp2
    go_ret
    exact⟨fin1,bl⟩

end Go.Proofs.Ytdcchnfndhkfaaa.PFnPassesPlays
