/- Walks of functions that FnPassesPlays reaches. No conditions beyond the arguments' being read. -/
import Derived.Test.YtdcchnfndhkfaaaSFnPassesPlays0
import Derived.Test.YtdcchnfndhkfaaaSFnPassesPlays1
namespace Go.Proofs.Ytdcchnfndhkfaaa.PFnPassesPlays
open Go.RowKit Go.Proofs.YtdcchnfndhkfaaaW.PrintWords Go.Proofs.YtdcchnfndhkfaaaW.PrintLast Go.Proofs.YtdcchnfndhkfaaaW.PrintMore
attribute [local go_sem] max2_int min2_int max_two min_two max_three min_three max_four min_four
set_option linter.unusedVariables false
set_option linter.unusedSimpArgs false

mutual
def impl_IsScore.l0:Nat→List (S35)→List (S35)→Int→Int→Option (Bool)
 | 0,_,_,_,_=>none
 | k+1,x0,x10,x11,x12=>if x12<x11 then(if 0≤x12 then(if x12<(x10.length:Int) then((impl_IsNote.f ((rd_T35 x10 x12).f0) ((rd_T35 x10 x12).f1) ((rd_T35 x10 x12).f2)).bind fun t111=>(if t111=true then(if x12>0 then(if 0≤(wrap64 (x12 - 1)) then(if(wrap64 (x12 - 1))<(x0.length:Int) then((impl_noteLess.f ((rd_T35 x0 (wrap64 (x12 - 1))).f0) ((rd_T35 x0 (wrap64 (x12 - 1))).f1) ((rd_T35 x0 (wrap64 (x12 - 1))).f2) ((rd_T35 x10 x12).f0) ((rd_T35 x10 x12).f1) ((rd_T35 x10 x12).f2)).bind fun t113=>(impl_IsScore.j1 k x0 x12 x10 x11 x12 (!t113) ((rd_T35 x10 x12).f0) ((rd_T35 x10 x12).f1) ((rd_T35 x10 x12).f2))) else(none)) else(none)) else(impl_IsScore.j1 k x0 x12 x10 x11 x12 false ((rd_T35 x10 x12).f0) ((rd_T35 x10 x12).f1) ((rd_T35 x10 x12).f2))) else(impl_IsScore.j1 k x0 x12 x10 x11 x12 true ((rd_T35 x10 x12).f0) ((rd_T35 x10 x12).f1) ((rd_T35 x10 x12).f2)))) else(none)) else(none)) else(some true)
def impl_IsScore.j1:Nat→List (S35)→Int→List (S35)→Int→Int→Bool→Int→Int→Int→Option (Bool)
 | 0,_,_,_,_,_,_,_,_,_=>none
 | k+1,x0,x3,x10,x11,x12,x33,x111000,x111001,x111002=>if x33=true then(some false) else(if 0≤x3 then(if x3≤(x0.length:Int) then((some (x0.take (x3:Int).toNat:List (S35))).bind fun y114=>(impl_IsScore.l1 k x0 x10 x11 x12 y114 (y114.length:Int) 0 x111000 x111001 x111002)) else(none)) else(none))
def impl_IsScore.l1:Nat→List (S35)→List (S35)→Int→Int→List (S35)→Int→Int→Int→Int→Int→Option (Bool)
 | 0,_,_,_,_,_,_,_,_,_,_=>none
 | k+1,x0,x10,x11,x12,x36,x37,x38,x111000,x111001,x111002=>if x38<x37 then(if 0≤x38 then(if x38<(x36.length:Int) then(if((rd_T35 x36 x38).f0)=x111000 then((impl_noteEnd.f ((rd_T35 x36 x38).f0) ((rd_T35 x36 x38).f1) ((rd_T35 x36 x38).f2)).bind fun t120=>(if t120>x111001 then(some false) else(impl_IsScore.l1 k x0 x10 x11 x12 x36 x37 (wrap64 (x38+1)) x111000 x111001 x111002))) else(impl_IsScore.l1 k x0 x10 x11 x12 x36 x37 (wrap64 (x38+1)) x111000 x111001 x111002)) else(none)) else(none)) else(impl_IsScore.l0 k x0 x10 x11 (wrap64 (x12+1)))
end
def impl_IsScore.f (k:Nat) (l0:List (S35)):Option (Bool):=if(l0.length:Int)>30 then(some false) else(impl_IsScore.l0 k l0 l0 (l0.length:Int) 0)
def impl_IsScore.T6:Bool×List (List Nat×List Nat):=(true,[([],[]),([0],[0]),([1],[1]),([2,1],[2]),([3],[3]),([4,3],[3,4]),([5,3,3],[3,5]),([6],[6]),([6],[6]),([8,6],[6,8]),([7,9,6],[6,7,9]),([10,6],[6,10]),([6],[6]),([11,12,6,6],[6,11,12]),([13,6],[6,13]),([6,14,3],[3,6,14]),([3,15],[3,15])])
def impl_IsScore.B6:List Nat:=[0,1,3,7,15,31,63,127,127,383,1023,2047,127,8191,16383,32767,65535]
theorem impl_IsScore.tab6:rtab .any (opsOf Try.f26 6)=impl_IsScore.T6:=by kernel_rfl
theorem impl_IsScore.bits6:waitsOk impl_IsScore.T6.2 impl_IsScore.B6=true:=by kernel_rfl
def impl_IsScore.T11:Bool×List (List Nat×List Nat):=(true,[([],[]),([0],[0]),([],[]),([2],[2]),([1,3],[1,3]),([4],[4]),([5],[5]),([6,5,5],[5,6]),([5],[5]),([8,5],[5,8]),([7,9,5],[5,7,9]),([5,10],[5,10])])
def impl_IsScore.B11:List Nat:=[0,1,0,4,15,31,63,127,63,319,1023,2047]
theorem impl_IsScore.tab11:rtab .any (opsOf Try.f26 11)=impl_IsScore.T11:=by kernel_rfl
theorem impl_IsScore.bits11:waitsOk impl_IsScore.T11.2 impl_IsScore.B11=true:=by kernel_rfl
set_option maxHeartbeats 8000000 in
set_option maxRecDepth 100000 in
theorem impl_IsScore.calls (k:Nat) (A0:Option Addr) (c0:Nat) (l0:List (S35)) (r:Bool) (w:World) (hr0:Kd.C k35 w A0 l0.length l0) (hc0:l0.length≤c0) (h:impl_IsScore.f k l0=some r) :
  Calls Try.prog 26 #[.slice A0 l0.length c0] w fun e w'=>e = .returned (.bool r)∧Below w.heap.size w w':=by
 have hu35:=Try.underlying35
 have HR0:=am hr0
 have HC0:=am hc0
 clear hr0 hc0
 have HB:=am (Below.refl w.heap.size w)
 have H:(if(l0.length:Int)>30 then(some false) else(impl_IsScore.l0 k l0 l0 (l0.length:Int) 0))=some r:=h
 clear h
 rcases itc H with⟨c2,H⟩|⟨c2,H⟩
 ·have c2b0:decide (30<(l0.length:Int))=true:=decide_eq_true c2
  have c2b1:decide (30<l0.length)=true:=decide_eq_true (by omega)
  clear c2
  obtain rfl:=Option.some.inj H
  go_enter Try.func26,Try.ntmps26
  go_wp2
  go_ret
  exact⟨fin1,bl⟩
 ·have c2b0:decide (30<(l0.length:Int))=false:=decide_eq_false c2
  have c2b1:decide (30<l0.length)=false:=decide_eq_false (by omega)
  clear c2
  have H':=am H
  clear H
  go_enter Try.func26,Try.ntmps26
  go_wp2
  go_loopg [12] k (fun kq v12 w'=>∃(x12_1:Int),v12 = .int .i64 x12_1∧Aside0 (impl_IsScore.l0 kq l0 l0 (l0.length:Int) x12_1=some r)∧Aside0 (kq≤k)∧Aside0 (Below w.heap.size w w'))
  case atStart=>exact⟨(0),fin2,H',⟨Nat.le_refl _⟩,⟨bl⟩⟩
  case round =>
   clear H'
   try clear c2b0
   try clear c2b1
   obtain⟨x12_1,rfl,HA,HK1,HB⟩:=hrel
   cases gk with
   | zero=>exact absurd HA.out (by simp [impl_IsScore.l0])
   | succ k1 =>
    have H:=HA.out
    clear HA
    simp only[impl_IsScore.l0] at H
    rcases itc H with⟨c3,H⟩|⟨c3,H⟩
    ·have c3b0:=decide_eq_true c3
     clear c3
     obtain⟨c4b0,H⟩:=ifb H
     obtain⟨c5b0,H⟩:=ifb H
     have HC6:=am H
     clear H
     have p109:0≤(x12_1:Int):=od
     have q109:x12_1<(l0.length:Int):=od
     obtain⟨ad109,e109,hx109_0,hx109_1,hx109_2⟩:=at_T35 HR0.out x12_1 p109 q109
     cases e109
     replace hx109_0:=(HB.out.cell (World.block_lt_of_cell? w _ hx109_0)).trans hx109_0
     replace hx109_1:=(HB.out.cell (World.block_lt_of_cell? w _ hx109_1)).trans hx109_1
     replace hx109_2:=(HB.out.cell (World.block_lt_of_cell? w _ hx109_2)).trans hx109_2
     replace p109:=eq_true p109
     replace q109:=eq_true q109
     go_upto_region 6 with(first|((with_reducible refine gate_dst (N:=4) rfl ?_);refine box_event ?hg (N:=4) ?hd (cs := #[.int .i64 0,.int .i64 0,.int .i64 0]) (t:=35) ?hr ?_;(case hd=>rfl);(case hg=>rfl);(case hr=>first|(go_simp;done)|(go_simp;rfl));intro gb110 hg w7 hbox hb;have BK110:=am (hbox);have GW110:=am (ge_ bl hg);have GE110:=am (ge_ bl hg);replace HB:=am (below_step bl hb);clear hb hbox hg;have hcz8_0:=bc BK110.out 0;have hcz8_1:=bc BK110.out 1;have hcz8_2:=bc BK110.out 2;have hfz8_0:=blk_frozen BK110.out 0;have hfz8_1:=blk_frozen BK110.out 1;have hfz8_2:=blk_frozen BK110.out 2))
     (try simp only[Act.put,List.setIfInBounds_toArray,List.set_cons_zero,List.set_cons_succ])
     go_cut [33] (fun v33 wc=>∃(kq:Nat) (x33_5:Bool),v33 = .bool x33_5∧Aside0 (impl_IsScore.j1 kq l0 x12_1 l0 (l0.length:Int) x12_1 x33_5 ((rd_T35 l0 x12_1).f0) ((rd_T35 l0 x12_1).f1) ((rd_T35 l0 x12_1).f2)=some r)∧Aside0 (kq≤k1)∧Aside0 (wc.heap[gb110]?=some (.cells #[.int .i64 ((rd_T35 l0 x12_1).f0),.int .i64 ((rd_T35 l0 x12_1).f1),.int .i64 ((rd_T35 l0 x12_1).f2)] 35 (0,0)))∧Aside0 (Below w.heap.size w wc))
     case first =>
      have H:=HC6.out
      clear HC6
      obtain⟨t111,A9,H⟩:=bnd H
      by_cases c10:t111=true
      ·subst c10
       replace H:=(if_pos rfl).symm.trans H
       rcases itc H with⟨c11,H⟩|⟨c11,H⟩
       ·have c11b0:decide (0<x12_1)=true:=decide_eq_true c11
        clear c11
        (first|rw[c11b0]|(simp only[i64_w,i32_w];rw[c11b0])|skip)
        obtain⟨ji12,hji12⟩:∃ j_:Int,(wrap64 (x12_1 - 1))=j_:=⟨_,rfl⟩
        replace H:(if 0≤(ji12) then(if(ji12)<(l0.length:Int) then((impl_noteLess.f ((rd_T35 l0 (ji12)).f0) ((rd_T35 l0 (ji12)).f1) ((rd_T35 l0 (ji12)).f2) ((rd_T35 l0 x12_1).f0) ((rd_T35 l0 x12_1).f1) ((rd_T35 l0 x12_1).f2)).bind fun t113=>(impl_IsScore.j1 k1 l0 x12_1 l0 (l0.length:Int) x12_1 (!t113) ((rd_T35 l0 x12_1).f0) ((rd_T35 l0 x12_1).f1) ((rd_T35 l0 x12_1).f2))) else(none)) else(none))=some r:=by first|(rw[hji12] at H;exact H)|(simp only[hji12] at H ⊢;exact H)
        (try rw[hji12] at A9)
        have hji12w:(IntKind.i64.wrap (x12_1 - 1))=ji12:=(i64_w _).trans hji12
        obtain⟨c13b0,H⟩:=ifb H
        obtain⟨c14b0,H⟩:=ifb H
        obtain⟨t113,A15,H⟩:=bnd H
        have H':=am H
        clear H
        try go_wp2
        have n0_:Aside0 ((((w7.setCell ⟨gb110,0,none⟩ (.int .i64 ((rd_T35 l0 x12_1).f0))).setCell ⟨gb110,1,none⟩ (.int .i64 ((rd_T35 l0 x12_1).f1))).setCell ⟨gb110,2,none⟩ (.int .i64 ((rd_T35 l0 x12_1).f2))).heap[gb110]?=some (.cells #[.int .i64 ((rd_T35 l0 x12_1).f0),.int .i64 ((rd_T35 l0 x12_1).f1),.int .i64 ((rd_T35 l0 x12_1).f2)] 35 (0,0))):=⟨by(with_reducible repeat(first|refine bN_ ?_ _|refine bD_ ?_|refine bA_ ?_ _));refine blk_put (cs := #[.int .i64 ((rd_T35 l0 x12_1).f0),.int .i64 ((rd_T35 l0 x12_1).f1),.int .i64 0]) ?_ 2 _ rfl;(with_reducible repeat(first|refine bN_ ?_ _|refine bD_ ?_|refine bA_ ?_ _));refine blk_put (cs := #[.int .i64 ((rd_T35 l0 x12_1).f0),.int .i64 0,.int .i64 0]) ?_ 1 _ rfl;(with_reducible repeat(first|refine bN_ ?_ _|refine bD_ ?_|refine bA_ ?_ _));refine blk_put (cs := #[.int .i64 0,.int .i64 0,.int .i64 0]) ?_ 0 _ rfl;exact bup BK110.out⟩
        have n1_:Aside0 (Below w.heap.size w (((w7.setCell ⟨gb110,0,none⟩ (.int .i64 ((rd_T35 l0 x12_1).f0))).setCell ⟨gb110,1,none⟩ (.int .i64 ((rd_T35 l0 x12_1).f1))).setCell ⟨gb110,2,none⟩ (.int .i64 ((rd_T35 l0 x12_1).f2)))):=⟨bl⟩
        (try clear BK110)
        (try clear HB)
        generalize (((w7.setCell ⟨gb110,0,none⟩ (.int .i64 ((rd_T35 l0 x12_1).f0))).setCell ⟨gb110,1,none⟩ (.int .i64 ((rd_T35 l0 x12_1).f1))).setCell ⟨gb110,2,none⟩ (.int .i64 ((rd_T35 l0 x12_1).f2)))=w16 at n0_ n1_ ⊢
        have BK110:=n0_
        have HB:=n1_
        clear n0_ n1_
        replace BK110:=am (bD_ BK110.out)
        replace HB:=am (below_drew1 HB.out)
        have p112:0≤((ji12):Int):=od
        have q112:(ji12)<(l0.length:Int):=od
        obtain⟨ad112,e112,hx112_0,hx112_1,hx112_2⟩:=at_T35 HR0.out (ji12) p112 q112
        have hw112_2:=hx112_2
        have hw112_1:=hx112_1
        have hw112_0:=hx112_0
        obtain rfl:ad109=ad112:=(by injection e112)
        replace hx112_0:=(HB.out.cell (World.block_lt_of_cell? w _ hx112_0)).trans hx112_0
        replace hx112_1:=(HB.out.cell (World.block_lt_of_cell? w _ hx112_1)).trans hx112_1
        replace hx112_2:=(HB.out.cell (World.block_lt_of_cell? w _ hx112_2)).trans hx112_2
        replace p112:=eq_true p112
        replace q112:=eq_true q112
        refine start_ (n:=17) (S:=fun w'=>w'.cell? ⟨gb110,0,none⟩=some (.int .i64 ((rd_T35 l0 x12_1).f0))∧w'.cell? ⟨gb110,1,none⟩=some (.int .i64 ((rd_T35 l0 x12_1).f1))∧w'.cell? ⟨gb110,2,none⟩=some (.int .i64 ((rd_T35 l0 x12_1).f2))∧w'.cell? (ad109.add (((ji12)).toNat*3))=some (.int .i64 ((rd_T35 l0 (ji12)).f0))∧w'.cell? ⟨(ad109.add (((ji12)).toNat*3)).block,(ad109.add (((ji12)).toNat*3)).off+1,none⟩=some (.int .i64 ((rd_T35 l0 (ji12)).f1))∧w'.cell? ⟨(ad109.add (((ji12)).toNat*3)).block,(ad109.add (((ji12)).toNat*3)).off+2,none⟩=some (.int .i64 ((rd_T35 l0 (ji12)).f2))) (ds:=[]) (fl 0 17) (by kernel_rfl) rfl rfl ⟨bc BK110.out 0,bc BK110.out 1,bc BK110.out 2,((HB.out.cell (World.block_lt_of_cell? w _ hw112_0)).trans hw112_0),((HB.out.cell (World.block_lt_of_cell? w _ hw112_1)).trans hw112_1),((HB.out.cell (World.block_lt_of_cell? w _ hw112_2)).trans hw112_2)⟩ (fun hHeld=>?_);refine with_tabW impl_IsScore.tab6 impl_IsScore.bits6 (fun HT_ HW_=>?_)
        generalize w16.drew=w17 at BK110 HB hx112_0 hx112_1 hx112_2 hHeld ⊢
        refine ta HT_.out HW_.out 0 (some 17) (fl 1 17) hHeld rfl (by rintro w' ⟨s0,s1,s2,s3,s4,s5⟩;go_simp;with_reducible rfl) (h:=?_)
        refine one_ (i:=1) (N:=some 18) (fl 2 17) rfl rfl (one_of HT_.out (by kernel_rfl)) (by decide) (fun K hK=>?_)
        refine goes_ Try.func39 (by kernel_rfl) rfl #[.agg #[.int .i64 ((rd_T35 l0 x12_1).f0),.int .i64 ((rd_T35 l0 x12_1).f1),.int .i64 ((rd_T35 l0 x12_1).f2)]] (by rfl) rfl rfl tl ?_
        with_reducible refine(impl_IsNote.calls ((rd_T35 l0 x12_1).f0) ((rd_T35 l0 x12_1).f1) ((rd_T35 l0 x12_1).f2) true _ A9.out).mono ?_
        rintro e w18 ⟨rfl,hb⟩
        refine⟨_,rfl,?_⟩
        replace BK110:=am (blk_below (bup BK110.out) hb)
        replace HB:=am (below_step bl hb)
        (try clear hb)
        refine hK.out _ _ ⟨bc BK110.out 0,bc BK110.out 1,bc BK110.out 2,((HB.out.cell (World.block_lt_of_cell? w _ hw112_0)).trans hw112_0),((HB.out.cell (World.block_lt_of_cell? w _ hw112_1)).trans hw112_1),((HB.out.cell (World.block_lt_of_cell? w _ hw112_2)).trans hw112_2)⟩ (fun hHeld=>?_)
        clear hK K
        refine norm_ (a':=?_) ?_ ?_
        rotate_left
        ·show Act.put _ (some 18) _=_
         simp only[Act.put,List.setIfInBounds_toArray,List.set_cons_zero,List.set_cons_succ,i64_w,i32_w]
         rfl
        refine pu HT_.out 2 (some 19) (fl 3 17) (h:=?_)
        refine pu HT_.out 3 (some 20) (fl 4 17) (h:=?_)
        refine pu HT_.out 4 (some 21) (fl 5 17) (h:=?_)
        refine pu HT_.out 5 (some 22) (fl 6 17) (h:=?_)
        refine pu HT_.out 6 (some 23) (fl 7 17) (h:=?_)
        refine pu HT_.out 7 (some 24) (fl 8 17) (h:=?_)
        refine pu HT_.out 8 (some 25) (fl 9 17) (h:=?_)
        refine pu HT_.out 9 (some 26) (fl 10 17) (h:=?_)
        refine pu HT_.out 10 (some 27) (fl 11 17) (h:=?_)
        refine ta HT_.out HW_.out 11 (some 28) (fl 12 17) hHeld rfl (by rintro w' ⟨s0,s1,s2,s3,s4,s5⟩;go_simp;with_reducible rfl) (h:=?_)
        refine ta HT_.out HW_.out 12 (some 29) (fl 13 17) hHeld rfl (by rintro w' ⟨s0,s1,s2,s3,s4,s5⟩;go_simp;with_reducible rfl) (h:=?_)
        refine one_ (i:=13) (N:=some 30) (fl 14 17) rfl rfl (one_of HT_.out (by kernel_rfl)) (by decide) (fun K hK=>?_)
        refine goes_ Try.func40 (by kernel_rfl) rfl #[.agg #[.int .i64 ((rd_T35 l0 (ji12)).f0),.int .i64 ((rd_T35 l0 (ji12)).f1),.int .i64 ((rd_T35 l0 (ji12)).f2)],.agg #[.int .i64 ((rd_T35 l0 x12_1).f0),.int .i64 ((rd_T35 l0 x12_1).f1),.int .i64 ((rd_T35 l0 x12_1).f2)]] (by rfl) rfl rfl (by(try simp only[List.map_toArray,List.map_cons,List.map_nil]);first|done|(simp only[hji12];rfl)|rfl|(simp only[List.length_drop,List.length_take];rfl)) ?_
        with_reducible refine(impl_noteLess.calls ((rd_T35 l0 (ji12)).f0) ((rd_T35 l0 (ji12)).f1) ((rd_T35 l0 (ji12)).f2) ((rd_T35 l0 x12_1).f0) ((rd_T35 l0 x12_1).f1) ((rd_T35 l0 x12_1).f2) t113 _ A15.out).mono ?_
        rintro e w19 ⟨rfl,hb⟩
        refine⟨_,rfl,?_⟩
        replace BK110:=am (blk_below (bup BK110.out) hb)
        replace HB:=am (below_step bl hb)
        (try clear hb)
        refine hK.out _ _ ⟨bc BK110.out 0,bc BK110.out 1,bc BK110.out 2,((HB.out.cell (World.block_lt_of_cell? w _ hw112_0)).trans hw112_0),((HB.out.cell (World.block_lt_of_cell? w _ hw112_1)).trans hw112_1),((HB.out.cell (World.block_lt_of_cell? w _ hw112_2)).trans hw112_2)⟩ (fun hHeld=>?_)
        clear hK K
        refine norm_ (a':=?_) ?_ ?_
        rotate_left
        ·show Act.put _ (some 30) _=_
         simp only[Act.put,List.setIfInBounds_toArray,List.set_cons_zero,List.set_cons_succ,i64_w,i32_w]
         rfl
        refine pu HT_.out 14 (some 31) (fl 15 17) (h:=?_)
        refine pu HT_.out 15 (some 32) (fl 16 17) (h:=?_)
        refine pu HT_.out 16 (some 33) (fl 17 17) (h:=?_)
        refine done_ (done_of HT_.out (by kernel_rfl)) ?_
        try go_wp2
        go_meet
        case rel=>exact⟨_,(!t113),fin2,H',⟨by have:=HK1.out;first|omega|exact Nat.le_refl _⟩,⟨bup BK110.out⟩,⟨bl⟩⟩
       ·have c11b0:decide (0<x12_1)=false:=decide_eq_false c11
        clear c11
        (first|rw[c11b0]|(simp only[i64_w,i32_w];rw[c11b0])|skip)
        have H':=am H
        clear H
        try go_wp2
        have n0_:Aside0 ((((w7.setCell ⟨gb110,0,none⟩ (.int .i64 ((rd_T35 l0 x12_1).f0))).setCell ⟨gb110,1,none⟩ (.int .i64 ((rd_T35 l0 x12_1).f1))).setCell ⟨gb110,2,none⟩ (.int .i64 ((rd_T35 l0 x12_1).f2))).heap[gb110]?=some (.cells #[.int .i64 ((rd_T35 l0 x12_1).f0),.int .i64 ((rd_T35 l0 x12_1).f1),.int .i64 ((rd_T35 l0 x12_1).f2)] 35 (0,0))):=⟨by(with_reducible repeat(first|refine bN_ ?_ _|refine bD_ ?_|refine bA_ ?_ _));refine blk_put (cs := #[.int .i64 ((rd_T35 l0 x12_1).f0),.int .i64 ((rd_T35 l0 x12_1).f1),.int .i64 0]) ?_ 2 _ rfl;(with_reducible repeat(first|refine bN_ ?_ _|refine bD_ ?_|refine bA_ ?_ _));refine blk_put (cs := #[.int .i64 ((rd_T35 l0 x12_1).f0),.int .i64 0,.int .i64 0]) ?_ 1 _ rfl;(with_reducible repeat(first|refine bN_ ?_ _|refine bD_ ?_|refine bA_ ?_ _));refine blk_put (cs := #[.int .i64 0,.int .i64 0,.int .i64 0]) ?_ 0 _ rfl;exact bup BK110.out⟩
        have n1_:Aside0 (Below w.heap.size w (((w7.setCell ⟨gb110,0,none⟩ (.int .i64 ((rd_T35 l0 x12_1).f0))).setCell ⟨gb110,1,none⟩ (.int .i64 ((rd_T35 l0 x12_1).f1))).setCell ⟨gb110,2,none⟩ (.int .i64 ((rd_T35 l0 x12_1).f2)))):=⟨bl⟩
        (try clear BK110)
        (try clear HB)
        generalize (((w7.setCell ⟨gb110,0,none⟩ (.int .i64 ((rd_T35 l0 x12_1).f0))).setCell ⟨gb110,1,none⟩ (.int .i64 ((rd_T35 l0 x12_1).f1))).setCell ⟨gb110,2,none⟩ (.int .i64 ((rd_T35 l0 x12_1).f2)))=w20 at n0_ n1_ ⊢
        have BK110:=n0_
        have HB:=n1_
        clear n0_ n1_
        replace BK110:=am (bD_ BK110.out)
        replace HB:=am (below_drew1 HB.out)
        refine start_ (n:=17) (S:=fun w'=>w'.cell? ⟨gb110,0,none⟩=some (.int .i64 ((rd_T35 l0 x12_1).f0))∧w'.cell? ⟨gb110,1,none⟩=some (.int .i64 ((rd_T35 l0 x12_1).f1))∧w'.cell? ⟨gb110,2,none⟩=some (.int .i64 ((rd_T35 l0 x12_1).f2))) (ds:=[]) (fl 0 17) (by kernel_rfl) rfl rfl ⟨bc BK110.out 0,bc BK110.out 1,bc BK110.out 2⟩ (fun hHeld=>?_);refine with_tabW impl_IsScore.tab6 impl_IsScore.bits6 (fun HT_ HW_=>?_)
        generalize w20.drew=w21 at BK110 HB hHeld ⊢
        refine ta HT_.out HW_.out 0 (some 17) (fl 1 17) hHeld rfl (by rintro w' ⟨s0,s1,s2⟩;go_simp;with_reducible rfl) (h:=?_)
        refine one_ (i:=1) (N:=some 18) (fl 2 17) rfl rfl (one_of HT_.out (by kernel_rfl)) (by decide) (fun K hK=>?_)
        refine goes_ Try.func39 (by kernel_rfl) rfl #[.agg #[.int .i64 ((rd_T35 l0 x12_1).f0),.int .i64 ((rd_T35 l0 x12_1).f1),.int .i64 ((rd_T35 l0 x12_1).f2)]] (by rfl) rfl rfl tl ?_
        with_reducible refine(impl_IsNote.calls ((rd_T35 l0 x12_1).f0) ((rd_T35 l0 x12_1).f1) ((rd_T35 l0 x12_1).f2) true _ A9.out).mono ?_
        rintro e w22 ⟨rfl,hb⟩
        refine⟨_,rfl,?_⟩
        replace BK110:=am (blk_below (bup BK110.out) hb)
        replace HB:=am (below_step bl hb)
        (try clear hb)
        refine hK.out _ _ ⟨bc BK110.out 0,bc BK110.out 1,bc BK110.out 2⟩ (fun hHeld=>?_)
        clear hK K
        refine norm_ (a':=?_) ?_ ?_
        rotate_left
        ·show Act.put _ (some 18) _=_
         simp only[Act.put,List.setIfInBounds_toArray,List.set_cons_zero,List.set_cons_succ,i64_w,i32_w]
         rfl
        refine pu HT_.out 2 (some 19) (fl 3 17) (h:=?_)
        refine pu HT_.out 3 (some 20) (fl 4 17) (h:=?_)
        refine pu HT_.out 4 (some 21) (fl 5 17) (h:=?_)
        refine pu HT_.out 5 (some 22) (fl 6 17) (h:=?_)
        refine pu HT_.out 6 (some 23) (fl 7 17) (h:=?_)
        refine pz HT_.out 7 (some 24) (fl 8 17) (h:=?_)
        refine pz HT_.out 8 (some 25) (fl 9 17) (h:=?_)
        refine pz HT_.out 9 (some 26) (fl 10 17) (h:=?_)
        refine pz HT_.out 10 (some 27) (fl 11 17) (h:=?_)
        refine pz HT_.out 11 (some 28) (fl 12 17) (h:=?_)
        refine pz HT_.out 12 (some 29) (fl 13 17) (h:=?_)
        refine pz HT_.out 13 (some 30) (fl 14 17) (h:=?_)
        refine pz HT_.out 14 (some 31) (fl 15 17) (h:=?_)
        refine pu HT_.out 15 (some 32) (fl 16 17) (h:=?_)
        refine pu HT_.out 16 (some 33) (fl 17 17) (h:=?_)
        refine done_ (done_of HT_.out (by kernel_rfl)) ?_
        try go_wp2
        go_meet
        case rel=>exact⟨_,(false),fin2,H',⟨by have:=HK1.out;first|omega|exact Nat.le_refl _⟩,⟨bup BK110.out⟩,⟨bl⟩⟩
      ·replace c10:=Bool.eq_false_iff.mpr c10
       subst c10
       replace H:=(if_neg Bool.false_ne_true).symm.trans H
       have H':=am H
       clear H
       try go_wp2
       have n0_:Aside0 ((((w7.setCell ⟨gb110,0,none⟩ (.int .i64 ((rd_T35 l0 x12_1).f0))).setCell ⟨gb110,1,none⟩ (.int .i64 ((rd_T35 l0 x12_1).f1))).setCell ⟨gb110,2,none⟩ (.int .i64 ((rd_T35 l0 x12_1).f2))).heap[gb110]?=some (.cells #[.int .i64 ((rd_T35 l0 x12_1).f0),.int .i64 ((rd_T35 l0 x12_1).f1),.int .i64 ((rd_T35 l0 x12_1).f2)] 35 (0,0))):=⟨by(with_reducible repeat(first|refine bN_ ?_ _|refine bD_ ?_|refine bA_ ?_ _));refine blk_put (cs := #[.int .i64 ((rd_T35 l0 x12_1).f0),.int .i64 ((rd_T35 l0 x12_1).f1),.int .i64 0]) ?_ 2 _ rfl;(with_reducible repeat(first|refine bN_ ?_ _|refine bD_ ?_|refine bA_ ?_ _));refine blk_put (cs := #[.int .i64 ((rd_T35 l0 x12_1).f0),.int .i64 0,.int .i64 0]) ?_ 1 _ rfl;(with_reducible repeat(first|refine bN_ ?_ _|refine bD_ ?_|refine bA_ ?_ _));refine blk_put (cs := #[.int .i64 0,.int .i64 0,.int .i64 0]) ?_ 0 _ rfl;exact bup BK110.out⟩
       have n1_:Aside0 (Below w.heap.size w (((w7.setCell ⟨gb110,0,none⟩ (.int .i64 ((rd_T35 l0 x12_1).f0))).setCell ⟨gb110,1,none⟩ (.int .i64 ((rd_T35 l0 x12_1).f1))).setCell ⟨gb110,2,none⟩ (.int .i64 ((rd_T35 l0 x12_1).f2)))):=⟨bl⟩
       (try clear BK110)
       (try clear HB)
       generalize (((w7.setCell ⟨gb110,0,none⟩ (.int .i64 ((rd_T35 l0 x12_1).f0))).setCell ⟨gb110,1,none⟩ (.int .i64 ((rd_T35 l0 x12_1).f1))).setCell ⟨gb110,2,none⟩ (.int .i64 ((rd_T35 l0 x12_1).f2)))=w23 at n0_ n1_ ⊢
       have BK110:=n0_
       have HB:=n1_
       clear n0_ n1_
       replace BK110:=am (bD_ BK110.out)
       replace HB:=am (below_drew1 HB.out)
       refine start_ (n:=17) (S:=fun w'=>w'.cell? ⟨gb110,0,none⟩=some (.int .i64 ((rd_T35 l0 x12_1).f0))∧w'.cell? ⟨gb110,1,none⟩=some (.int .i64 ((rd_T35 l0 x12_1).f1))∧w'.cell? ⟨gb110,2,none⟩=some (.int .i64 ((rd_T35 l0 x12_1).f2))) (ds:=[]) (fl 0 17) (by kernel_rfl) rfl rfl ⟨bc BK110.out 0,bc BK110.out 1,bc BK110.out 2⟩ (fun hHeld=>?_);refine with_tabW impl_IsScore.tab6 impl_IsScore.bits6 (fun HT_ HW_=>?_)
       generalize w23.drew=w24 at BK110 HB hHeld ⊢
       refine ta HT_.out HW_.out 0 (some 17) (fl 1 17) hHeld rfl (by rintro w' ⟨s0,s1,s2⟩;go_simp;with_reducible rfl) (h:=?_)
       refine one_ (i:=1) (N:=some 18) (fl 2 17) rfl rfl (one_of HT_.out (by kernel_rfl)) (by decide) (fun K hK=>?_)
       refine goes_ Try.func39 (by kernel_rfl) rfl #[.agg #[.int .i64 ((rd_T35 l0 x12_1).f0),.int .i64 ((rd_T35 l0 x12_1).f1),.int .i64 ((rd_T35 l0 x12_1).f2)]] (by rfl) rfl rfl tl ?_
       with_reducible refine(impl_IsNote.calls ((rd_T35 l0 x12_1).f0) ((rd_T35 l0 x12_1).f1) ((rd_T35 l0 x12_1).f2) false _ A9.out).mono ?_
       rintro e w25 ⟨rfl,hb⟩
       refine⟨_,rfl,?_⟩
       replace BK110:=am (blk_below (bup BK110.out) hb)
       replace HB:=am (below_step bl hb)
       (try clear hb)
       refine hK.out _ _ ⟨bc BK110.out 0,bc BK110.out 1,bc BK110.out 2⟩ (fun hHeld=>?_)
       clear hK K
       refine norm_ (a':=?_) ?_ ?_
       rotate_left
       ·show Act.put _ (some 18) _=_
        simp only[Act.put,List.setIfInBounds_toArray,List.set_cons_zero,List.set_cons_succ,i64_w,i32_w]
        rfl
       refine pu HT_.out 2 (some 19) (fl 3 17) (h:=?_)
       refine pu HT_.out 3 (some 20) (fl 4 17) (h:=?_)
       refine pz HT_.out 4 (some 21) (fl 5 17) (h:=?_)
       refine pz HT_.out 5 (some 22) (fl 6 17) (h:=?_)
       refine pz HT_.out 6 (some 23) (fl 7 17) (h:=?_)
       refine pz HT_.out 7 (some 24) (fl 8 17) (h:=?_)
       refine pz HT_.out 8 (some 25) (fl 9 17) (h:=?_)
       refine pz HT_.out 9 (some 26) (fl 10 17) (h:=?_)
       refine pz HT_.out 10 (some 27) (fl 11 17) (h:=?_)
       refine pz HT_.out 11 (some 28) (fl 12 17) (h:=?_)
       refine pz HT_.out 12 (some 29) (fl 13 17) (h:=?_)
       refine pz HT_.out 13 (some 30) (fl 14 17) (h:=?_)
       refine pz HT_.out 14 (some 31) (fl 15 17) (h:=?_)
       refine pz HT_.out 15 (some 32) (fl 16 17) (h:=?_)
       refine pu HT_.out 16 (some 33) (fl 17 17) (h:=?_)
       refine done_ (done_of HT_.out (by kernel_rfl)) ?_
       try go_wp2
       go_meet
       case rel=>exact⟨_,(true),fin2,H',⟨by have:=HK1.out;first|omega|exact Nat.le_refl _⟩,⟨bup BK110.out⟩,⟨bl⟩⟩
     case rest =>
      clear HC6
      try clear c3b0
      try clear c4b0
      try clear c5b0
      try clear hcz8_0
      try clear hcz8_1
      try clear hcz8_2
      try clear hfz8_0
      try clear hfz8_1
      try clear hfz8_2
      try clear hx109_0
      try clear hx109_1
      try clear hx109_2
      try clear p109
      try clear q109
      obtain⟨kq,x33_5,rfl,HA,HJ5,BK110,HB⟩:=hcut
      cases kq with
      | zero=>exact absurd HA.out (by simp [impl_IsScore.j1])
      | succ kj5 =>
       have H:=HA.out
       clear HA
       simp only[impl_IsScore.j1] at H
       by_cases c26:x33_5=true
       ·subst c26
        replace H:=(if_pos rfl).symm.trans H
        obtain rfl:=Option.some.inj H
        go_wp2
        go_ret
        exact⟨fin1,bl⟩
       ·replace c26:=Bool.eq_false_iff.mpr c26
        subst c26
        replace H:=(if_neg Bool.false_ne_true).symm.trans H
        obtain⟨c27,H⟩:=ifp H
        have c27b0:=eq_true c27
        have c27b1:decide (0≤x12_1)=true:=decide_eq_true c27
        clear c27
        obtain⟨c28,H⟩:=ifp H
        have c28b0:=eq_true c28
        have c28b1:decide (x12_1≤(l0.length:Int))=true:=decide_eq_true c28
        clear c28
        obtain⟨y114,hy114⟩:∃ y_:List (S35),y_=(l0.take (x12_1:Int).toNat):=⟨_,rfl⟩
        replace H:(impl_IsScore.l1 kj5 l0 l0 (l0.length:Int) x12_1 y114 (y114.length:Int) 0 ((rd_T35 l0 x12_1).f0) ((rd_T35 l0 x12_1).f1) ((rd_T35 l0 x12_1).f2))=some r:=by subst hy114;exact H
        have Ny114:=am hy114
        clear hy114
        have H':=am H
        clear H
        have q29:(x12_1:Int)≤((l0.length:Int):Int):=od
        obtain⟨i029,hi029,_,hsz29,_⟩:=info_parts info35
        have hroom29:l0.length≤c0:=HC0.out
        have hC29:Kd.C k35 _ (some ad109) l0.length l0:=HR0.out
        have hcut29:=cut_to (P:=Try.prog) 25 35 .i64 Try.underlying25 hi029 (some ad109) l0.length c0 x12_1 (od) q29 hroom29
        have hr29:=Kd.C_take (m:=(x12_1:Int).toNat) hC29 (by omega)
        have hy29:y114.length=(x12_1:Int).toNat:=(by rw[Ny114.out,List.length_take];omega)
        rw[← Ny114.out] at hr29
        rw[← hy29] at hcut29
        have HR117:=am hr29
        have HC117:=am (show y114.length≤c0 from by omega)
        clear hr29 hC29 hroom29 hi029 hsz29
        have KY29:=am hy29
        clear hy29
        replace q29:=eq_true q29
        go_wp2
        go_loopg [38] kj5 (fun kq v38 w'=>∃(x38_3:Int),v38 = .int .i64 x38_3∧Aside0 (impl_IsScore.l1 kq l0 l0 (l0.length:Int) x12_1 y114 (y114.length:Int) x38_3 ((rd_T35 l0 x12_1).f0) ((rd_T35 l0 x12_1).f1) ((rd_T35 l0 x12_1).f2)=some r)∧Aside0 (kq≤kj5)∧Aside0 (w'.heap[gb110]?=some (.cells #[.int .i64 ((rd_T35 l0 x12_1).f0),.int .i64 ((rd_T35 l0 x12_1).f1),.int .i64 ((rd_T35 l0 x12_1).f2)] 35 (0,0)))∧Aside0 (Below w.heap.size w w'))
        case atStart=>exact⟨(0),fin2,H',⟨Nat.le_refl _⟩,⟨bup BK110.out⟩,⟨bl⟩⟩
        case round =>
         clear H'
         try clear c26
         try clear c27b0
         try clear c27b1
         try clear c28b0
         try clear c28b1
         try clear q29
         obtain⟨x38_3,rfl,HA,HK3,BK110,HB⟩:=hrel
         cases gk with
         | zero=>exact absurd HA.out (by simp [impl_IsScore.l1])
         | succ k3 =>
          have H:=HA.out
          clear HA
          simp only[impl_IsScore.l1] at H
          rcases itc H with⟨c30,H⟩|⟨c30,H⟩
          ·have c30b0:=decide_eq_true c30
           clear c30
           obtain⟨c31b0,H⟩:=ifb H
           obtain⟨c32b0,H⟩:=ifb H
           rcases itc H with⟨c33,H⟩|⟨c33,H⟩
           ·have c33b0:(((rd_T35 y114 x38_3).f0) == ((rd_T35 l0 x12_1).f0))=true:=beq_iff_eq.mpr c33
            have c33b1:(((rd_T35 y114 x38_3).f0) != ((rd_T35 l0 x12_1).f0))=false:=bne_eq_false_iff_eq.mpr c33
            clear c33
            obtain⟨t120,A34,H⟩:=bnd H
            rcases itc H with⟨c35,H⟩|⟨c35,H⟩
            ·have c35b0:decide (((rd_T35 l0 x12_1).f1)<t120)=true:=decide_eq_true c35
             clear c35
             obtain rfl:=Option.some.inj H
             have p118:0≤(x38_3:Int):=od
             have q118:x38_3<(y114.length:Int):=od
             obtain⟨ad118,e118,hx118_0,hx118_1,hx118_2⟩:=at_T35 HR117.out x38_3 p118 q118
             obtain rfl:ad109=ad118:=(by injection e118)
             replace hx118_0:=(HB.out.cell (World.block_lt_of_cell? w _ hx118_0)).trans hx118_0
             replace hx118_1:=(HB.out.cell (World.block_lt_of_cell? w _ hx118_1)).trans hx118_1
             replace hx118_2:=(HB.out.cell (World.block_lt_of_cell? w _ hx118_2)).trans hx118_2
             replace p118:=eq_true p118
             replace q118:=eq_true q118
             try go_wp2_with (first|((with_reducible refine gate_dst (N:=6) rfl ?_);refine box_event ?hg (N:=6) ?hd (cs := #[.int .i64 0,.int .i64 0,.int .i64 0]) (t:=35) ?hr ?_;(case hd=>rfl);(case hg=>rfl);(case hr=>first|(go_simp;done)|(go_simp;rfl));intro gb119 hg w36 hbox hb;have BK119:=am (hbox);have GW119:=am (ge_ bl hg);have GE119:=am (ge_ bl hg);replace HB:=am (below_step bl hb);have NB110_119:=am (nl (bup BK110.out) hg);have NB119_110:=am (ng (bup BK110.out) hg);replace BK110:=am (blk_below (bup BK110.out) hb);clear hb hbox hg;have hnb37:=NB119_110.out;have hnc37:=NB110_119.out;have hcz38_0:=bc BK119.out 0;have hcz38_1:=bc BK119.out 1;have hcz38_2:=bc BK119.out 2;have hfz38_0:=blk_frozen BK119.out 0;have hfz38_1:=blk_frozen BK119.out 1;have hfz38_2:=blk_frozen BK119.out 2))
             have n0_:Aside0 ((((w36.setCell ⟨gb119,0,none⟩ (.int .i64 ((rd_T35 y114 x38_3).f0))).setCell ⟨gb119,1,none⟩ (.int .i64 ((rd_T35 y114 x38_3).f1))).setCell ⟨gb119,2,none⟩ (.int .i64 ((rd_T35 y114 x38_3).f2))).heap[gb110]?=some (.cells #[.int .i64 ((rd_T35 l0 x12_1).f0),.int .i64 ((rd_T35 l0 x12_1).f1),.int .i64 ((rd_T35 l0 x12_1).f2)] 35 (0,0))):=⟨by(with_reducible repeat(first|refine bN_ ?_ _|refine bD_ ?_|refine bA_ ?_ _));refine blk_far ?_ NB110_119.out _;(with_reducible repeat(first|refine bN_ ?_ _|refine bD_ ?_|refine bA_ ?_ _));refine blk_far ?_ NB110_119.out _;(with_reducible repeat(first|refine bN_ ?_ _|refine bD_ ?_|refine bA_ ?_ _));refine blk_far ?_ NB110_119.out _;exact bup BK110.out⟩
             have n1_:Aside0 ((((w36.setCell ⟨gb119,0,none⟩ (.int .i64 ((rd_T35 y114 x38_3).f0))).setCell ⟨gb119,1,none⟩ (.int .i64 ((rd_T35 y114 x38_3).f1))).setCell ⟨gb119,2,none⟩ (.int .i64 ((rd_T35 y114 x38_3).f2))).heap[gb119]?=some (.cells #[.int .i64 ((rd_T35 y114 x38_3).f0),.int .i64 ((rd_T35 y114 x38_3).f1),.int .i64 ((rd_T35 y114 x38_3).f2)] 35 (0,0))):=⟨by(with_reducible repeat(first|refine bN_ ?_ _|refine bD_ ?_|refine bA_ ?_ _));refine blk_put (cs := #[.int .i64 ((rd_T35 y114 x38_3).f0),.int .i64 ((rd_T35 y114 x38_3).f1),.int .i64 0]) ?_ 2 _ rfl;(with_reducible repeat(first|refine bN_ ?_ _|refine bD_ ?_|refine bA_ ?_ _));refine blk_put (cs := #[.int .i64 ((rd_T35 y114 x38_3).f0),.int .i64 0,.int .i64 0]) ?_ 1 _ rfl;(with_reducible repeat(first|refine bN_ ?_ _|refine bD_ ?_|refine bA_ ?_ _));refine blk_put (cs := #[.int .i64 0,.int .i64 0,.int .i64 0]) ?_ 0 _ rfl;exact bup BK119.out⟩
             have n2_:Aside0 (Below w.heap.size w (((w36.setCell ⟨gb119,0,none⟩ (.int .i64 ((rd_T35 y114 x38_3).f0))).setCell ⟨gb119,1,none⟩ (.int .i64 ((rd_T35 y114 x38_3).f1))).setCell ⟨gb119,2,none⟩ (.int .i64 ((rd_T35 y114 x38_3).f2)))):=⟨bl⟩
             (try clear BK110)
             (try clear BK119)
             (try clear HB)
             generalize (((w36.setCell ⟨gb119,0,none⟩ (.int .i64 ((rd_T35 y114 x38_3).f0))).setCell ⟨gb119,1,none⟩ (.int .i64 ((rd_T35 y114 x38_3).f1))).setCell ⟨gb119,2,none⟩ (.int .i64 ((rd_T35 y114 x38_3).f2)))=w39 at n0_ n1_ n2_ ⊢
             have BK110:=n0_
             have BK119:=n1_
             have HB:=n2_
             clear n0_ n1_ n2_
             replace BK110:=am (bD_ BK110.out)
             replace BK119:=am (bD_ BK119.out)
             replace HB:=am (below_drew1 HB.out)
             refine start_ (n:=12) (S:=fun w'=>w'.cell? ⟨gb119,0,none⟩=some (.int .i64 ((rd_T35 y114 x38_3).f0))∧w'.cell? ⟨gb119,1,none⟩=some (.int .i64 ((rd_T35 y114 x38_3).f1))∧w'.cell? ⟨gb119,2,none⟩=some (.int .i64 ((rd_T35 y114 x38_3).f2))∧w'.cell? ⟨gb110,0,none⟩=some (.int .i64 ((rd_T35 l0 x12_1).f0))∧w'.cell? ⟨gb110,1,none⟩=some (.int .i64 ((rd_T35 l0 x12_1).f1))∧w'.cell? ⟨gb110,2,none⟩=some (.int .i64 ((rd_T35 l0 x12_1).f2))) (ds:=[]) (fl 0 12) (by kernel_rfl) rfl rfl ⟨bc BK119.out 0,bc BK119.out 1,bc BK119.out 2,bc BK110.out 0,bc BK110.out 1,bc BK110.out 2⟩ (fun hHeld=>?_);refine with_tabW impl_IsScore.tab11 impl_IsScore.bits11 (fun HT_ HW_=>?_)
             generalize w39.drew=w40 at BK110 BK119 HB hHeld ⊢
             refine pu HT_.out 0 (some 42) (fl 1 12) (h:=?_)
             refine pu HT_.out 2 (some 44) #[true,false,true,false,false,false,false,false,false,false,false,false] (h:=?_)
             refine ta HT_.out HW_.out 1 (some 43) (fl 3 12) hHeld rfl (by rintro w' ⟨s0,s1,s2,s3,s4,s5⟩;go_simp;with_reducible rfl) (h:=?_)
             refine ta HT_.out HW_.out 3 (some 45) (fl 4 12) hHeld rfl (by rintro w' ⟨s0,s1,s2,s3,s4,s5⟩;go_simp;with_reducible rfl) (h:=?_)
             refine pu HT_.out 4 (some 46) (fl 5 12) (h:=?_)
             refine pu HT_.out 5 (some 47) (fl 6 12) (h:=?_)
             refine pu HT_.out 8 (some 50) #[true,true,true,true,true,true,false,false,true,false,false,false] (h:=?_)
             refine ta HT_.out HW_.out 6 (some 48) #[true,true,true,true,true,true,true,false,true,false,false,false] hHeld rfl (by rintro w' ⟨s0,s1,s2,s3,s4,s5⟩;go_simp;with_reducible rfl) (h:=?_)
             refine ta HT_.out HW_.out 9 (some 51) #[true,true,true,true,true,true,true,false,true,true,false,false] hHeld rfl (by rintro w' ⟨s0,s1,s2,s3,s4,s5⟩;go_simp;with_reducible rfl) (h:=?_)
             refine one_ (i:=7) (N:=some 49) (fl 10 12) rfl rfl (one_of HT_.out (by kernel_rfl)) (by decide) (fun K hK=>?_)
             refine goes_ Try.func41 (by kernel_rfl) rfl #[.agg #[.int .i64 ((rd_T35 y114 x38_3).f0),.int .i64 ((rd_T35 y114 x38_3).f1),.int .i64 ((rd_T35 y114 x38_3).f2)]] (by rfl) rfl rfl tl ?_
             with_reducible refine(impl_noteEnd.calls ((rd_T35 y114 x38_3).f0) ((rd_T35 y114 x38_3).f1) ((rd_T35 y114 x38_3).f2) t120 _ A34.out).mono ?_
             rintro e w41 ⟨rfl,hb⟩
             refine⟨_,rfl,?_⟩
             replace BK110:=am (blk_below (bup BK110.out) hb)
             replace BK119:=am (blk_below (bup BK119.out) hb)
             replace HB:=am (below_step bl hb)
             (try clear hb)
             refine hK.out _ _ ⟨bc BK119.out 0,bc BK119.out 1,bc BK119.out 2,bc BK110.out 0,bc BK110.out 1,bc BK110.out 2⟩ (fun hHeld=>?_)
             clear hK K
             refine norm_ (a':=?_) ?_ ?_
             rotate_left
             ·show Act.put _ (some 49) _=_
              simp only[Act.put,List.setIfInBounds_toArray,List.set_cons_zero,List.set_cons_succ,i64_w,i32_w]
              rfl
             refine pu HT_.out 10 (some 52) (fl 11 12) (h:=?_)
             refine pu HT_.out 11 (some 53) (fl 12 12) (h:=?_)
             refine done_ (done_of HT_.out (by kernel_rfl)) ?_
             try go_wp2
             go_ret
             exact⟨fin1,bl⟩
            ·have c35b0:decide (((rd_T35 l0 x12_1).f1)<t120)=false:=decide_eq_false c35
             clear c35
             have H':=am H
             clear H
             have p118:0≤(x38_3:Int):=od
             have q118:x38_3<(y114.length:Int):=od
             obtain⟨ad118,e118,hx118_0,hx118_1,hx118_2⟩:=at_T35 HR117.out x38_3 p118 q118
             obtain rfl:ad109=ad118:=(by injection e118)
             replace hx118_0:=(HB.out.cell (World.block_lt_of_cell? w _ hx118_0)).trans hx118_0
             replace hx118_1:=(HB.out.cell (World.block_lt_of_cell? w _ hx118_1)).trans hx118_1
             replace hx118_2:=(HB.out.cell (World.block_lt_of_cell? w _ hx118_2)).trans hx118_2
             replace p118:=eq_true p118
             replace q118:=eq_true q118
             try go_wp2_with (first|((with_reducible refine gate_dst (N:=6) rfl ?_);refine box_event ?hg (N:=6) ?hd (cs := #[.int .i64 0,.int .i64 0,.int .i64 0]) (t:=35) ?hr ?_;(case hd=>rfl);(case hg=>rfl);(case hr=>first|(go_simp;done)|(go_simp;rfl));intro gb119 hg w42 hbox hb;have BK119:=am (hbox);have GW119:=am (ge_ bl hg);have GE119:=am (ge_ bl hg);replace HB:=am (below_step bl hb);have NB110_119:=am (nl (bup BK110.out) hg);have NB119_110:=am (ng (bup BK110.out) hg);replace BK110:=am (blk_below (bup BK110.out) hb);clear hb hbox hg;have hnb43:=NB119_110.out;have hnc43:=NB110_119.out;have hcz44_0:=bc BK119.out 0;have hcz44_1:=bc BK119.out 1;have hcz44_2:=bc BK119.out 2;have hfz44_0:=blk_frozen BK119.out 0;have hfz44_1:=blk_frozen BK119.out 1;have hfz44_2:=blk_frozen BK119.out 2))
             have n0_:Aside0 ((((w42.setCell ⟨gb119,0,none⟩ (.int .i64 ((rd_T35 y114 x38_3).f0))).setCell ⟨gb119,1,none⟩ (.int .i64 ((rd_T35 y114 x38_3).f1))).setCell ⟨gb119,2,none⟩ (.int .i64 ((rd_T35 y114 x38_3).f2))).heap[gb110]?=some (.cells #[.int .i64 ((rd_T35 l0 x12_1).f0),.int .i64 ((rd_T35 l0 x12_1).f1),.int .i64 ((rd_T35 l0 x12_1).f2)] 35 (0,0))):=⟨by(with_reducible repeat(first|refine bN_ ?_ _|refine bD_ ?_|refine bA_ ?_ _));refine blk_far ?_ NB110_119.out _;(with_reducible repeat(first|refine bN_ ?_ _|refine bD_ ?_|refine bA_ ?_ _));refine blk_far ?_ NB110_119.out _;(with_reducible repeat(first|refine bN_ ?_ _|refine bD_ ?_|refine bA_ ?_ _));refine blk_far ?_ NB110_119.out _;exact bup BK110.out⟩
             have n1_:Aside0 ((((w42.setCell ⟨gb119,0,none⟩ (.int .i64 ((rd_T35 y114 x38_3).f0))).setCell ⟨gb119,1,none⟩ (.int .i64 ((rd_T35 y114 x38_3).f1))).setCell ⟨gb119,2,none⟩ (.int .i64 ((rd_T35 y114 x38_3).f2))).heap[gb119]?=some (.cells #[.int .i64 ((rd_T35 y114 x38_3).f0),.int .i64 ((rd_T35 y114 x38_3).f1),.int .i64 ((rd_T35 y114 x38_3).f2)] 35 (0,0))):=⟨by(with_reducible repeat(first|refine bN_ ?_ _|refine bD_ ?_|refine bA_ ?_ _));refine blk_put (cs := #[.int .i64 ((rd_T35 y114 x38_3).f0),.int .i64 ((rd_T35 y114 x38_3).f1),.int .i64 0]) ?_ 2 _ rfl;(with_reducible repeat(first|refine bN_ ?_ _|refine bD_ ?_|refine bA_ ?_ _));refine blk_put (cs := #[.int .i64 ((rd_T35 y114 x38_3).f0),.int .i64 0,.int .i64 0]) ?_ 1 _ rfl;(with_reducible repeat(first|refine bN_ ?_ _|refine bD_ ?_|refine bA_ ?_ _));refine blk_put (cs := #[.int .i64 0,.int .i64 0,.int .i64 0]) ?_ 0 _ rfl;exact bup BK119.out⟩
             have n2_:Aside0 (Below w.heap.size w (((w42.setCell ⟨gb119,0,none⟩ (.int .i64 ((rd_T35 y114 x38_3).f0))).setCell ⟨gb119,1,none⟩ (.int .i64 ((rd_T35 y114 x38_3).f1))).setCell ⟨gb119,2,none⟩ (.int .i64 ((rd_T35 y114 x38_3).f2)))):=⟨bl⟩
             (try clear BK110)
             (try clear BK119)
             (try clear HB)
             generalize (((w42.setCell ⟨gb119,0,none⟩ (.int .i64 ((rd_T35 y114 x38_3).f0))).setCell ⟨gb119,1,none⟩ (.int .i64 ((rd_T35 y114 x38_3).f1))).setCell ⟨gb119,2,none⟩ (.int .i64 ((rd_T35 y114 x38_3).f2)))=w45 at n0_ n1_ n2_ ⊢
             have BK110:=n0_
             have BK119:=n1_
             have HB:=n2_
             clear n0_ n1_ n2_
             replace BK110:=am (bD_ BK110.out)
             replace BK119:=am (bD_ BK119.out)
             replace HB:=am (below_drew1 HB.out)
             refine start_ (n:=12) (S:=fun w'=>w'.cell? ⟨gb119,0,none⟩=some (.int .i64 ((rd_T35 y114 x38_3).f0))∧w'.cell? ⟨gb119,1,none⟩=some (.int .i64 ((rd_T35 y114 x38_3).f1))∧w'.cell? ⟨gb119,2,none⟩=some (.int .i64 ((rd_T35 y114 x38_3).f2))∧w'.cell? ⟨gb110,0,none⟩=some (.int .i64 ((rd_T35 l0 x12_1).f0))∧w'.cell? ⟨gb110,1,none⟩=some (.int .i64 ((rd_T35 l0 x12_1).f1))∧w'.cell? ⟨gb110,2,none⟩=some (.int .i64 ((rd_T35 l0 x12_1).f2))) (ds:=[]) (fl 0 12) (by kernel_rfl) rfl rfl ⟨bc BK119.out 0,bc BK119.out 1,bc BK119.out 2,bc BK110.out 0,bc BK110.out 1,bc BK110.out 2⟩ (fun hHeld=>?_);refine with_tabW impl_IsScore.tab11 impl_IsScore.bits11 (fun HT_ HW_=>?_)
             generalize w45.drew=w46 at BK110 BK119 HB hHeld ⊢
             refine pu HT_.out 0 (some 42) (fl 1 12) (h:=?_)
             refine pu HT_.out 2 (some 44) #[true,false,true,false,false,false,false,false,false,false,false,false] (h:=?_)
             refine ta HT_.out HW_.out 1 (some 43) (fl 3 12) hHeld rfl (by rintro w' ⟨s0,s1,s2,s3,s4,s5⟩;go_simp;with_reducible rfl) (h:=?_)
             refine ta HT_.out HW_.out 3 (some 45) (fl 4 12) hHeld rfl (by rintro w' ⟨s0,s1,s2,s3,s4,s5⟩;go_simp;with_reducible rfl) (h:=?_)
             refine pu HT_.out 4 (some 46) (fl 5 12) (h:=?_)
             refine pu HT_.out 5 (some 47) (fl 6 12) (h:=?_)
             refine pu HT_.out 8 (some 50) #[true,true,true,true,true,true,false,false,true,false,false,false] (h:=?_)
             refine ta HT_.out HW_.out 6 (some 48) #[true,true,true,true,true,true,true,false,true,false,false,false] hHeld rfl (by rintro w' ⟨s0,s1,s2,s3,s4,s5⟩;go_simp;with_reducible rfl) (h:=?_)
             refine ta HT_.out HW_.out 9 (some 51) #[true,true,true,true,true,true,true,false,true,true,false,false] hHeld rfl (by rintro w' ⟨s0,s1,s2,s3,s4,s5⟩;go_simp;with_reducible rfl) (h:=?_)
             refine one_ (i:=7) (N:=some 49) (fl 10 12) rfl rfl (one_of HT_.out (by kernel_rfl)) (by decide) (fun K hK=>?_)
             refine goes_ Try.func41 (by kernel_rfl) rfl #[.agg #[.int .i64 ((rd_T35 y114 x38_3).f0),.int .i64 ((rd_T35 y114 x38_3).f1),.int .i64 ((rd_T35 y114 x38_3).f2)]] (by rfl) rfl rfl tl ?_
             with_reducible refine(impl_noteEnd.calls ((rd_T35 y114 x38_3).f0) ((rd_T35 y114 x38_3).f1) ((rd_T35 y114 x38_3).f2) t120 _ A34.out).mono ?_
             rintro e w47 ⟨rfl,hb⟩
             refine⟨_,rfl,?_⟩
             replace BK110:=am (blk_below (bup BK110.out) hb)
             replace BK119:=am (blk_below (bup BK119.out) hb)
             replace HB:=am (below_step bl hb)
             (try clear hb)
             refine hK.out _ _ ⟨bc BK119.out 0,bc BK119.out 1,bc BK119.out 2,bc BK110.out 0,bc BK110.out 1,bc BK110.out 2⟩ (fun hHeld=>?_)
             clear hK K
             refine norm_ (a':=?_) ?_ ?_
             rotate_left
             ·show Act.put _ (some 49) _=_
              simp only[Act.put,List.setIfInBounds_toArray,List.set_cons_zero,List.set_cons_succ,i64_w,i32_w]
              rfl
             refine pu HT_.out 10 (some 52) (fl 11 12) (h:=?_)
             refine pu HT_.out 11 (some 53) (fl 12 12) (h:=?_)
             refine done_ (done_of HT_.out (by kernel_rfl)) ?_
             try go_wp2
             go_roundg k3
             case measure=>have:=HK1.out;have:=HJ5.out;have:=HK3.out;omega
             case rel=>exact⟨(wrap64 (x38_3+1)),fin2,H',⟨by have:=HK1.out;have:=HJ5.out;have:=HK3.out;omega⟩,⟨bup BK110.out⟩,⟨bl⟩⟩
           ·have c33b0:(((rd_T35 y114 x38_3).f0) == ((rd_T35 l0 x12_1).f0))=false:=beq_eq_false_iff_ne.mpr c33
            have c33b1:(((rd_T35 y114 x38_3).f0) != ((rd_T35 l0 x12_1).f0))=true:=bne_iff_ne.mpr c33
            have H':=am H
            clear H
            have p118:0≤(x38_3:Int):=od
            have q118:x38_3<(y114.length:Int):=od
            obtain⟨ad118,e118,hx118_0,hx118_1,hx118_2⟩:=at_T35 HR117.out x38_3 p118 q118
            obtain rfl:ad109=ad118:=(by injection e118)
            replace hx118_0:=(HB.out.cell (World.block_lt_of_cell? w _ hx118_0)).trans hx118_0
            replace hx118_1:=(HB.out.cell (World.block_lt_of_cell? w _ hx118_1)).trans hx118_1
            replace hx118_2:=(HB.out.cell (World.block_lt_of_cell? w _ hx118_2)).trans hx118_2
            replace p118:=eq_true p118
            replace q118:=eq_true q118
            try go_wp2_with (first|((with_reducible refine gate_dst (N:=6) rfl ?_);refine box_event ?hg (N:=6) ?hd (cs := #[.int .i64 0,.int .i64 0,.int .i64 0]) (t:=35) ?hr ?_;(case hd=>rfl);(case hg=>rfl);(case hr=>first|(go_simp;done)|(go_simp;rfl));intro gb119 hg w48 hbox hb;have BK119:=am (hbox);have GW119:=am (ge_ bl hg);have GE119:=am (ge_ bl hg);replace HB:=am (below_step bl hb);have NB110_119:=am (nl (bup BK110.out) hg);have NB119_110:=am (ng (bup BK110.out) hg);replace BK110:=am (blk_below (bup BK110.out) hb);clear hb hbox hg;have hnb49:=NB119_110.out;have hnc49:=NB110_119.out;have hcz50_0:=bc BK119.out 0;have hcz50_1:=bc BK119.out 1;have hcz50_2:=bc BK119.out 2;have hfz50_0:=blk_frozen BK119.out 0;have hfz50_1:=blk_frozen BK119.out 1;have hfz50_2:=blk_frozen BK119.out 2))
            have n0_:Aside0 ((((w48.setCell ⟨gb119,0,none⟩ (.int .i64 ((rd_T35 y114 x38_3).f0))).setCell ⟨gb119,1,none⟩ (.int .i64 ((rd_T35 y114 x38_3).f1))).setCell ⟨gb119,2,none⟩ (.int .i64 ((rd_T35 y114 x38_3).f2))).heap[gb110]?=some (.cells #[.int .i64 ((rd_T35 l0 x12_1).f0),.int .i64 ((rd_T35 l0 x12_1).f1),.int .i64 ((rd_T35 l0 x12_1).f2)] 35 (0,0))):=⟨by(with_reducible repeat(first|refine bN_ ?_ _|refine bD_ ?_|refine bA_ ?_ _));refine blk_far ?_ NB110_119.out _;(with_reducible repeat(first|refine bN_ ?_ _|refine bD_ ?_|refine bA_ ?_ _));refine blk_far ?_ NB110_119.out _;(with_reducible repeat(first|refine bN_ ?_ _|refine bD_ ?_|refine bA_ ?_ _));refine blk_far ?_ NB110_119.out _;exact bup BK110.out⟩
            have n1_:Aside0 ((((w48.setCell ⟨gb119,0,none⟩ (.int .i64 ((rd_T35 y114 x38_3).f0))).setCell ⟨gb119,1,none⟩ (.int .i64 ((rd_T35 y114 x38_3).f1))).setCell ⟨gb119,2,none⟩ (.int .i64 ((rd_T35 y114 x38_3).f2))).heap[gb119]?=some (.cells #[.int .i64 ((rd_T35 y114 x38_3).f0),.int .i64 ((rd_T35 y114 x38_3).f1),.int .i64 ((rd_T35 y114 x38_3).f2)] 35 (0,0))):=⟨by(with_reducible repeat(first|refine bN_ ?_ _|refine bD_ ?_|refine bA_ ?_ _));refine blk_put (cs := #[.int .i64 ((rd_T35 y114 x38_3).f0),.int .i64 ((rd_T35 y114 x38_3).f1),.int .i64 0]) ?_ 2 _ rfl;(with_reducible repeat(first|refine bN_ ?_ _|refine bD_ ?_|refine bA_ ?_ _));refine blk_put (cs := #[.int .i64 ((rd_T35 y114 x38_3).f0),.int .i64 0,.int .i64 0]) ?_ 1 _ rfl;(with_reducible repeat(first|refine bN_ ?_ _|refine bD_ ?_|refine bA_ ?_ _));refine blk_put (cs := #[.int .i64 0,.int .i64 0,.int .i64 0]) ?_ 0 _ rfl;exact bup BK119.out⟩
            have n2_:Aside0 (Below w.heap.size w (((w48.setCell ⟨gb119,0,none⟩ (.int .i64 ((rd_T35 y114 x38_3).f0))).setCell ⟨gb119,1,none⟩ (.int .i64 ((rd_T35 y114 x38_3).f1))).setCell ⟨gb119,2,none⟩ (.int .i64 ((rd_T35 y114 x38_3).f2)))):=⟨bl⟩
            (try clear BK110)
            (try clear BK119)
            (try clear HB)
            generalize (((w48.setCell ⟨gb119,0,none⟩ (.int .i64 ((rd_T35 y114 x38_3).f0))).setCell ⟨gb119,1,none⟩ (.int .i64 ((rd_T35 y114 x38_3).f1))).setCell ⟨gb119,2,none⟩ (.int .i64 ((rd_T35 y114 x38_3).f2)))=w51 at n0_ n1_ n2_ ⊢
            have BK110:=n0_
            have BK119:=n1_
            have HB:=n2_
            clear n0_ n1_ n2_
            replace BK110:=am (bD_ BK110.out)
            replace BK119:=am (bD_ BK119.out)
            replace HB:=am (below_drew1 HB.out)
            refine start_ (n:=12) (S:=fun w'=>w'.cell? ⟨gb119,0,none⟩=some (.int .i64 ((rd_T35 y114 x38_3).f0))∧w'.cell? ⟨gb119,1,none⟩=some (.int .i64 ((rd_T35 y114 x38_3).f1))∧w'.cell? ⟨gb119,2,none⟩=some (.int .i64 ((rd_T35 y114 x38_3).f2))∧w'.cell? ⟨gb110,0,none⟩=some (.int .i64 ((rd_T35 l0 x12_1).f0))∧w'.cell? ⟨gb110,1,none⟩=some (.int .i64 ((rd_T35 l0 x12_1).f1))∧w'.cell? ⟨gb110,2,none⟩=some (.int .i64 ((rd_T35 l0 x12_1).f2))) (ds:=[]) (fl 0 12) (by kernel_rfl) rfl rfl ⟨bc BK119.out 0,bc BK119.out 1,bc BK119.out 2,bc BK110.out 0,bc BK110.out 1,bc BK110.out 2⟩ (fun hHeld=>?_);refine with_tabW impl_IsScore.tab11 impl_IsScore.bits11 (fun HT_ HW_=>?_)
            generalize w51.drew=w52 at BK110 BK119 HB hHeld ⊢
            refine pu HT_.out 0 (some 42) (fl 1 12) (h:=?_)
            refine pu HT_.out 2 (some 44) #[true,false,true,false,false,false,false,false,false,false,false,false] (h:=?_)
            refine ta HT_.out HW_.out 1 (some 43) (fl 3 12) hHeld rfl (by rintro w' ⟨s0,s1,s2,s3,s4,s5⟩;go_simp;with_reducible rfl) (h:=?_)
            refine ta HT_.out HW_.out 3 (some 45) (fl 4 12) hHeld rfl (by rintro w' ⟨s0,s1,s2,s3,s4,s5⟩;go_simp;with_reducible rfl) (h:=?_)
            refine pu HT_.out 4 (some 46) (fl 5 12) (h:=?_)
            refine pu HT_.out 5 (some 47) (fl 6 12) (h:=?_)
            refine pz HT_.out 6 (some 48) (fl 7 12) (h:=?_)
            refine pz HT_.out 7 (some 49) (fl 8 12) (h:=?_)
            refine pz HT_.out 8 (some 50) (fl 9 12) (h:=?_)
            refine pz HT_.out 9 (some 51) (fl 10 12) (h:=?_)
            refine pz HT_.out 10 (some 52) (fl 11 12) (h:=?_)
            refine pu HT_.out 11 (some 53) (fl 12 12) (h:=?_)
            refine done_ (done_of HT_.out (by kernel_rfl)) ?_
            try go_wp2
            go_roundg k3
            case measure=>have:=HK1.out;have:=HJ5.out;have:=HK3.out;omega
            case rel=>exact⟨(wrap64 (x38_3+1)),fin2,H',⟨by have:=HK1.out;have:=HJ5.out;have:=HK3.out;omega⟩,⟨bup BK110.out⟩,⟨bl⟩⟩
          ·have c30b0:=decide_eq_false c30
           clear c30
           have H':=am H
           clear H
           go_wp2
           go_roundg k3
           case measure=>have:=HK1.out;have:=HJ5.out;have:=HK3.out;omega
           case rel=>exact⟨(wrap64 (x12_1+1)),fin2,H',⟨by have:=HK1.out;have:=HJ5.out;have:=HK3.out;omega⟩,⟨bl⟩⟩
    ·have c3b0:=decide_eq_false c3
     clear c3
     obtain rfl:=Option.some.inj H
     go_wp2
     go_ret
     exact⟨fin1,bl⟩

end Go.Proofs.Ytdcchnfndhkfaaa.PFnPassesPlays
