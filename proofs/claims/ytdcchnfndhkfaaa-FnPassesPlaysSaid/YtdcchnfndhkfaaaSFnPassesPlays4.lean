/- Walks of functions that FnPassesPlays reaches. No conditions beyond the arguments' being read. -/
import Derived.Test.YtdcchnfndhkfaaaSFnPassesPlays0
import Derived.Test.YtdcchnfndhkfaaaSFnPassesPlays3
namespace Go.Proofs.Ytdcchnfndhkfaaa.PFnPassesPlays
open Go.RowKit Go.Proofs.YtdcchnfndhkfaaaW.PrintWords Go.Proofs.YtdcchnfndhkfaaaW.PrintLast Go.Proofs.YtdcchnfndhkfaaaW.PrintMore
attribute [local go_sem] max2_int min2_int max_two min_two max_three min_three max_four min_four
set_option linter.unusedVariables false
set_option linter.unusedSimpArgs false

mutual
def impl_IsSheet.l0:Nat→List (S60)→List (S60)→Int→Int→Option (Bool)
 | 0,_,_,_,_=>none
 | k+1,x0,x10,x11,x12=>if x12<x11 then(if 0≤x12 then(if x12<(x10.length:Int) then((impl_IsHole.f ((rd_T60 x10 x12).f0) ((rd_T60 x10 x12).f1) ((rd_T60 x10 x12).f2)).bind fun t127=>(if t127=true then(if x12>0 then(if 0≤(wrap64 (x12 - 1)) then(if(wrap64 (x12 - 1))<(x0.length:Int) then((impl_holeLess.f ((rd_T60 x0 (wrap64 (x12 - 1))).f0) ((rd_T60 x0 (wrap64 (x12 - 1))).f1) ((rd_T60 x0 (wrap64 (x12 - 1))).f2) ((rd_T60 x10 x12).f0) ((rd_T60 x10 x12).f1) ((rd_T60 x10 x12).f2)).bind fun t129=>(impl_IsSheet.j1 k x0 x12 x10 x11 x12 (!t129) ((rd_T60 x10 x12).f0) ((rd_T60 x10 x12).f1) ((rd_T60 x10 x12).f2))) else(none)) else(none)) else(impl_IsSheet.j1 k x0 x12 x10 x11 x12 false ((rd_T60 x10 x12).f0) ((rd_T60 x10 x12).f1) ((rd_T60 x10 x12).f2))) else(impl_IsSheet.j1 k x0 x12 x10 x11 x12 true ((rd_T60 x10 x12).f0) ((rd_T60 x10 x12).f1) ((rd_T60 x10 x12).f2)))) else(none)) else(none)) else(some true)
def impl_IsSheet.j1:Nat→List (S60)→Int→List (S60)→Int→Int→Bool→Int→Int→Int→Option (Bool)
 | 0,_,_,_,_,_,_,_,_,_=>none
 | k+1,x0,x3,x10,x11,x12,x33,x127000,x127001,x127002=>if x33=true then(some false) else(if 0≤x3 then(if x3≤(x0.length:Int) then((some (x0.take (x3:Int).toNat:List (S60))).bind fun y130=>(impl_IsSheet.l1 k x0 x10 x11 x12 y130 (y130.length:Int) 0 x127000 x127001 x127002)) else(none)) else(none))
def impl_IsSheet.l1:Nat→List (S60)→List (S60)→Int→Int→List (S60)→Int→Int→Int→Int→Int→Option (Bool)
 | 0,_,_,_,_,_,_,_,_,_,_=>none
 | k+1,x0,x10,x11,x12,x36,x37,x38,x127000,x127001,x127002=>if x38<x37 then(if 0≤x38 then(if x38<(x36.length:Int) then(if((rd_T60 x36 x38).f0)=x127000 then(if((rd_T60 x36 x38).f2)≥x127001 then(some false) else(impl_IsSheet.l1 k x0 x10 x11 x12 x36 x37 (wrap64 (x38+1)) x127000 x127001 x127002)) else(impl_IsSheet.l1 k x0 x10 x11 x12 x36 x37 (wrap64 (x38+1)) x127000 x127001 x127002)) else(none)) else(none)) else(impl_IsSheet.l0 k x0 x10 x11 (wrap64 (x12+1)))
end
def impl_IsSheet.f (k:Nat) (l0:List (S60)):Option (Bool):=if(l0.length:Int)>60 then(some false) else(impl_IsSheet.l0 k l0 l0 (l0.length:Int) 0)
def impl_IsSheet.T6:Bool×List (List Nat×List Nat):=(true,[([],[]),([0],[0]),([1],[1]),([2,1],[2]),([3],[3]),([4,3],[3,4]),([5,3,3],[3,5]),([6],[6]),([6],[6]),([8,6],[6,8]),([7,9,6],[6,7,9]),([10,6],[6,10]),([6],[6]),([11,12,6,6],[6,11,12]),([13,6],[6,13]),([6,14,3],[3,6,14]),([3,15],[3,15])])
def impl_IsSheet.B6:List Nat:=[0,1,3,7,15,31,63,127,127,383,1023,2047,127,8191,16383,32767,65535]
theorem impl_IsSheet.tab6:rtab .any (opsOf Try.f27 6)=impl_IsSheet.T6:=by kernel_rfl
theorem impl_IsSheet.bits6:waitsOk impl_IsSheet.T6.2 impl_IsSheet.B6=true:=by kernel_rfl
set_option maxHeartbeats 8000000 in
set_option maxRecDepth 100000 in
theorem impl_IsSheet.calls (k:Nat) (A0:Option Addr) (c0:Nat) (l0:List (S60)) (r:Bool) (w:World) (hr0:Kd.C k60 w A0 l0.length l0) (hc0:l0.length≤c0) (h:impl_IsSheet.f k l0=some r) :
  Calls Try.prog 27 #[.slice A0 l0.length c0] w fun e w'=>e = .returned (.bool r)∧Below w.heap.size w w':=by
 have hu60:=Try.underlying60
 have HR0:=am hr0
 have HC0:=am hc0
 clear hr0 hc0
 have HB:=am (Below.refl w.heap.size w)
 have H:(if(l0.length:Int)>60 then(some false) else(impl_IsSheet.l0 k l0 l0 (l0.length:Int) 0))=some r:=h
 clear h
 rcases itc H with⟨c2,H⟩|⟨c2,H⟩
 ·have c2b0:decide (60<(l0.length:Int))=true:=decide_eq_true c2
  have c2b1:decide (60<l0.length)=true:=decide_eq_true (by omega)
  clear c2
  obtain rfl:=Option.some.inj H
  go_enter Try.func27,Try.ntmps27
  go_wp2
  go_ret
  exact⟨fin1,bl⟩
 ·have c2b0:decide (60<(l0.length:Int))=false:=decide_eq_false c2
  have c2b1:decide (60<l0.length)=false:=decide_eq_false (by omega)
  clear c2
  have H':=am H
  clear H
  go_enter Try.func27,Try.ntmps27
  go_wp2
  go_loopg [12] k (fun kq v12 w'=>∃(x12_1:Int),v12 = .int .i64 x12_1∧Aside0 (impl_IsSheet.l0 kq l0 l0 (l0.length:Int) x12_1=some r)∧Aside0 (kq≤k)∧Aside0 (Below w.heap.size w w'))
  case atStart=>exact⟨(0),fin2,H',⟨Nat.le_refl _⟩,⟨bl⟩⟩
  case round =>
   clear H'
   try clear c2b0
   try clear c2b1
   obtain⟨x12_1,rfl,HA,HK1,HB⟩:=hrel
   cases gk with
   | zero=>exact absurd HA.out (by simp [impl_IsSheet.l0])
   | succ k1 =>
    have H:=HA.out
    clear HA
    simp only[impl_IsSheet.l0] at H
    rcases itc H with⟨c3,H⟩|⟨c3,H⟩
    ·have c3b0:=decide_eq_true c3
     clear c3
     obtain⟨c4b0,H⟩:=ifb H
     obtain⟨c5b0,H⟩:=ifb H
     have HC6:=am H
     clear H
     have p125:0≤(x12_1:Int):=od
     have q125:x12_1<(l0.length:Int):=od
     obtain⟨ad125,e125,hx125_0,hx125_1,hx125_2⟩:=at_T60 HR0.out x12_1 p125 q125
     cases e125
     replace hx125_0:=(HB.out.cell (World.block_lt_of_cell? w _ hx125_0)).trans hx125_0
     replace hx125_1:=(HB.out.cell (World.block_lt_of_cell? w _ hx125_1)).trans hx125_1
     replace hx125_2:=(HB.out.cell (World.block_lt_of_cell? w _ hx125_2)).trans hx125_2
     replace p125:=eq_true p125
     replace q125:=eq_true q125
     go_upto_region 6 with(first|((with_reducible refine gate_dst (N:=4) rfl ?_);refine box_event ?hg (N:=4) ?hd (cs := #[.int .i64 0,.int .i64 0,.int .i64 0]) (t:=60) ?hr ?_;(case hd=>rfl);(case hg=>rfl);(case hr=>first|(go_simp;done)|(go_simp;rfl));intro gb126 hg w7 hbox hb;have BK126:=am (hbox);have GW126:=am (ge_ bl hg);have GE126:=am (ge_ bl hg);replace HB:=am (below_step bl hb);clear hb hbox hg;have hcz8_0:=bc BK126.out 0;have hcz8_1:=bc BK126.out 1;have hcz8_2:=bc BK126.out 2;have hfz8_0:=blk_frozen BK126.out 0;have hfz8_1:=blk_frozen BK126.out 1;have hfz8_2:=blk_frozen BK126.out 2))
     (try simp only[Act.put,List.setIfInBounds_toArray,List.set_cons_zero,List.set_cons_succ])
     go_cut [33] (fun v33 wc=>∃(kq:Nat) (x33_5:Bool),v33 = .bool x33_5∧Aside0 (impl_IsSheet.j1 kq l0 x12_1 l0 (l0.length:Int) x12_1 x33_5 ((rd_T60 l0 x12_1).f0) ((rd_T60 l0 x12_1).f1) ((rd_T60 l0 x12_1).f2)=some r)∧Aside0 (kq≤k1)∧Aside0 (wc.heap[gb126]?=some (.cells #[.int .i64 ((rd_T60 l0 x12_1).f0),.int .i64 ((rd_T60 l0 x12_1).f1),.int .i64 ((rd_T60 l0 x12_1).f2)] 60 (0,0)))∧Aside0 (Below w.heap.size w wc))
     case first =>
      have H:=HC6.out
      clear HC6
      obtain⟨t127,A9,H⟩:=bnd H
      by_cases c10:t127=true
      ·subst c10
       replace H:=(if_pos rfl).symm.trans H
       rcases itc H with⟨c11,H⟩|⟨c11,H⟩
       ·have c11b0:decide (0<x12_1)=true:=decide_eq_true c11
        clear c11
        (first|rw[c11b0]|(simp only[i64_w,i32_w];rw[c11b0])|skip)
        obtain⟨ji12,hji12⟩:∃ j_:Int,(wrap64 (x12_1 - 1))=j_:=⟨_,rfl⟩
        replace H:(if 0≤(ji12) then(if(ji12)<(l0.length:Int) then((impl_holeLess.f ((rd_T60 l0 (ji12)).f0) ((rd_T60 l0 (ji12)).f1) ((rd_T60 l0 (ji12)).f2) ((rd_T60 l0 x12_1).f0) ((rd_T60 l0 x12_1).f1) ((rd_T60 l0 x12_1).f2)).bind fun t129=>(impl_IsSheet.j1 k1 l0 x12_1 l0 (l0.length:Int) x12_1 (!t129) ((rd_T60 l0 x12_1).f0) ((rd_T60 l0 x12_1).f1) ((rd_T60 l0 x12_1).f2))) else(none)) else(none))=some r:=by first|(rw[hji12] at H;exact H)|(simp only[hji12] at H ⊢;exact H)
        (try rw[hji12] at A9)
        have hji12w:(IntKind.i64.wrap (x12_1 - 1))=ji12:=(i64_w _).trans hji12
        obtain⟨c13b0,H⟩:=ifb H
        obtain⟨c14b0,H⟩:=ifb H
        obtain⟨t129,A15,H⟩:=bnd H
        have H':=am H
        clear H
        try go_wp2
        have n0_:Aside0 ((((w7.setCell ⟨gb126,0,none⟩ (.int .i64 ((rd_T60 l0 x12_1).f0))).setCell ⟨gb126,1,none⟩ (.int .i64 ((rd_T60 l0 x12_1).f1))).setCell ⟨gb126,2,none⟩ (.int .i64 ((rd_T60 l0 x12_1).f2))).heap[gb126]?=some (.cells #[.int .i64 ((rd_T60 l0 x12_1).f0),.int .i64 ((rd_T60 l0 x12_1).f1),.int .i64 ((rd_T60 l0 x12_1).f2)] 60 (0,0))):=⟨by(with_reducible repeat(first|refine bN_ ?_ _|refine bD_ ?_|refine bA_ ?_ _));refine blk_put (cs := #[.int .i64 ((rd_T60 l0 x12_1).f0),.int .i64 ((rd_T60 l0 x12_1).f1),.int .i64 0]) ?_ 2 _ rfl;(with_reducible repeat(first|refine bN_ ?_ _|refine bD_ ?_|refine bA_ ?_ _));refine blk_put (cs := #[.int .i64 ((rd_T60 l0 x12_1).f0),.int .i64 0,.int .i64 0]) ?_ 1 _ rfl;(with_reducible repeat(first|refine bN_ ?_ _|refine bD_ ?_|refine bA_ ?_ _));refine blk_put (cs := #[.int .i64 0,.int .i64 0,.int .i64 0]) ?_ 0 _ rfl;exact bup BK126.out⟩
        have n1_:Aside0 (Below w.heap.size w (((w7.setCell ⟨gb126,0,none⟩ (.int .i64 ((rd_T60 l0 x12_1).f0))).setCell ⟨gb126,1,none⟩ (.int .i64 ((rd_T60 l0 x12_1).f1))).setCell ⟨gb126,2,none⟩ (.int .i64 ((rd_T60 l0 x12_1).f2)))):=⟨bl⟩
        (try clear BK126)
        (try clear HB)
        generalize (((w7.setCell ⟨gb126,0,none⟩ (.int .i64 ((rd_T60 l0 x12_1).f0))).setCell ⟨gb126,1,none⟩ (.int .i64 ((rd_T60 l0 x12_1).f1))).setCell ⟨gb126,2,none⟩ (.int .i64 ((rd_T60 l0 x12_1).f2)))=w16 at n0_ n1_ ⊢
        have BK126:=n0_
        have HB:=n1_
        clear n0_ n1_
        replace BK126:=am (bD_ BK126.out)
        replace HB:=am (below_drew1 HB.out)
        have p128:0≤((ji12):Int):=od
        have q128:(ji12)<(l0.length:Int):=od
        obtain⟨ad128,e128,hx128_0,hx128_1,hx128_2⟩:=at_T60 HR0.out (ji12) p128 q128
        have hw128_2:=hx128_2
        have hw128_1:=hx128_1
        have hw128_0:=hx128_0
        obtain rfl:ad125=ad128:=(by injection e128)
        replace hx128_0:=(HB.out.cell (World.block_lt_of_cell? w _ hx128_0)).trans hx128_0
        replace hx128_1:=(HB.out.cell (World.block_lt_of_cell? w _ hx128_1)).trans hx128_1
        replace hx128_2:=(HB.out.cell (World.block_lt_of_cell? w _ hx128_2)).trans hx128_2
        replace p128:=eq_true p128
        replace q128:=eq_true q128
        refine start_ (n:=17) (S:=fun w'=>w'.cell? ⟨gb126,0,none⟩=some (.int .i64 ((rd_T60 l0 x12_1).f0))∧w'.cell? ⟨gb126,1,none⟩=some (.int .i64 ((rd_T60 l0 x12_1).f1))∧w'.cell? ⟨gb126,2,none⟩=some (.int .i64 ((rd_T60 l0 x12_1).f2))∧w'.cell? (ad125.add (((ji12)).toNat*3))=some (.int .i64 ((rd_T60 l0 (ji12)).f0))∧w'.cell? ⟨(ad125.add (((ji12)).toNat*3)).block,(ad125.add (((ji12)).toNat*3)).off+1,none⟩=some (.int .i64 ((rd_T60 l0 (ji12)).f1))∧w'.cell? ⟨(ad125.add (((ji12)).toNat*3)).block,(ad125.add (((ji12)).toNat*3)).off+2,none⟩=some (.int .i64 ((rd_T60 l0 (ji12)).f2))) (ds:=[]) (fl 0 17) (by kernel_rfl) rfl rfl ⟨bc BK126.out 0,bc BK126.out 1,bc BK126.out 2,((HB.out.cell (World.block_lt_of_cell? w _ hw128_0)).trans hw128_0),((HB.out.cell (World.block_lt_of_cell? w _ hw128_1)).trans hw128_1),((HB.out.cell (World.block_lt_of_cell? w _ hw128_2)).trans hw128_2)⟩ (fun hHeld=>?_);refine with_tabW impl_IsSheet.tab6 impl_IsSheet.bits6 (fun HT_ HW_=>?_)
        generalize w16.drew=w17 at BK126 HB hx128_0 hx128_1 hx128_2 hHeld ⊢
        refine ta HT_.out HW_.out 0 (some 17) (fl 1 17) hHeld rfl (by rintro w' ⟨s0,s1,s2,s3,s4,s5⟩;go_simp;with_reducible rfl) (h:=?_)
        refine one_ (i:=1) (N:=some 18) (fl 2 17) rfl rfl (one_of HT_.out (by kernel_rfl)) (by decide) (fun K hK=>?_)
        refine goes_ Try.func42 (by kernel_rfl) rfl #[.agg #[.int .i64 ((rd_T60 l0 x12_1).f0),.int .i64 ((rd_T60 l0 x12_1).f1),.int .i64 ((rd_T60 l0 x12_1).f2)]] (by rfl) rfl rfl tl ?_
        with_reducible refine(impl_IsHole.calls ((rd_T60 l0 x12_1).f0) ((rd_T60 l0 x12_1).f1) ((rd_T60 l0 x12_1).f2) true _ A9.out).mono ?_
        rintro e w18 ⟨rfl,hb⟩
        refine⟨_,rfl,?_⟩
        replace BK126:=am (blk_below (bup BK126.out) hb)
        replace HB:=am (below_step bl hb)
        (try clear hb)
        refine hK.out _ _ ⟨bc BK126.out 0,bc BK126.out 1,bc BK126.out 2,((HB.out.cell (World.block_lt_of_cell? w _ hw128_0)).trans hw128_0),((HB.out.cell (World.block_lt_of_cell? w _ hw128_1)).trans hw128_1),((HB.out.cell (World.block_lt_of_cell? w _ hw128_2)).trans hw128_2)⟩ (fun hHeld=>?_)
        clear hK K
        refine norm_ (a':=?_) ?_ ?_
        rotate_left
        ·show Act.put _ (some 18) _=_
         simp only[Act.put,List.setIfInBounds_toArray,List.set_cons_zero,List.set_cons_succ,i64_w,i32_w]
         rfl
        refine pu HT_.out 2 (some 19) (fl 3 17) (h:=?_)
        refine pu HT_.out 3 (some 20) (fl 4 17) (h:=?_)
        refine pu HT_.out 4 (some 21) (fl 5 17) (h:=?_)
        refine pu HT_.out 5 (some 22) (fl 6 17) (h:=?_)
        refine pu HT_.out 6 (some 23) (fl 7 17) (h:=?_)
        refine pu HT_.out 7 (some 24) (fl 8 17) (h:=?_)
        refine pu HT_.out 8 (some 25) (fl 9 17) (h:=?_)
        refine pu HT_.out 9 (some 26) (fl 10 17) (h:=?_)
        refine pu HT_.out 10 (some 27) (fl 11 17) (h:=?_)
        refine ta HT_.out HW_.out 11 (some 28) (fl 12 17) hHeld rfl (by rintro w' ⟨s0,s1,s2,s3,s4,s5⟩;go_simp;with_reducible rfl) (h:=?_)
        refine ta HT_.out HW_.out 12 (some 29) (fl 13 17) hHeld rfl (by rintro w' ⟨s0,s1,s2,s3,s4,s5⟩;go_simp;with_reducible rfl) (h:=?_)
        refine one_ (i:=13) (N:=some 30) (fl 14 17) rfl rfl (one_of HT_.out (by kernel_rfl)) (by decide) (fun K hK=>?_)
        refine goes_ Try.func43 (by kernel_rfl) rfl #[.agg #[.int .i64 ((rd_T60 l0 (ji12)).f0),.int .i64 ((rd_T60 l0 (ji12)).f1),.int .i64 ((rd_T60 l0 (ji12)).f2)],.agg #[.int .i64 ((rd_T60 l0 x12_1).f0),.int .i64 ((rd_T60 l0 x12_1).f1),.int .i64 ((rd_T60 l0 x12_1).f2)]] (by rfl) rfl rfl (by(try simp only[List.map_toArray,List.map_cons,List.map_nil]);first|done|(simp only[hji12];rfl)|rfl|(simp only[List.length_drop,List.length_take];rfl)) ?_
        with_reducible refine(impl_holeLess.calls ((rd_T60 l0 (ji12)).f0) ((rd_T60 l0 (ji12)).f1) ((rd_T60 l0 (ji12)).f2) ((rd_T60 l0 x12_1).f0) ((rd_T60 l0 x12_1).f1) ((rd_T60 l0 x12_1).f2) t129 _ A15.out).mono ?_
        rintro e w19 ⟨rfl,hb⟩
        refine⟨_,rfl,?_⟩
        replace BK126:=am (blk_below (bup BK126.out) hb)
        replace HB:=am (below_step bl hb)
        (try clear hb)
        refine hK.out _ _ ⟨bc BK126.out 0,bc BK126.out 1,bc BK126.out 2,((HB.out.cell (World.block_lt_of_cell? w _ hw128_0)).trans hw128_0),((HB.out.cell (World.block_lt_of_cell? w _ hw128_1)).trans hw128_1),((HB.out.cell (World.block_lt_of_cell? w _ hw128_2)).trans hw128_2)⟩ (fun hHeld=>?_)
        clear hK K
        refine norm_ (a':=?_) ?_ ?_
        rotate_left
        ·show Act.put _ (some 30) _=_
         simp only[Act.put,List.setIfInBounds_toArray,List.set_cons_zero,List.set_cons_succ,i64_w,i32_w]
         rfl
        refine pu HT_.out 14 (some 31) (fl 15 17) (h:=?_)
        refine pu HT_.out 15 (some 32) (fl 16 17) (h:=?_)
        refine pu HT_.out 16 (some 33) (fl 17 17) (h:=?_)
        refine done_ (done_of HT_.out (by kernel_rfl)) ?_
        try go_wp2
        go_meet
        case rel=>exact⟨_,(!t129),fin2,H',⟨by have:=HK1.out;first|omega|exact Nat.le_refl _⟩,⟨bup BK126.out⟩,⟨bl⟩⟩
       ·have c11b0:decide (0<x12_1)=false:=decide_eq_false c11
        clear c11
        (first|rw[c11b0]|(simp only[i64_w,i32_w];rw[c11b0])|skip)
        have H':=am H
        clear H
        try go_wp2
        have n0_:Aside0 ((((w7.setCell ⟨gb126,0,none⟩ (.int .i64 ((rd_T60 l0 x12_1).f0))).setCell ⟨gb126,1,none⟩ (.int .i64 ((rd_T60 l0 x12_1).f1))).setCell ⟨gb126,2,none⟩ (.int .i64 ((rd_T60 l0 x12_1).f2))).heap[gb126]?=some (.cells #[.int .i64 ((rd_T60 l0 x12_1).f0),.int .i64 ((rd_T60 l0 x12_1).f1),.int .i64 ((rd_T60 l0 x12_1).f2)] 60 (0,0))):=⟨by(with_reducible repeat(first|refine bN_ ?_ _|refine bD_ ?_|refine bA_ ?_ _));refine blk_put (cs := #[.int .i64 ((rd_T60 l0 x12_1).f0),.int .i64 ((rd_T60 l0 x12_1).f1),.int .i64 0]) ?_ 2 _ rfl;(with_reducible repeat(first|refine bN_ ?_ _|refine bD_ ?_|refine bA_ ?_ _));refine blk_put (cs := #[.int .i64 ((rd_T60 l0 x12_1).f0),.int .i64 0,.int .i64 0]) ?_ 1 _ rfl;(with_reducible repeat(first|refine bN_ ?_ _|refine bD_ ?_|refine bA_ ?_ _));refine blk_put (cs := #[.int .i64 0,.int .i64 0,.int .i64 0]) ?_ 0 _ rfl;exact bup BK126.out⟩
        have n1_:Aside0 (Below w.heap.size w (((w7.setCell ⟨gb126,0,none⟩ (.int .i64 ((rd_T60 l0 x12_1).f0))).setCell ⟨gb126,1,none⟩ (.int .i64 ((rd_T60 l0 x12_1).f1))).setCell ⟨gb126,2,none⟩ (.int .i64 ((rd_T60 l0 x12_1).f2)))):=⟨bl⟩
        (try clear BK126)
        (try clear HB)
        generalize (((w7.setCell ⟨gb126,0,none⟩ (.int .i64 ((rd_T60 l0 x12_1).f0))).setCell ⟨gb126,1,none⟩ (.int .i64 ((rd_T60 l0 x12_1).f1))).setCell ⟨gb126,2,none⟩ (.int .i64 ((rd_T60 l0 x12_1).f2)))=w20 at n0_ n1_ ⊢
        have BK126:=n0_
        have HB:=n1_
        clear n0_ n1_
        replace BK126:=am (bD_ BK126.out)
        replace HB:=am (below_drew1 HB.out)
        refine start_ (n:=17) (S:=fun w'=>w'.cell? ⟨gb126,0,none⟩=some (.int .i64 ((rd_T60 l0 x12_1).f0))∧w'.cell? ⟨gb126,1,none⟩=some (.int .i64 ((rd_T60 l0 x12_1).f1))∧w'.cell? ⟨gb126,2,none⟩=some (.int .i64 ((rd_T60 l0 x12_1).f2))) (ds:=[]) (fl 0 17) (by kernel_rfl) rfl rfl ⟨bc BK126.out 0,bc BK126.out 1,bc BK126.out 2⟩ (fun hHeld=>?_);refine with_tabW impl_IsSheet.tab6 impl_IsSheet.bits6 (fun HT_ HW_=>?_)
        generalize w20.drew=w21 at BK126 HB hHeld ⊢
        refine ta HT_.out HW_.out 0 (some 17) (fl 1 17) hHeld rfl (by rintro w' ⟨s0,s1,s2⟩;go_simp;with_reducible rfl) (h:=?_)
        refine one_ (i:=1) (N:=some 18) (fl 2 17) rfl rfl (one_of HT_.out (by kernel_rfl)) (by decide) (fun K hK=>?_)
        refine goes_ Try.func42 (by kernel_rfl) rfl #[.agg #[.int .i64 ((rd_T60 l0 x12_1).f0),.int .i64 ((rd_T60 l0 x12_1).f1),.int .i64 ((rd_T60 l0 x12_1).f2)]] (by rfl) rfl rfl tl ?_
        with_reducible refine(impl_IsHole.calls ((rd_T60 l0 x12_1).f0) ((rd_T60 l0 x12_1).f1) ((rd_T60 l0 x12_1).f2) true _ A9.out).mono ?_
        rintro e w22 ⟨rfl,hb⟩
        refine⟨_,rfl,?_⟩
        replace BK126:=am (blk_below (bup BK126.out) hb)
        replace HB:=am (below_step bl hb)
        (try clear hb)
        refine hK.out _ _ ⟨bc BK126.out 0,bc BK126.out 1,bc BK126.out 2⟩ (fun hHeld=>?_)
        clear hK K
        refine norm_ (a':=?_) ?_ ?_
        rotate_left
        ·show Act.put _ (some 18) _=_
         simp only[Act.put,List.setIfInBounds_toArray,List.set_cons_zero,List.set_cons_succ,i64_w,i32_w]
         rfl
        refine pu HT_.out 2 (some 19) (fl 3 17) (h:=?_)
        refine pu HT_.out 3 (some 20) (fl 4 17) (h:=?_)
        refine pu HT_.out 4 (some 21) (fl 5 17) (h:=?_)
        refine pu HT_.out 5 (some 22) (fl 6 17) (h:=?_)
        refine pu HT_.out 6 (some 23) (fl 7 17) (h:=?_)
        refine pz HT_.out 7 (some 24) (fl 8 17) (h:=?_)
        refine pz HT_.out 8 (some 25) (fl 9 17) (h:=?_)
        refine pz HT_.out 9 (some 26) (fl 10 17) (h:=?_)
        refine pz HT_.out 10 (some 27) (fl 11 17) (h:=?_)
        refine pz HT_.out 11 (some 28) (fl 12 17) (h:=?_)
        refine pz HT_.out 12 (some 29) (fl 13 17) (h:=?_)
        refine pz HT_.out 13 (some 30) (fl 14 17) (h:=?_)
        refine pz HT_.out 14 (some 31) (fl 15 17) (h:=?_)
        refine pu HT_.out 15 (some 32) (fl 16 17) (h:=?_)
        refine pu HT_.out 16 (some 33) (fl 17 17) (h:=?_)
        refine done_ (done_of HT_.out (by kernel_rfl)) ?_
        try go_wp2
        go_meet
        case rel=>exact⟨_,(false),fin2,H',⟨by have:=HK1.out;first|omega|exact Nat.le_refl _⟩,⟨bup BK126.out⟩,⟨bl⟩⟩
      ·replace c10:=Bool.eq_false_iff.mpr c10
       subst c10
       replace H:=(if_neg Bool.false_ne_true).symm.trans H
       have H':=am H
       clear H
       try go_wp2
       have n0_:Aside0 ((((w7.setCell ⟨gb126,0,none⟩ (.int .i64 ((rd_T60 l0 x12_1).f0))).setCell ⟨gb126,1,none⟩ (.int .i64 ((rd_T60 l0 x12_1).f1))).setCell ⟨gb126,2,none⟩ (.int .i64 ((rd_T60 l0 x12_1).f2))).heap[gb126]?=some (.cells #[.int .i64 ((rd_T60 l0 x12_1).f0),.int .i64 ((rd_T60 l0 x12_1).f1),.int .i64 ((rd_T60 l0 x12_1).f2)] 60 (0,0))):=⟨by(with_reducible repeat(first|refine bN_ ?_ _|refine bD_ ?_|refine bA_ ?_ _));refine blk_put (cs := #[.int .i64 ((rd_T60 l0 x12_1).f0),.int .i64 ((rd_T60 l0 x12_1).f1),.int .i64 0]) ?_ 2 _ rfl;(with_reducible repeat(first|refine bN_ ?_ _|refine bD_ ?_|refine bA_ ?_ _));refine blk_put (cs := #[.int .i64 ((rd_T60 l0 x12_1).f0),.int .i64 0,.int .i64 0]) ?_ 1 _ rfl;(with_reducible repeat(first|refine bN_ ?_ _|refine bD_ ?_|refine bA_ ?_ _));refine blk_put (cs := #[.int .i64 0,.int .i64 0,.int .i64 0]) ?_ 0 _ rfl;exact bup BK126.out⟩
       have n1_:Aside0 (Below w.heap.size w (((w7.setCell ⟨gb126,0,none⟩ (.int .i64 ((rd_T60 l0 x12_1).f0))).setCell ⟨gb126,1,none⟩ (.int .i64 ((rd_T60 l0 x12_1).f1))).setCell ⟨gb126,2,none⟩ (.int .i64 ((rd_T60 l0 x12_1).f2)))):=⟨bl⟩
       (try clear BK126)
       (try clear HB)
       generalize (((w7.setCell ⟨gb126,0,none⟩ (.int .i64 ((rd_T60 l0 x12_1).f0))).setCell ⟨gb126,1,none⟩ (.int .i64 ((rd_T60 l0 x12_1).f1))).setCell ⟨gb126,2,none⟩ (.int .i64 ((rd_T60 l0 x12_1).f2)))=w23 at n0_ n1_ ⊢
       have BK126:=n0_
       have HB:=n1_
       clear n0_ n1_
       replace BK126:=am (bD_ BK126.out)
       replace HB:=am (below_drew1 HB.out)
       refine start_ (n:=17) (S:=fun w'=>w'.cell? ⟨gb126,0,none⟩=some (.int .i64 ((rd_T60 l0 x12_1).f0))∧w'.cell? ⟨gb126,1,none⟩=some (.int .i64 ((rd_T60 l0 x12_1).f1))∧w'.cell? ⟨gb126,2,none⟩=some (.int .i64 ((rd_T60 l0 x12_1).f2))) (ds:=[]) (fl 0 17) (by kernel_rfl) rfl rfl ⟨bc BK126.out 0,bc BK126.out 1,bc BK126.out 2⟩ (fun hHeld=>?_);refine with_tabW impl_IsSheet.tab6 impl_IsSheet.bits6 (fun HT_ HW_=>?_)
       generalize w23.drew=w24 at BK126 HB hHeld ⊢
       refine ta HT_.out HW_.out 0 (some 17) (fl 1 17) hHeld rfl (by rintro w' ⟨s0,s1,s2⟩;go_simp;with_reducible rfl) (h:=?_)
       refine one_ (i:=1) (N:=some 18) (fl 2 17) rfl rfl (one_of HT_.out (by kernel_rfl)) (by decide) (fun K hK=>?_)
       refine goes_ Try.func42 (by kernel_rfl) rfl #[.agg #[.int .i64 ((rd_T60 l0 x12_1).f0),.int .i64 ((rd_T60 l0 x12_1).f1),.int .i64 ((rd_T60 l0 x12_1).f2)]] (by rfl) rfl rfl tl ?_
       with_reducible refine(impl_IsHole.calls ((rd_T60 l0 x12_1).f0) ((rd_T60 l0 x12_1).f1) ((rd_T60 l0 x12_1).f2) false _ A9.out).mono ?_
       rintro e w25 ⟨rfl,hb⟩
       refine⟨_,rfl,?_⟩
       replace BK126:=am (blk_below (bup BK126.out) hb)
       replace HB:=am (below_step bl hb)
       (try clear hb)
       refine hK.out _ _ ⟨bc BK126.out 0,bc BK126.out 1,bc BK126.out 2⟩ (fun hHeld=>?_)
       clear hK K
       refine norm_ (a':=?_) ?_ ?_
       rotate_left
       ·show Act.put _ (some 18) _=_
        simp only[Act.put,List.setIfInBounds_toArray,List.set_cons_zero,List.set_cons_succ,i64_w,i32_w]
        rfl
       refine pu HT_.out 2 (some 19) (fl 3 17) (h:=?_)
       refine pu HT_.out 3 (some 20) (fl 4 17) (h:=?_)
       refine pz HT_.out 4 (some 21) (fl 5 17) (h:=?_)
       refine pz HT_.out 5 (some 22) (fl 6 17) (h:=?_)
       refine pz HT_.out 6 (some 23) (fl 7 17) (h:=?_)
       refine pz HT_.out 7 (some 24) (fl 8 17) (h:=?_)
       refine pz HT_.out 8 (some 25) (fl 9 17) (h:=?_)
       refine pz HT_.out 9 (some 26) (fl 10 17) (h:=?_)
       refine pz HT_.out 10 (some 27) (fl 11 17) (h:=?_)
       refine pz HT_.out 11 (some 28) (fl 12 17) (h:=?_)
       refine pz HT_.out 12 (some 29) (fl 13 17) (h:=?_)
       refine pz HT_.out 13 (some 30) (fl 14 17) (h:=?_)
       refine pz HT_.out 14 (some 31) (fl 15 17) (h:=?_)
       refine pz HT_.out 15 (some 32) (fl 16 17) (h:=?_)
       refine pu HT_.out 16 (some 33) (fl 17 17) (h:=?_)
       refine done_ (done_of HT_.out (by kernel_rfl)) ?_
       try go_wp2
       go_meet
       case rel=>exact⟨_,(true),fin2,H',⟨by have:=HK1.out;first|omega|exact Nat.le_refl _⟩,⟨bup BK126.out⟩,⟨bl⟩⟩
     case rest =>
      clear HC6
      try clear c3b0
      try clear c4b0
      try clear c5b0
      try clear hcz8_0
      try clear hcz8_1
      try clear hcz8_2
      try clear hfz8_0
      try clear hfz8_1
      try clear hfz8_2
      try clear hx125_0
      try clear hx125_1
      try clear hx125_2
      try clear p125
      try clear q125
      obtain⟨kq,x33_5,rfl,HA,HJ5,BK126,HB⟩:=hcut
      cases kq with
      | zero=>exact absurd HA.out (by simp [impl_IsSheet.j1])
      | succ kj5 =>
       have H:=HA.out
       clear HA
       simp only[impl_IsSheet.j1] at H
       by_cases c26:x33_5=true
       ·subst c26
        replace H:=(if_pos rfl).symm.trans H
        obtain rfl:=Option.some.inj H
        go_wp2
        go_ret
        exact⟨fin1,bl⟩
       ·replace c26:=Bool.eq_false_iff.mpr c26
        subst c26
        replace H:=(if_neg Bool.false_ne_true).symm.trans H
        obtain⟨c27,H⟩:=ifp H
        have c27b0:=eq_true c27
        have c27b1:decide (0≤x12_1)=true:=decide_eq_true c27
        clear c27
        obtain⟨c28,H⟩:=ifp H
        have c28b0:=eq_true c28
        have c28b1:decide (x12_1≤(l0.length:Int))=true:=decide_eq_true c28
        clear c28
        obtain⟨y130,hy130⟩:∃ y_:List (S60),y_=(l0.take (x12_1:Int).toNat):=⟨_,rfl⟩
        replace H:(impl_IsSheet.l1 kj5 l0 l0 (l0.length:Int) x12_1 y130 (y130.length:Int) 0 ((rd_T60 l0 x12_1).f0) ((rd_T60 l0 x12_1).f1) ((rd_T60 l0 x12_1).f2))=some r:=by subst hy130;exact H
        have Ny130:=am hy130
        clear hy130
        have H':=am H
        clear H
        have q29:(x12_1:Int)≤((l0.length:Int):Int):=od
        obtain⟨i029,hi029,_,hsz29,_⟩:=info_parts info60
        have hroom29:l0.length≤c0:=HC0.out
        have hC29:Kd.C k60 _ (some ad125) l0.length l0:=HR0.out
        have hcut29:=cut_to (P:=Try.prog) 26 60 .i64 Try.underlying26 hi029 (some ad125) l0.length c0 x12_1 (od) q29 hroom29
        have hr29:=Kd.C_take (m:=(x12_1:Int).toNat) hC29 (by omega)
        have hy29:y130.length=(x12_1:Int).toNat:=(by rw[Ny130.out,List.length_take];omega)
        rw[← Ny130.out] at hr29
        rw[← hy29] at hcut29
        have HR133:=am hr29
        have HC133:=am (show y130.length≤c0 from by omega)
        clear hr29 hC29 hroom29 hi029 hsz29
        have KY29:=am hy29
        clear hy29
        replace q29:=eq_true q29
        go_wp2
        go_loopg [38] kj5 (fun kq v38 w'=>∃(x38_3:Int),v38 = .int .i64 x38_3∧Aside0 (impl_IsSheet.l1 kq l0 l0 (l0.length:Int) x12_1 y130 (y130.length:Int) x38_3 ((rd_T60 l0 x12_1).f0) ((rd_T60 l0 x12_1).f1) ((rd_T60 l0 x12_1).f2)=some r)∧Aside0 (kq≤kj5)∧Aside0 (w'.heap[gb126]?=some (.cells #[.int .i64 ((rd_T60 l0 x12_1).f0),.int .i64 ((rd_T60 l0 x12_1).f1),.int .i64 ((rd_T60 l0 x12_1).f2)] 60 (0,0)))∧Aside0 (Below w.heap.size w w'))
        case atStart=>exact⟨(0),fin2,H',⟨Nat.le_refl _⟩,⟨bup BK126.out⟩,⟨bl⟩⟩
        case round =>
         clear H'
         try clear c26
         try clear c27b0
         try clear c27b1
         try clear c28b0
         try clear c28b1
         try clear q29
         obtain⟨x38_3,rfl,HA,HK3,BK126,HB⟩:=hrel
         cases gk with
         | zero=>exact absurd HA.out (by simp [impl_IsSheet.l1])
         | succ k3 =>
          have H:=HA.out
          clear HA
          simp only[impl_IsSheet.l1] at H
          rcases itc H with⟨c30,H⟩|⟨c30,H⟩
          ·have c30b0:=decide_eq_true c30
           clear c30
           obtain⟨c31b0,H⟩:=ifb H
           obtain⟨c32b0,H⟩:=ifb H
           rcases itc H with⟨c33,H⟩|⟨c33,H⟩
           ·have c33b0:(((rd_T60 y130 x38_3).f0) == ((rd_T60 l0 x12_1).f0))=true:=beq_iff_eq.mpr c33
            have c33b1:(((rd_T60 y130 x38_3).f0) != ((rd_T60 l0 x12_1).f0))=false:=bne_eq_false_iff_eq.mpr c33
            clear c33
            rcases itc H with⟨c34,H⟩|⟨c34,H⟩
            ·have c34b0:decide (((rd_T60 l0 x12_1).f1)≤((rd_T60 y130 x38_3).f2))=true:=decide_eq_true c34
             clear c34
             obtain rfl:=Option.some.inj H
             have p134:0≤(x38_3:Int):=od
             have q134:x38_3<(y130.length:Int):=od
             obtain⟨ad134,e134,hx134_0,hx134_1,hx134_2⟩:=at_T60 HR133.out x38_3 p134 q134
             obtain rfl:ad125=ad134:=(by injection e134)
             replace hx134_0:=(HB.out.cell (World.block_lt_of_cell? w _ hx134_0)).trans hx134_0
             replace hx134_1:=(HB.out.cell (World.block_lt_of_cell? w _ hx134_1)).trans hx134_1
             replace hx134_2:=(HB.out.cell (World.block_lt_of_cell? w _ hx134_2)).trans hx134_2
             replace p134:=eq_true p134
             replace q134:=eq_true q134
             go_wp2_with (first|((with_reducible refine gate_dst (N:=6) rfl ?_);refine box_event ?hg (N:=6) ?hd (cs := #[.int .i64 0,.int .i64 0,.int .i64 0]) (t:=60) ?hr ?_;(case hd=>rfl);(case hg=>rfl);(case hr=>first|(go_simp;done)|(go_simp;rfl));intro gb135 hg w35 hbox hb;have BK135:=am (hbox);have GW135:=am (ge_ bl hg);have GE135:=am (ge_ bl hg);replace HB:=am (below_step bl hb);have NB126_135:=am (nl (bup BK126.out) hg);have NB135_126:=am (ng (bup BK126.out) hg);replace BK126:=am (blk_below (bup BK126.out) hb);clear hb hbox hg;have hnb36:=NB135_126.out;have hnc36:=NB126_135.out;have hcz37_0:=bc BK135.out 0;have hcz37_1:=bc BK135.out 1;have hcz37_2:=bc BK135.out 2;have hfz37_0:=blk_frozen BK135.out 0;have hfz37_1:=blk_frozen BK135.out 1;have hfz37_2:=blk_frozen BK135.out 2;have hcz38_0:=bc BK126.out 0;have hcz38_1:=bc BK126.out 1;have hcz38_2:=bc BK126.out 2;have hfz38_0:=blk_frozen BK126.out 0;have hfz38_1:=blk_frozen BK126.out 1;have hfz38_2:=blk_frozen BK126.out 2))
             go_ret
             exact⟨fin1,bl⟩
            ·have c34b0:decide (((rd_T60 l0 x12_1).f1)≤((rd_T60 y130 x38_3).f2))=false:=decide_eq_false c34
             clear c34
             have H':=am H
             clear H
             have p134:0≤(x38_3:Int):=od
             have q134:x38_3<(y130.length:Int):=od
             obtain⟨ad134,e134,hx134_0,hx134_1,hx134_2⟩:=at_T60 HR133.out x38_3 p134 q134
             obtain rfl:ad125=ad134:=(by injection e134)
             replace hx134_0:=(HB.out.cell (World.block_lt_of_cell? w _ hx134_0)).trans hx134_0
             replace hx134_1:=(HB.out.cell (World.block_lt_of_cell? w _ hx134_1)).trans hx134_1
             replace hx134_2:=(HB.out.cell (World.block_lt_of_cell? w _ hx134_2)).trans hx134_2
             replace p134:=eq_true p134
             replace q134:=eq_true q134
             go_wp2_with (first|((with_reducible refine gate_dst (N:=6) rfl ?_);refine box_event ?hg (N:=6) ?hd (cs := #[.int .i64 0,.int .i64 0,.int .i64 0]) (t:=60) ?hr ?_;(case hd=>rfl);(case hg=>rfl);(case hr=>first|(go_simp;done)|(go_simp;rfl));intro gb135 hg w39 hbox hb;have BK135:=am (hbox);have GW135:=am (ge_ bl hg);have GE135:=am (ge_ bl hg);replace HB:=am (below_step bl hb);have NB126_135:=am (nl (bup BK126.out) hg);have NB135_126:=am (ng (bup BK126.out) hg);replace BK126:=am (blk_below (bup BK126.out) hb);clear hb hbox hg;have hnb40:=NB135_126.out;have hnc40:=NB126_135.out;have hcz41_0:=bc BK135.out 0;have hcz41_1:=bc BK135.out 1;have hcz41_2:=bc BK135.out 2;have hfz41_0:=blk_frozen BK135.out 0;have hfz41_1:=blk_frozen BK135.out 1;have hfz41_2:=blk_frozen BK135.out 2;have hcz42_0:=bc BK126.out 0;have hcz42_1:=bc BK126.out 1;have hcz42_2:=bc BK126.out 2;have hfz42_0:=blk_frozen BK126.out 0;have hfz42_1:=blk_frozen BK126.out 1;have hfz42_2:=blk_frozen BK126.out 2))
             go_roundg k3
             case measure=>have:=HK1.out;have:=HJ5.out;have:=HK3.out;omega
             case rel=>exact⟨(wrap64 (x38_3+1)),fin2,H',⟨by have:=HK1.out;have:=HJ5.out;have:=HK3.out;omega⟩,⟨by(with_reducible repeat(first|refine bN_ ?_ _|refine bD_ ?_|refine bA_ ?_ _));refine blk_far ?_ NB126_135.out _;(with_reducible repeat(first|refine bN_ ?_ _|refine bD_ ?_|refine bA_ ?_ _));refine blk_far ?_ NB126_135.out _;(with_reducible repeat(first|refine bN_ ?_ _|refine bD_ ?_|refine bA_ ?_ _));refine blk_far ?_ NB126_135.out _;exact bup BK126.out⟩,⟨bl⟩⟩
           ·have c33b0:(((rd_T60 y130 x38_3).f0) == ((rd_T60 l0 x12_1).f0))=false:=beq_eq_false_iff_ne.mpr c33
            have c33b1:(((rd_T60 y130 x38_3).f0) != ((rd_T60 l0 x12_1).f0))=true:=bne_iff_ne.mpr c33
            have H':=am H
            clear H
            have p134:0≤(x38_3:Int):=od
            have q134:x38_3<(y130.length:Int):=od
            obtain⟨ad134,e134,hx134_0,hx134_1,hx134_2⟩:=at_T60 HR133.out x38_3 p134 q134
            obtain rfl:ad125=ad134:=(by injection e134)
            replace hx134_0:=(HB.out.cell (World.block_lt_of_cell? w _ hx134_0)).trans hx134_0
            replace hx134_1:=(HB.out.cell (World.block_lt_of_cell? w _ hx134_1)).trans hx134_1
            replace hx134_2:=(HB.out.cell (World.block_lt_of_cell? w _ hx134_2)).trans hx134_2
            replace p134:=eq_true p134
            replace q134:=eq_true q134
            go_wp2_with (first|((with_reducible refine gate_dst (N:=6) rfl ?_);refine box_event ?hg (N:=6) ?hd (cs := #[.int .i64 0,.int .i64 0,.int .i64 0]) (t:=60) ?hr ?_;(case hd=>rfl);(case hg=>rfl);(case hr=>first|(go_simp;done)|(go_simp;rfl));intro gb135 hg w43 hbox hb;have BK135:=am (hbox);have GW135:=am (ge_ bl hg);have GE135:=am (ge_ bl hg);replace HB:=am (below_step bl hb);have NB126_135:=am (nl (bup BK126.out) hg);have NB135_126:=am (ng (bup BK126.out) hg);replace BK126:=am (blk_below (bup BK126.out) hb);clear hb hbox hg;have hnb44:=NB135_126.out;have hnc44:=NB126_135.out;have hcz45_0:=bc BK135.out 0;have hcz45_1:=bc BK135.out 1;have hcz45_2:=bc BK135.out 2;have hfz45_0:=blk_frozen BK135.out 0;have hfz45_1:=blk_frozen BK135.out 1;have hfz45_2:=blk_frozen BK135.out 2;have hcz46_0:=bc BK126.out 0;have hcz46_1:=bc BK126.out 1;have hcz46_2:=bc BK126.out 2;have hfz46_0:=blk_frozen BK126.out 0;have hfz46_1:=blk_frozen BK126.out 1;have hfz46_2:=blk_frozen BK126.out 2))
            go_roundg k3
            case measure=>have:=HK1.out;have:=HJ5.out;have:=HK3.out;omega
            case rel=>exact⟨(wrap64 (x38_3+1)),fin2,H',⟨by have:=HK1.out;have:=HJ5.out;have:=HK3.out;omega⟩,⟨by(with_reducible repeat(first|refine bN_ ?_ _|refine bD_ ?_|refine bA_ ?_ _));refine blk_far ?_ NB126_135.out _;(with_reducible repeat(first|refine bN_ ?_ _|refine bD_ ?_|refine bA_ ?_ _));refine blk_far ?_ NB126_135.out _;(with_reducible repeat(first|refine bN_ ?_ _|refine bD_ ?_|refine bA_ ?_ _));refine blk_far ?_ NB126_135.out _;exact bup BK126.out⟩,⟨bl⟩⟩
          ·have c30b0:=decide_eq_false c30
           clear c30
           have H':=am H
           clear H
           go_wp2
           go_roundg k3
           case measure=>have:=HK1.out;have:=HJ5.out;have:=HK3.out;omega
           case rel=>exact⟨(wrap64 (x12_1+1)),fin2,H',⟨by have:=HK1.out;have:=HJ5.out;have:=HK3.out;omega⟩,⟨bl⟩⟩
    ·have c3b0:=decide_eq_false c3
     clear c3
     obtain rfl:=Option.some.inj H
     go_wp2
     go_ret
     exact⟨fin1,bl⟩

end Go.Proofs.Ytdcchnfndhkfaaa.PFnPassesPlays
