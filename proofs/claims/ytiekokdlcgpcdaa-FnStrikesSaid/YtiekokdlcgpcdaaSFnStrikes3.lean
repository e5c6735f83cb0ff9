/- Walks of functions that FnStrikes reaches. No conditions beyond the arguments' being read. -/
import Derived.Test.YtiekokdlcgpcdaaSFnStrikes0
import Derived.Test.YtiekokdlcgpcdaaSFnStrikes2
namespace Go.Proofs.Ytiekokdlcgpcdaa.PFnStrikes
open Go.RowKit Go.Proofs.YtiekokdlcgpcdaaW.PrintWords Go.Proofs.YtiekokdlcgpcdaaW.PrintLast Go.Proofs.YtiekokdlcgpcdaaW.PrintMore
attribute [local go_sem] max2_int min2_int max_two min_two max_three min_three max_four min_four
set_option linter.unusedVariables false
set_option linter.unusedSimpArgs false

theorem quiet_drawn {P:Program} {f:FuncId} {args:Array Value} {w:World} {n:Nat} {v:Value} (h:Calls P f args (w.drewN n) fun e w'=>e = .returned v∧Drawn0 (w.drewN n) w'):Calls P f args (w.drewN n) fun e w''=>e = .returned v∧∃ m,w''=w.drewN m :=
 Calls.quiet_of (h.mono fun _ _ ⟨he,m,hm⟩=>⟨he,m,hm⟩)
mutual
def impl_IsComb.j0:Nat→List (S41)→Bool→Option (Bool)
 | 0,_,_=>none
 | k+1,x0,x12=>if x12=true then(some false) else(impl_IsComb.l0 k x0 x0 (x0.length:Int) 0)
def impl_IsComb.l0:Nat→List (S41)→List (S41)→Int→Int→Option (Bool)
 | 0,_,_,_,_=>none
 | k+1,x0,x13,x14,x15=>if x15<x14 then(if 0≤x15 then(if x15<(x13.length:Int) then((impl_isPitch.f ((rd_T41 x13 x15).f0)).bind fun t289=>(if t289=true then((impl_isCents.f ((rd_T41 x13 x15).f1)).bind fun t290=>(if t290=true then(if((rd_T41 x13 x15).f2)=0 then(if x15>0 then(if 0≤(wrap64 (x15 - 1)) then(if(wrap64 (x15 - 1))<(x0.length:Int) then(if((rd_T41 x13 x15).f0)<((rd_T41 x0 (wrap64 (x15 - 1))).f0) then(some false) else(if x15≥4 then(if 0≤(wrap64 (x15 - 4)) then(if(wrap64 (x15 - 4))<(x0.length:Int) then(if((rd_T41 x13 x15).f0)=((rd_T41 x0 (wrap64 (x15 - 4))).f0) then(some false) else(impl_IsComb.l0 k x0 x13 x14 (wrap64 (x15+1)))) else(none)) else(none)) else(impl_IsComb.l0 k x0 x13 x14 (wrap64 (x15+1))))) else(none)) else(none)) else(if x15≥4 then(if 0≤(wrap64 (x15 - 4)) then(if(wrap64 (x15 - 4))<(x0.length:Int) then(if((rd_T41 x13 x15).f0)=((rd_T41 x0 (wrap64 (x15 - 4))).f0) then(some false) else(impl_IsComb.l0 k x0 x13 x14 (wrap64 (x15+1)))) else(none)) else(none)) else(impl_IsComb.l0 k x0 x13 x14 (wrap64 (x15+1))))) else(if((rd_T41 x13 x15).f2)=1 then(if x15>0 then(if 0≤(wrap64 (x15 - 1)) then(if(wrap64 (x15 - 1))<(x0.length:Int) then(if((rd_T41 x13 x15).f0)<((rd_T41 x0 (wrap64 (x15 - 1))).f0) then(some false) else(if x15≥4 then(if 0≤(wrap64 (x15 - 4)) then(if(wrap64 (x15 - 4))<(x0.length:Int) then(if((rd_T41 x13 x15).f0)=((rd_T41 x0 (wrap64 (x15 - 4))).f0) then(some false) else(impl_IsComb.l0 k x0 x13 x14 (wrap64 (x15+1)))) else(none)) else(none)) else(impl_IsComb.l0 k x0 x13 x14 (wrap64 (x15+1))))) else(none)) else(none)) else(if x15≥4 then(if 0≤(wrap64 (x15 - 4)) then(if(wrap64 (x15 - 4))<(x0.length:Int) then(if((rd_T41 x13 x15).f0)=((rd_T41 x0 (wrap64 (x15 - 4))).f0) then(some false) else(impl_IsComb.l0 k x0 x13 x14 (wrap64 (x15+1)))) else(none)) else(none)) else(impl_IsComb.l0 k x0 x13 x14 (wrap64 (x15+1))))) else(some false))) else(some false))) else(some false))) else(none)) else(none)) else(some true)
end
def impl_IsComb.f (k:Nat) (l0:List (S41)):Option (Bool):=if(l0.length:Int)<1 then(impl_IsComb.j0 k l0 true) else(impl_IsComb.j0 k l0 (decide ((l0.length:Int)>40)))
set_option maxHeartbeats 8000000 in
set_option maxRecDepth 100000 in
theorem impl_IsComb.calls (k:Nat) (A0:Option Addr) (c0:Nat) (l0:List (S41)) (r:Bool) (w:World) (hr0:Kd.C k41 w A0 l0.length l0) (hc0:l0.length≤c0) (h:impl_IsComb.f k l0=some r) :
  Calls Try.prog 18 #[.slice A0 l0.length c0] w fun e w'=>e = .returned (.bool r)∧Below w.heap.size w w':=by
 have hu41:=Try.underlying41
 have HR0:=am hr0
 have HC0:=am hc0
 clear hr0 hc0
 have HB:=am (Below.refl w.heap.size w)
 have H:(if(l0.length:Int)<1 then(impl_IsComb.j0 k l0 true) else(impl_IsComb.j0 k l0 (decide ((l0.length:Int)>40))))=some r:=h
 clear h
 have HC2:=am H
 clear H
 go_enter Try.func18,Try.ntmps18
 go_upto_region 1 with(fail)
 go_cut [12] (fun v12 wc=>∃(kq:Nat) (x12_1:Bool),v12 = .bool x12_1∧Aside0 (impl_IsComb.j0 kq l0 x12_1=some r)∧Aside0 (kq≤k)∧Aside0 (Below w.heap.size w wc))
 case first =>
  have H:=HC2.out
  clear HC2
  rcases itc H with⟨c3,H⟩|⟨c3,H⟩
  ·have c3b0:=decide_eq_true c3
   have c3b1:decide (l0.length<1)=true:=decide_eq_true (by omega)
   clear c3
   (first|rw[c3b0]|(simp only[i64_w,i32_w];rw[c3b0])|skip)
   have H':=am H
   clear H
   go_wp2
   go_meet
   case rel=>exact⟨_,(true),fin2,H',⟨by first|omega|exact Nat.le_refl _⟩,⟨bl⟩⟩
  ·have c3b0:=decide_eq_false c3
   have c3b1:decide (l0.length<1)=false:=decide_eq_false (by omega)
   clear c3
   (first|rw[c3b0]|(simp only[i64_w,i32_w];rw[c3b0])|skip)
   have H':=am H
   clear H
   go_wp2
   go_meet
   case rel=>exact⟨_,(decide ((l0.length:Int)>40)),fin2,H',⟨by first|omega|exact Nat.le_refl _⟩,⟨bl⟩⟩
 case rest =>
  clear HC2
  obtain⟨kq,x12_1,rfl,HA,HJ1,HB⟩:=hcut
  cases kq with
  | zero=>exact absurd HA.out (by simp [impl_IsComb.j0])
  | succ kj1 =>
   have H:=HA.out
   clear HA
   simp only[impl_IsComb.j0] at H
   by_cases c4:x12_1=true
   ·subst c4
    replace H:=(if_pos rfl).symm.trans H
    obtain rfl:=Option.some.inj H
    go_wp2
    go_ret
    exact⟨fin1,bl⟩
   ·replace c4:=Bool.eq_false_iff.mpr c4
    subst c4
    replace H:=(if_neg Bool.false_ne_true).symm.trans H
    have H':=am H
    clear H
    go_wp2
    go_loopg [15] kj1 (fun kq v15 w'=>∃(x15_2:Int),v15 = .int .i64 x15_2∧Aside0 (impl_IsComb.l0 kq l0 l0 (l0.length:Int) x15_2=some r)∧Aside0 (kq≤kj1)∧Aside0 (Below w.heap.size w w'))
    case atStart=>exact⟨(0),fin2,H',⟨Nat.le_refl _⟩,⟨bl⟩⟩
    case round =>
     clear H'
     try clear c4
     obtain⟨x15_2,rfl,HA,HK2,HB⟩:=hrel
     cases gk with
     | zero=>exact absurd HA.out (by simp [impl_IsComb.l0])
     | succ k2 =>
      have H:=HA.out
      clear HA
      simp only[impl_IsComb.l0] at H
      rcases itc H with⟨c5,H⟩|⟨c5,H⟩
      ·have c5b0:=decide_eq_true c5
       clear c5
       obtain⟨c6b0,H⟩:=ifb H
       obtain⟨c7b0,H⟩:=ifb H
       obtain⟨t289,A8,H⟩:=bnd H
       by_cases c9:t289=true
       ·subst c9
        replace H:=(if_pos rfl).symm.trans H
        obtain⟨t290,A10,H⟩:=bnd H
        by_cases c11:t290=true
        ·subst c11
         replace H:=(if_pos rfl).symm.trans H
         rcases itc H with⟨c12,H⟩|⟨c12,H⟩
         ·have c12b0:(((rd_T41 l0 x15_2).f2) == 0)=true:=beq_iff_eq.mpr c12
          have c12b1:(((rd_T41 l0 x15_2).f2) != 0)=false:=bne_eq_false_iff_eq.mpr c12
          clear c12
          rcases itc H with⟨c13,H⟩|⟨c13,H⟩
          ·have c13b0:decide (0<x15_2)=true:=decide_eq_true c13
           clear c13
           obtain⟨ji14,hji14⟩:∃ j_:Int,(wrap64 (x15_2 - 1))=j_:=⟨_,rfl⟩
           replace H:(if 0≤(ji14) then(if(ji14)<(l0.length:Int) then(if((rd_T41 l0 x15_2).f0)<((rd_T41 l0 (ji14)).f0) then(some false) else(if x15_2≥4 then(if 0≤(wrap64 (x15_2 - 4)) then(if(wrap64 (x15_2 - 4))<(l0.length:Int) then(if((rd_T41 l0 x15_2).f0)=((rd_T41 l0 (wrap64 (x15_2 - 4))).f0) then(some false) else(impl_IsComb.l0 k2 l0 l0 (l0.length:Int) (wrap64 (x15_2+1)))) else(none)) else(none)) else(impl_IsComb.l0 k2 l0 l0 (l0.length:Int) (wrap64 (x15_2+1))))) else(none)) else(none))=some r:=by first|(rw[hji14] at H;exact H)|(simp only[hji14] at H ⊢;exact H)
           (try rw[hji14] at A8)
           (try rw[hji14] at A10)
           have hji14w:(IntKind.i64.wrap (x15_2 - 1))=ji14:=(i64_w _).trans hji14
           obtain⟨c15b0,H⟩:=ifb H
           obtain⟨c16b0,H⟩:=ifb H
           rcases itc H with⟨c17,H⟩|⟨c17,H⟩
           ·have c17b0:=decide_eq_true c17
            clear c17
            obtain rfl:=Option.some.inj H
            have p287:0≤(x15_2:Int):=od
            have q287:x15_2<(l0.length:Int):=od
            obtain⟨ad287,e287,hx287_0,hx287_1,hx287_2⟩:=at_T41 HR0.out x15_2 p287 q287
            cases e287
            replace hx287_0:=(HB.out.cell (World.block_lt_of_cell? w _ hx287_0)).trans hx287_0
            replace hx287_1:=(HB.out.cell (World.block_lt_of_cell? w _ hx287_1)).trans hx287_1
            replace hx287_2:=(HB.out.cell (World.block_lt_of_cell? w _ hx287_2)).trans hx287_2
            replace p287:=eq_true p287
            replace q287:=eq_true q287
            try go_wp2_with (first|((with_reducible refine gate_dst (N:=4) rfl ?_);(try(refine gate_guard (by rfl) ?_;dsimp only));refine box_event ?hg (N:=4) ?hd (cs := #[.int .i64 0,.int .i64 0,.int .i64 0]) (t:=41) ?hr ?_;(case hd=>rfl);(case hg=>rfl);(case hr=>first|(go_simp;done)|(go_simp;rfl));intro gb288 hg w18 hbox hb;have BK288:=am (hbox);have GW288:=am (ge_ bl hg);have GE288:=am (ge_ bl hg);replace HB:=am (below_step bl hb);clear hb hbox hg;have hcz19_0:=bc BK288.out 0;have hcz19_1:=bc BK288.out 1;have hcz19_2:=bc BK288.out 2;have hfz19_0:=blk_frozen BK288.out 0;have hfz19_1:=blk_frozen BK288.out 1;have hfz19_2:=blk_frozen BK288.out 2))
            have n0_:Aside0 ((((w18.setCell ⟨gb288,0,none⟩ (.int .i64 ((rd_T41 l0 x15_2).f0))).setCell ⟨gb288,1,none⟩ (.int .i64 ((rd_T41 l0 x15_2).f1))).setCell ⟨gb288,2,none⟩ (.int .i64 ((rd_T41 l0 x15_2).f2))).heap[gb288]?=some (.cells #[.int .i64 ((rd_T41 l0 x15_2).f0),.int .i64 ((rd_T41 l0 x15_2).f1),.int .i64 ((rd_T41 l0 x15_2).f2)] 41 (0,0))):=⟨by(with_reducible repeat(first|refine bN_ ?_ _|refine bD_ ?_|refine bA_ ?_ _));refine blk_put (cs := #[.int .i64 ((rd_T41 l0 x15_2).f0),.int .i64 ((rd_T41 l0 x15_2).f1),.int .i64 0]) ?_ 2 _ rfl;(with_reducible repeat(first|refine bN_ ?_ _|refine bD_ ?_|refine bA_ ?_ _));refine blk_put (cs := #[.int .i64 ((rd_T41 l0 x15_2).f0),.int .i64 0,.int .i64 0]) ?_ 1 _ rfl;(with_reducible repeat(first|refine bN_ ?_ _|refine bD_ ?_|refine bA_ ?_ _));refine blk_put (cs := #[.int .i64 0,.int .i64 0,.int .i64 0]) ?_ 0 _ rfl;exact bup BK288.out⟩
            have n1_:Aside0 (Below w.heap.size w (((w18.setCell ⟨gb288,0,none⟩ (.int .i64 ((rd_T41 l0 x15_2).f0))).setCell ⟨gb288,1,none⟩ (.int .i64 ((rd_T41 l0 x15_2).f1))).setCell ⟨gb288,2,none⟩ (.int .i64 ((rd_T41 l0 x15_2).f2)))):=⟨bl⟩
            (try clear BK288)
            (try clear HB)
            generalize (((w18.setCell ⟨gb288,0,none⟩ (.int .i64 ((rd_T41 l0 x15_2).f0))).setCell ⟨gb288,1,none⟩ (.int .i64 ((rd_T41 l0 x15_2).f1))).setCell ⟨gb288,2,none⟩ (.int .i64 ((rd_T41 l0 x15_2).f2)))=w20 at n0_ n1_ ⊢
            have BK288:=n0_
            have HB:=n1_
            clear n0_ n1_
            have p291:0≤((ji14):Int):=od
            have q291:(ji14)<(l0.length:Int):=od
            obtain⟨ad291,e291,hx291_0,hx291_1,hx291_2⟩:=at_T41 HR0.out (ji14) p291 q291
            have hw291_2:=hx291_2
            have hw291_1:=hx291_1
            have hw291_0:=hx291_0
            obtain rfl:ad287=ad291:=(by injection e291)
            replace hx291_0:=(HB.out.cell (World.block_lt_of_cell? w _ hx291_0)).trans hx291_0
            replace hx291_1:=(HB.out.cell (World.block_lt_of_cell? w _ hx291_1)).trans hx291_1
            replace hx291_2:=(HB.out.cell (World.block_lt_of_cell? w _ hx291_2)).trans hx291_2
            replace p291:=eq_true p291
            replace q291:=eq_true q291
            have hq0_:=bc BK288.out 0
            have hq1_:=bc BK288.out 1
            have hq2_:=bc BK288.out 2
            go_quiet (first|(go_at_call 34;exact quiet_drawn (impl_isPitch.calls ((rd_T41 l0 x15_2).f0) true _ A8.out))|(go_at_call 35;exact quiet_drawn (impl_isCents.calls ((rd_T41 l0 x15_2).f1) true _ A10.out)))
            try go_wp2
            go_ret
            exact⟨by first|rfl|(simp [errW_none,errW_some]<;>rfl)|(simp only[← hji14];first|rfl|(simp [errW_none,errW_some]<;>rfl))|(simp [*,errW_none,errW_some]<;>rfl),bl⟩
           ·have c17b0:=decide_eq_false c17
            clear c17
            rcases itc H with⟨c22,H⟩|⟨c22,H⟩
            ·have c22b0:decide (4≤x15_2)=true:=decide_eq_true c22
             clear c22
             obtain⟨ji23,hji23⟩:∃ j_:Int,(wrap64 (x15_2 - 4))=j_:=⟨_,rfl⟩
             replace H:(if 0≤(ji23) then(if(ji23)<(l0.length:Int) then(if((rd_T41 l0 x15_2).f0)=((rd_T41 l0 (ji23)).f0) then(some false) else(impl_IsComb.l0 k2 l0 l0 (l0.length:Int) (wrap64 (x15_2+1)))) else(none)) else(none))=some r:=by first|(rw[hji23] at H;exact H)|(simp only[hji23] at H ⊢;exact H)
             (try rw[hji23] at A8)
             (try rw[hji23] at A10)
             have hji23w:(IntKind.i64.wrap (x15_2 - 4))=ji23:=(i64_w _).trans hji23
             obtain⟨c24b0,H⟩:=ifb H
             obtain⟨c25b0,H⟩:=ifb H
             rcases itc H with⟨c26,H⟩|⟨c26,H⟩
             ·have c26b0:(((rd_T41 l0 x15_2).f0) == ((rd_T41 l0 (ji23)).f0))=true:=beq_iff_eq.mpr c26
              have c26b1:(((rd_T41 l0 x15_2).f0) != ((rd_T41 l0 (ji23)).f0))=false:=bne_eq_false_iff_eq.mpr c26
              clear c26
              obtain rfl:=Option.some.inj H
              have p287:0≤(x15_2:Int):=od
              have q287:x15_2<(l0.length:Int):=od
              obtain⟨ad287,e287,hx287_0,hx287_1,hx287_2⟩:=at_T41 HR0.out x15_2 p287 q287
              cases e287
              replace hx287_0:=(HB.out.cell (World.block_lt_of_cell? w _ hx287_0)).trans hx287_0
              replace hx287_1:=(HB.out.cell (World.block_lt_of_cell? w _ hx287_1)).trans hx287_1
              replace hx287_2:=(HB.out.cell (World.block_lt_of_cell? w _ hx287_2)).trans hx287_2
              replace p287:=eq_true p287
              replace q287:=eq_true q287
              try go_wp2_with (first|((with_reducible refine gate_dst (N:=4) rfl ?_);(try(refine gate_guard (by rfl) ?_;dsimp only));refine box_event ?hg (N:=4) ?hd (cs := #[.int .i64 0,.int .i64 0,.int .i64 0]) (t:=41) ?hr ?_;(case hd=>rfl);(case hg=>rfl);(case hr=>first|(go_simp;done)|(go_simp;rfl));intro gb288 hg w27 hbox hb;have BK288:=am (hbox);have GW288:=am (ge_ bl hg);have GE288:=am (ge_ bl hg);replace HB:=am (below_step bl hb);clear hb hbox hg;have hcz28_0:=bc BK288.out 0;have hcz28_1:=bc BK288.out 1;have hcz28_2:=bc BK288.out 2;have hfz28_0:=blk_frozen BK288.out 0;have hfz28_1:=blk_frozen BK288.out 1;have hfz28_2:=blk_frozen BK288.out 2))
              have n0_:Aside0 ((((w27.setCell ⟨gb288,0,none⟩ (.int .i64 ((rd_T41 l0 x15_2).f0))).setCell ⟨gb288,1,none⟩ (.int .i64 ((rd_T41 l0 x15_2).f1))).setCell ⟨gb288,2,none⟩ (.int .i64 ((rd_T41 l0 x15_2).f2))).heap[gb288]?=some (.cells #[.int .i64 ((rd_T41 l0 x15_2).f0),.int .i64 ((rd_T41 l0 x15_2).f1),.int .i64 ((rd_T41 l0 x15_2).f2)] 41 (0,0))):=⟨by(with_reducible repeat(first|refine bN_ ?_ _|refine bD_ ?_|refine bA_ ?_ _));refine blk_put (cs := #[.int .i64 ((rd_T41 l0 x15_2).f0),.int .i64 ((rd_T41 l0 x15_2).f1),.int .i64 0]) ?_ 2 _ rfl;(with_reducible repeat(first|refine bN_ ?_ _|refine bD_ ?_|refine bA_ ?_ _));refine blk_put (cs := #[.int .i64 ((rd_T41 l0 x15_2).f0),.int .i64 0,.int .i64 0]) ?_ 1 _ rfl;(with_reducible repeat(first|refine bN_ ?_ _|refine bD_ ?_|refine bA_ ?_ _));refine blk_put (cs := #[.int .i64 0,.int .i64 0,.int .i64 0]) ?_ 0 _ rfl;exact bup BK288.out⟩
              have n1_:Aside0 (Below w.heap.size w (((w27.setCell ⟨gb288,0,none⟩ (.int .i64 ((rd_T41 l0 x15_2).f0))).setCell ⟨gb288,1,none⟩ (.int .i64 ((rd_T41 l0 x15_2).f1))).setCell ⟨gb288,2,none⟩ (.int .i64 ((rd_T41 l0 x15_2).f2)))):=⟨bl⟩
              (try clear BK288)
              (try clear HB)
              generalize (((w27.setCell ⟨gb288,0,none⟩ (.int .i64 ((rd_T41 l0 x15_2).f0))).setCell ⟨gb288,1,none⟩ (.int .i64 ((rd_T41 l0 x15_2).f1))).setCell ⟨gb288,2,none⟩ (.int .i64 ((rd_T41 l0 x15_2).f2)))=w29 at n0_ n1_ ⊢
              have BK288:=n0_
              have HB:=n1_
              clear n0_ n1_
              have p291:0≤((ji14):Int):=od
              have q291:(ji14)<(l0.length:Int):=od
              obtain⟨ad291,e291,hx291_0,hx291_1,hx291_2⟩:=at_T41 HR0.out (ji14) p291 q291
              have hw291_2:=hx291_2
              have hw291_1:=hx291_1
              have hw291_0:=hx291_0
              obtain rfl:ad287=ad291:=(by injection e291)
              replace hx291_0:=(HB.out.cell (World.block_lt_of_cell? w _ hx291_0)).trans hx291_0
              replace hx291_1:=(HB.out.cell (World.block_lt_of_cell? w _ hx291_1)).trans hx291_1
              replace hx291_2:=(HB.out.cell (World.block_lt_of_cell? w _ hx291_2)).trans hx291_2
              replace p291:=eq_true p291
              replace q291:=eq_true q291
              have p292:0≤((ji23):Int):=od
              have q292:(ji23)<(l0.length:Int):=od
              obtain⟨ad292,e292,hx292_0,hx292_1,hx292_2⟩:=at_T41 HR0.out (ji23) p292 q292
              have hw292_2:=hx292_2
              have hw292_1:=hx292_1
              have hw292_0:=hx292_0
              obtain rfl:ad287=ad292:=(by injection e292)
              replace hx292_0:=(HB.out.cell (World.block_lt_of_cell? w _ hx292_0)).trans hx292_0
              replace hx292_1:=(HB.out.cell (World.block_lt_of_cell? w _ hx292_1)).trans hx292_1
              replace hx292_2:=(HB.out.cell (World.block_lt_of_cell? w _ hx292_2)).trans hx292_2
              replace p292:=eq_true p292
              replace q292:=eq_true q292
              have hq0_:=bc BK288.out 0
              have hq1_:=bc BK288.out 1
              have hq2_:=bc BK288.out 2
              go_quiet (first|(go_at_call 34;exact quiet_drawn (impl_isPitch.calls ((rd_T41 l0 x15_2).f0) true _ A8.out))|(go_at_call 35;exact quiet_drawn (impl_isCents.calls ((rd_T41 l0 x15_2).f1) true _ A10.out)))
              try go_wp2
              go_ret
              exact⟨by first|rfl|(simp [errW_none,errW_some]<;>rfl)|(simp only[← hji14,← hji23];first|rfl|(simp [errW_none,errW_some]<;>rfl))|(simp [*,errW_none,errW_some]<;>rfl),bl⟩
             ·have c26b0:(((rd_T41 l0 x15_2).f0) == ((rd_T41 l0 (ji23)).f0))=false:=beq_eq_false_iff_ne.mpr c26
              have c26b1:(((rd_T41 l0 x15_2).f0) != ((rd_T41 l0 (ji23)).f0))=true:=bne_iff_ne.mpr c26
              have H':=am H
              clear H
              have p287:0≤(x15_2:Int):=od
              have q287:x15_2<(l0.length:Int):=od
              obtain⟨ad287,e287,hx287_0,hx287_1,hx287_2⟩:=at_T41 HR0.out x15_2 p287 q287
              cases e287
              replace hx287_0:=(HB.out.cell (World.block_lt_of_cell? w _ hx287_0)).trans hx287_0
              replace hx287_1:=(HB.out.cell (World.block_lt_of_cell? w _ hx287_1)).trans hx287_1
              replace hx287_2:=(HB.out.cell (World.block_lt_of_cell? w _ hx287_2)).trans hx287_2
              replace p287:=eq_true p287
              replace q287:=eq_true q287
              try go_wp2_with (first|((with_reducible refine gate_dst (N:=4) rfl ?_);(try(refine gate_guard (by rfl) ?_;dsimp only));refine box_event ?hg (N:=4) ?hd (cs := #[.int .i64 0,.int .i64 0,.int .i64 0]) (t:=41) ?hr ?_;(case hd=>rfl);(case hg=>rfl);(case hr=>first|(go_simp;done)|(go_simp;rfl));intro gb288 hg w31 hbox hb;have BK288:=am (hbox);have GW288:=am (ge_ bl hg);have GE288:=am (ge_ bl hg);replace HB:=am (below_step bl hb);clear hb hbox hg;have hcz32_0:=bc BK288.out 0;have hcz32_1:=bc BK288.out 1;have hcz32_2:=bc BK288.out 2;have hfz32_0:=blk_frozen BK288.out 0;have hfz32_1:=blk_frozen BK288.out 1;have hfz32_2:=blk_frozen BK288.out 2))
              have n0_:Aside0 ((((w31.setCell ⟨gb288,0,none⟩ (.int .i64 ((rd_T41 l0 x15_2).f0))).setCell ⟨gb288,1,none⟩ (.int .i64 ((rd_T41 l0 x15_2).f1))).setCell ⟨gb288,2,none⟩ (.int .i64 ((rd_T41 l0 x15_2).f2))).heap[gb288]?=some (.cells #[.int .i64 ((rd_T41 l0 x15_2).f0),.int .i64 ((rd_T41 l0 x15_2).f1),.int .i64 ((rd_T41 l0 x15_2).f2)] 41 (0,0))):=⟨by(with_reducible repeat(first|refine bN_ ?_ _|refine bD_ ?_|refine bA_ ?_ _));refine blk_put (cs := #[.int .i64 ((rd_T41 l0 x15_2).f0),.int .i64 ((rd_T41 l0 x15_2).f1),.int .i64 0]) ?_ 2 _ rfl;(with_reducible repeat(first|refine bN_ ?_ _|refine bD_ ?_|refine bA_ ?_ _));refine blk_put (cs := #[.int .i64 ((rd_T41 l0 x15_2).f0),.int .i64 0,.int .i64 0]) ?_ 1 _ rfl;(with_reducible repeat(first|refine bN_ ?_ _|refine bD_ ?_|refine bA_ ?_ _));refine blk_put (cs := #[.int .i64 0,.int .i64 0,.int .i64 0]) ?_ 0 _ rfl;exact bup BK288.out⟩
              have n1_:Aside0 (Below w.heap.size w (((w31.setCell ⟨gb288,0,none⟩ (.int .i64 ((rd_T41 l0 x15_2).f0))).setCell ⟨gb288,1,none⟩ (.int .i64 ((rd_T41 l0 x15_2).f1))).setCell ⟨gb288,2,none⟩ (.int .i64 ((rd_T41 l0 x15_2).f2)))):=⟨bl⟩
              (try clear BK288)
              (try clear HB)
              generalize (((w31.setCell ⟨gb288,0,none⟩ (.int .i64 ((rd_T41 l0 x15_2).f0))).setCell ⟨gb288,1,none⟩ (.int .i64 ((rd_T41 l0 x15_2).f1))).setCell ⟨gb288,2,none⟩ (.int .i64 ((rd_T41 l0 x15_2).f2)))=w33 at n0_ n1_ ⊢
              have BK288:=n0_
              have HB:=n1_
              clear n0_ n1_
              have p291:0≤((ji14):Int):=od
              have q291:(ji14)<(l0.length:Int):=od
              obtain⟨ad291,e291,hx291_0,hx291_1,hx291_2⟩:=at_T41 HR0.out (ji14) p291 q291
              have hw291_2:=hx291_2
              have hw291_1:=hx291_1
              have hw291_0:=hx291_0
              obtain rfl:ad287=ad291:=(by injection e291)
              replace hx291_0:=(HB.out.cell (World.block_lt_of_cell? w _ hx291_0)).trans hx291_0
              replace hx291_1:=(HB.out.cell (World.block_lt_of_cell? w _ hx291_1)).trans hx291_1
              replace hx291_2:=(HB.out.cell (World.block_lt_of_cell? w _ hx291_2)).trans hx291_2
              replace p291:=eq_true p291
              replace q291:=eq_true q291
              have p292:0≤((ji23):Int):=od
              have q292:(ji23)<(l0.length:Int):=od
              obtain⟨ad292,e292,hx292_0,hx292_1,hx292_2⟩:=at_T41 HR0.out (ji23) p292 q292
              have hw292_2:=hx292_2
              have hw292_1:=hx292_1
              have hw292_0:=hx292_0
              obtain rfl:ad287=ad292:=(by injection e292)
              replace hx292_0:=(HB.out.cell (World.block_lt_of_cell? w _ hx292_0)).trans hx292_0
              replace hx292_1:=(HB.out.cell (World.block_lt_of_cell? w _ hx292_1)).trans hx292_1
              replace hx292_2:=(HB.out.cell (World.block_lt_of_cell? w _ hx292_2)).trans hx292_2
              replace p292:=eq_true p292
              replace q292:=eq_true q292
              have hq0_:=bc BK288.out 0
              have hq1_:=bc BK288.out 1
              have hq2_:=bc BK288.out 2
              go_quiet (first|(go_at_call 34;exact quiet_drawn (impl_isPitch.calls ((rd_T41 l0 x15_2).f0) true _ A8.out))|(go_at_call 35;exact quiet_drawn (impl_isCents.calls ((rd_T41 l0 x15_2).f1) true _ A10.out)))
              try go_wp2
              go_roundg k2
              case measure=>have:=HJ1.out;have:=HK2.out;omega
              case rel=>exact⟨(wrap64 (x15_2+1)),fin2,H',⟨by have:=HJ1.out;have:=HK2.out;omega⟩,⟨bl⟩⟩
            ·have c22b0:decide (4≤x15_2)=false:=decide_eq_false c22
             clear c22
             have H':=am H
             clear H
             have p287:0≤(x15_2:Int):=od
             have q287:x15_2<(l0.length:Int):=od
             obtain⟨ad287,e287,hx287_0,hx287_1,hx287_2⟩:=at_T41 HR0.out x15_2 p287 q287
             cases e287
             replace hx287_0:=(HB.out.cell (World.block_lt_of_cell? w _ hx287_0)).trans hx287_0
             replace hx287_1:=(HB.out.cell (World.block_lt_of_cell? w _ hx287_1)).trans hx287_1
             replace hx287_2:=(HB.out.cell (World.block_lt_of_cell? w _ hx287_2)).trans hx287_2
             replace p287:=eq_true p287
             replace q287:=eq_true q287
             try go_wp2_with (first|((with_reducible refine gate_dst (N:=4) rfl ?_);(try(refine gate_guard (by rfl) ?_;dsimp only));refine box_event ?hg (N:=4) ?hd (cs := #[.int .i64 0,.int .i64 0,.int .i64 0]) (t:=41) ?hr ?_;(case hd=>rfl);(case hg=>rfl);(case hr=>first|(go_simp;done)|(go_simp;rfl));intro gb288 hg w35 hbox hb;have BK288:=am (hbox);have GW288:=am (ge_ bl hg);have GE288:=am (ge_ bl hg);replace HB:=am (below_step bl hb);clear hb hbox hg;have hcz36_0:=bc BK288.out 0;have hcz36_1:=bc BK288.out 1;have hcz36_2:=bc BK288.out 2;have hfz36_0:=blk_frozen BK288.out 0;have hfz36_1:=blk_frozen BK288.out 1;have hfz36_2:=blk_frozen BK288.out 2))
             have n0_:Aside0 ((((w35.setCell ⟨gb288,0,none⟩ (.int .i64 ((rd_T41 l0 x15_2).f0))).setCell ⟨gb288,1,none⟩ (.int .i64 ((rd_T41 l0 x15_2).f1))).setCell ⟨gb288,2,none⟩ (.int .i64 ((rd_T41 l0 x15_2).f2))).heap[gb288]?=some (.cells #[.int .i64 ((rd_T41 l0 x15_2).f0),.int .i64 ((rd_T41 l0 x15_2).f1),.int .i64 ((rd_T41 l0 x15_2).f2)] 41 (0,0))):=⟨by(with_reducible repeat(first|refine bN_ ?_ _|refine bD_ ?_|refine bA_ ?_ _));refine blk_put (cs := #[.int .i64 ((rd_T41 l0 x15_2).f0),.int .i64 ((rd_T41 l0 x15_2).f1),.int .i64 0]) ?_ 2 _ rfl;(with_reducible repeat(first|refine bN_ ?_ _|refine bD_ ?_|refine bA_ ?_ _));refine blk_put (cs := #[.int .i64 ((rd_T41 l0 x15_2).f0),.int .i64 0,.int .i64 0]) ?_ 1 _ rfl;(with_reducible repeat(first|refine bN_ ?_ _|refine bD_ ?_|refine bA_ ?_ _));refine blk_put (cs := #[.int .i64 0,.int .i64 0,.int .i64 0]) ?_ 0 _ rfl;exact bup BK288.out⟩
             have n1_:Aside0 (Below w.heap.size w (((w35.setCell ⟨gb288,0,none⟩ (.int .i64 ((rd_T41 l0 x15_2).f0))).setCell ⟨gb288,1,none⟩ (.int .i64 ((rd_T41 l0 x15_2).f1))).setCell ⟨gb288,2,none⟩ (.int .i64 ((rd_T41 l0 x15_2).f2)))):=⟨bl⟩
             (try clear BK288)
             (try clear HB)
             generalize (((w35.setCell ⟨gb288,0,none⟩ (.int .i64 ((rd_T41 l0 x15_2).f0))).setCell ⟨gb288,1,none⟩ (.int .i64 ((rd_T41 l0 x15_2).f1))).setCell ⟨gb288,2,none⟩ (.int .i64 ((rd_T41 l0 x15_2).f2)))=w37 at n0_ n1_ ⊢
             have BK288:=n0_
             have HB:=n1_
             clear n0_ n1_
             have p291:0≤((ji14):Int):=od
             have q291:(ji14)<(l0.length:Int):=od
             obtain⟨ad291,e291,hx291_0,hx291_1,hx291_2⟩:=at_T41 HR0.out (ji14) p291 q291
             have hw291_2:=hx291_2
             have hw291_1:=hx291_1
             have hw291_0:=hx291_0
             obtain rfl:ad287=ad291:=(by injection e291)
             replace hx291_0:=(HB.out.cell (World.block_lt_of_cell? w _ hx291_0)).trans hx291_0
             replace hx291_1:=(HB.out.cell (World.block_lt_of_cell? w _ hx291_1)).trans hx291_1
             replace hx291_2:=(HB.out.cell (World.block_lt_of_cell? w _ hx291_2)).trans hx291_2
             replace p291:=eq_true p291
             replace q291:=eq_true q291
             have hq0_:=bc BK288.out 0
             have hq1_:=bc BK288.out 1
             have hq2_:=bc BK288.out 2
             go_quiet (first|(go_at_call 34;exact quiet_drawn (impl_isPitch.calls ((rd_T41 l0 x15_2).f0) true _ A8.out))|(go_at_call 35;exact quiet_drawn (impl_isCents.calls ((rd_T41 l0 x15_2).f1) true _ A10.out)))
             try go_wp2
             go_roundg k2
             case measure=>have:=HJ1.out;have:=HK2.out;omega
             case rel=>exact⟨(wrap64 (x15_2+1)),fin2,H',⟨by have:=HJ1.out;have:=HK2.out;omega⟩,⟨bl⟩⟩
          ·have c13b0:decide (0<x15_2)=false:=decide_eq_false c13
           clear c13
           rcases itc H with⟨c39,H⟩|⟨c39,H⟩
           ·have c39b0:decide (4≤x15_2)=true:=decide_eq_true c39
            clear c39
            obtain⟨ji40,hji40⟩:∃ j_:Int,(wrap64 (x15_2 - 4))=j_:=⟨_,rfl⟩
            replace H:(if 0≤(ji40) then(if(ji40)<(l0.length:Int) then(if((rd_T41 l0 x15_2).f0)=((rd_T41 l0 (ji40)).f0) then(some false) else(impl_IsComb.l0 k2 l0 l0 (l0.length:Int) (wrap64 (x15_2+1)))) else(none)) else(none))=some r:=by first|(rw[hji40] at H;exact H)|(simp only[hji40] at H ⊢;exact H)
            (try rw[hji40] at A8)
            (try rw[hji40] at A10)
            have hji40w:(IntKind.i64.wrap (x15_2 - 4))=ji40:=(i64_w _).trans hji40
            obtain⟨c41b0,H⟩:=ifb H
            obtain⟨c42b0,H⟩:=ifb H
            rcases itc H with⟨c43,H⟩|⟨c43,H⟩
            ·have c43b0:(((rd_T41 l0 x15_2).f0) == ((rd_T41 l0 (ji40)).f0))=true:=beq_iff_eq.mpr c43
             have c43b1:(((rd_T41 l0 x15_2).f0) != ((rd_T41 l0 (ji40)).f0))=false:=bne_eq_false_iff_eq.mpr c43
             clear c43
             obtain rfl:=Option.some.inj H
             have p287:0≤(x15_2:Int):=od
             have q287:x15_2<(l0.length:Int):=od
             obtain⟨ad287,e287,hx287_0,hx287_1,hx287_2⟩:=at_T41 HR0.out x15_2 p287 q287
             cases e287
             replace hx287_0:=(HB.out.cell (World.block_lt_of_cell? w _ hx287_0)).trans hx287_0
             replace hx287_1:=(HB.out.cell (World.block_lt_of_cell? w _ hx287_1)).trans hx287_1
             replace hx287_2:=(HB.out.cell (World.block_lt_of_cell? w _ hx287_2)).trans hx287_2
             replace p287:=eq_true p287
             replace q287:=eq_true q287
             try go_wp2_with (first|((with_reducible refine gate_dst (N:=4) rfl ?_);(try(refine gate_guard (by rfl) ?_;dsimp only));refine box_event ?hg (N:=4) ?hd (cs := #[.int .i64 0,.int .i64 0,.int .i64 0]) (t:=41) ?hr ?_;(case hd=>rfl);(case hg=>rfl);(case hr=>first|(go_simp;done)|(go_simp;rfl));intro gb288 hg w44 hbox hb;have BK288:=am (hbox);have GW288:=am (ge_ bl hg);have GE288:=am (ge_ bl hg);replace HB:=am (below_step bl hb);clear hb hbox hg;have hcz45_0:=bc BK288.out 0;have hcz45_1:=bc BK288.out 1;have hcz45_2:=bc BK288.out 2;have hfz45_0:=blk_frozen BK288.out 0;have hfz45_1:=blk_frozen BK288.out 1;have hfz45_2:=blk_frozen BK288.out 2))
             have n0_:Aside0 ((((w44.setCell ⟨gb288,0,none⟩ (.int .i64 ((rd_T41 l0 x15_2).f0))).setCell ⟨gb288,1,none⟩ (.int .i64 ((rd_T41 l0 x15_2).f1))).setCell ⟨gb288,2,none⟩ (.int .i64 ((rd_T41 l0 x15_2).f2))).heap[gb288]?=some (.cells #[.int .i64 ((rd_T41 l0 x15_2).f0),.int .i64 ((rd_T41 l0 x15_2).f1),.int .i64 ((rd_T41 l0 x15_2).f2)] 41 (0,0))):=⟨by(with_reducible repeat(first|refine bN_ ?_ _|refine bD_ ?_|refine bA_ ?_ _));refine blk_put (cs := #[.int .i64 ((rd_T41 l0 x15_2).f0),.int .i64 ((rd_T41 l0 x15_2).f1),.int .i64 0]) ?_ 2 _ rfl;(with_reducible repeat(first|refine bN_ ?_ _|refine bD_ ?_|refine bA_ ?_ _));refine blk_put (cs := #[.int .i64 ((rd_T41 l0 x15_2).f0),.int .i64 0,.int .i64 0]) ?_ 1 _ rfl;(with_reducible repeat(first|refine bN_ ?_ _|refine bD_ ?_|refine bA_ ?_ _));refine blk_put (cs := #[.int .i64 0,.int .i64 0,.int .i64 0]) ?_ 0 _ rfl;exact bup BK288.out⟩
             have n1_:Aside0 (Below w.heap.size w (((w44.setCell ⟨gb288,0,none⟩ (.int .i64 ((rd_T41 l0 x15_2).f0))).setCell ⟨gb288,1,none⟩ (.int .i64 ((rd_T41 l0 x15_2).f1))).setCell ⟨gb288,2,none⟩ (.int .i64 ((rd_T41 l0 x15_2).f2)))):=⟨bl⟩
             (try clear BK288)
             (try clear HB)
             generalize (((w44.setCell ⟨gb288,0,none⟩ (.int .i64 ((rd_T41 l0 x15_2).f0))).setCell ⟨gb288,1,none⟩ (.int .i64 ((rd_T41 l0 x15_2).f1))).setCell ⟨gb288,2,none⟩ (.int .i64 ((rd_T41 l0 x15_2).f2)))=w46 at n0_ n1_ ⊢
             have BK288:=n0_
             have HB:=n1_
             clear n0_ n1_
             have p293:0≤((ji40):Int):=od
             have q293:(ji40)<(l0.length:Int):=od
             obtain⟨ad293,e293,hx293_0,hx293_1,hx293_2⟩:=at_T41 HR0.out (ji40) p293 q293
             have hw293_2:=hx293_2
             have hw293_1:=hx293_1
             have hw293_0:=hx293_0
             obtain rfl:ad287=ad293:=(by injection e293)
             replace hx293_0:=(HB.out.cell (World.block_lt_of_cell? w _ hx293_0)).trans hx293_0
             replace hx293_1:=(HB.out.cell (World.block_lt_of_cell? w _ hx293_1)).trans hx293_1
             replace hx293_2:=(HB.out.cell (World.block_lt_of_cell? w _ hx293_2)).trans hx293_2
             replace p293:=eq_true p293
             replace q293:=eq_true q293
             have hq0_:=bc BK288.out 0
             have hq1_:=bc BK288.out 1
             have hq2_:=bc BK288.out 2
             go_quiet (first|(go_at_call 34;exact quiet_drawn (impl_isPitch.calls ((rd_T41 l0 x15_2).f0) true _ A8.out))|(go_at_call 35;exact quiet_drawn (impl_isCents.calls ((rd_T41 l0 x15_2).f1) true _ A10.out)))
             try go_wp2
             go_ret
             exact⟨by first|rfl|(simp [errW_none,errW_some]<;>rfl)|(simp only[← hji40];first|rfl|(simp [errW_none,errW_some]<;>rfl))|(simp [*,errW_none,errW_some]<;>rfl),bl⟩
            ·have c43b0:(((rd_T41 l0 x15_2).f0) == ((rd_T41 l0 (ji40)).f0))=false:=beq_eq_false_iff_ne.mpr c43
             have c43b1:(((rd_T41 l0 x15_2).f0) != ((rd_T41 l0 (ji40)).f0))=true:=bne_iff_ne.mpr c43
             have H':=am H
             clear H
             have p287:0≤(x15_2:Int):=od
             have q287:x15_2<(l0.length:Int):=od
             obtain⟨ad287,e287,hx287_0,hx287_1,hx287_2⟩:=at_T41 HR0.out x15_2 p287 q287
             cases e287
             replace hx287_0:=(HB.out.cell (World.block_lt_of_cell? w _ hx287_0)).trans hx287_0
             replace hx287_1:=(HB.out.cell (World.block_lt_of_cell? w _ hx287_1)).trans hx287_1
             replace hx287_2:=(HB.out.cell (World.block_lt_of_cell? w _ hx287_2)).trans hx287_2
             replace p287:=eq_true p287
             replace q287:=eq_true q287
             try go_wp2_with (first|((with_reducible refine gate_dst (N:=4) rfl ?_);(try(refine gate_guard (by rfl) ?_;dsimp only));refine box_event ?hg (N:=4) ?hd (cs := #[.int .i64 0,.int .i64 0,.int .i64 0]) (t:=41) ?hr ?_;(case hd=>rfl);(case hg=>rfl);(case hr=>first|(go_simp;done)|(go_simp;rfl));intro gb288 hg w48 hbox hb;have BK288:=am (hbox);have GW288:=am (ge_ bl hg);have GE288:=am (ge_ bl hg);replace HB:=am (below_step bl hb);clear hb hbox hg;have hcz49_0:=bc BK288.out 0;have hcz49_1:=bc BK288.out 1;have hcz49_2:=bc BK288.out 2;have hfz49_0:=blk_frozen BK288.out 0;have hfz49_1:=blk_frozen BK288.out 1;have hfz49_2:=blk_frozen BK288.out 2))
             have n0_:Aside0 ((((w48.setCell ⟨gb288,0,none⟩ (.int .i64 ((rd_T41 l0 x15_2).f0))).setCell ⟨gb288,1,none⟩ (.int .i64 ((rd_T41 l0 x15_2).f1))).setCell ⟨gb288,2,none⟩ (.int .i64 ((rd_T41 l0 x15_2).f2))).heap[gb288]?=some (.cells #[.int .i64 ((rd_T41 l0 x15_2).f0),.int .i64 ((rd_T41 l0 x15_2).f1),.int .i64 ((rd_T41 l0 x15_2).f2)] 41 (0,0))):=⟨by(with_reducible repeat(first|refine bN_ ?_ _|refine bD_ ?_|refine bA_ ?_ _));refine blk_put (cs := #[.int .i64 ((rd_T41 l0 x15_2).f0),.int .i64 ((rd_T41 l0 x15_2).f1),.int .i64 0]) ?_ 2 _ rfl;(with_reducible repeat(first|refine bN_ ?_ _|refine bD_ ?_|refine bA_ ?_ _));refine blk_put (cs := #[.int .i64 ((rd_T41 l0 x15_2).f0),.int .i64 0,.int .i64 0]) ?_ 1 _ rfl;(with_reducible repeat(first|refine bN_ ?_ _|refine bD_ ?_|refine bA_ ?_ _));refine blk_put (cs := #[.int .i64 0,.int .i64 0,.int .i64 0]) ?_ 0 _ rfl;exact bup BK288.out⟩
             have n1_:Aside0 (Below w.heap.size w (((w48.setCell ⟨gb288,0,none⟩ (.int .i64 ((rd_T41 l0 x15_2).f0))).setCell ⟨gb288,1,none⟩ (.int .i64 ((rd_T41 l0 x15_2).f1))).setCell ⟨gb288,2,none⟩ (.int .i64 ((rd_T41 l0 x15_2).f2)))):=⟨bl⟩
             (try clear BK288)
             (try clear HB)
             generalize (((w48.setCell ⟨gb288,0,none⟩ (.int .i64 ((rd_T41 l0 x15_2).f0))).setCell ⟨gb288,1,none⟩ (.int .i64 ((rd_T41 l0 x15_2).f1))).setCell ⟨gb288,2,none⟩ (.int .i64 ((rd_T41 l0 x15_2).f2)))=w50 at n0_ n1_ ⊢
             have BK288:=n0_
             have HB:=n1_
             clear n0_ n1_
             have p293:0≤((ji40):Int):=od
             have q293:(ji40)<(l0.length:Int):=od
             obtain⟨ad293,e293,hx293_0,hx293_1,hx293_2⟩:=at_T41 HR0.out (ji40) p293 q293
             have hw293_2:=hx293_2
             have hw293_1:=hx293_1
             have hw293_0:=hx293_0
             obtain rfl:ad287=ad293:=(by injection e293)
             replace hx293_0:=(HB.out.cell (World.block_lt_of_cell? w _ hx293_0)).trans hx293_0
             replace hx293_1:=(HB.out.cell (World.block_lt_of_cell? w _ hx293_1)).trans hx293_1
             replace hx293_2:=(HB.out.cell (World.block_lt_of_cell? w _ hx293_2)).trans hx293_2
             replace p293:=eq_true p293
             replace q293:=eq_true q293
             have hq0_:=bc BK288.out 0
             have hq1_:=bc BK288.out 1
             have hq2_:=bc BK288.out 2
             go_quiet (first|(go_at_call 34;exact quiet_drawn (impl_isPitch.calls ((rd_T41 l0 x15_2).f0) true _ A8.out))|(go_at_call 35;exact quiet_drawn (impl_isCents.calls ((rd_T41 l0 x15_2).f1) true _ A10.out)))
             try go_wp2
             go_roundg k2
             case measure=>have:=HJ1.out;have:=HK2.out;omega
             case rel=>exact⟨(wrap64 (x15_2+1)),fin2,H',⟨by have:=HJ1.out;have:=HK2.out;omega⟩,⟨bl⟩⟩
           ·have c39b0:decide (4≤x15_2)=false:=decide_eq_false c39
            clear c39
            have H':=am H
            clear H
            have p287:0≤(x15_2:Int):=od
            have q287:x15_2<(l0.length:Int):=od
            obtain⟨ad287,e287,hx287_0,hx287_1,hx287_2⟩:=at_T41 HR0.out x15_2 p287 q287
            cases e287
            replace hx287_0:=(HB.out.cell (World.block_lt_of_cell? w _ hx287_0)).trans hx287_0
            replace hx287_1:=(HB.out.cell (World.block_lt_of_cell? w _ hx287_1)).trans hx287_1
            replace hx287_2:=(HB.out.cell (World.block_lt_of_cell? w _ hx287_2)).trans hx287_2
            replace p287:=eq_true p287
            replace q287:=eq_true q287
            try go_wp2_with (first|((with_reducible refine gate_dst (N:=4) rfl ?_);(try(refine gate_guard (by rfl) ?_;dsimp only));refine box_event ?hg (N:=4) ?hd (cs := #[.int .i64 0,.int .i64 0,.int .i64 0]) (t:=41) ?hr ?_;(case hd=>rfl);(case hg=>rfl);(case hr=>first|(go_simp;done)|(go_simp;rfl));intro gb288 hg w52 hbox hb;have BK288:=am (hbox);have GW288:=am (ge_ bl hg);have GE288:=am (ge_ bl hg);replace HB:=am (below_step bl hb);clear hb hbox hg;have hcz53_0:=bc BK288.out 0;have hcz53_1:=bc BK288.out 1;have hcz53_2:=bc BK288.out 2;have hfz53_0:=blk_frozen BK288.out 0;have hfz53_1:=blk_frozen BK288.out 1;have hfz53_2:=blk_frozen BK288.out 2))
            have n0_:Aside0 ((((w52.setCell ⟨gb288,0,none⟩ (.int .i64 ((rd_T41 l0 x15_2).f0))).setCell ⟨gb288,1,none⟩ (.int .i64 ((rd_T41 l0 x15_2).f1))).setCell ⟨gb288,2,none⟩ (.int .i64 ((rd_T41 l0 x15_2).f2))).heap[gb288]?=some (.cells #[.int .i64 ((rd_T41 l0 x15_2).f0),.int .i64 ((rd_T41 l0 x15_2).f1),.int .i64 ((rd_T41 l0 x15_2).f2)] 41 (0,0))):=⟨by(with_reducible repeat(first|refine bN_ ?_ _|refine bD_ ?_|refine bA_ ?_ _));refine blk_put (cs := #[.int .i64 ((rd_T41 l0 x15_2).f0),.int .i64 ((rd_T41 l0 x15_2).f1),.int .i64 0]) ?_ 2 _ rfl;(with_reducible repeat(first|refine bN_ ?_ _|refine bD_ ?_|refine bA_ ?_ _));refine blk_put (cs := #[.int .i64 ((rd_T41 l0 x15_2).f0),.int .i64 0,.int .i64 0]) ?_ 1 _ rfl;(with_reducible repeat(first|refine bN_ ?_ _|refine bD_ ?_|refine bA_ ?_ _));refine blk_put (cs := #[.int .i64 0,.int .i64 0,.int .i64 0]) ?_ 0 _ rfl;exact bup BK288.out⟩
            have n1_:Aside0 (Below w.heap.size w (((w52.setCell ⟨gb288,0,none⟩ (.int .i64 ((rd_T41 l0 x15_2).f0))).setCell ⟨gb288,1,none⟩ (.int .i64 ((rd_T41 l0 x15_2).f1))).setCell ⟨gb288,2,none⟩ (.int .i64 ((rd_T41 l0 x15_2).f2)))):=⟨bl⟩
            (try clear BK288)
            (try clear HB)
            generalize (((w52.setCell ⟨gb288,0,none⟩ (.int .i64 ((rd_T41 l0 x15_2).f0))).setCell ⟨gb288,1,none⟩ (.int .i64 ((rd_T41 l0 x15_2).f1))).setCell ⟨gb288,2,none⟩ (.int .i64 ((rd_T41 l0 x15_2).f2)))=w54 at n0_ n1_ ⊢
            have BK288:=n0_
            have HB:=n1_
            clear n0_ n1_
            have hq0_:=bc BK288.out 0
            have hq1_:=bc BK288.out 1
            have hq2_:=bc BK288.out 2
            go_quiet (first|(go_at_call 34;exact quiet_drawn (impl_isPitch.calls ((rd_T41 l0 x15_2).f0) true _ A8.out))|(go_at_call 35;exact quiet_drawn (impl_isCents.calls ((rd_T41 l0 x15_2).f1) true _ A10.out)))
            try go_wp2
            go_roundg k2
            case measure=>have:=HJ1.out;have:=HK2.out;omega
            case rel=>exact⟨(wrap64 (x15_2+1)),fin2,H',⟨by have:=HJ1.out;have:=HK2.out;omega⟩,⟨bl⟩⟩
         ·have c12b0:(((rd_T41 l0 x15_2).f2) == 0)=false:=beq_eq_false_iff_ne.mpr c12
          have c12b1:(((rd_T41 l0 x15_2).f2) != 0)=true:=bne_iff_ne.mpr c12
          rcases itc H with⟨c56,H⟩|⟨c56,H⟩
          ·have c56b0:(((rd_T41 l0 x15_2).f2) == 1)=true:=beq_iff_eq.mpr c56
           have c56b1:(((rd_T41 l0 x15_2).f2) != 1)=false:=bne_eq_false_iff_eq.mpr c56
           clear c56
           rcases itc H with⟨c57,H⟩|⟨c57,H⟩
           ·have c57b0:decide (0<x15_2)=true:=decide_eq_true c57
            clear c57
            obtain⟨ji58,hji58⟩:∃ j_:Int,(wrap64 (x15_2 - 1))=j_:=⟨_,rfl⟩
            replace H:(if 0≤(ji58) then(if(ji58)<(l0.length:Int) then(if((rd_T41 l0 x15_2).f0)<((rd_T41 l0 (ji58)).f0) then(some false) else(if x15_2≥4 then(if 0≤(wrap64 (x15_2 - 4)) then(if(wrap64 (x15_2 - 4))<(l0.length:Int) then(if((rd_T41 l0 x15_2).f0)=((rd_T41 l0 (wrap64 (x15_2 - 4))).f0) then(some false) else(impl_IsComb.l0 k2 l0 l0 (l0.length:Int) (wrap64 (x15_2+1)))) else(none)) else(none)) else(impl_IsComb.l0 k2 l0 l0 (l0.length:Int) (wrap64 (x15_2+1))))) else(none)) else(none))=some r:=by first|(rw[hji58] at H;exact H)|(simp only[hji58] at H ⊢;exact H)
            (try rw[hji58] at A8)
            (try rw[hji58] at A10)
            have hji58w:(IntKind.i64.wrap (x15_2 - 1))=ji58:=(i64_w _).trans hji58
            obtain⟨c59b0,H⟩:=ifb H
            obtain⟨c60b0,H⟩:=ifb H
            rcases itc H with⟨c61,H⟩|⟨c61,H⟩
            ·have c61b0:=decide_eq_true c61
             clear c61
             obtain rfl:=Option.some.inj H
             have p287:0≤(x15_2:Int):=od
             have q287:x15_2<(l0.length:Int):=od
             obtain⟨ad287,e287,hx287_0,hx287_1,hx287_2⟩:=at_T41 HR0.out x15_2 p287 q287
             cases e287
             replace hx287_0:=(HB.out.cell (World.block_lt_of_cell? w _ hx287_0)).trans hx287_0
             replace hx287_1:=(HB.out.cell (World.block_lt_of_cell? w _ hx287_1)).trans hx287_1
             replace hx287_2:=(HB.out.cell (World.block_lt_of_cell? w _ hx287_2)).trans hx287_2
             replace p287:=eq_true p287
             replace q287:=eq_true q287
             try go_wp2_with (first|((with_reducible refine gate_dst (N:=4) rfl ?_);(try(refine gate_guard (by rfl) ?_;dsimp only));refine box_event ?hg (N:=4) ?hd (cs := #[.int .i64 0,.int .i64 0,.int .i64 0]) (t:=41) ?hr ?_;(case hd=>rfl);(case hg=>rfl);(case hr=>first|(go_simp;done)|(go_simp;rfl));intro gb288 hg w62 hbox hb;have BK288:=am (hbox);have GW288:=am (ge_ bl hg);have GE288:=am (ge_ bl hg);replace HB:=am (below_step bl hb);clear hb hbox hg;have hcz63_0:=bc BK288.out 0;have hcz63_1:=bc BK288.out 1;have hcz63_2:=bc BK288.out 2;have hfz63_0:=blk_frozen BK288.out 0;have hfz63_1:=blk_frozen BK288.out 1;have hfz63_2:=blk_frozen BK288.out 2))
             have n0_:Aside0 ((((w62.setCell ⟨gb288,0,none⟩ (.int .i64 ((rd_T41 l0 x15_2).f0))).setCell ⟨gb288,1,none⟩ (.int .i64 ((rd_T41 l0 x15_2).f1))).setCell ⟨gb288,2,none⟩ (.int .i64 ((rd_T41 l0 x15_2).f2))).heap[gb288]?=some (.cells #[.int .i64 ((rd_T41 l0 x15_2).f0),.int .i64 ((rd_T41 l0 x15_2).f1),.int .i64 ((rd_T41 l0 x15_2).f2)] 41 (0,0))):=⟨by(with_reducible repeat(first|refine bN_ ?_ _|refine bD_ ?_|refine bA_ ?_ _));refine blk_put (cs := #[.int .i64 ((rd_T41 l0 x15_2).f0),.int .i64 ((rd_T41 l0 x15_2).f1),.int .i64 0]) ?_ 2 _ rfl;(with_reducible repeat(first|refine bN_ ?_ _|refine bD_ ?_|refine bA_ ?_ _));refine blk_put (cs := #[.int .i64 ((rd_T41 l0 x15_2).f0),.int .i64 0,.int .i64 0]) ?_ 1 _ rfl;(with_reducible repeat(first|refine bN_ ?_ _|refine bD_ ?_|refine bA_ ?_ _));refine blk_put (cs := #[.int .i64 0,.int .i64 0,.int .i64 0]) ?_ 0 _ rfl;exact bup BK288.out⟩
             have n1_:Aside0 (Below w.heap.size w (((w62.setCell ⟨gb288,0,none⟩ (.int .i64 ((rd_T41 l0 x15_2).f0))).setCell ⟨gb288,1,none⟩ (.int .i64 ((rd_T41 l0 x15_2).f1))).setCell ⟨gb288,2,none⟩ (.int .i64 ((rd_T41 l0 x15_2).f2)))):=⟨bl⟩
             (try clear BK288)
             (try clear HB)
             generalize (((w62.setCell ⟨gb288,0,none⟩ (.int .i64 ((rd_T41 l0 x15_2).f0))).setCell ⟨gb288,1,none⟩ (.int .i64 ((rd_T41 l0 x15_2).f1))).setCell ⟨gb288,2,none⟩ (.int .i64 ((rd_T41 l0 x15_2).f2)))=w64 at n0_ n1_ ⊢
             have BK288:=n0_
             have HB:=n1_
             clear n0_ n1_
             have p294:0≤((ji58):Int):=od
             have q294:(ji58)<(l0.length:Int):=od
             obtain⟨ad294,e294,hx294_0,hx294_1,hx294_2⟩:=at_T41 HR0.out (ji58) p294 q294
             have hw294_2:=hx294_2
             have hw294_1:=hx294_1
             have hw294_0:=hx294_0
             obtain rfl:ad287=ad294:=(by injection e294)
             replace hx294_0:=(HB.out.cell (World.block_lt_of_cell? w _ hx294_0)).trans hx294_0
             replace hx294_1:=(HB.out.cell (World.block_lt_of_cell? w _ hx294_1)).trans hx294_1
             replace hx294_2:=(HB.out.cell (World.block_lt_of_cell? w _ hx294_2)).trans hx294_2
             replace p294:=eq_true p294
             replace q294:=eq_true q294
             have hq0_:=bc BK288.out 0
             have hq1_:=bc BK288.out 1
             have hq2_:=bc BK288.out 2
             go_quiet (first|(go_at_call 34;exact quiet_drawn (impl_isPitch.calls ((rd_T41 l0 x15_2).f0) true _ A8.out))|(go_at_call 35;exact quiet_drawn (impl_isCents.calls ((rd_T41 l0 x15_2).f1) true _ A10.out)))
             try go_wp2
             go_ret
             exact⟨by first|rfl|(simp [errW_none,errW_some]<;>rfl)|(simp only[← hji58];first|rfl|(simp [errW_none,errW_some]<;>rfl))|(simp [*,errW_none,errW_some]<;>rfl),bl⟩
            ·have c61b0:=decide_eq_false c61
             clear c61
             rcases itc H with⟨c66,H⟩|⟨c66,H⟩
             ·have c66b0:decide (4≤x15_2)=true:=decide_eq_true c66
              clear c66
              obtain⟨ji67,hji67⟩:∃ j_:Int,(wrap64 (x15_2 - 4))=j_:=⟨_,rfl⟩
              replace H:(if 0≤(ji67) then(if(ji67)<(l0.length:Int) then(if((rd_T41 l0 x15_2).f0)=((rd_T41 l0 (ji67)).f0) then(some false) else(impl_IsComb.l0 k2 l0 l0 (l0.length:Int) (wrap64 (x15_2+1)))) else(none)) else(none))=some r:=by first|(rw[hji67] at H;exact H)|(simp only[hji67] at H ⊢;exact H)
              (try rw[hji67] at A8)
              (try rw[hji67] at A10)
              have hji67w:(IntKind.i64.wrap (x15_2 - 4))=ji67:=(i64_w _).trans hji67
              obtain⟨c68b0,H⟩:=ifb H
              obtain⟨c69b0,H⟩:=ifb H
              rcases itc H with⟨c70,H⟩|⟨c70,H⟩
              ·have c70b0:(((rd_T41 l0 x15_2).f0) == ((rd_T41 l0 (ji67)).f0))=true:=beq_iff_eq.mpr c70
               have c70b1:(((rd_T41 l0 x15_2).f0) != ((rd_T41 l0 (ji67)).f0))=false:=bne_eq_false_iff_eq.mpr c70
               clear c70
               obtain rfl:=Option.some.inj H
               have p287:0≤(x15_2:Int):=od
               have q287:x15_2<(l0.length:Int):=od
               obtain⟨ad287,e287,hx287_0,hx287_1,hx287_2⟩:=at_T41 HR0.out x15_2 p287 q287
               cases e287
               replace hx287_0:=(HB.out.cell (World.block_lt_of_cell? w _ hx287_0)).trans hx287_0
               replace hx287_1:=(HB.out.cell (World.block_lt_of_cell? w _ hx287_1)).trans hx287_1
               replace hx287_2:=(HB.out.cell (World.block_lt_of_cell? w _ hx287_2)).trans hx287_2
               replace p287:=eq_true p287
               replace q287:=eq_true q287
               try go_wp2_with (first|((with_reducible refine gate_dst (N:=4) rfl ?_);(try(refine gate_guard (by rfl) ?_;dsimp only));refine box_event ?hg (N:=4) ?hd (cs := #[.int .i64 0,.int .i64 0,.int .i64 0]) (t:=41) ?hr ?_;(case hd=>rfl);(case hg=>rfl);(case hr=>first|(go_simp;done)|(go_simp;rfl));intro gb288 hg w71 hbox hb;have BK288:=am (hbox);have GW288:=am (ge_ bl hg);have GE288:=am (ge_ bl hg);replace HB:=am (below_step bl hb);clear hb hbox hg;have hcz72_0:=bc BK288.out 0;have hcz72_1:=bc BK288.out 1;have hcz72_2:=bc BK288.out 2;have hfz72_0:=blk_frozen BK288.out 0;have hfz72_1:=blk_frozen BK288.out 1;have hfz72_2:=blk_frozen BK288.out 2))
               have n0_:Aside0 ((((w71.setCell ⟨gb288,0,none⟩ (.int .i64 ((rd_T41 l0 x15_2).f0))).setCell ⟨gb288,1,none⟩ (.int .i64 ((rd_T41 l0 x15_2).f1))).setCell ⟨gb288,2,none⟩ (.int .i64 ((rd_T41 l0 x15_2).f2))).heap[gb288]?=some (.cells #[.int .i64 ((rd_T41 l0 x15_2).f0),.int .i64 ((rd_T41 l0 x15_2).f1),.int .i64 ((rd_T41 l0 x15_2).f2)] 41 (0,0))):=⟨by(with_reducible repeat(first|refine bN_ ?_ _|refine bD_ ?_|refine bA_ ?_ _));refine blk_put (cs := #[.int .i64 ((rd_T41 l0 x15_2).f0),.int .i64 ((rd_T41 l0 x15_2).f1),.int .i64 0]) ?_ 2 _ rfl;(with_reducible repeat(first|refine bN_ ?_ _|refine bD_ ?_|refine bA_ ?_ _));refine blk_put (cs := #[.int .i64 ((rd_T41 l0 x15_2).f0),.int .i64 0,.int .i64 0]) ?_ 1 _ rfl;(with_reducible repeat(first|refine bN_ ?_ _|refine bD_ ?_|refine bA_ ?_ _));refine blk_put (cs := #[.int .i64 0,.int .i64 0,.int .i64 0]) ?_ 0 _ rfl;exact bup BK288.out⟩
               have n1_:Aside0 (Below w.heap.size w (((w71.setCell ⟨gb288,0,none⟩ (.int .i64 ((rd_T41 l0 x15_2).f0))).setCell ⟨gb288,1,none⟩ (.int .i64 ((rd_T41 l0 x15_2).f1))).setCell ⟨gb288,2,none⟩ (.int .i64 ((rd_T41 l0 x15_2).f2)))):=⟨bl⟩
               (try clear BK288)
               (try clear HB)
               generalize (((w71.setCell ⟨gb288,0,none⟩ (.int .i64 ((rd_T41 l0 x15_2).f0))).setCell ⟨gb288,1,none⟩ (.int .i64 ((rd_T41 l0 x15_2).f1))).setCell ⟨gb288,2,none⟩ (.int .i64 ((rd_T41 l0 x15_2).f2)))=w73 at n0_ n1_ ⊢
               have BK288:=n0_
               have HB:=n1_
               clear n0_ n1_
               have p294:0≤((ji58):Int):=od
               have q294:(ji58)<(l0.length:Int):=od
               obtain⟨ad294,e294,hx294_0,hx294_1,hx294_2⟩:=at_T41 HR0.out (ji58) p294 q294
               have hw294_2:=hx294_2
               have hw294_1:=hx294_1
               have hw294_0:=hx294_0
               obtain rfl:ad287=ad294:=(by injection e294)
               replace hx294_0:=(HB.out.cell (World.block_lt_of_cell? w _ hx294_0)).trans hx294_0
               replace hx294_1:=(HB.out.cell (World.block_lt_of_cell? w _ hx294_1)).trans hx294_1
               replace hx294_2:=(HB.out.cell (World.block_lt_of_cell? w _ hx294_2)).trans hx294_2
               replace p294:=eq_true p294
               replace q294:=eq_true q294
               have p295:0≤((ji67):Int):=od
               have q295:(ji67)<(l0.length:Int):=od
               obtain⟨ad295,e295,hx295_0,hx295_1,hx295_2⟩:=at_T41 HR0.out (ji67) p295 q295
               have hw295_2:=hx295_2
               have hw295_1:=hx295_1
               have hw295_0:=hx295_0
               obtain rfl:ad287=ad295:=(by injection e295)
               replace hx295_0:=(HB.out.cell (World.block_lt_of_cell? w _ hx295_0)).trans hx295_0
               replace hx295_1:=(HB.out.cell (World.block_lt_of_cell? w _ hx295_1)).trans hx295_1
               replace hx295_2:=(HB.out.cell (World.block_lt_of_cell? w _ hx295_2)).trans hx295_2
               replace p295:=eq_true p295
               replace q295:=eq_true q295
               have hq0_:=bc BK288.out 0
               have hq1_:=bc BK288.out 1
               have hq2_:=bc BK288.out 2
               go_quiet (first|(go_at_call 34;exact quiet_drawn (impl_isPitch.calls ((rd_T41 l0 x15_2).f0) true _ A8.out))|(go_at_call 35;exact quiet_drawn (impl_isCents.calls ((rd_T41 l0 x15_2).f1) true _ A10.out)))
               try go_wp2
               go_ret
               exact⟨by first|rfl|(simp [errW_none,errW_some]<;>rfl)|(simp only[← hji58,← hji67];first|rfl|(simp [errW_none,errW_some]<;>rfl))|(simp [*,errW_none,errW_some]<;>rfl),bl⟩
              ·have c70b0:(((rd_T41 l0 x15_2).f0) == ((rd_T41 l0 (ji67)).f0))=false:=beq_eq_false_iff_ne.mpr c70
               have c70b1:(((rd_T41 l0 x15_2).f0) != ((rd_T41 l0 (ji67)).f0))=true:=bne_iff_ne.mpr c70
               have H':=am H
               clear H
               have p287:0≤(x15_2:Int):=od
               have q287:x15_2<(l0.length:Int):=od
               obtain⟨ad287,e287,hx287_0,hx287_1,hx287_2⟩:=at_T41 HR0.out x15_2 p287 q287
               cases e287
               replace hx287_0:=(HB.out.cell (World.block_lt_of_cell? w _ hx287_0)).trans hx287_0
               replace hx287_1:=(HB.out.cell (World.block_lt_of_cell? w _ hx287_1)).trans hx287_1
               replace hx287_2:=(HB.out.cell (World.block_lt_of_cell? w _ hx287_2)).trans hx287_2
               replace p287:=eq_true p287
               replace q287:=eq_true q287
               try go_wp2_with (first|((with_reducible refine gate_dst (N:=4) rfl ?_);(try(refine gate_guard (by rfl) ?_;dsimp only));refine box_event ?hg (N:=4) ?hd (cs := #[.int .i64 0,.int .i64 0,.int .i64 0]) (t:=41) ?hr ?_;(case hd=>rfl);(case hg=>rfl);(case hr=>first|(go_simp;done)|(go_simp;rfl));intro gb288 hg w75 hbox hb;have BK288:=am (hbox);have GW288:=am (ge_ bl hg);have GE288:=am (ge_ bl hg);replace HB:=am (below_step bl hb);clear hb hbox hg;have hcz76_0:=bc BK288.out 0;have hcz76_1:=bc BK288.out 1;have hcz76_2:=bc BK288.out 2;have hfz76_0:=blk_frozen BK288.out 0;have hfz76_1:=blk_frozen BK288.out 1;have hfz76_2:=blk_frozen BK288.out 2))
               have n0_:Aside0 ((((w75.setCell ⟨gb288,0,none⟩ (.int .i64 ((rd_T41 l0 x15_2).f0))).setCell ⟨gb288,1,none⟩ (.int .i64 ((rd_T41 l0 x15_2).f1))).setCell ⟨gb288,2,none⟩ (.int .i64 ((rd_T41 l0 x15_2).f2))).heap[gb288]?=some (.cells #[.int .i64 ((rd_T41 l0 x15_2).f0),.int .i64 ((rd_T41 l0 x15_2).f1),.int .i64 ((rd_T41 l0 x15_2).f2)] 41 (0,0))):=⟨by(with_reducible repeat(first|refine bN_ ?_ _|refine bD_ ?_|refine bA_ ?_ _));refine blk_put (cs := #[.int .i64 ((rd_T41 l0 x15_2).f0),.int .i64 ((rd_T41 l0 x15_2).f1),.int .i64 0]) ?_ 2 _ rfl;(with_reducible repeat(first|refine bN_ ?_ _|refine bD_ ?_|refine bA_ ?_ _));refine blk_put (cs := #[.int .i64 ((rd_T41 l0 x15_2).f0),.int .i64 0,.int .i64 0]) ?_ 1 _ rfl;(with_reducible repeat(first|refine bN_ ?_ _|refine bD_ ?_|refine bA_ ?_ _));refine blk_put (cs := #[.int .i64 0,.int .i64 0,.int .i64 0]) ?_ 0 _ rfl;exact bup BK288.out⟩
               have n1_:Aside0 (Below w.heap.size w (((w75.setCell ⟨gb288,0,none⟩ (.int .i64 ((rd_T41 l0 x15_2).f0))).setCell ⟨gb288,1,none⟩ (.int .i64 ((rd_T41 l0 x15_2).f1))).setCell ⟨gb288,2,none⟩ (.int .i64 ((rd_T41 l0 x15_2).f2)))):=⟨bl⟩
               (try clear BK288)
               (try clear HB)
               generalize (((w75.setCell ⟨gb288,0,none⟩ (.int .i64 ((rd_T41 l0 x15_2).f0))).setCell ⟨gb288,1,none⟩ (.int .i64 ((rd_T41 l0 x15_2).f1))).setCell ⟨gb288,2,none⟩ (.int .i64 ((rd_T41 l0 x15_2).f2)))=w77 at n0_ n1_ ⊢
               have BK288:=n0_
               have HB:=n1_
               clear n0_ n1_
               have p294:0≤((ji58):Int):=od
               have q294:(ji58)<(l0.length:Int):=od
               obtain⟨ad294,e294,hx294_0,hx294_1,hx294_2⟩:=at_T41 HR0.out (ji58) p294 q294
               have hw294_2:=hx294_2
               have hw294_1:=hx294_1
               have hw294_0:=hx294_0
               obtain rfl:ad287=ad294:=(by injection e294)
               replace hx294_0:=(HB.out.cell (World.block_lt_of_cell? w _ hx294_0)).trans hx294_0
               replace hx294_1:=(HB.out.cell (World.block_lt_of_cell? w _ hx294_1)).trans hx294_1
               replace hx294_2:=(HB.out.cell (World.block_lt_of_cell? w _ hx294_2)).trans hx294_2
               replace p294:=eq_true p294
               replace q294:=eq_true q294
               have p295:0≤((ji67):Int):=od
               have q295:(ji67)<(l0.length:Int):=od
               obtain⟨ad295,e295,hx295_0,hx295_1,hx295_2⟩:=at_T41 HR0.out (ji67) p295 q295
               have hw295_2:=hx295_2
               have hw295_1:=hx295_1
               have hw295_0:=hx295_0
               obtain rfl:ad287=ad295:=(by injection e295)
               replace hx295_0:=(HB.out.cell (World.block_lt_of_cell? w _ hx295_0)).trans hx295_0
               replace hx295_1:=(HB.out.cell (World.block_lt_of_cell? w _ hx295_1)).trans hx295_1
               replace hx295_2:=(HB.out.cell (World.block_lt_of_cell? w _ hx295_2)).trans hx295_2
               replace p295:=eq_true p295
               replace q295:=eq_true q295
               have hq0_:=bc BK288.out 0
               have hq1_:=bc BK288.out 1
               have hq2_:=bc BK288.out 2
               go_quiet (first|(go_at_call 34;exact quiet_drawn (impl_isPitch.calls ((rd_T41 l0 x15_2).f0) true _ A8.out))|(go_at_call 35;exact quiet_drawn (impl_isCents.calls ((rd_T41 l0 x15_2).f1) true _ A10.out)))
               try go_wp2
               go_roundg k2
               case measure=>have:=HJ1.out;have:=HK2.out;omega
               case rel=>exact⟨(wrap64 (x15_2+1)),fin2,H',⟨by have:=HJ1.out;have:=HK2.out;omega⟩,⟨bl⟩⟩
             ·have c66b0:decide (4≤x15_2)=false:=decide_eq_false c66
              clear c66
              have H':=am H
              clear H
              have p287:0≤(x15_2:Int):=od
              have q287:x15_2<(l0.length:Int):=od
              obtain⟨ad287,e287,hx287_0,hx287_1,hx287_2⟩:=at_T41 HR0.out x15_2 p287 q287
              cases e287
              replace hx287_0:=(HB.out.cell (World.block_lt_of_cell? w _ hx287_0)).trans hx287_0
              replace hx287_1:=(HB.out.cell (World.block_lt_of_cell? w _ hx287_1)).trans hx287_1
              replace hx287_2:=(HB.out.cell (World.block_lt_of_cell? w _ hx287_2)).trans hx287_2
              replace p287:=eq_true p287
              replace q287:=eq_true q287
              try go_wp2_with (first|((with_reducible refine gate_dst (N:=4) rfl ?_);(try(refine gate_guard (by rfl) ?_;dsimp only));refine box_event ?hg (N:=4) ?hd (cs := #[.int .i64 0,.int .i64 0,.int .i64 0]) (t:=41) ?hr ?_;(case hd=>rfl);(case hg=>rfl);(case hr=>first|(go_simp;done)|(go_simp;rfl));intro gb288 hg w79 hbox hb;have BK288:=am (hbox);have GW288:=am (ge_ bl hg);have GE288:=am (ge_ bl hg);replace HB:=am (below_step bl hb);clear hb hbox hg;have hcz80_0:=bc BK288.out 0;have hcz80_1:=bc BK288.out 1;have hcz80_2:=bc BK288.out 2;have hfz80_0:=blk_frozen BK288.out 0;have hfz80_1:=blk_frozen BK288.out 1;have hfz80_2:=blk_frozen BK288.out 2))
              have n0_:Aside0 ((((w79.setCell ⟨gb288,0,none⟩ (.int .i64 ((rd_T41 l0 x15_2).f0))).setCell ⟨gb288,1,none⟩ (.int .i64 ((rd_T41 l0 x15_2).f1))).setCell ⟨gb288,2,none⟩ (.int .i64 ((rd_T41 l0 x15_2).f2))).heap[gb288]?=some (.cells #[.int .i64 ((rd_T41 l0 x15_2).f0),.int .i64 ((rd_T41 l0 x15_2).f1),.int .i64 ((rd_T41 l0 x15_2).f2)] 41 (0,0))):=⟨by(with_reducible repeat(first|refine bN_ ?_ _|refine bD_ ?_|refine bA_ ?_ _));refine blk_put (cs := #[.int .i64 ((rd_T41 l0 x15_2).f0),.int .i64 ((rd_T41 l0 x15_2).f1),.int .i64 0]) ?_ 2 _ rfl;(with_reducible repeat(first|refine bN_ ?_ _|refine bD_ ?_|refine bA_ ?_ _));refine blk_put (cs := #[.int .i64 ((rd_T41 l0 x15_2).f0),.int .i64 0,.int .i64 0]) ?_ 1 _ rfl;(with_reducible repeat(first|refine bN_ ?_ _|refine bD_ ?_|refine bA_ ?_ _));refine blk_put (cs := #[.int .i64 0,.int .i64 0,.int .i64 0]) ?_ 0 _ rfl;exact bup BK288.out⟩
              have n1_:Aside0 (Below w.heap.size w (((w79.setCell ⟨gb288,0,none⟩ (.int .i64 ((rd_T41 l0 x15_2).f0))).setCell ⟨gb288,1,none⟩ (.int .i64 ((rd_T41 l0 x15_2).f1))).setCell ⟨gb288,2,none⟩ (.int .i64 ((rd_T41 l0 x15_2).f2)))):=⟨bl⟩
              (try clear BK288)
              (try clear HB)
              generalize (((w79.setCell ⟨gb288,0,none⟩ (.int .i64 ((rd_T41 l0 x15_2).f0))).setCell ⟨gb288,1,none⟩ (.int .i64 ((rd_T41 l0 x15_2).f1))).setCell ⟨gb288,2,none⟩ (.int .i64 ((rd_T41 l0 x15_2).f2)))=w81 at n0_ n1_ ⊢
              have BK288:=n0_
              have HB:=n1_
              clear n0_ n1_
              have p294:0≤((ji58):Int):=od
              have q294:(ji58)<(l0.length:Int):=od
              obtain⟨ad294,e294,hx294_0,hx294_1,hx294_2⟩:=at_T41 HR0.out (ji58) p294 q294
              have hw294_2:=hx294_2
              have hw294_1:=hx294_1
              have hw294_0:=hx294_0
              obtain rfl:ad287=ad294:=(by injection e294)
              replace hx294_0:=(HB.out.cell (World.block_lt_of_cell? w _ hx294_0)).trans hx294_0
              replace hx294_1:=(HB.out.cell (World.block_lt_of_cell? w _ hx294_1)).trans hx294_1
              replace hx294_2:=(HB.out.cell (World.block_lt_of_cell? w _ hx294_2)).trans hx294_2
              replace p294:=eq_true p294
              replace q294:=eq_true q294
              have hq0_:=bc BK288.out 0
              have hq1_:=bc BK288.out 1
              have hq2_:=bc BK288.out 2
              go_quiet (first|(go_at_call 34;exact quiet_drawn (impl_isPitch.calls ((rd_T41 l0 x15_2).f0) true _ A8.out))|(go_at_call 35;exact quiet_drawn (impl_isCents.calls ((rd_T41 l0 x15_2).f1) true _ A10.out)))
              try go_wp2
              go_roundg k2
              case measure=>have:=HJ1.out;have:=HK2.out;omega
              case rel=>exact⟨(wrap64 (x15_2+1)),fin2,H',⟨by have:=HJ1.out;have:=HK2.out;omega⟩,⟨bl⟩⟩
           ·have c57b0:decide (0<x15_2)=false:=decide_eq_false c57
            clear c57
            rcases itc H with⟨c83,H⟩|⟨c83,H⟩
            ·have c83b0:decide (4≤x15_2)=true:=decide_eq_true c83
             clear c83
             obtain⟨ji84,hji84⟩:∃ j_:Int,(wrap64 (x15_2 - 4))=j_:=⟨_,rfl⟩
             replace H:(if 0≤(ji84) then(if(ji84)<(l0.length:Int) then(if((rd_T41 l0 x15_2).f0)=((rd_T41 l0 (ji84)).f0) then(some false) else(impl_IsComb.l0 k2 l0 l0 (l0.length:Int) (wrap64 (x15_2+1)))) else(none)) else(none))=some r:=by first|(rw[hji84] at H;exact H)|(simp only[hji84] at H ⊢;exact H)
             (try rw[hji84] at A8)
             (try rw[hji84] at A10)
             have hji84w:(IntKind.i64.wrap (x15_2 - 4))=ji84:=(i64_w _).trans hji84
             obtain⟨c85b0,H⟩:=ifb H
             obtain⟨c86b0,H⟩:=ifb H
             rcases itc H with⟨c87,H⟩|⟨c87,H⟩
             ·have c87b0:(((rd_T41 l0 x15_2).f0) == ((rd_T41 l0 (ji84)).f0))=true:=beq_iff_eq.mpr c87
              have c87b1:(((rd_T41 l0 x15_2).f0) != ((rd_T41 l0 (ji84)).f0))=false:=bne_eq_false_iff_eq.mpr c87
              clear c87
              obtain rfl:=Option.some.inj H
              have p287:0≤(x15_2:Int):=od
              have q287:x15_2<(l0.length:Int):=od
              obtain⟨ad287,e287,hx287_0,hx287_1,hx287_2⟩:=at_T41 HR0.out x15_2 p287 q287
              cases e287
              replace hx287_0:=(HB.out.cell (World.block_lt_of_cell? w _ hx287_0)).trans hx287_0
              replace hx287_1:=(HB.out.cell (World.block_lt_of_cell? w _ hx287_1)).trans hx287_1
              replace hx287_2:=(HB.out.cell (World.block_lt_of_cell? w _ hx287_2)).trans hx287_2
              replace p287:=eq_true p287
              replace q287:=eq_true q287
              try go_wp2_with (first|((with_reducible refine gate_dst (N:=4) rfl ?_);(try(refine gate_guard (by rfl) ?_;dsimp only));refine box_event ?hg (N:=4) ?hd (cs := #[.int .i64 0,.int .i64 0,.int .i64 0]) (t:=41) ?hr ?_;(case hd=>rfl);(case hg=>rfl);(case hr=>first|(go_simp;done)|(go_simp;rfl));intro gb288 hg w88 hbox hb;have BK288:=am (hbox);have GW288:=am (ge_ bl hg);have GE288:=am (ge_ bl hg);replace HB:=am (below_step bl hb);clear hb hbox hg;have hcz89_0:=bc BK288.out 0;have hcz89_1:=bc BK288.out 1;have hcz89_2:=bc BK288.out 2;have hfz89_0:=blk_frozen BK288.out 0;have hfz89_1:=blk_frozen BK288.out 1;have hfz89_2:=blk_frozen BK288.out 2))
              have n0_:Aside0 ((((w88.setCell ⟨gb288,0,none⟩ (.int .i64 ((rd_T41 l0 x15_2).f0))).setCell ⟨gb288,1,none⟩ (.int .i64 ((rd_T41 l0 x15_2).f1))).setCell ⟨gb288,2,none⟩ (.int .i64 ((rd_T41 l0 x15_2).f2))).heap[gb288]?=some (.cells #[.int .i64 ((rd_T41 l0 x15_2).f0),.int .i64 ((rd_T41 l0 x15_2).f1),.int .i64 ((rd_T41 l0 x15_2).f2)] 41 (0,0))):=⟨by(with_reducible repeat(first|refine bN_ ?_ _|refine bD_ ?_|refine bA_ ?_ _));refine blk_put (cs := #[.int .i64 ((rd_T41 l0 x15_2).f0),.int .i64 ((rd_T41 l0 x15_2).f1),.int .i64 0]) ?_ 2 _ rfl;(with_reducible repeat(first|refine bN_ ?_ _|refine bD_ ?_|refine bA_ ?_ _));refine blk_put (cs := #[.int .i64 ((rd_T41 l0 x15_2).f0),.int .i64 0,.int .i64 0]) ?_ 1 _ rfl;(with_reducible repeat(first|refine bN_ ?_ _|refine bD_ ?_|refine bA_ ?_ _));refine blk_put (cs := #[.int .i64 0,.int .i64 0,.int .i64 0]) ?_ 0 _ rfl;exact bup BK288.out⟩
              have n1_:Aside0 (Below w.heap.size w (((w88.setCell ⟨gb288,0,none⟩ (.int .i64 ((rd_T41 l0 x15_2).f0))).setCell ⟨gb288,1,none⟩ (.int .i64 ((rd_T41 l0 x15_2).f1))).setCell ⟨gb288,2,none⟩ (.int .i64 ((rd_T41 l0 x15_2).f2)))):=⟨bl⟩
              (try clear BK288)
              (try clear HB)
              generalize (((w88.setCell ⟨gb288,0,none⟩ (.int .i64 ((rd_T41 l0 x15_2).f0))).setCell ⟨gb288,1,none⟩ (.int .i64 ((rd_T41 l0 x15_2).f1))).setCell ⟨gb288,2,none⟩ (.int .i64 ((rd_T41 l0 x15_2).f2)))=w90 at n0_ n1_ ⊢
              have BK288:=n0_
              have HB:=n1_
              clear n0_ n1_
              have p296:0≤((ji84):Int):=od
              have q296:(ji84)<(l0.length:Int):=od
              obtain⟨ad296,e296,hx296_0,hx296_1,hx296_2⟩:=at_T41 HR0.out (ji84) p296 q296
              have hw296_2:=hx296_2
              have hw296_1:=hx296_1
              have hw296_0:=hx296_0
              obtain rfl:ad287=ad296:=(by injection e296)
              replace hx296_0:=(HB.out.cell (World.block_lt_of_cell? w _ hx296_0)).trans hx296_0
              replace hx296_1:=(HB.out.cell (World.block_lt_of_cell? w _ hx296_1)).trans hx296_1
              replace hx296_2:=(HB.out.cell (World.block_lt_of_cell? w _ hx296_2)).trans hx296_2
              replace p296:=eq_true p296
              replace q296:=eq_true q296
              have hq0_:=bc BK288.out 0
              have hq1_:=bc BK288.out 1
              have hq2_:=bc BK288.out 2
              go_quiet (first|(go_at_call 34;exact quiet_drawn (impl_isPitch.calls ((rd_T41 l0 x15_2).f0) true _ A8.out))|(go_at_call 35;exact quiet_drawn (impl_isCents.calls ((rd_T41 l0 x15_2).f1) true _ A10.out)))
              try go_wp2
              go_ret
              exact⟨by first|rfl|(simp [errW_none,errW_some]<;>rfl)|(simp only[← hji84];first|rfl|(simp [errW_none,errW_some]<;>rfl))|(simp [*,errW_none,errW_some]<;>rfl),bl⟩
             ·have c87b0:(((rd_T41 l0 x15_2).f0) == ((rd_T41 l0 (ji84)).f0))=false:=beq_eq_false_iff_ne.mpr c87
              have c87b1:(((rd_T41 l0 x15_2).f0) != ((rd_T41 l0 (ji84)).f0))=true:=bne_iff_ne.mpr c87
              have H':=am H
              clear H
              have p287:0≤(x15_2:Int):=od
              have q287:x15_2<(l0.length:Int):=od
              obtain⟨ad287,e287,hx287_0,hx287_1,hx287_2⟩:=at_T41 HR0.out x15_2 p287 q287
              cases e287
              replace hx287_0:=(HB.out.cell (World.block_lt_of_cell? w _ hx287_0)).trans hx287_0
              replace hx287_1:=(HB.out.cell (World.block_lt_of_cell? w _ hx287_1)).trans hx287_1
              replace hx287_2:=(HB.out.cell (World.block_lt_of_cell? w _ hx287_2)).trans hx287_2
              replace p287:=eq_true p287
              replace q287:=eq_true q287
              try go_wp2_with (first|((with_reducible refine gate_dst (N:=4) rfl ?_);(try(refine gate_guard (by rfl) ?_;dsimp only));refine box_event ?hg (N:=4) ?hd (cs := #[.int .i64 0,.int .i64 0,.int .i64 0]) (t:=41) ?hr ?_;(case hd=>rfl);(case hg=>rfl);(case hr=>first|(go_simp;done)|(go_simp;rfl));intro gb288 hg w92 hbox hb;have BK288:=am (hbox);have GW288:=am (ge_ bl hg);have GE288:=am (ge_ bl hg);replace HB:=am (below_step bl hb);clear hb hbox hg;have hcz93_0:=bc BK288.out 0;have hcz93_1:=bc BK288.out 1;have hcz93_2:=bc BK288.out 2;have hfz93_0:=blk_frozen BK288.out 0;have hfz93_1:=blk_frozen BK288.out 1;have hfz93_2:=blk_frozen BK288.out 2))
              have n0_:Aside0 ((((w92.setCell ⟨gb288,0,none⟩ (.int .i64 ((rd_T41 l0 x15_2).f0))).setCell ⟨gb288,1,none⟩ (.int .i64 ((rd_T41 l0 x15_2).f1))).setCell ⟨gb288,2,none⟩ (.int .i64 ((rd_T41 l0 x15_2).f2))).heap[gb288]?=some (.cells #[.int .i64 ((rd_T41 l0 x15_2).f0),.int .i64 ((rd_T41 l0 x15_2).f1),.int .i64 ((rd_T41 l0 x15_2).f2)] 41 (0,0))):=⟨by(with_reducible repeat(first|refine bN_ ?_ _|refine bD_ ?_|refine bA_ ?_ _));refine blk_put (cs := #[.int .i64 ((rd_T41 l0 x15_2).f0),.int .i64 ((rd_T41 l0 x15_2).f1),.int .i64 0]) ?_ 2 _ rfl;(with_reducible repeat(first|refine bN_ ?_ _|refine bD_ ?_|refine bA_ ?_ _));refine blk_put (cs := #[.int .i64 ((rd_T41 l0 x15_2).f0),.int .i64 0,.int .i64 0]) ?_ 1 _ rfl;(with_reducible repeat(first|refine bN_ ?_ _|refine bD_ ?_|refine bA_ ?_ _));refine blk_put (cs := #[.int .i64 0,.int .i64 0,.int .i64 0]) ?_ 0 _ rfl;exact bup BK288.out⟩
              have n1_:Aside0 (Below w.heap.size w (((w92.setCell ⟨gb288,0,none⟩ (.int .i64 ((rd_T41 l0 x15_2).f0))).setCell ⟨gb288,1,none⟩ (.int .i64 ((rd_T41 l0 x15_2).f1))).setCell ⟨gb288,2,none⟩ (.int .i64 ((rd_T41 l0 x15_2).f2)))):=⟨bl⟩
              (try clear BK288)
              (try clear HB)
              generalize (((w92.setCell ⟨gb288,0,none⟩ (.int .i64 ((rd_T41 l0 x15_2).f0))).setCell ⟨gb288,1,none⟩ (.int .i64 ((rd_T41 l0 x15_2).f1))).setCell ⟨gb288,2,none⟩ (.int .i64 ((rd_T41 l0 x15_2).f2)))=w94 at n0_ n1_ ⊢
              have BK288:=n0_
              have HB:=n1_
              clear n0_ n1_
              have p296:0≤((ji84):Int):=od
              have q296:(ji84)<(l0.length:Int):=od
              obtain⟨ad296,e296,hx296_0,hx296_1,hx296_2⟩:=at_T41 HR0.out (ji84) p296 q296
              have hw296_2:=hx296_2
              have hw296_1:=hx296_1
              have hw296_0:=hx296_0
              obtain rfl:ad287=ad296:=(by injection e296)
              replace hx296_0:=(HB.out.cell (World.block_lt_of_cell? w _ hx296_0)).trans hx296_0
              replace hx296_1:=(HB.out.cell (World.block_lt_of_cell? w _ hx296_1)).trans hx296_1
              replace hx296_2:=(HB.out.cell (World.block_lt_of_cell? w _ hx296_2)).trans hx296_2
              replace p296:=eq_true p296
              replace q296:=eq_true q296
              have hq0_:=bc BK288.out 0
              have hq1_:=bc BK288.out 1
              have hq2_:=bc BK288.out 2
              go_quiet (first|(go_at_call 34;exact quiet_drawn (impl_isPitch.calls ((rd_T41 l0 x15_2).f0) true _ A8.out))|(go_at_call 35;exact quiet_drawn (impl_isCents.calls ((rd_T41 l0 x15_2).f1) true _ A10.out)))
              try go_wp2
              go_roundg k2
              case measure=>have:=HJ1.out;have:=HK2.out;omega
              case rel=>exact⟨(wrap64 (x15_2+1)),fin2,H',⟨by have:=HJ1.out;have:=HK2.out;omega⟩,⟨bl⟩⟩
            ·have c83b0:decide (4≤x15_2)=false:=decide_eq_false c83
             clear c83
             have H':=am H
             clear H
             have p287:0≤(x15_2:Int):=od
             have q287:x15_2<(l0.length:Int):=od
             obtain⟨ad287,e287,hx287_0,hx287_1,hx287_2⟩:=at_T41 HR0.out x15_2 p287 q287
             cases e287
             replace hx287_0:=(HB.out.cell (World.block_lt_of_cell? w _ hx287_0)).trans hx287_0
             replace hx287_1:=(HB.out.cell (World.block_lt_of_cell? w _ hx287_1)).trans hx287_1
             replace hx287_2:=(HB.out.cell (World.block_lt_of_cell? w _ hx287_2)).trans hx287_2
             replace p287:=eq_true p287
             replace q287:=eq_true q287
             try go_wp2_with (first|((with_reducible refine gate_dst (N:=4) rfl ?_);(try(refine gate_guard (by rfl) ?_;dsimp only));refine box_event ?hg (N:=4) ?hd (cs := #[.int .i64 0,.int .i64 0,.int .i64 0]) (t:=41) ?hr ?_;(case hd=>rfl);(case hg=>rfl);(case hr=>first|(go_simp;done)|(go_simp;rfl));intro gb288 hg w96 hbox hb;have BK288:=am (hbox);have GW288:=am (ge_ bl hg);have GE288:=am (ge_ bl hg);replace HB:=am (below_step bl hb);clear hb hbox hg;have hcz97_0:=bc BK288.out 0;have hcz97_1:=bc BK288.out 1;have hcz97_2:=bc BK288.out 2;have hfz97_0:=blk_frozen BK288.out 0;have hfz97_1:=blk_frozen BK288.out 1;have hfz97_2:=blk_frozen BK288.out 2))
             have n0_:Aside0 ((((w96.setCell ⟨gb288,0,none⟩ (.int .i64 ((rd_T41 l0 x15_2).f0))).setCell ⟨gb288,1,none⟩ (.int .i64 ((rd_T41 l0 x15_2).f1))).setCell ⟨gb288,2,none⟩ (.int .i64 ((rd_T41 l0 x15_2).f2))).heap[gb288]?=some (.cells #[.int .i64 ((rd_T41 l0 x15_2).f0),.int .i64 ((rd_T41 l0 x15_2).f1),.int .i64 ((rd_T41 l0 x15_2).f2)] 41 (0,0))):=⟨by(with_reducible repeat(first|refine bN_ ?_ _|refine bD_ ?_|refine bA_ ?_ _));refine blk_put (cs := #[.int .i64 ((rd_T41 l0 x15_2).f0),.int .i64 ((rd_T41 l0 x15_2).f1),.int .i64 0]) ?_ 2 _ rfl;(with_reducible repeat(first|refine bN_ ?_ _|refine bD_ ?_|refine bA_ ?_ _));refine blk_put (cs := #[.int .i64 ((rd_T41 l0 x15_2).f0),.int .i64 0,.int .i64 0]) ?_ 1 _ rfl;(with_reducible repeat(first|refine bN_ ?_ _|refine bD_ ?_|refine bA_ ?_ _));refine blk_put (cs := #[.int .i64 0,.int .i64 0,.int .i64 0]) ?_ 0 _ rfl;exact bup BK288.out⟩
             have n1_:Aside0 (Below w.heap.size w (((w96.setCell ⟨gb288,0,none⟩ (.int .i64 ((rd_T41 l0 x15_2).f0))).setCell ⟨gb288,1,none⟩ (.int .i64 ((rd_T41 l0 x15_2).f1))).setCell ⟨gb288,2,none⟩ (.int .i64 ((rd_T41 l0 x15_2).f2)))):=⟨bl⟩
             (try clear BK288)
             (try clear HB)
             generalize (((w96.setCell ⟨gb288,0,none⟩ (.int .i64 ((rd_T41 l0 x15_2).f0))).setCell ⟨gb288,1,none⟩ (.int .i64 ((rd_T41 l0 x15_2).f1))).setCell ⟨gb288,2,none⟩ (.int .i64 ((rd_T41 l0 x15_2).f2)))=w98 at n0_ n1_ ⊢
             have BK288:=n0_
             have HB:=n1_
             clear n0_ n1_
             have hq0_:=bc BK288.out 0
             have hq1_:=bc BK288.out 1
             have hq2_:=bc BK288.out 2
             go_quiet (first|(go_at_call 34;exact quiet_drawn (impl_isPitch.calls ((rd_T41 l0 x15_2).f0) true _ A8.out))|(go_at_call 35;exact quiet_drawn (impl_isCents.calls ((rd_T41 l0 x15_2).f1) true _ A10.out)))
             try go_wp2
             go_roundg k2
             case measure=>have:=HJ1.out;have:=HK2.out;omega
             case rel=>exact⟨(wrap64 (x15_2+1)),fin2,H',⟨by have:=HJ1.out;have:=HK2.out;omega⟩,⟨bl⟩⟩
          ·have c56b0:(((rd_T41 l0 x15_2).f2) == 1)=false:=beq_eq_false_iff_ne.mpr c56
           have c56b1:(((rd_T41 l0 x15_2).f2) != 1)=true:=bne_iff_ne.mpr c56
           obtain rfl:=Option.some.inj H
           have p287:0≤(x15_2:Int):=od
           have q287:x15_2<(l0.length:Int):=od
           obtain⟨ad287,e287,hx287_0,hx287_1,hx287_2⟩:=at_T41 HR0.out x15_2 p287 q287
           cases e287
           replace hx287_0:=(HB.out.cell (World.block_lt_of_cell? w _ hx287_0)).trans hx287_0
           replace hx287_1:=(HB.out.cell (World.block_lt_of_cell? w _ hx287_1)).trans hx287_1
           replace hx287_2:=(HB.out.cell (World.block_lt_of_cell? w _ hx287_2)).trans hx287_2
           replace p287:=eq_true p287
           replace q287:=eq_true q287
           try go_wp2_with (first|((with_reducible refine gate_dst (N:=4) rfl ?_);(try(refine gate_guard (by rfl) ?_;dsimp only));refine box_event ?hg (N:=4) ?hd (cs := #[.int .i64 0,.int .i64 0,.int .i64 0]) (t:=41) ?hr ?_;(case hd=>rfl);(case hg=>rfl);(case hr=>first|(go_simp;done)|(go_simp;rfl));intro gb288 hg w100 hbox hb;have BK288:=am (hbox);have GW288:=am (ge_ bl hg);have GE288:=am (ge_ bl hg);replace HB:=am (below_step bl hb);clear hb hbox hg;have hcz101_0:=bc BK288.out 0;have hcz101_1:=bc BK288.out 1;have hcz101_2:=bc BK288.out 2;have hfz101_0:=blk_frozen BK288.out 0;have hfz101_1:=blk_frozen BK288.out 1;have hfz101_2:=blk_frozen BK288.out 2))
           have n0_:Aside0 ((((w100.setCell ⟨gb288,0,none⟩ (.int .i64 ((rd_T41 l0 x15_2).f0))).setCell ⟨gb288,1,none⟩ (.int .i64 ((rd_T41 l0 x15_2).f1))).setCell ⟨gb288,2,none⟩ (.int .i64 ((rd_T41 l0 x15_2).f2))).heap[gb288]?=some (.cells #[.int .i64 ((rd_T41 l0 x15_2).f0),.int .i64 ((rd_T41 l0 x15_2).f1),.int .i64 ((rd_T41 l0 x15_2).f2)] 41 (0,0))):=⟨by(with_reducible repeat(first|refine bN_ ?_ _|refine bD_ ?_|refine bA_ ?_ _));refine blk_put (cs := #[.int .i64 ((rd_T41 l0 x15_2).f0),.int .i64 ((rd_T41 l0 x15_2).f1),.int .i64 0]) ?_ 2 _ rfl;(with_reducible repeat(first|refine bN_ ?_ _|refine bD_ ?_|refine bA_ ?_ _));refine blk_put (cs := #[.int .i64 ((rd_T41 l0 x15_2).f0),.int .i64 0,.int .i64 0]) ?_ 1 _ rfl;(with_reducible repeat(first|refine bN_ ?_ _|refine bD_ ?_|refine bA_ ?_ _));refine blk_put (cs := #[.int .i64 0,.int .i64 0,.int .i64 0]) ?_ 0 _ rfl;exact bup BK288.out⟩
           have n1_:Aside0 (Below w.heap.size w (((w100.setCell ⟨gb288,0,none⟩ (.int .i64 ((rd_T41 l0 x15_2).f0))).setCell ⟨gb288,1,none⟩ (.int .i64 ((rd_T41 l0 x15_2).f1))).setCell ⟨gb288,2,none⟩ (.int .i64 ((rd_T41 l0 x15_2).f2)))):=⟨bl⟩
           (try clear BK288)
           (try clear HB)
           generalize (((w100.setCell ⟨gb288,0,none⟩ (.int .i64 ((rd_T41 l0 x15_2).f0))).setCell ⟨gb288,1,none⟩ (.int .i64 ((rd_T41 l0 x15_2).f1))).setCell ⟨gb288,2,none⟩ (.int .i64 ((rd_T41 l0 x15_2).f2)))=w102 at n0_ n1_ ⊢
           have BK288:=n0_
           have HB:=n1_
           clear n0_ n1_
           have hq0_:=bc BK288.out 0
           have hq1_:=bc BK288.out 1
           have hq2_:=bc BK288.out 2
           go_quiet (first|(go_at_call 34;exact quiet_drawn (impl_isPitch.calls ((rd_T41 l0 x15_2).f0) true _ A8.out))|(go_at_call 35;exact quiet_drawn (impl_isCents.calls ((rd_T41 l0 x15_2).f1) true _ A10.out)))
           try go_wp2
           go_ret
           exact⟨fin1,bl⟩
        ·replace c11:=Bool.eq_false_iff.mpr c11
         subst c11
         replace H:=(if_neg Bool.false_ne_true).symm.trans H
         obtain rfl:=Option.some.inj H
         have p287:0≤(x15_2:Int):=od
         have q287:x15_2<(l0.length:Int):=od
         obtain⟨ad287,e287,hx287_0,hx287_1,hx287_2⟩:=at_T41 HR0.out x15_2 p287 q287
         cases e287
         replace hx287_0:=(HB.out.cell (World.block_lt_of_cell? w _ hx287_0)).trans hx287_0
         replace hx287_1:=(HB.out.cell (World.block_lt_of_cell? w _ hx287_1)).trans hx287_1
         replace hx287_2:=(HB.out.cell (World.block_lt_of_cell? w _ hx287_2)).trans hx287_2
         replace p287:=eq_true p287
         replace q287:=eq_true q287
         try go_wp2_with (first|((with_reducible refine gate_dst (N:=4) rfl ?_);(try(refine gate_guard (by rfl) ?_;dsimp only));refine box_event ?hg (N:=4) ?hd (cs := #[.int .i64 0,.int .i64 0,.int .i64 0]) (t:=41) ?hr ?_;(case hd=>rfl);(case hg=>rfl);(case hr=>first|(go_simp;done)|(go_simp;rfl));intro gb288 hg w104 hbox hb;have BK288:=am (hbox);have GW288:=am (ge_ bl hg);have GE288:=am (ge_ bl hg);replace HB:=am (below_step bl hb);clear hb hbox hg;have hcz105_0:=bc BK288.out 0;have hcz105_1:=bc BK288.out 1;have hcz105_2:=bc BK288.out 2;have hfz105_0:=blk_frozen BK288.out 0;have hfz105_1:=blk_frozen BK288.out 1;have hfz105_2:=blk_frozen BK288.out 2))
         have n0_:Aside0 ((((w104.setCell ⟨gb288,0,none⟩ (.int .i64 ((rd_T41 l0 x15_2).f0))).setCell ⟨gb288,1,none⟩ (.int .i64 ((rd_T41 l0 x15_2).f1))).setCell ⟨gb288,2,none⟩ (.int .i64 ((rd_T41 l0 x15_2).f2))).heap[gb288]?=some (.cells #[.int .i64 ((rd_T41 l0 x15_2).f0),.int .i64 ((rd_T41 l0 x15_2).f1),.int .i64 ((rd_T41 l0 x15_2).f2)] 41 (0,0))):=⟨by(with_reducible repeat(first|refine bN_ ?_ _|refine bD_ ?_|refine bA_ ?_ _));refine blk_put (cs := #[.int .i64 ((rd_T41 l0 x15_2).f0),.int .i64 ((rd_T41 l0 x15_2).f1),.int .i64 0]) ?_ 2 _ rfl;(with_reducible repeat(first|refine bN_ ?_ _|refine bD_ ?_|refine bA_ ?_ _));refine blk_put (cs := #[.int .i64 ((rd_T41 l0 x15_2).f0),.int .i64 0,.int .i64 0]) ?_ 1 _ rfl;(with_reducible repeat(first|refine bN_ ?_ _|refine bD_ ?_|refine bA_ ?_ _));refine blk_put (cs := #[.int .i64 0,.int .i64 0,.int .i64 0]) ?_ 0 _ rfl;exact bup BK288.out⟩
         have n1_:Aside0 (Below w.heap.size w (((w104.setCell ⟨gb288,0,none⟩ (.int .i64 ((rd_T41 l0 x15_2).f0))).setCell ⟨gb288,1,none⟩ (.int .i64 ((rd_T41 l0 x15_2).f1))).setCell ⟨gb288,2,none⟩ (.int .i64 ((rd_T41 l0 x15_2).f2)))):=⟨bl⟩
         (try clear BK288)
         (try clear HB)
         generalize (((w104.setCell ⟨gb288,0,none⟩ (.int .i64 ((rd_T41 l0 x15_2).f0))).setCell ⟨gb288,1,none⟩ (.int .i64 ((rd_T41 l0 x15_2).f1))).setCell ⟨gb288,2,none⟩ (.int .i64 ((rd_T41 l0 x15_2).f2)))=w106 at n0_ n1_ ⊢
         have BK288:=n0_
         have HB:=n1_
         clear n0_ n1_
         have hq0_:=bc BK288.out 0
         have hq1_:=bc BK288.out 1
         have hq2_:=bc BK288.out 2
         go_quiet (first|(go_at_call 34;exact quiet_drawn (impl_isPitch.calls ((rd_T41 l0 x15_2).f0) true _ A8.out))|(go_at_call 35;exact quiet_drawn (impl_isCents.calls ((rd_T41 l0 x15_2).f1) false _ A10.out)))
         try go_wp2
         go_ret
         exact⟨fin1,bl⟩
       ·replace c9:=Bool.eq_false_iff.mpr c9
        subst c9
        replace H:=(if_neg Bool.false_ne_true).symm.trans H
        obtain rfl:=Option.some.inj H
        have p287:0≤(x15_2:Int):=od
        have q287:x15_2<(l0.length:Int):=od
        obtain⟨ad287,e287,hx287_0,hx287_1,hx287_2⟩:=at_T41 HR0.out x15_2 p287 q287
        cases e287
        replace hx287_0:=(HB.out.cell (World.block_lt_of_cell? w _ hx287_0)).trans hx287_0
        replace hx287_1:=(HB.out.cell (World.block_lt_of_cell? w _ hx287_1)).trans hx287_1
        replace hx287_2:=(HB.out.cell (World.block_lt_of_cell? w _ hx287_2)).trans hx287_2
        replace p287:=eq_true p287
        replace q287:=eq_true q287
        try go_wp2_with (first|((with_reducible refine gate_dst (N:=4) rfl ?_);(try(refine gate_guard (by rfl) ?_;dsimp only));refine box_event ?hg (N:=4) ?hd (cs := #[.int .i64 0,.int .i64 0,.int .i64 0]) (t:=41) ?hr ?_;(case hd=>rfl);(case hg=>rfl);(case hr=>first|(go_simp;done)|(go_simp;rfl));intro gb288 hg w108 hbox hb;have BK288:=am (hbox);have GW288:=am (ge_ bl hg);have GE288:=am (ge_ bl hg);replace HB:=am (below_step bl hb);clear hb hbox hg;have hcz109_0:=bc BK288.out 0;have hcz109_1:=bc BK288.out 1;have hcz109_2:=bc BK288.out 2;have hfz109_0:=blk_frozen BK288.out 0;have hfz109_1:=blk_frozen BK288.out 1;have hfz109_2:=blk_frozen BK288.out 2))
        have n0_:Aside0 ((((w108.setCell ⟨gb288,0,none⟩ (.int .i64 ((rd_T41 l0 x15_2).f0))).setCell ⟨gb288,1,none⟩ (.int .i64 ((rd_T41 l0 x15_2).f1))).setCell ⟨gb288,2,none⟩ (.int .i64 ((rd_T41 l0 x15_2).f2))).heap[gb288]?=some (.cells #[.int .i64 ((rd_T41 l0 x15_2).f0),.int .i64 ((rd_T41 l0 x15_2).f1),.int .i64 ((rd_T41 l0 x15_2).f2)] 41 (0,0))):=⟨by(with_reducible repeat(first|refine bN_ ?_ _|refine bD_ ?_|refine bA_ ?_ _));refine blk_put (cs := #[.int .i64 ((rd_T41 l0 x15_2).f0),.int .i64 ((rd_T41 l0 x15_2).f1),.int .i64 0]) ?_ 2 _ rfl;(with_reducible repeat(first|refine bN_ ?_ _|refine bD_ ?_|refine bA_ ?_ _));refine blk_put (cs := #[.int .i64 ((rd_T41 l0 x15_2).f0),.int .i64 0,.int .i64 0]) ?_ 1 _ rfl;(with_reducible repeat(first|refine bN_ ?_ _|refine bD_ ?_|refine bA_ ?_ _));refine blk_put (cs := #[.int .i64 0,.int .i64 0,.int .i64 0]) ?_ 0 _ rfl;exact bup BK288.out⟩
        have n1_:Aside0 (Below w.heap.size w (((w108.setCell ⟨gb288,0,none⟩ (.int .i64 ((rd_T41 l0 x15_2).f0))).setCell ⟨gb288,1,none⟩ (.int .i64 ((rd_T41 l0 x15_2).f1))).setCell ⟨gb288,2,none⟩ (.int .i64 ((rd_T41 l0 x15_2).f2)))):=⟨bl⟩
        (try clear BK288)
        (try clear HB)
        generalize (((w108.setCell ⟨gb288,0,none⟩ (.int .i64 ((rd_T41 l0 x15_2).f0))).setCell ⟨gb288,1,none⟩ (.int .i64 ((rd_T41 l0 x15_2).f1))).setCell ⟨gb288,2,none⟩ (.int .i64 ((rd_T41 l0 x15_2).f2)))=w110 at n0_ n1_ ⊢
        have BK288:=n0_
        have HB:=n1_
        clear n0_ n1_
        have hq0_:=bc BK288.out 0
        have hq1_:=bc BK288.out 1
        have hq2_:=bc BK288.out 2
        go_quiet ((go_at_call 34;exact quiet_drawn (impl_isPitch.calls ((rd_T41 l0 x15_2).f0) false _ A8.out)))
        try go_wp2
        go_ret
        exact⟨fin1,bl⟩
      ·have c5b0:=decide_eq_false c5
       clear c5
       obtain rfl:=Option.some.inj H
       go_wp2
       go_ret
       exact⟨fin1,bl⟩

end Go.Proofs.Ytiekokdlcgpcdaa.PFnStrikes
