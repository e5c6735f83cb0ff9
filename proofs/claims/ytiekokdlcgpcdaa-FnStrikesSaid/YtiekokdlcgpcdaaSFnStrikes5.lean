/- Walks of functions that FnStrikes reaches. No conditions beyond the arguments' being read. -/
import Derived.Test.YtiekokdlcgpcdaaSFnStrikes0
import Derived.Test.YtiekokdlcgpcdaaSFnStrikes4
namespace Go.Proofs.Ytiekokdlcgpcdaa.PFnStrikes
open Go.RowKit Go.Proofs.YtiekokdlcgpcdaaW.PrintWords Go.Proofs.YtiekokdlcgpcdaaW.PrintLast Go.Proofs.YtiekokdlcgpcdaaW.PrintMore
attribute [local go_sem] max2_int min2_int max_two min_two max_three min_three max_four min_four
set_option linter.unusedVariables false
set_option linter.unusedSimpArgs false

mutual
def spec_coGood.l0:Nat→List (S41)→List (S41)→Int→Int→Option (Bool)
 | 0,_,_,_,_=>none
 | k+1,x0,x5,x6,x7=>if x7<x6 then(if 0≤x7 then(if x7<(x5.length:Int) then((spec_ntPitch.f ((rd_T41 x5 x7).f0)).bind fun t321=>(if t321=true then((spec_l1In.f ((rd_T41 x5 x7).f1) (-50) 50).bind fun t322=>(if t322=true then((spec_l1In.f ((rd_T41 x5 x7).f2) 0 1).bind fun t323=>(spec_coGood.j1 k x0 x7 x5 x6 x7 (!t323) ((rd_T41 x5 x7).f0) ((rd_T41 x5 x7).f1) ((rd_T41 x5 x7).f2))) else(spec_coGood.j1 k x0 x7 x5 x6 x7 true ((rd_T41 x5 x7).f0) ((rd_T41 x5 x7).f1) ((rd_T41 x5 x7).f2)))) else(spec_coGood.j1 k x0 x7 x5 x6 x7 true ((rd_T41 x5 x7).f0) ((rd_T41 x5 x7).f1) ((rd_T41 x5 x7).f2)))) else(none)) else(none)) else((spec_l1In.f (x0.length:Int) 1 40).bind fun t318=>(some t318))
def spec_coGood.j1:Nat→List (S41)→Int→List (S41)→Int→Int→Bool→Int→Int→Int→Option (Bool)
 | 0,_,_,_,_,_,_,_,_,_=>none
 | k+1,x0,x3,x5,x6,x7,x27,x321000,x321001,x321002=>if x27=true then(some false) else(if x3>0 then(if 0≤(wrap64 (x3 - 1)) then(if(wrap64 (x3 - 1))<(x0.length:Int) then(if((rd_T41 x0 (wrap64 (x3 - 1))).f0)>x321000 then(some false) else(if x3>3 then(if 0≤(wrap64 (x3 - 4)) then(if(wrap64 (x3 - 4))<(x0.length:Int) then(if((rd_T41 x0 (wrap64 (x3 - 4))).f0)=x321000 then(some false) else(spec_coGood.l0 k x0 x5 x6 (wrap64 (x7+1)))) else(none)) else(none)) else(spec_coGood.l0 k x0 x5 x6 (wrap64 (x7+1))))) else(none)) else(none)) else(if x3>3 then(if 0≤(wrap64 (x3 - 4)) then(if(wrap64 (x3 - 4))<(x0.length:Int) then(if((rd_T41 x0 (wrap64 (x3 - 4))).f0)=x321000 then(some false) else(spec_coGood.l0 k x0 x5 x6 (wrap64 (x7+1)))) else(none)) else(none)) else(spec_coGood.l0 k x0 x5 x6 (wrap64 (x7+1)))))
end
def spec_coGood.f (k:Nat) (l0:List (S41)):Option (Bool):=spec_coGood.l0 k l0 l0 (l0.length:Int) 0
set_option maxHeartbeats 8000000 in
set_option maxRecDepth 100000 in
theorem spec_coGood.calls (k:Nat) (A0:Option Addr) (c0:Nat) (l0:List (S41)) (r:Bool) (w:World) (hr0:Kd.C k41 w A0 l0.length l0) (hc0:l0.length≤c0) (h:spec_coGood.f k l0=some r) :
  Calls Try.prog 37 #[.slice A0 l0.length c0] w fun e w'=>e = .returned (.bool r)∧Below w.heap.size w w':=by
 have hu41:=Try.underlying41
 have HR0:=am hr0
 have HC0:=am hc0
 clear hr0 hc0
 have HB:=am (Below.refl w.heap.size w)
 have H:(spec_coGood.l0 k l0 l0 (l0.length:Int) 0)=some r:=h
 clear h
 have H':=am H
 clear H
 go_enter Try.func37,Try.ntmps37
 go_wp2
 repeat(go_quiet (fail);try go_wp2)
 go_loopg [7] k (fun kq v7 w'=>∃(x7_1:Int),v7 = .int .i64 x7_1∧Aside0 (spec_coGood.l0 kq l0 l0 (l0.length:Int) x7_1=some r)∧Aside0 (kq≤k)∧Aside0 (Below w.heap.size w w'))
 case atStart=>exact⟨(0),fin2,H',⟨Nat.le_refl _⟩,⟨bl⟩⟩
 case round =>
  clear H'
  obtain⟨x7_1,rfl,HA,HK1,HB⟩:=hrel
  cases gk with
  | zero=>exact absurd HA.out (by simp [spec_coGood.l0])
  | succ k1 =>
   have H:=HA.out
   clear HA
   simp only[spec_coGood.l0] at H
   rcases itc H with⟨c2,H⟩|⟨c2,H⟩
   ·have c2b0:=decide_eq_true c2
    clear c2
    obtain⟨c3b0,H⟩:=ifb H
    obtain⟨c4b0,H⟩:=ifb H
    have HC5:=am H
    clear H
    have p319:0≤(x7_1:Int):=od
    have q319:x7_1<(l0.length:Int):=od
    obtain⟨ad319,e319,hx319_0,hx319_1,hx319_2⟩:=at_T41 HR0.out x7_1 p319 q319
    cases e319
    replace hx319_0:=(HB.out.cell (World.block_lt_of_cell? w _ hx319_0)).trans hx319_0
    replace hx319_1:=(HB.out.cell (World.block_lt_of_cell? w _ hx319_1)).trans hx319_1
    replace hx319_2:=(HB.out.cell (World.block_lt_of_cell? w _ hx319_2)).trans hx319_2
    replace p319:=eq_true p319
    replace q319:=eq_true q319
    go_upto_region 4 with(first|((with_reducible refine gate_dst (N:=4) rfl ?_);refine box_event ?hg (N:=4) ?hd (cs := #[.int .i64 0,.int .i64 0,.int .i64 0]) (t:=41) ?hr ?_;(case hd=>rfl);(case hg=>rfl);(case hr=>first|(go_simp;done)|(go_simp;rfl));intro gb320 hg w6 hbox hb;have BK320:=am (hbox);have GW320:=am (ge_ bl hg);have GE320:=am (ge_ bl hg);replace HB:=am (below_step bl hb);clear hb hbox hg;have hcz7_0:=bc BK320.out 0;have hcz7_1:=bc BK320.out 1;have hcz7_2:=bc BK320.out 2;have hfz7_0:=blk_frozen BK320.out 0;have hfz7_1:=blk_frozen BK320.out 1;have hfz7_2:=blk_frozen BK320.out 2))
    repeat(go_quiet (first|((with_reducible refine gate_dst (N:=4) rfl ?_);refine box_event ?hg (N:=4) ?hd (cs := #[.int .i64 0,.int .i64 0,.int .i64 0]) (t:=41) ?hr ?_;(case hd=>rfl);(case hg=>rfl);(case hr=>first|(go_simp;done)|(go_simp;rfl));intro gb320 hg w6 hbox hb;have BK320:=am (hbox);have GW320:=am (ge_ bl hg);have GE320:=am (ge_ bl hg);replace HB:=am (below_step bl hb);clear hb hbox hg;have hcz7_0:=bc BK320.out 0;have hcz7_1:=bc BK320.out 1;have hcz7_2:=bc BK320.out 2;have hfz7_0:=blk_frozen BK320.out 0;have hfz7_1:=blk_frozen BK320.out 1;have hfz7_2:=blk_frozen BK320.out 2));go_upto_region 4 with(first|((with_reducible refine gate_dst (N:=4) rfl ?_);refine box_event ?hg (N:=4) ?hd (cs := #[.int .i64 0,.int .i64 0,.int .i64 0]) (t:=41) ?hr ?_;(case hd=>rfl);(case hg=>rfl);(case hr=>first|(go_simp;done)|(go_simp;rfl));intro gb320 hg w6 hbox hb;have BK320:=am (hbox);have GW320:=am (ge_ bl hg);have GE320:=am (ge_ bl hg);replace HB:=am (below_step bl hb);clear hb hbox hg;have hcz7_0:=bc BK320.out 0;have hcz7_1:=bc BK320.out 1;have hcz7_2:=bc BK320.out 2;have hfz7_0:=blk_frozen BK320.out 0;have hfz7_1:=blk_frozen BK320.out 1;have hfz7_2:=blk_frozen BK320.out 2)))
    (try simp only[Act.put,List.setIfInBounds_toArray,List.set_cons_zero,List.set_cons_succ])
    go_cut [27] (fun v27 wc=>∃(kq:Nat) (x27_4:Bool),v27 = .bool x27_4∧Aside0 (spec_coGood.j1 kq l0 x7_1 l0 (l0.length:Int) x7_1 x27_4 ((rd_T41 l0 x7_1).f0) ((rd_T41 l0 x7_1).f1) ((rd_T41 l0 x7_1).f2)=some r)∧Aside0 (kq≤k1)∧Aside0 (wc.heap[gb320]?=some (.cells #[.int .i64 ((rd_T41 l0 x7_1).f0),.int .i64 ((rd_T41 l0 x7_1).f1),.int .i64 ((rd_T41 l0 x7_1).f2)] 41 (0,0)))∧Aside0 (Below w.heap.size w wc))
    case first =>
     have H:=HC5.out
     clear HC5
     obtain⟨t321,A8,H⟩:=bnd H
     by_cases c9:t321=true
     ·subst c9
      replace H:=(if_pos rfl).symm.trans H
      obtain⟨t322,A10,H⟩:=bnd H
      by_cases c11:t322=true
      ·subst c11
       replace H:=(if_pos rfl).symm.trans H
       obtain⟨t323,A12,H⟩:=bnd H
       have H':=am H
       clear H
       have hcz13_0:=bc BK320.out 0
       have hcz13_1:=bc BK320.out 1
       have hcz13_2:=bc BK320.out 2
       have hfz13_0:=blk_frozen BK320.out 0
       have hfz13_1:=blk_frozen BK320.out 1
       have hfz13_2:=blk_frozen BK320.out 2
       go_wp2_with (first|(go_at_call 38;(with_reducible refine(spec_ntPitch.calls ((rd_T41 l0 x7_1).f0) true _ A8.out).mono ?_);rintro e w' ⟨rfl,⟨nd,rfl⟩⟩;(try first|exact⟨rfl,_,World.drewN_drewN _ _ _⟩|exact⟨rfl,_,Eq.trans (World.drewN_drewN _ _ _) (congrArg (World.drewN _) (Nat.add_assoc _ _ _))⟩))|(go_at_call 29;(with_reducible refine(spec_l1In.calls ((rd_T41 l0 x7_1).f1) (-50) 50 true _ A10.out).mono ?_);rintro e w' ⟨rfl,⟨nd,rfl⟩⟩;(try first|exact⟨rfl,_,World.drewN_drewN _ _ _⟩|exact⟨rfl,_,Eq.trans (World.drewN_drewN _ _ _) (congrArg (World.drewN _) (Nat.add_assoc _ _ _))⟩))|(go_at_call 29;(with_reducible refine(spec_l1In.calls ((rd_T41 l0 x7_1).f2) 0 1 t323 _ A12.out).mono ?_);rintro e w' ⟨rfl,⟨nd,rfl⟩⟩;(try first|exact⟨rfl,_,World.drewN_drewN _ _ _⟩|exact⟨rfl,_,Eq.trans (World.drewN_drewN _ _ _) (congrArg (World.drewN _) (Nat.add_assoc _ _ _))⟩)))
       repeat(go_quiet (first|(go_at_call 38;(with_reducible refine(spec_ntPitch.calls ((rd_T41 l0 x7_1).f0) true _ A8.out).mono ?_);rintro e w' ⟨rfl,⟨nd,rfl⟩⟩;(try first|exact⟨rfl,_,World.drewN_drewN _ _ _⟩|exact⟨rfl,_,Eq.trans (World.drewN_drewN _ _ _) (congrArg (World.drewN _) (Nat.add_assoc _ _ _))⟩))|(go_at_call 29;(with_reducible refine(spec_l1In.calls ((rd_T41 l0 x7_1).f1) (-50) 50 true _ A10.out).mono ?_);rintro e w' ⟨rfl,⟨nd,rfl⟩⟩;(try first|exact⟨rfl,_,World.drewN_drewN _ _ _⟩|exact⟨rfl,_,Eq.trans (World.drewN_drewN _ _ _) (congrArg (World.drewN _) (Nat.add_assoc _ _ _))⟩))|(go_at_call 29;(with_reducible refine(spec_l1In.calls ((rd_T41 l0 x7_1).f2) 0 1 t323 _ A12.out).mono ?_);rintro e w' ⟨rfl,⟨nd,rfl⟩⟩;(try first|exact⟨rfl,_,World.drewN_drewN _ _ _⟩|exact⟨rfl,_,Eq.trans (World.drewN_drewN _ _ _) (congrArg (World.drewN _) (Nat.add_assoc _ _ _))⟩)));try go_wp2_with (first|(go_at_call 38;(with_reducible refine(spec_ntPitch.calls ((rd_T41 l0 x7_1).f0) true _ A8.out).mono ?_);rintro e w' ⟨rfl,⟨nd,rfl⟩⟩;(try first|exact⟨rfl,_,World.drewN_drewN _ _ _⟩|exact⟨rfl,_,Eq.trans (World.drewN_drewN _ _ _) (congrArg (World.drewN _) (Nat.add_assoc _ _ _))⟩))|(go_at_call 29;(with_reducible refine(spec_l1In.calls ((rd_T41 l0 x7_1).f1) (-50) 50 true _ A10.out).mono ?_);rintro e w' ⟨rfl,⟨nd,rfl⟩⟩;(try first|exact⟨rfl,_,World.drewN_drewN _ _ _⟩|exact⟨rfl,_,Eq.trans (World.drewN_drewN _ _ _) (congrArg (World.drewN _) (Nat.add_assoc _ _ _))⟩))|(go_at_call 29;(with_reducible refine(spec_l1In.calls ((rd_T41 l0 x7_1).f2) 0 1 t323 _ A12.out).mono ?_);rintro e w' ⟨rfl,⟨nd,rfl⟩⟩;(try first|exact⟨rfl,_,World.drewN_drewN _ _ _⟩|exact⟨rfl,_,Eq.trans (World.drewN_drewN _ _ _) (congrArg (World.drewN _) (Nat.add_assoc _ _ _))⟩))))
       go_meet
       case rel=>exact⟨_,(!t323),fin2,H',⟨by have:=HK1.out;first|omega|exact Nat.le_refl _⟩,⟨by(with_reducible repeat(first|refine bN_ ?_ _|refine bD_ ?_|refine bA_ ?_ _));refine blk_put (cs := #[.int .i64 ((rd_T41 l0 x7_1).f0),.int .i64 ((rd_T41 l0 x7_1).f1),.int .i64 0]) ?_ 2 _ rfl;(with_reducible repeat(first|refine bN_ ?_ _|refine bD_ ?_|refine bA_ ?_ _));refine blk_put (cs := #[.int .i64 ((rd_T41 l0 x7_1).f0),.int .i64 0,.int .i64 0]) ?_ 1 _ rfl;(with_reducible repeat(first|refine bN_ ?_ _|refine bD_ ?_|refine bA_ ?_ _));refine blk_put (cs := #[.int .i64 0,.int .i64 0,.int .i64 0]) ?_ 0 _ rfl;exact bup BK320.out⟩,⟨bl⟩⟩
      ·replace c11:=Bool.eq_false_iff.mpr c11
       subst c11
       replace H:=(if_neg Bool.false_ne_true).symm.trans H
       have H':=am H
       clear H
       have hcz14_0:=bc BK320.out 0
       have hcz14_1:=bc BK320.out 1
       have hcz14_2:=bc BK320.out 2
       have hfz14_0:=blk_frozen BK320.out 0
       have hfz14_1:=blk_frozen BK320.out 1
       have hfz14_2:=blk_frozen BK320.out 2
       go_wp2_with (first|(go_at_call 38;(with_reducible refine(spec_ntPitch.calls ((rd_T41 l0 x7_1).f0) true _ A8.out).mono ?_);rintro e w' ⟨rfl,⟨nd,rfl⟩⟩;(try first|exact⟨rfl,_,World.drewN_drewN _ _ _⟩|exact⟨rfl,_,Eq.trans (World.drewN_drewN _ _ _) (congrArg (World.drewN _) (Nat.add_assoc _ _ _))⟩))|(go_at_call 29;(with_reducible refine(spec_l1In.calls ((rd_T41 l0 x7_1).f1) (-50) 50 false _ A10.out).mono ?_);rintro e w' ⟨rfl,⟨nd,rfl⟩⟩;(try first|exact⟨rfl,_,World.drewN_drewN _ _ _⟩|exact⟨rfl,_,Eq.trans (World.drewN_drewN _ _ _) (congrArg (World.drewN _) (Nat.add_assoc _ _ _))⟩)))
       repeat(go_quiet (first|(go_at_call 38;(with_reducible refine(spec_ntPitch.calls ((rd_T41 l0 x7_1).f0) true _ A8.out).mono ?_);rintro e w' ⟨rfl,⟨nd,rfl⟩⟩;(try first|exact⟨rfl,_,World.drewN_drewN _ _ _⟩|exact⟨rfl,_,Eq.trans (World.drewN_drewN _ _ _) (congrArg (World.drewN _) (Nat.add_assoc _ _ _))⟩))|(go_at_call 29;(with_reducible refine(spec_l1In.calls ((rd_T41 l0 x7_1).f1) (-50) 50 false _ A10.out).mono ?_);rintro e w' ⟨rfl,⟨nd,rfl⟩⟩;(try first|exact⟨rfl,_,World.drewN_drewN _ _ _⟩|exact⟨rfl,_,Eq.trans (World.drewN_drewN _ _ _) (congrArg (World.drewN _) (Nat.add_assoc _ _ _))⟩)));try go_wp2_with (first|(go_at_call 38;(with_reducible refine(spec_ntPitch.calls ((rd_T41 l0 x7_1).f0) true _ A8.out).mono ?_);rintro e w' ⟨rfl,⟨nd,rfl⟩⟩;(try first|exact⟨rfl,_,World.drewN_drewN _ _ _⟩|exact⟨rfl,_,Eq.trans (World.drewN_drewN _ _ _) (congrArg (World.drewN _) (Nat.add_assoc _ _ _))⟩))|(go_at_call 29;(with_reducible refine(spec_l1In.calls ((rd_T41 l0 x7_1).f1) (-50) 50 false _ A10.out).mono ?_);rintro e w' ⟨rfl,⟨nd,rfl⟩⟩;(try first|exact⟨rfl,_,World.drewN_drewN _ _ _⟩|exact⟨rfl,_,Eq.trans (World.drewN_drewN _ _ _) (congrArg (World.drewN _) (Nat.add_assoc _ _ _))⟩))))
       go_meet
       case rel=>exact⟨_,(true),fin2,H',⟨by have:=HK1.out;first|omega|exact Nat.le_refl _⟩,⟨by(with_reducible repeat(first|refine bN_ ?_ _|refine bD_ ?_|refine bA_ ?_ _));refine blk_put (cs := #[.int .i64 ((rd_T41 l0 x7_1).f0),.int .i64 ((rd_T41 l0 x7_1).f1),.int .i64 0]) ?_ 2 _ rfl;(with_reducible repeat(first|refine bN_ ?_ _|refine bD_ ?_|refine bA_ ?_ _));refine blk_put (cs := #[.int .i64 ((rd_T41 l0 x7_1).f0),.int .i64 0,.int .i64 0]) ?_ 1 _ rfl;(with_reducible repeat(first|refine bN_ ?_ _|refine bD_ ?_|refine bA_ ?_ _));refine blk_put (cs := #[.int .i64 0,.int .i64 0,.int .i64 0]) ?_ 0 _ rfl;exact bup BK320.out⟩,⟨bl⟩⟩
     ·replace c9:=Bool.eq_false_iff.mpr c9
      subst c9
      replace H:=(if_neg Bool.false_ne_true).symm.trans H
      have H':=am H
      clear H
      have hcz15_0:=bc BK320.out 0
      have hcz15_1:=bc BK320.out 1
      have hcz15_2:=bc BK320.out 2
      have hfz15_0:=blk_frozen BK320.out 0
      have hfz15_1:=blk_frozen BK320.out 1
      have hfz15_2:=blk_frozen BK320.out 2
      go_wp2_with (first|(go_at_call 38;(with_reducible refine(spec_ntPitch.calls ((rd_T41 l0 x7_1).f0) false _ A8.out).mono ?_);rintro e w' ⟨rfl,⟨nd,rfl⟩⟩;(try first|exact⟨rfl,_,World.drewN_drewN _ _ _⟩|exact⟨rfl,_,Eq.trans (World.drewN_drewN _ _ _) (congrArg (World.drewN _) (Nat.add_assoc _ _ _))⟩)))
      repeat(go_quiet (first|(go_at_call 38;(with_reducible refine(spec_ntPitch.calls ((rd_T41 l0 x7_1).f0) false _ A8.out).mono ?_);rintro e w' ⟨rfl,⟨nd,rfl⟩⟩;(try first|exact⟨rfl,_,World.drewN_drewN _ _ _⟩|exact⟨rfl,_,Eq.trans (World.drewN_drewN _ _ _) (congrArg (World.drewN _) (Nat.add_assoc _ _ _))⟩)));try go_wp2_with (first|(go_at_call 38;(with_reducible refine(spec_ntPitch.calls ((rd_T41 l0 x7_1).f0) false _ A8.out).mono ?_);rintro e w' ⟨rfl,⟨nd,rfl⟩⟩;(try first|exact⟨rfl,_,World.drewN_drewN _ _ _⟩|exact⟨rfl,_,Eq.trans (World.drewN_drewN _ _ _) (congrArg (World.drewN _) (Nat.add_assoc _ _ _))⟩))))
      go_meet
      case rel=>exact⟨_,(true),fin2,H',⟨by have:=HK1.out;first|omega|exact Nat.le_refl _⟩,⟨by(with_reducible repeat(first|refine bN_ ?_ _|refine bD_ ?_|refine bA_ ?_ _));refine blk_put (cs := #[.int .i64 ((rd_T41 l0 x7_1).f0),.int .i64 ((rd_T41 l0 x7_1).f1),.int .i64 0]) ?_ 2 _ rfl;(with_reducible repeat(first|refine bN_ ?_ _|refine bD_ ?_|refine bA_ ?_ _));refine blk_put (cs := #[.int .i64 ((rd_T41 l0 x7_1).f0),.int .i64 0,.int .i64 0]) ?_ 1 _ rfl;(with_reducible repeat(first|refine bN_ ?_ _|refine bD_ ?_|refine bA_ ?_ _));refine blk_put (cs := #[.int .i64 0,.int .i64 0,.int .i64 0]) ?_ 0 _ rfl;exact bup BK320.out⟩,⟨bl⟩⟩
    case rest =>
     clear HC5
     try clear c2b0
     try clear c3b0
     try clear c4b0
     try clear hcz7_0
     try clear hcz7_1
     try clear hcz7_2
     try clear hfz7_0
     try clear hfz7_1
     try clear hfz7_2
     try clear hx319_0
     try clear hx319_1
     try clear hx319_2
     try clear p319
     try clear q319
     obtain⟨kq,x27_4,rfl,HA,HJ4,BK320,HB⟩:=hcut
     cases kq with
     | zero=>exact absurd HA.out (by simp [spec_coGood.j1])
     | succ kj4 =>
      have H:=HA.out
      clear HA
      simp only[spec_coGood.j1] at H
      by_cases c16:x27_4=true
      ·subst c16
       replace H:=(if_pos rfl).symm.trans H
       obtain rfl:=Option.some.inj H
       go_wp2
       repeat(go_quiet (fail);try go_wp2)
       go_ret
       exact⟨fin1,bl⟩
      ·replace c16:=Bool.eq_false_iff.mpr c16
       subst c16
       replace H:=(if_neg Bool.false_ne_true).symm.trans H
       rcases itc H with⟨c17,H⟩|⟨c17,H⟩
       ·have c17b0:decide (0<x7_1)=true:=decide_eq_true c17
        clear c17
        obtain⟨ji18,hji18⟩:∃ j_:Int,(wrap64 (x7_1 - 1))=j_:=⟨_,rfl⟩
        replace H:(if 0≤(ji18) then(if(ji18)<(l0.length:Int) then(if((rd_T41 l0 (ji18)).f0)>((rd_T41 l0 x7_1).f0) then(some false) else(if x7_1>3 then(if 0≤(wrap64 (x7_1 - 4)) then(if(wrap64 (x7_1 - 4))<(l0.length:Int) then(if((rd_T41 l0 (wrap64 (x7_1 - 4))).f0)=((rd_T41 l0 x7_1).f0) then(some false) else(spec_coGood.l0 kj4 l0 l0 (l0.length:Int) (wrap64 (x7_1+1)))) else(none)) else(none)) else(spec_coGood.l0 kj4 l0 l0 (l0.length:Int) (wrap64 (x7_1+1))))) else(none)) else(none))=some r:=by first|(rw[hji18] at H;exact H)|(simp only[hji18] at H ⊢;exact H)
        have hji18w:(IntKind.i64.wrap (x7_1 - 1))=ji18:=(i64_w _).trans hji18
        obtain⟨c19b0,H⟩:=ifb H
        obtain⟨c20b0,H⟩:=ifb H
        rcases itc H with⟨c21,H⟩|⟨c21,H⟩
        ·have c21b0:decide (((rd_T41 l0 x7_1).f0)<((rd_T41 l0 (ji18)).f0))=true:=decide_eq_true c21
         clear c21
         obtain rfl:=Option.some.inj H
         have p324:0≤((ji18):Int):=od
         have q324:(ji18)<(l0.length:Int):=od
         obtain⟨ad324,e324,hx324_0,hx324_1,hx324_2⟩:=at_T41 HR0.out (ji18) p324 q324
         obtain rfl:ad319=ad324:=(by injection e324)
         replace hx324_0:=(HB.out.cell (World.block_lt_of_cell? w _ hx324_0)).trans hx324_0
         replace hx324_1:=(HB.out.cell (World.block_lt_of_cell? w _ hx324_1)).trans hx324_1
         replace hx324_2:=(HB.out.cell (World.block_lt_of_cell? w _ hx324_2)).trans hx324_2
         replace p324:=eq_true p324
         replace q324:=eq_true q324
         have hcz22_0:=bc BK320.out 0
         have hcz22_1:=bc BK320.out 1
         have hcz22_2:=bc BK320.out 2
         have hfz22_0:=blk_frozen BK320.out 0
         have hfz22_1:=blk_frozen BK320.out 1
         have hfz22_2:=blk_frozen BK320.out 2
         go_wp2
         repeat(go_quiet (fail);try go_wp2)
         go_ret
         exact⟨by first|rfl|(simp [errW_none,errW_some]<;>rfl)|(simp only[← hji18];first|rfl|(simp [errW_none,errW_some]<;>rfl))|(simp [*,errW_none,errW_some]<;>rfl),bl⟩
        ·have c21b0:decide (((rd_T41 l0 x7_1).f0)<((rd_T41 l0 (ji18)).f0))=false:=decide_eq_false c21
         clear c21
         rcases itc H with⟨c23,H⟩|⟨c23,H⟩
         ·have c23b0:decide (3<x7_1)=true:=decide_eq_true c23
          clear c23
          obtain⟨ji24,hji24⟩:∃ j_:Int,(wrap64 (x7_1 - 4))=j_:=⟨_,rfl⟩
          replace H:(if 0≤(ji24) then(if(ji24)<(l0.length:Int) then(if((rd_T41 l0 (ji24)).f0)=((rd_T41 l0 x7_1).f0) then(some false) else(spec_coGood.l0 kj4 l0 l0 (l0.length:Int) (wrap64 (x7_1+1)))) else(none)) else(none))=some r:=by first|(rw[hji24] at H;exact H)|(simp only[hji24] at H ⊢;exact H)
          have hji24w:(IntKind.i64.wrap (x7_1 - 4))=ji24:=(i64_w _).trans hji24
          obtain⟨c25b0,H⟩:=ifb H
          obtain⟨c26b0,H⟩:=ifb H
          rcases itc H with⟨c27,H⟩|⟨c27,H⟩
          ·have c27b0:(((rd_T41 l0 (ji24)).f0) == ((rd_T41 l0 x7_1).f0))=true:=beq_iff_eq.mpr c27
           have c27b1:(((rd_T41 l0 (ji24)).f0) != ((rd_T41 l0 x7_1).f0))=false:=bne_eq_false_iff_eq.mpr c27
           clear c27
           obtain rfl:=Option.some.inj H
           have p324:0≤((ji18):Int):=od
           have q324:(ji18)<(l0.length:Int):=od
           obtain⟨ad324,e324,hx324_0,hx324_1,hx324_2⟩:=at_T41 HR0.out (ji18) p324 q324
           obtain rfl:ad319=ad324:=(by injection e324)
           replace hx324_0:=(HB.out.cell (World.block_lt_of_cell? w _ hx324_0)).trans hx324_0
           replace hx324_1:=(HB.out.cell (World.block_lt_of_cell? w _ hx324_1)).trans hx324_1
           replace hx324_2:=(HB.out.cell (World.block_lt_of_cell? w _ hx324_2)).trans hx324_2
           replace p324:=eq_true p324
           replace q324:=eq_true q324
           have hcz28_0:=bc BK320.out 0
           have hcz28_1:=bc BK320.out 1
           have hcz28_2:=bc BK320.out 2
           have hfz28_0:=blk_frozen BK320.out 0
           have hfz28_1:=blk_frozen BK320.out 1
           have hfz28_2:=blk_frozen BK320.out 2
           have p325:0≤((ji24):Int):=od
           have q325:(ji24)<(l0.length:Int):=od
           obtain⟨ad325,e325,hx325_0,hx325_1,hx325_2⟩:=at_T41 HR0.out (ji24) p325 q325
           obtain rfl:ad319=ad325:=(by injection e325)
           replace hx325_0:=(HB.out.cell (World.block_lt_of_cell? w _ hx325_0)).trans hx325_0
           replace hx325_1:=(HB.out.cell (World.block_lt_of_cell? w _ hx325_1)).trans hx325_1
           replace hx325_2:=(HB.out.cell (World.block_lt_of_cell? w _ hx325_2)).trans hx325_2
           replace p325:=eq_true p325
           replace q325:=eq_true q325
           go_wp2
           repeat(go_quiet (fail);try go_wp2)
           go_ret
           exact⟨by first|rfl|(simp [errW_none,errW_some]<;>rfl)|(simp only[← hji18,← hji24];first|rfl|(simp [errW_none,errW_some]<;>rfl))|(simp [*,errW_none,errW_some]<;>rfl),bl⟩
          ·have c27b0:(((rd_T41 l0 (ji24)).f0) == ((rd_T41 l0 x7_1).f0))=false:=beq_eq_false_iff_ne.mpr c27
           have c27b1:(((rd_T41 l0 (ji24)).f0) != ((rd_T41 l0 x7_1).f0))=true:=bne_iff_ne.mpr c27
           have H':=am H
           clear H
           have p324:0≤((ji18):Int):=od
           have q324:(ji18)<(l0.length:Int):=od
           obtain⟨ad324,e324,hx324_0,hx324_1,hx324_2⟩:=at_T41 HR0.out (ji18) p324 q324
           obtain rfl:ad319=ad324:=(by injection e324)
           replace hx324_0:=(HB.out.cell (World.block_lt_of_cell? w _ hx324_0)).trans hx324_0
           replace hx324_1:=(HB.out.cell (World.block_lt_of_cell? w _ hx324_1)).trans hx324_1
           replace hx324_2:=(HB.out.cell (World.block_lt_of_cell? w _ hx324_2)).trans hx324_2
           replace p324:=eq_true p324
           replace q324:=eq_true q324
           have hcz29_0:=bc BK320.out 0
           have hcz29_1:=bc BK320.out 1
           have hcz29_2:=bc BK320.out 2
           have hfz29_0:=blk_frozen BK320.out 0
           have hfz29_1:=blk_frozen BK320.out 1
           have hfz29_2:=blk_frozen BK320.out 2
           have p325:0≤((ji24):Int):=od
           have q325:(ji24)<(l0.length:Int):=od
           obtain⟨ad325,e325,hx325_0,hx325_1,hx325_2⟩:=at_T41 HR0.out (ji24) p325 q325
           obtain rfl:ad319=ad325:=(by injection e325)
           replace hx325_0:=(HB.out.cell (World.block_lt_of_cell? w _ hx325_0)).trans hx325_0
           replace hx325_1:=(HB.out.cell (World.block_lt_of_cell? w _ hx325_1)).trans hx325_1
           replace hx325_2:=(HB.out.cell (World.block_lt_of_cell? w _ hx325_2)).trans hx325_2
           replace p325:=eq_true p325
           replace q325:=eq_true q325
           go_wp2
           repeat(go_quiet (fail);try go_wp2)
           go_roundg kj4
           case measure=>have:=HK1.out;have:=HJ4.out;omega
           case rel=>exact⟨(wrap64 (x7_1+1)),fin2,H',⟨by have:=HK1.out;have:=HJ4.out;omega⟩,⟨bl⟩⟩
         ·have c23b0:decide (3<x7_1)=false:=decide_eq_false c23
          clear c23
          have H':=am H
          clear H
          have p324:0≤((ji18):Int):=od
          have q324:(ji18)<(l0.length:Int):=od
          obtain⟨ad324,e324,hx324_0,hx324_1,hx324_2⟩:=at_T41 HR0.out (ji18) p324 q324
          obtain rfl:ad319=ad324:=(by injection e324)
          replace hx324_0:=(HB.out.cell (World.block_lt_of_cell? w _ hx324_0)).trans hx324_0
          replace hx324_1:=(HB.out.cell (World.block_lt_of_cell? w _ hx324_1)).trans hx324_1
          replace hx324_2:=(HB.out.cell (World.block_lt_of_cell? w _ hx324_2)).trans hx324_2
          replace p324:=eq_true p324
          replace q324:=eq_true q324
          have hcz30_0:=bc BK320.out 0
          have hcz30_1:=bc BK320.out 1
          have hcz30_2:=bc BK320.out 2
          have hfz30_0:=blk_frozen BK320.out 0
          have hfz30_1:=blk_frozen BK320.out 1
          have hfz30_2:=blk_frozen BK320.out 2
          go_wp2
          repeat(go_quiet (fail);try go_wp2)
          go_roundg kj4
          case measure=>have:=HK1.out;have:=HJ4.out;omega
          case rel=>exact⟨(wrap64 (x7_1+1)),fin2,H',⟨by have:=HK1.out;have:=HJ4.out;omega⟩,⟨bl⟩⟩
       ·have c17b0:decide (0<x7_1)=false:=decide_eq_false c17
        clear c17
        rcases itc H with⟨c31,H⟩|⟨c31,H⟩
        ·have c31b0:decide (3<x7_1)=true:=decide_eq_true c31
         clear c31
         obtain⟨ji32,hji32⟩:∃ j_:Int,(wrap64 (x7_1 - 4))=j_:=⟨_,rfl⟩
         replace H:(if 0≤(ji32) then(if(ji32)<(l0.length:Int) then(if((rd_T41 l0 (ji32)).f0)=((rd_T41 l0 x7_1).f0) then(some false) else(spec_coGood.l0 kj4 l0 l0 (l0.length:Int) (wrap64 (x7_1+1)))) else(none)) else(none))=some r:=by first|(rw[hji32] at H;exact H)|(simp only[hji32] at H ⊢;exact H)
         have hji32w:(IntKind.i64.wrap (x7_1 - 4))=ji32:=(i64_w _).trans hji32
         obtain⟨c33b0,H⟩:=ifb H
         obtain⟨c34b0,H⟩:=ifb H
         rcases itc H with⟨c35,H⟩|⟨c35,H⟩
         ·have c35b0:(((rd_T41 l0 (ji32)).f0) == ((rd_T41 l0 x7_1).f0))=true:=beq_iff_eq.mpr c35
          have c35b1:(((rd_T41 l0 (ji32)).f0) != ((rd_T41 l0 x7_1).f0))=false:=bne_eq_false_iff_eq.mpr c35
          clear c35
          obtain rfl:=Option.some.inj H
          have p326:0≤((ji32):Int):=od
          have q326:(ji32)<(l0.length:Int):=od
          obtain⟨ad326,e326,hx326_0,hx326_1,hx326_2⟩:=at_T41 HR0.out (ji32) p326 q326
          obtain rfl:ad319=ad326:=(by injection e326)
          replace hx326_0:=(HB.out.cell (World.block_lt_of_cell? w _ hx326_0)).trans hx326_0
          replace hx326_1:=(HB.out.cell (World.block_lt_of_cell? w _ hx326_1)).trans hx326_1
          replace hx326_2:=(HB.out.cell (World.block_lt_of_cell? w _ hx326_2)).trans hx326_2
          replace p326:=eq_true p326
          replace q326:=eq_true q326
          have hcz36_0:=bc BK320.out 0
          have hcz36_1:=bc BK320.out 1
          have hcz36_2:=bc BK320.out 2
          have hfz36_0:=blk_frozen BK320.out 0
          have hfz36_1:=blk_frozen BK320.out 1
          have hfz36_2:=blk_frozen BK320.out 2
          go_wp2
          repeat(go_quiet (fail);try go_wp2)
          go_ret
          exact⟨by first|rfl|(simp [errW_none,errW_some]<;>rfl)|(simp only[← hji32];first|rfl|(simp [errW_none,errW_some]<;>rfl))|(simp [*,errW_none,errW_some]<;>rfl),bl⟩
         ·have c35b0:(((rd_T41 l0 (ji32)).f0) == ((rd_T41 l0 x7_1).f0))=false:=beq_eq_false_iff_ne.mpr c35
          have c35b1:(((rd_T41 l0 (ji32)).f0) != ((rd_T41 l0 x7_1).f0))=true:=bne_iff_ne.mpr c35
          have H':=am H
          clear H
          have p326:0≤((ji32):Int):=od
          have q326:(ji32)<(l0.length:Int):=od
          obtain⟨ad326,e326,hx326_0,hx326_1,hx326_2⟩:=at_T41 HR0.out (ji32) p326 q326
          obtain rfl:ad319=ad326:=(by injection e326)
          replace hx326_0:=(HB.out.cell (World.block_lt_of_cell? w _ hx326_0)).trans hx326_0
          replace hx326_1:=(HB.out.cell (World.block_lt_of_cell? w _ hx326_1)).trans hx326_1
          replace hx326_2:=(HB.out.cell (World.block_lt_of_cell? w _ hx326_2)).trans hx326_2
          replace p326:=eq_true p326
          replace q326:=eq_true q326
          have hcz37_0:=bc BK320.out 0
          have hcz37_1:=bc BK320.out 1
          have hcz37_2:=bc BK320.out 2
          have hfz37_0:=blk_frozen BK320.out 0
          have hfz37_1:=blk_frozen BK320.out 1
          have hfz37_2:=blk_frozen BK320.out 2
          go_wp2
          repeat(go_quiet (fail);try go_wp2)
          go_roundg kj4
          case measure=>have:=HK1.out;have:=HJ4.out;omega
          case rel=>exact⟨(wrap64 (x7_1+1)),fin2,H',⟨by have:=HK1.out;have:=HJ4.out;omega⟩,⟨bl⟩⟩
        ·have c31b0:decide (3<x7_1)=false:=decide_eq_false c31
         clear c31
         have H':=am H
         clear H
         go_wp2
         repeat(go_quiet (fail);try go_wp2)
         go_roundg kj4
         case measure=>have:=HK1.out;have:=HJ4.out;omega
         case rel=>exact⟨(wrap64 (x7_1+1)),fin2,H',⟨by have:=HK1.out;have:=HJ4.out;omega⟩,⟨bl⟩⟩
   ·have c2b0:=decide_eq_false c2
    clear c2
    obtain⟨t318,A38,H⟩:=bnd H
    obtain rfl:=Option.some.inj H
    go_wp2_with (first|(go_at_call 29;(with_reducible refine(spec_l1In.calls (l0.length:Int) 1 40 t318 _ A38.out).mono ?_);rintro e w' ⟨rfl,⟨nd,rfl⟩⟩;(try first|exact⟨rfl,_,World.drewN_drewN _ _ _⟩|exact⟨rfl,_,Eq.trans (World.drewN_drewN _ _ _) (congrArg (World.drewN _) (Nat.add_assoc _ _ _))⟩)))
    repeat(go_quiet (first|(go_at_call 29;(with_reducible refine(spec_l1In.calls (l0.length:Int) 1 40 t318 _ A38.out).mono ?_);rintro e w' ⟨rfl,⟨nd,rfl⟩⟩;(try first|exact⟨rfl,_,World.drewN_drewN _ _ _⟩|exact⟨rfl,_,Eq.trans (World.drewN_drewN _ _ _) (congrArg (World.drewN _) (Nat.add_assoc _ _ _))⟩)));try go_wp2_with (first|(go_at_call 29;(with_reducible refine(spec_l1In.calls (l0.length:Int) 1 40 t318 _ A38.out).mono ?_);rintro e w' ⟨rfl,⟨nd,rfl⟩⟩;(try first|exact⟨rfl,_,World.drewN_drewN _ _ _⟩|exact⟨rfl,_,Eq.trans (World.drewN_drewN _ _ _) (congrArg (World.drewN _) (Nat.add_assoc _ _ _))⟩))))
    go_ret
    exact⟨fin1,bl⟩

def spec_coAsked.f (k:Nat) (l0:List (S41)) (l1:List (S45)) (a2:Int):Option (Bool):=(spec_coGood.f k l0).bind fun t327=>(if t327=true then((spec_coStrikes.f k l1).bind fun t328=>(if t328=true then((spec_l1In.f a2 1 200).bind fun t329=>(some t329)) else(some false))) else(some false))
set_option maxHeartbeats 8000000 in
set_option maxRecDepth 100000 in
theorem spec_coAsked.calls (k:Nat) (A0:Option Addr) (c0:Nat) (l0:List (S41)) (A1:Option Addr) (c1:Nat) (l1:List (S45)) (a2:Int) (r:Bool) (w:World) (hr0:Kd.C k41 w A0 l0.length l0) (hc0:l0.length≤c0) (hr1:Kd.C k45 w A1 l1.length l1) (hc1:l1.length≤c1) (h:spec_coAsked.f k l0 l1 a2=some r) :
  Calls Try.prog 26 #[.slice A0 l0.length c0,.slice A1 l1.length c1,.int .i64 a2] w fun e w'=>e = .returned (.bool r)∧Below w.heap.size w w':=by
 have HR0:=am hr0
 have HC0:=am hc0
 clear hr0 hc0
 have HR1:=am hr1
 have HC1:=am hc1
 clear hr1 hc1
 have HB:=am (Below.refl w.heap.size w)
 have H:((spec_coGood.f k l0).bind fun t327=>(if t327=true then((spec_coStrikes.f k l1).bind fun t328=>(if t328=true then((spec_l1In.f a2 1 200).bind fun t329=>(some t329)) else(some false))) else(some false)))=some r:=h
 clear h
 obtain⟨t327,A4,H⟩:=bnd H
 by_cases c5:t327=true
 ·subst c5
  replace H:=(if_pos rfl).symm.trans H
  obtain⟨t328,A6,H⟩:=bnd H
  by_cases c7:t328=true
  ·subst c7
   replace H:=(if_pos rfl).symm.trans H
   obtain⟨t329,A8,H⟩:=bnd H
   obtain rfl:=Option.some.inj H
   go_enter Try.func26,Try.ntmps26
   go_wp2_with (first|((with_reducible refine gate_callee (f:=37) rfl ?_);refine goesL_ (some 8) rfl rfl Try.func37 (by kernel_rfl) rfl #[.slice A0 l0.length c0] rfl tl ?_;(with_reducible refine(spec_coGood.calls k _ _ l0 true _ ?side1 ?side2 A4.out).mono ?_);(case side1=>repeat(first|exact HR0.out|(with_reducible refine Kd.C_alloc ?_ _)|(with_reducible refine Kd.C_drewN ?_ _)|(with_reducible refine Kd.C_drew ?_)));(case side2=>exact HC0.out);rintro e w9 ⟨rfl,hb⟩;refine⟨_,rfl,?_⟩;replace HB:=am (below_step bl hb);(try clear hb))|(go_at_call 28;(with_reducible refine(spec_coStrikes.calls k _ _ l1 true _ ?side1 ?side2 A6.out).mono ?_);(case side1=>exact cup (Kd.C_below HR1.out HB.out));(case side2=>exact HC1.out);rintro e w10 ⟨rfl,hb⟩;replace HB:=am (below_step bl hb);(try clear hb))|(go_at_call 29;(with_reducible refine(spec_l1In.calls a2 1 200 t329 _ A8.out).mono ?_);rintro e w' ⟨rfl,⟨nd,rfl⟩⟩))
   go_ret
   exact⟨fin1,bl⟩
  ·replace c7:=Bool.eq_false_iff.mpr c7
   subst c7
   replace H:=(if_neg Bool.false_ne_true).symm.trans H
   obtain rfl:=Option.some.inj H
   go_enter Try.func26,Try.ntmps26
   go_wp2_with (first|((with_reducible refine gate_callee (f:=37) rfl ?_);refine goesL_ (some 8) rfl rfl Try.func37 (by kernel_rfl) rfl #[.slice A0 l0.length c0] rfl tl ?_;(with_reducible refine(spec_coGood.calls k _ _ l0 true _ ?side1 ?side2 A4.out).mono ?_);(case side1=>repeat(first|exact HR0.out|(with_reducible refine Kd.C_alloc ?_ _)|(with_reducible refine Kd.C_drewN ?_ _)|(with_reducible refine Kd.C_drew ?_)));(case side2=>exact HC0.out);rintro e w11 ⟨rfl,hb⟩;refine⟨_,rfl,?_⟩;replace HB:=am (below_step bl hb);(try clear hb))|(go_at_call 28;(with_reducible refine(spec_coStrikes.calls k _ _ l1 false _ ?side1 ?side2 A6.out).mono ?_);(case side1=>exact cup (Kd.C_below HR1.out HB.out));(case side2=>exact HC1.out);rintro e w12 ⟨rfl,hb⟩;replace HB:=am (below_step bl hb);(try clear hb)))
   go_ret
   exact⟨fin1,bl⟩
 ·replace c5:=Bool.eq_false_iff.mpr c5
  subst c5
  replace H:=(if_neg Bool.false_ne_true).symm.trans H
  obtain rfl:=Option.some.inj H
  go_enter Try.func26,Try.ntmps26
  go_wp2_with (first|((with_reducible refine gate_callee (f:=37) rfl ?_);refine goesL_ (some 8) rfl rfl Try.func37 (by kernel_rfl) rfl #[.slice A0 l0.length c0] rfl tl ?_;(with_reducible refine(spec_coGood.calls k _ _ l0 false _ ?side1 ?side2 A4.out).mono ?_);(case side1=>repeat(first|exact HR0.out|(with_reducible refine Kd.C_alloc ?_ _)|(with_reducible refine Kd.C_drewN ?_ _)|(with_reducible refine Kd.C_drew ?_)));(case side2=>exact HC0.out);rintro e w13 ⟨rfl,hb⟩;refine⟨_,rfl,?_⟩;replace HB:=am (below_step bl hb);(try clear hb)))
  go_ret
  exact⟨fin1,bl⟩

def spec_coTeeth.l0:Nat→Int→List Int→List (S41)→Int→Int→Option (List Int)
 | 0,_,_,_,_,_=>none
 | k+1,x1,x5,x8,x9,x10=>if x10<x9 then(if 0≤x10 then(if x10<(x8.length:Int) then(if((rd_T41 x8 x10).f0)=x1 then(if x5.length<17592186044416 then(spec_coTeeth.l0 k x1 (x5 ++ [x10]) x8 x9 (wrap64 (x10+1))) else(none)) else(spec_coTeeth.l0 k x1 x5 x8 x9 (wrap64 (x10+1)))) else(none)) else(none)) else(some x5)
def spec_coTeeth.f (k:Nat) (l0:List (S41)) (a1:Int):Option (List Int):=spec_coTeeth.l0 k a1 ([]:List Int) l0 (l0.length:Int) 0
set_option maxHeartbeats 8000000 in
set_option maxRecDepth 100000 in
theorem spec_coTeeth.calls (k:Nat) (A0:Option Addr) (c0:Nat) (l0:List (S41)) (a1:Int) (r:List Int) (w:World) (hr0:Kd.C k41 w A0 l0.length l0) (hc0:l0.length≤c0) (h:spec_coTeeth.f k l0 a1=some r) :
  Calls Try.prog 39 #[.slice A0 l0.length c0,.int .i64 a1] w fun e w'=>∃ v0_:Value,e = .returned (v0_)∧Kd.R (Kd.int .i64) 3 w' w.heap.size (fun _=>True) v0_ r∧Below w.heap.size w w':=by
 have hu41:=Try.underlying41
 have HR0:=am hr0
 have HC0:=am hc0
 clear hr0 hc0
 have HB:=am (Below.refl w.heap.size w)
 have H:(spec_coTeeth.l0 k a1 ([]:List Int) l0 (l0.length:Int) 0)=some r:=h
 clear h
 have H':=am H
 clear H
 go_enter Try.func39,Try.ntmps39
 go_wp2
 go_loopg [5,10] k (fun kq v5 v10 w'=>∃(x5_1:List Int) (x10_1:Int),v10 = .int .i64 x10_1∧Aside0 (spec_coTeeth.l0 kq a1 x5_1 l0 (l0.length:Int) x10_1=some r)∧Aside0 (kq≤k)∧Aside0 (Kd.R (Kd.int .i64) 3 w' w.heap.size (fun _=>True) v5 x5_1)∧Aside0 (Below w.heap.size w w'))
 case atStart=>exact⟨(([]:List Int)),(0),fin2,H',⟨Nat.le_refl _⟩,⟨by first|exact Kd.R_nil _ _ _ _ _|exact Kd.N_nil _ _ _ _ _|exact Kd.V_nil _ _ _ _ _|exact Kd.Q_nil _ _ _ _ _|exact Kd.S_nil _ _ _ _ _⟩,⟨bl⟩⟩
 case round =>
  clear H'
  obtain⟨x5_1,x10_1,rfl,HA,HK1,HO_5,HB⟩:=hrel
  cases gk with
  | zero=>exact absurd HA.out (by simp [spec_coTeeth.l0])
  | succ k1 =>
   have H:=HA.out
   clear HA
   simp only[spec_coTeeth.l0] at H
   rcases itc H with⟨c3,H⟩|⟨c3,H⟩
   ·have c3b0:=decide_eq_true c3
    clear c3
    obtain⟨c4b0,H⟩:=ifb H
    obtain⟨c5b0,H⟩:=ifb H
    rcases itc H with⟨c6,H⟩|⟨c6,H⟩
    ·have c6b0:(((rd_T41 l0 x10_1).f0) == a1)=true:=beq_iff_eq.mpr c6
     have c6b1:(((rd_T41 l0 x10_1).f0) != a1)=false:=bne_eq_false_iff_eq.mpr c6
     clear c6
     obtain⟨c7,H⟩:=ifp H
     have LMc7:=am c7
     clear c7
     obtain⟨y332,hy332⟩:∃ y_:List Int,y_=(x5_1 ++ [x10_1]):=⟨_,rfl⟩
     replace H:(spec_coTeeth.l0 k1 a1 y332 l0 (l0.length:Int) (wrap64 (x10_1+1)))=some r:=by subst hy332;exact H
     have Ny332:=am hy332
     clear hy332
     have H':=am H
     clear H
     have p330:0≤(x10_1:Int):=od
     have q330:x10_1<(l0.length:Int):=od
     obtain⟨ad330,e330,hx330_0,hx330_1,hx330_2⟩:=at_T41 HR0.out x10_1 p330 q330
     cases e330
     replace hx330_0:=(HB.out.cell (World.block_lt_of_cell? w _ hx330_0)).trans hx330_0
     replace hx330_1:=(HB.out.cell (World.block_lt_of_cell? w _ hx330_1)).trans hx330_1
     replace hx330_2:=(HB.out.cell (World.block_lt_of_cell? w _ hx330_2)).trans hx330_2
     replace p330:=eq_true p330
     replace q330:=eq_true q330
     go_wp2_with (first|((with_reducible refine gate_dst (N:=7) rfl ?_);refine box_event ?hg (N:=7) ?hd (cs := #[.int .i64 0,.int .i64 0,.int .i64 0]) (t:=41) ?hr ?_;(case hd=>rfl);(case hg=>rfl);(case hr=>first|(go_simp;done)|(go_simp;rfl));intro gb331 hg w8 hbox hb;replace HO_5:=am (Kd.R_below (rup HO_5.out) hb);have BK331:=am (hbox);have GW331:=am (ge_ bl hg);have GE331:=am (ge_ bl hg);replace HB:=am (below_step bl hb);clear hb hbox hg;have hcz9_0:=bc BK331.out 0;have hcz9_1:=bc BK331.out 1;have hcz9_2:=bc BK331.out 2;have hfz9_0:=blk_frozen BK331.out 0;have hfz9_1:=blk_frozen BK331.out 1;have hfz9_2:=blk_frozen BK331.out 2)|((with_reducible refine gate_builtin (b := .append) (xs := #[.tmp 19,.tmp 21]) rfl ?_);at_builtin;refine Kd.R_append (Kd.int .i64) (w0:=w) w.heap.size rfl (.tmp 19) (.tmp 21) 27 3 (.int .i64 0) 8 rfl Try.underlying27 info3 rfl (by decide) (by omega) u5 x5_1 x10_1 [.int .i64 x10_1] (fun _=>True) (fun _=>False) rfl (by first|(go_simp;done)|(go_simp;rfl)) ?aP (fun _ hk=>hk.elim) ?aF ?aO ?aB ?aS ?aL ?_;(case aP=>exact rfl);(case aB=>exact bl);(case aF=>exact(fun _ _=>trivial));(case aO=>exact(rup (Kd.R_mono (Kd.R_far (p:=⟨gb331,2,none⟩) (Kd.R_far (p:=⟨gb331,1,none⟩) (Kd.R_far (p:=⟨gb331,0,none⟩) (Kd.R_types HO_5.out BK331.out (by decide)) (fun _ hk=>hk.2) (.int .i64 ((rd_T41 l0 x10_1).f0))) (fun _ hk=>hk.2) (.int .i64 ((rd_T41 l0 x10_1).f1))) (fun _ hk=>hk.2) (.int .i64 ((rd_T41 l0 x10_1).f2))) (fun _ hk=>trivial))));(case aS=>exact(below_size bl));(case aL=>have:=LMc7.out;omega);intro v333 w10 ho hb hg hat;rw[← Ny332.out] at ho;replace BK331:=am (blk_grown (g:=gb331) (o := .cells #[.int .i64 ((rd_T41 l0 x10_1).f0),.int .i64 ((rd_T41 l0 x10_1).f1),.int .i64 ((rd_T41 l0 x10_1).f2)] 41 (0,0)) (by(with_reducible repeat(first|refine bN_ ?_ _|refine bD_ ?_|refine bA_ ?_ _));refine blk_put (cs := #[.int .i64 ((rd_T41 l0 x10_1).f0),.int .i64 ((rd_T41 l0 x10_1).f1),.int .i64 0]) ?_ 2 _ rfl;(with_reducible repeat(first|refine bN_ ?_ _|refine bD_ ?_|refine bA_ ?_ _));refine blk_put (cs := #[.int .i64 ((rd_T41 l0 x10_1).f0),.int .i64 0,.int .i64 0]) ?_ 1 _ rfl;(with_reducible repeat(first|refine bN_ ?_ _|refine bD_ ?_|refine bA_ ?_ _));refine blk_put (cs := #[.int .i64 0,.int .i64 0,.int .i64 0]) ?_ 0 _ rfl;exact bup BK331.out) hg (Kd.R_ne HO_5.out BK331.out (by decide)));replace HB:=am (hb);have HO334:=am (ho);clear HO_5 ho hb hg hat))
     go_roundg k1
     case measure=>have:=HK1.out;omega
     case rel=>exact⟨(y332),(wrap64 (x10_1+1)),fin2,H',⟨by have:=HK1.out;omega⟩,⟨rup HO334.out⟩,⟨bl⟩⟩
    ·have c6b0:(((rd_T41 l0 x10_1).f0) == a1)=false:=beq_eq_false_iff_ne.mpr c6
     have c6b1:(((rd_T41 l0 x10_1).f0) != a1)=true:=bne_iff_ne.mpr c6
     have H':=am H
     clear H
     have p330:0≤(x10_1:Int):=od
     have q330:x10_1<(l0.length:Int):=od
     obtain⟨ad330,e330,hx330_0,hx330_1,hx330_2⟩:=at_T41 HR0.out x10_1 p330 q330
     cases e330
     replace hx330_0:=(HB.out.cell (World.block_lt_of_cell? w _ hx330_0)).trans hx330_0
     replace hx330_1:=(HB.out.cell (World.block_lt_of_cell? w _ hx330_1)).trans hx330_1
     replace hx330_2:=(HB.out.cell (World.block_lt_of_cell? w _ hx330_2)).trans hx330_2
     replace p330:=eq_true p330
     replace q330:=eq_true q330
     go_wp2_with (first|((with_reducible refine gate_dst (N:=7) rfl ?_);refine box_event ?hg (N:=7) ?hd (cs := #[.int .i64 0,.int .i64 0,.int .i64 0]) (t:=41) ?hr ?_;(case hd=>rfl);(case hg=>rfl);(case hr=>first|(go_simp;done)|(go_simp;rfl));intro gb331 hg w11 hbox hb;replace HO_5:=am (Kd.R_below (rup HO_5.out) hb);have BK331:=am (hbox);have GW331:=am (ge_ bl hg);have GE331:=am (ge_ bl hg);replace HB:=am (below_step bl hb);clear hb hbox hg;have hcz12_0:=bc BK331.out 0;have hcz12_1:=bc BK331.out 1;have hcz12_2:=bc BK331.out 2;have hfz12_0:=blk_frozen BK331.out 0;have hfz12_1:=blk_frozen BK331.out 1;have hfz12_2:=blk_frozen BK331.out 2))
     go_roundg k1
     case measure=>have:=HK1.out;omega
     case rel=>exact⟨(x5_1),(wrap64 (x10_1+1)),fin2,H',⟨by have:=HK1.out;omega⟩,⟨rup (Kd.R_mono (Kd.R_far (p:=⟨gb331,2,none⟩) (Kd.R_far (p:=⟨gb331,1,none⟩) (Kd.R_far (p:=⟨gb331,0,none⟩) (Kd.R_types HO_5.out BK331.out (by decide)) (fun _ hk=>hk.2) (.int .i64 ((rd_T41 l0 x10_1).f0))) (fun _ hk=>hk.2) (.int .i64 ((rd_T41 l0 x10_1).f1))) (fun _ hk=>hk.2) (.int .i64 ((rd_T41 l0 x10_1).f2))) (fun _ hk=>trivial))⟩,⟨bl⟩⟩
   ·have c3b0:=decide_eq_false c3
    clear c3
    obtain rfl:=Option.some.inj H
    go_wp2
    go_ret
    exact⟨_,fin1,by(with_reducible repeat(first|apply Kd.R_alloc|apply Kd.R_drewN|apply Kd.R_drew));exact HO_5.out,bl⟩

end Go.Proofs.Ytiekokdlcgpcdaa.PFnStrikes
