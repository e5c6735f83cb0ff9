/- Walks of functions that FnStrikes reaches. No conditions beyond the arguments' being read. -/
import Derived.Test.YtiekokdlcgpcdaaSFnStrikes0
import Derived.Test.YtiekokdlcgpcdaaSFnStrikes1
import Derived.Test.YtiekokdlcgpcdaaSFnStrikes2
import Derived.Test.YtiekokdlcgpcdaaSFnStrikes3
import Derived.Test.YtiekokdlcgpcdaaSFnStrikes4
import Derived.Test.YtiekokdlcgpcdaaSFnStrikes7
namespace Go.Proofs.Ytiekokdlcgpcdaa.PFnStrikes
open Go.RowKit Go.Proofs.YtiekokdlcgpcdaaW.PrintWords Go.Proofs.YtiekokdlcgpcdaaW.PrintLast Go.Proofs.YtiekokdlcgpcdaaW.PrintMore
attribute [local go_sem] max2_int min2_int max_two min_two max_three min_three max_four min_four
set_option linter.unusedVariables false
set_option linter.unusedSimpArgs false

mutual
def spec_TeethNeeded.j0:Nat→List (S45)→Int→Bool→Option (List Int×Bool)
 | 0,_,_,_=>none
 | k+1,x0,x1,x19=>if x19=true then(some (([]:List Int),false)) else(if 73≤35184372088832 then(spec_TeethNeeded.l0 k x0 x1 (List.replicate 73 0) x0 (x0.length:Int) 0) else(none))
def spec_TeethNeeded.l0:Nat→List (S45)→Int→List Int→List (S45)→Int→Int→Option (List Int×Bool)
 | 0,_,_,_,_,_,_=>none
 | k+1,x0,x1,x6,x21,x22,x23=>if x23<x22 then(if 0≤x23 then(if x23<(x21.length:Int) then(if 0≤(wrap64 (x23+1)) then(if(wrap64 (x23+1))≤(x0.length:Int) then((some (x0.take ((wrap64 (x23+1)):Int).toNat:List (S45))).bind fun y377=>(spec_TeethNeeded.l1 k x0 x1 x6 0 x21 x22 x23 y377 (y377.length:Int) 0 ((rd_T45 x21 x23).f0) ((rd_T45 x21 x23).f1))) else(none)) else(none)) else(none)) else(none)) else(some (x6,true))
def spec_TeethNeeded.l1:Nat→List (S45)→Int→List Int→Int→List (S45)→Int→Int→List (S45)→Int→Int→Int→Int→Option (List Int×Bool)
 | 0,_,_,_,_,_,_,_,_,_,_,_,_=>none
 | k+1,x0,x1,x6,x9,x21,x22,x23,x31,x32,x33,x377000,x377001=>if x33<x32 then(if 0≤x33 then(if x33<(x31.length:Int) then(if((rd_T45 x31 x33).f0)=x377000 then(if(wrap64 (x377001 - ((rd_T45 x31 x33).f1)))<x1 then(spec_TeethNeeded.l1 k x0 x1 x6 (wrap64 (x9+1)) x21 x22 x23 x31 x32 (wrap64 (x33+1)) x377000 x377001) else(spec_TeethNeeded.l1 k x0 x1 x6 x9 x21 x22 x23 x31 x32 (wrap64 (x33+1)) x377000 x377001)) else(spec_TeethNeeded.l1 k x0 x1 x6 x9 x21 x22 x23 x31 x32 (wrap64 (x33+1)) x377000 x377001)) else(none)) else(none)) else(if 0≤(wrap64 (x377000 - 24)) then(if(wrap64 (x377000 - 24))<(x6.length:Int) then((spec_l1Most.f (rd x6 (wrap64 (x377000 - 24))) x9).bind fun t384=>(spec_TeethNeeded.l0 k x0 x1 (x6.set ((wrap64 (x377000 - 24)):Int).toNat t384) x21 x22 (wrap64 (x23+1)))) else(none)) else(none))
end
def spec_TeethNeeded.f (k:Nat) (l0:List (S45)) (a1:Int):Option (List Int×Bool):=(spec_coStrikes.f k l0).bind fun t370=>(if t370=true then((spec_l1In.f a1 1 200).bind fun t371=>(spec_TeethNeeded.j0 k l0 a1 (!t371))) else(spec_TeethNeeded.j0 k l0 a1 true))
def spec_TeethNeeded.T14:Bool×List (List Nat×List Nat):=(true,[([],[]),([],[]),([1],[1]),([2],[2]),([],[]),([],[]),([5],[5]),([6],[6]),([4,7],[4,7]),([8],[8]),([],[]),([9,10],[9,10]),([0,3,0,1,2,3,4,5,6,7,8,9,10,11],[0,3]),([12,11,11,0,1,2,3,4,5,6,7,8,9,10,11],[11,12])])
def spec_TeethNeeded.B14:List Nat:=[0,0,2,6,0,0,32,96,240,496,0,2032,4095,8191]
theorem spec_TeethNeeded.tab14:rtab .any (opsOf Try.f8 14)=spec_TeethNeeded.T14:=by kernel_rfl
theorem spec_TeethNeeded.bits14:waitsOk spec_TeethNeeded.T14.2 spec_TeethNeeded.B14=true:=by kernel_rfl
set_option maxHeartbeats 8000000 in
set_option maxRecDepth 100000 in
theorem spec_TeethNeeded.calls (k:Nat) (A0:Option Addr) (c0:Nat) (l0:List (S45)) (a1:Int) (r1:List Int) (r2:Bool) (w:World) (hr0:Kd.C k45 w A0 l0.length l0) (hc0:l0.length≤c0) (h:spec_TeethNeeded.f k l0 a1=some (r1,r2)) :
  Calls Try.prog 8 #[.slice A0 l0.length c0,.int .i64 a1] w fun e w'=>∃ v0_:Value,e = .returned (.tuple #[v0_,.bool r2])∧Kd.R (Kd.int .i64) 3 w' w.heap.size (fun _=>True) v0_ r1∧Below w.heap.size w w':=by
 have hu45:=Try.underlying45
 have HR0:=am hr0
 have HC0:=am hc0
 clear hr0 hc0
 have HB:=am (Below.refl w.heap.size w)
 have H:((spec_coStrikes.f k l0).bind fun t370=>(if t370=true then((spec_l1In.f a1 1 200).bind fun t371=>(spec_TeethNeeded.j0 k l0 a1 (!t371))) else(spec_TeethNeeded.j0 k l0 a1 true)))=some (r1,r2):=h
 clear h
 have HC3:=am H
 clear H
 go_enter Try.func8,Try.ntmps8
 go_upto_region 1 with(fail)
 go_cut [19] (fun v19 wc=>∃(kq:Nat) (x19_2:Bool),v19 = .bool x19_2∧Aside0 (spec_TeethNeeded.j0 kq l0 a1 x19_2=some (r1,r2))∧Aside0 (kq≤k)∧Aside0 (Below w.heap.size w wc))
 case first =>
  have H:=HC3.out
  clear HC3
  replace H:=Option.bind_eq_some_iff.mp H
  obtain⟨t370,A40,H⟩:=H
  replace H:(if t370=true then((spec_l1In.f a1 1 200).bind fun t371=>(spec_TeethNeeded.j0 k l0 a1 (!t371))) else(spec_TeethNeeded.j0 k l0 a1 true))=some (r1,r2):=H
  have A4:=am A40
  clear A40
  by_cases c5:t370=true
  ·subst c5
   replace H:=(if_pos rfl).symm.trans H
   replace H:=Option.bind_eq_some_iff.mp H
   obtain⟨t371,A60,H⟩:=H
   replace H:(spec_TeethNeeded.j0 k l0 a1 (!t371))=some (r1,r2):=H
   have A6:=am A60
   clear A60
   have H':=am H
   clear H
   go_wp2_with (first|((with_reducible refine gate_callee (f:=28) rfl ?_);refine goesL_ (some 13) rfl rfl Try.func28 (by kernel_rfl) rfl #[.slice A0 l0.length c0] rfl tl ?_;(with_reducible refine(spec_coStrikes.calls k _ _ l0 true _ ?side1 ?side2 A4.out).mono ?_);(case side1=>exact cup (Kd.C_below HR0.out HB.out));(case side2=>exact HC0.out);rintro e w7 ⟨rfl,hb⟩;refine⟨_,rfl,?_⟩;replace HB:=am (below_step bl hb);(try clear hb))|(go_at_call 29;(with_reducible refine(spec_l1In.calls a1 1 200 t371 _ A6.out).mono ?_);rintro e w' ⟨rfl,⟨nd,rfl⟩⟩))
   go_meet
   case rel=>exact⟨_,(!t371),fin2,H',⟨by first|omega|exact Nat.le_refl _⟩,⟨bl⟩⟩
  ·replace c5:=Bool.eq_false_iff.mpr c5
   subst c5
   replace H:=(if_neg Bool.false_ne_true).symm.trans H
   have H':=am H
   clear H
   go_wp2_with (first|((with_reducible refine gate_callee (f:=28) rfl ?_);refine goesL_ (some 13) rfl rfl Try.func28 (by kernel_rfl) rfl #[.slice A0 l0.length c0] rfl tl ?_;(with_reducible refine(spec_coStrikes.calls k _ _ l0 false _ ?side1 ?side2 A4.out).mono ?_);(case side1=>exact cup (Kd.C_below HR0.out HB.out));(case side2=>exact HC0.out);rintro e w8 ⟨rfl,hb⟩;refine⟨_,rfl,?_⟩;replace HB:=am (below_step bl hb);(try clear hb)))
   go_meet
   case rel=>exact⟨_,(true),fin2,H',⟨by first|omega|exact Nat.le_refl _⟩,⟨bl⟩⟩
 case rest =>
  clear HC3
  obtain⟨kq,x19_2,rfl,HA,HJ2,HB⟩:=hcut
  cases kq with
  | zero=>exact absurd HA.out (by simp [spec_TeethNeeded.j0])
  | succ kj2 =>
   have H:=HA.out
   clear HA
   simp only[spec_TeethNeeded.j0] at H
   by_cases c9:x19_2=true
   ·subst c9
    replace H:=(if_pos rfl).symm.trans H
    simp only[Option.some.injEq,Prod.mk.injEq] at H
    obtain⟨rfl,rfl⟩:=H
    go_wp2
    go_ret2
    exact⟨_,fin1,by first|exact Kd.R_nil _ _ _ _ _|exact Kd.N_nil _ _ _ _ _|exact Kd.V_nil _ _ _ _ _|exact Kd.Q_nil _ _ _ _ _|exact Kd.S_nil _ _ _ _ _,bl⟩
   ·replace c9:=Bool.eq_false_iff.mpr c9
    subst c9
    replace H:=(if_neg Bool.false_ne_true).symm.trans H
    obtain⟨c10,H⟩:=ifp H
    have c10b0:=eq_true c10
    have c10b1:decide (73≤35184372088832)=true:=decide_eq_true c10
    clear c10
    obtain⟨y372,hy372⟩:∃ y_:List Int,y_=(List.replicate 73 0):=⟨_,rfl⟩
    replace H:(spec_TeethNeeded.l0 kj2 l0 a1 y372 l0 (l0.length:Int) 0)=some (r1,r2):=by subst hy372;exact H
    have Ny372:=am hy372
    clear hy372
    have H':=am H
    clear H
    go_wp2_with (first|((with_reducible refine gate_dst (N:=20) rfl ?_);refine Kd.R_make (Kd.int .i64) _ 3 rfl (N:=20) rfl 27 _ _ rfl 73 rfl rfl Try.underlying27 (.int .i64 0) 8 info3 rfl (by decide) (by omega) 0 (ok:=fun _=>True) (okp:=fun _=>True) rfl (fun _ hk=>hk) trivial (by omega) (by omega) (Below.refl _ _) (Nat.le_refl _) ?_;intro v373 w11 ho12 hb hg_ hnew_;clear hg_ hnew_;(first|rw[← Ny372.out] at ho12|(simp only[Int.reduceToNat] at ho12;rw[← Ny372.out] at ho12));have HO374:=am (Kd.R_lower ho12 (below_size bl));replace HB:=am (below_step bl hb);clear hb ho12))
    go_loopg [23] kj2 (fun kq v23 w'=>∃(x6_2:List Int) (x23_2:Int),v23 = .int .i64 x23_2∧Aside0 (spec_TeethNeeded.l0 kq l0 a1 x6_2 l0 (l0.length:Int) x23_2=some (r1,r2))∧Aside0 (kq≤kj2)∧Aside0 (Kd.R (Kd.int .i64) 3 w' w.heap.size (fun _=>True) v373 x6_2)∧Aside0 (Below w.heap.size w w'))
    case atStart=>exact⟨(y372),(0),fin2,H',⟨Nat.le_refl _⟩,⟨rup HO374.out⟩,⟨bl⟩⟩
    case round =>
     clear H'
     try clear c9
     try clear c10b0
     try clear c10b1
     obtain⟨x6_2,x23_2,rfl,HA,HK2,HO_6,HB⟩:=hrel
     cases gk with
     | zero=>exact absurd HA.out (by simp [spec_TeethNeeded.l0])
     | succ k2 =>
      have H:=HA.out
      clear HA
      simp only[spec_TeethNeeded.l0] at H
      rcases itc H with⟨c13,H⟩|⟨c13,H⟩
      ·have c13b0:=decide_eq_true c13
       clear c13
       obtain⟨c14b0,H⟩:=ifb H
       obtain⟨c15b0,H⟩:=ifb H
       obtain⟨ji16,hji16⟩:∃ j_:Int,(wrap64 (x23_2+1))=j_:=⟨_,rfl⟩
       replace H:(if 0≤(ji16) then(if(ji16)≤(l0.length:Int) then((some (l0.take ((ji16):Int).toNat:List (S45))).bind fun y377=>(spec_TeethNeeded.l1 k2 l0 a1 x6_2 0 l0 (l0.length:Int) x23_2 y377 (y377.length:Int) 0 ((rd_T45 l0 x23_2).f0) ((rd_T45 l0 x23_2).f1))) else(none)) else(none))=some (r1,r2):=by first|(rw[hji16] at H;exact H)|(simp only[hji16] at H ⊢;exact H)
       have hji16w:(IntKind.i64.wrap (x23_2+1))=ji16:=(i64_w _).trans hji16
       obtain⟨c17,H⟩:=ifp H
       have c17b0:=eq_true c17
       have c17b1:decide (0≤(ji16))=true:=decide_eq_true c17
       clear c17
       obtain⟨c18,H⟩:=ifp H
       have c18b0:=eq_true c18
       have c18b1:decide ((ji16)≤(l0.length:Int))=true:=decide_eq_true c18
       clear c18
       obtain⟨y377,hy377⟩:∃ y_:List (S45),y_=(l0.take ((ji16):Int).toNat):=⟨_,rfl⟩
       replace H:(spec_TeethNeeded.l1 k2 l0 a1 x6_2 0 l0 (l0.length:Int) x23_2 y377 (y377.length:Int) 0 ((rd_T45 l0 x23_2).f0) ((rd_T45 l0 x23_2).f1))=some (r1,r2):=by subst hy377;exact H
       have Ny377:=am hy377
       clear hy377
       have H':=am H
       clear H
       have p375:0≤(x23_2:Int):=od
       have q375:x23_2<(l0.length:Int):=od
       obtain⟨ad375,e375,hx375_0,hx375_1⟩:=at_T45 HR0.out x23_2 p375 q375
       cases e375
       replace hx375_0:=(HB.out.cell (World.block_lt_of_cell? w _ hx375_0)).trans hx375_0
       replace hx375_1:=(HB.out.cell (World.block_lt_of_cell? w _ hx375_1)).trans hx375_1
       replace p375:=eq_true p375
       replace q375:=eq_true q375
       go_wp2_with (first|((with_reducible refine gate_dst (N:=8) rfl ?_);refine box_event ?hg (N:=8) ?hd (cs := #[.int .i64 0,.int .i64 0]) (t:=45) ?hr ?_;(case hd=>rfl);(case hg=>rfl);(case hr=>first|(go_simp;done)|(go_simp;rfl));intro gb376 hg w19 hbox hb;replace HO_6:=am (Kd.R_below (rup HO_6.out) hb);have BK376:=am (hbox);have GW376:=am (ge_ bl hg);have GE376:=am (ge_ bl hg);replace HB:=am (below_step bl hb);clear hb hbox hg;have hcz20_0:=bc BK376.out 0;have hcz20_1:=bc BK376.out 1;have hfz20_0:=blk_frozen BK376.out 0;have hfz20_1:=blk_frozen BK376.out 1)|((with_reducible refine gate_store (t:=45) (p:=8) rfl ?_);refine store_event (t:=45) (p:=8) (v:=?vo_w21) (w1:=((w19.setCell ⟨gb376,0,none⟩ (.int .i64 ((rd_T45 l0 x23_2).f0))).setCell ⟨gb376,1,none⟩ (.int .i64 ((rd_T45 l0 x23_2).f1)))) ?hg ?ho ?hn ?hr ?_;(case ho=>rfl);(case hg=>rfl);(case hn=>rfl);(case hr=>first|(go_simp;done)|(go_simp;rfl));intro w21 hw;have n0_:Aside0 (Kd.R (Kd.int .i64) 3 w21 w.heap.size (fun _=>True) v373 x6_2):=⟨(by rw[hw];exact(rup (Kd.R_mono (Kd.R_far (p:=⟨gb376,1,none⟩) (Kd.R_far (p:=⟨gb376,0,none⟩) (Kd.R_types HO_6.out BK376.out (by decide)) (fun _ hk=>hk.2) (.int .i64 ((rd_T45 l0 x23_2).f0))) (fun _ hk=>hk.2) (.int .i64 ((rd_T45 l0 x23_2).f1))) (fun _ hk=>trivial))))⟩;have n1_:Aside0 (w21.heap[gb376]?=some (.cells #[.int .i64 ((rd_T45 l0 x23_2).f0),.int .i64 ((rd_T45 l0 x23_2).f1)] 45 (0,0))):=⟨(by rw[hw];exact(by(with_reducible repeat(first|refine bN_ ?_ _|refine bD_ ?_|refine bA_ ?_ _));refine blk_put (cs := #[.int .i64 ((rd_T45 l0 x23_2).f0),.int .i64 0]) ?_ 1 _ rfl;(with_reducible repeat(first|refine bN_ ?_ _|refine bD_ ?_|refine bA_ ?_ _));refine blk_put (cs := #[.int .i64 0,.int .i64 0]) ?_ 0 _ rfl;exact bup BK376.out))⟩;have n2_:Aside0 (Below w.heap.size w w21):=⟨(by rw[hw];exact bl)⟩;clear hw HO_6 BK376 HB;have HO_6:=n0_;have BK376:=n1_;have HB:=n2_;clear n0_ n1_ n2_;have q22:((ji16):Int)≤((l0.length:Int):Int):=od;obtain⟨i022,hi022,_,hsz22,_⟩:=info_parts info45;have hroom22:l0.length≤c0:=HC0.out;have hC22:Kd.C k45 _ (some ad375) l0.length l0:=HR0.out;have hcut22:=cut_to (P:=Try.prog) 24 45 .i64 Try.underlying24 hi022 (some ad375) l0.length c0 (ji16) (od) q22 hroom22;have hr22:=Kd.C_take (m:=((ji16):Int).toNat) hC22 (by omega);have hy22:y377.length=((ji16):Int).toNat:=(by rw[Ny377.out,List.length_take];omega);rw[← Ny377.out] at hr22;rw[← hy22] at hcut22;have HR380:=am hr22;have HC380:=am (show y377.length≤c0 from by omega);clear hr22 hC22 hroom22 hi022 hsz22;have KY22:=am hy22;clear hy22;replace q22:=eq_true q22))
       go_loopg [9,33] k2 (fun kq v9 v33 w'=>∃(x9_3:Int) (x33_3:Int),v9 = .int .i64 x9_3∧v33 = .int .i64 x33_3∧Aside0 (spec_TeethNeeded.l1 kq l0 a1 x6_2 x9_3 l0 (l0.length:Int) x23_2 y377 (y377.length:Int) x33_3 ((rd_T45 l0 x23_2).f0) ((rd_T45 l0 x23_2).f1)=some (r1,r2))∧Aside0 (kq≤k2)∧Aside0 (Kd.R (Kd.int .i64) 3 w' w.heap.size (fun _=>True) v373 x6_2)∧Aside0 (w'.heap[gb376]?=some (.cells #[.int .i64 ((rd_T45 l0 x23_2).f0),.int .i64 ((rd_T45 l0 x23_2).f1)] 45 (0,0)))∧Aside0 (Below w.heap.size w w'))
       case atStart=>exact⟨(0),(0),fin2,fin2,H',⟨Nat.le_refl _⟩,⟨rup HO_6.out⟩,⟨bup BK376.out⟩,⟨bl⟩⟩
       case round =>
        clear H'
        try clear c13b0
        try clear c14b0
        try clear c15b0
        try clear c17b0
        try clear c17b1
        try clear c18b0
        try clear c18b1
        try clear q22
        try clear hcz20_0
        try clear hcz20_1
        try clear hfz20_0
        try clear hfz20_1
        try clear hx375_0
        try clear hx375_1
        try clear p375
        try clear q375
        obtain⟨x9_3,x33_3,rfl,rfl,HA,HK3,HO_6,BK376,HB⟩:=hrel
        cases gk with
        | zero=>exact absurd HA.out (by simp [spec_TeethNeeded.l1])
        | succ k3 =>
         have H:=HA.out
         clear HA
         simp only[spec_TeethNeeded.l1] at H
         rcases itc H with⟨c23,H⟩|⟨c23,H⟩
         ·have c23b0:=decide_eq_true c23
          clear c23
          obtain⟨c24b0,H⟩:=ifb H
          obtain⟨c25b0,H⟩:=ifb H
          rcases itc H with⟨c26,H⟩|⟨c26,H⟩
          ·have c26b0:(((rd_T45 y377 x33_3).f0) == ((rd_T45 l0 x23_2).f0))=true:=beq_iff_eq.mpr c26
           have c26b1:(((rd_T45 y377 x33_3).f0) != ((rd_T45 l0 x23_2).f0))=false:=bne_eq_false_iff_eq.mpr c26
           clear c26
           rcases itc H with⟨c27,H⟩|⟨c27,H⟩
           ·have c27b0:=decide_eq_true c27
            clear c27
            have H':=am H
            clear H
            have p381:0≤(x33_3:Int):=od
            have q381:x33_3<(y377.length:Int):=od
            obtain⟨ad381,e381,hx381_0,hx381_1⟩:=at_T45 HR380.out x33_3 p381 q381
            obtain rfl:ad375=ad381:=(by injection e381)
            replace hx381_0:=(HB.out.cell (World.block_lt_of_cell? w _ hx381_0)).trans hx381_0
            replace hx381_1:=(HB.out.cell (World.block_lt_of_cell? w _ hx381_1)).trans hx381_1
            replace p381:=eq_true p381
            replace q381:=eq_true q381
            go_wp2_with (first|((with_reducible refine gate_dst (N:=11) rfl ?_);refine box_event ?hg (N:=11) ?hd (cs := #[.int .i64 0,.int .i64 0]) (t:=45) ?hr ?_;(case hd=>rfl);(case hg=>rfl);(case hr=>first|(go_simp;done)|(go_simp;rfl));intro gb382 hg w28 hbox hb;replace HO_6:=am (Kd.R_below (rup HO_6.out) hb);have BK382:=am (hbox);have GW382:=am (ge_ bl hg);have GE382:=am (ge_ bl hg);replace HB:=am (below_step bl hb);have NB376_382:=am (nl (bup BK376.out) hg);have NB382_376:=am (ng (bup BK376.out) hg);replace BK376:=am (blk_below (bup BK376.out) hb);clear hb hbox hg;have hnb29:=NB382_376.out;have hnc29:=NB376_382.out;have hcz30_0:=bc BK382.out 0;have hcz30_1:=bc BK382.out 1;have hfz30_0:=blk_frozen BK382.out 0;have hfz30_1:=blk_frozen BK382.out 1;have hcz31_0:=bc BK376.out 0;have hcz31_1:=bc BK376.out 1;have hfz31_0:=blk_frozen BK376.out 0;have hfz31_1:=blk_frozen BK376.out 1))
            go_roundg k3
            case measure=>have:=HJ2.out;have:=HK2.out;have:=HK3.out;omega
            case rel=>exact⟨(wrap64 (x9_3+1)),(wrap64 (x33_3+1)),fin2,fin2,H',⟨by have:=HJ2.out;have:=HK2.out;have:=HK3.out;omega⟩,⟨rup (Kd.R_mono (Kd.R_far (p:=⟨gb382,1,none⟩) (Kd.R_far (p:=⟨gb382,0,none⟩) (Kd.R_types HO_6.out BK382.out (by decide)) (fun _ hk=>hk.2) (.int .i64 ((rd_T45 y377 x33_3).f0))) (fun _ hk=>hk.2) (.int .i64 ((rd_T45 y377 x33_3).f1))) (fun _ hk=>trivial))⟩,⟨by(with_reducible repeat(first|refine bN_ ?_ _|refine bD_ ?_|refine bA_ ?_ _));refine blk_far ?_ NB376_382.out _;(with_reducible repeat(first|refine bN_ ?_ _|refine bD_ ?_|refine bA_ ?_ _));refine blk_far ?_ NB376_382.out _;exact bup BK376.out⟩,⟨bl⟩⟩
           ·have c27b0:=decide_eq_false c27
            clear c27
            have H':=am H
            clear H
            have p381:0≤(x33_3:Int):=od
            have q381:x33_3<(y377.length:Int):=od
            obtain⟨ad381,e381,hx381_0,hx381_1⟩:=at_T45 HR380.out x33_3 p381 q381
            obtain rfl:ad375=ad381:=(by injection e381)
            replace hx381_0:=(HB.out.cell (World.block_lt_of_cell? w _ hx381_0)).trans hx381_0
            replace hx381_1:=(HB.out.cell (World.block_lt_of_cell? w _ hx381_1)).trans hx381_1
            replace p381:=eq_true p381
            replace q381:=eq_true q381
            go_wp2_with (first|((with_reducible refine gate_dst (N:=11) rfl ?_);refine box_event ?hg (N:=11) ?hd (cs := #[.int .i64 0,.int .i64 0]) (t:=45) ?hr ?_;(case hd=>rfl);(case hg=>rfl);(case hr=>first|(go_simp;done)|(go_simp;rfl));intro gb382 hg w32 hbox hb;replace HO_6:=am (Kd.R_below (rup HO_6.out) hb);have BK382:=am (hbox);have GW382:=am (ge_ bl hg);have GE382:=am (ge_ bl hg);replace HB:=am (below_step bl hb);have NB376_382:=am (nl (bup BK376.out) hg);have NB382_376:=am (ng (bup BK376.out) hg);replace BK376:=am (blk_below (bup BK376.out) hb);clear hb hbox hg;have hnb33:=NB382_376.out;have hnc33:=NB376_382.out;have hcz34_0:=bc BK382.out 0;have hcz34_1:=bc BK382.out 1;have hfz34_0:=blk_frozen BK382.out 0;have hfz34_1:=blk_frozen BK382.out 1;have hcz35_0:=bc BK376.out 0;have hcz35_1:=bc BK376.out 1;have hfz35_0:=blk_frozen BK376.out 0;have hfz35_1:=blk_frozen BK376.out 1))
            go_roundg k3
            case measure=>have:=HJ2.out;have:=HK2.out;have:=HK3.out;omega
            case rel=>exact⟨(x9_3),(wrap64 (x33_3+1)),fin2,fin2,H',⟨by have:=HJ2.out;have:=HK2.out;have:=HK3.out;omega⟩,⟨rup (Kd.R_mono (Kd.R_far (p:=⟨gb382,1,none⟩) (Kd.R_far (p:=⟨gb382,0,none⟩) (Kd.R_types HO_6.out BK382.out (by decide)) (fun _ hk=>hk.2) (.int .i64 ((rd_T45 y377 x33_3).f0))) (fun _ hk=>hk.2) (.int .i64 ((rd_T45 y377 x33_3).f1))) (fun _ hk=>trivial))⟩,⟨by(with_reducible repeat(first|refine bN_ ?_ _|refine bD_ ?_|refine bA_ ?_ _));refine blk_far ?_ NB376_382.out _;(with_reducible repeat(first|refine bN_ ?_ _|refine bD_ ?_|refine bA_ ?_ _));refine blk_far ?_ NB376_382.out _;exact bup BK376.out⟩,⟨bl⟩⟩
          ·have c26b0:(((rd_T45 y377 x33_3).f0) == ((rd_T45 l0 x23_2).f0))=false:=beq_eq_false_iff_ne.mpr c26
           have c26b1:(((rd_T45 y377 x33_3).f0) != ((rd_T45 l0 x23_2).f0))=true:=bne_iff_ne.mpr c26
           have H':=am H
           clear H
           have p381:0≤(x33_3:Int):=od
           have q381:x33_3<(y377.length:Int):=od
           obtain⟨ad381,e381,hx381_0,hx381_1⟩:=at_T45 HR380.out x33_3 p381 q381
           obtain rfl:ad375=ad381:=(by injection e381)
           replace hx381_0:=(HB.out.cell (World.block_lt_of_cell? w _ hx381_0)).trans hx381_0
           replace hx381_1:=(HB.out.cell (World.block_lt_of_cell? w _ hx381_1)).trans hx381_1
           replace p381:=eq_true p381
           replace q381:=eq_true q381
           go_wp2_with (first|((with_reducible refine gate_dst (N:=11) rfl ?_);refine box_event ?hg (N:=11) ?hd (cs := #[.int .i64 0,.int .i64 0]) (t:=45) ?hr ?_;(case hd=>rfl);(case hg=>rfl);(case hr=>first|(go_simp;done)|(go_simp;rfl));intro gb382 hg w36 hbox hb;replace HO_6:=am (Kd.R_below (rup HO_6.out) hb);have BK382:=am (hbox);have GW382:=am (ge_ bl hg);have GE382:=am (ge_ bl hg);replace HB:=am (below_step bl hb);have NB376_382:=am (nl (bup BK376.out) hg);have NB382_376:=am (ng (bup BK376.out) hg);replace BK376:=am (blk_below (bup BK376.out) hb);clear hb hbox hg;have hnb37:=NB382_376.out;have hnc37:=NB376_382.out;have hcz38_0:=bc BK382.out 0;have hcz38_1:=bc BK382.out 1;have hfz38_0:=blk_frozen BK382.out 0;have hfz38_1:=blk_frozen BK382.out 1;have hcz39_0:=bc BK376.out 0;have hcz39_1:=bc BK376.out 1;have hfz39_0:=blk_frozen BK376.out 0;have hfz39_1:=blk_frozen BK376.out 1))
           go_roundg k3
           case measure=>have:=HJ2.out;have:=HK2.out;have:=HK3.out;omega
           case rel=>exact⟨(x9_3),(wrap64 (x33_3+1)),fin2,fin2,H',⟨by have:=HJ2.out;have:=HK2.out;have:=HK3.out;omega⟩,⟨rup (Kd.R_mono (Kd.R_far (p:=⟨gb382,1,none⟩) (Kd.R_far (p:=⟨gb382,0,none⟩) (Kd.R_types HO_6.out BK382.out (by decide)) (fun _ hk=>hk.2) (.int .i64 ((rd_T45 y377 x33_3).f0))) (fun _ hk=>hk.2) (.int .i64 ((rd_T45 y377 x33_3).f1))) (fun _ hk=>trivial))⟩,⟨by(with_reducible repeat(first|refine bN_ ?_ _|refine bD_ ?_|refine bA_ ?_ _));refine blk_far ?_ NB376_382.out _;(with_reducible repeat(first|refine bN_ ?_ _|refine bD_ ?_|refine bA_ ?_ _));refine blk_far ?_ NB376_382.out _;exact bup BK376.out⟩,⟨bl⟩⟩
         ·have c23b0:=decide_eq_false c23
          clear c23
          obtain⟨ji40,hji40⟩:∃ j_:Int,(wrap64 (((rd_T45 l0 x23_2).f0) - 24))=j_:=⟨_,rfl⟩
          replace H:(if 0≤(ji40) then(if(ji40)<(x6_2.length:Int) then((spec_l1Most.f (rd x6_2 (ji40)) x9_3).bind fun t384=>(spec_TeethNeeded.l0 k3 l0 a1 (x6_2.set ((ji40):Int).toNat t384) l0 (l0.length:Int) (wrap64 (x23_2+1)))) else(none)) else(none))=some (r1,r2):=by first|(rw[hji40] at H;exact H)|(simp only[hji40] at H ⊢;exact H)
          have hji40w:(IntKind.i64.wrap (((rd_T45 l0 x23_2).f0) - 24))=ji40:=(i64_w _).trans hji40
          obtain⟨c41b0,H⟩:=ifb H
          obtain⟨c42b0,H⟩:=ifb H
          replace H:=Option.bind_eq_some_iff.mp H
          obtain⟨t384,A430,H⟩:=H
          replace H:(spec_TeethNeeded.l0 k3 l0 a1 (x6_2.set ((ji40):Int).toNat t384) l0 (l0.length:Int) (wrap64 (x23_2+1)))=some (r1,r2):=H
          have A43:=am A430
          clear A430
          obtain⟨y385,hy385⟩:∃ y_:List Int,y_=(x6_2.set ((ji40):Int).toNat t384):=⟨_,rfl⟩
          replace H:(spec_TeethNeeded.l0 k3 l0 a1 y385 l0 (l0.length:Int) (wrap64 (x23_2+1)))=some (r1,r2):=by subst hy385;exact H
          have Ny385:=am hy385
          clear hy385
          have H':=am H
          clear H
          try go_wp2
          replace HO_6:=am (Kd.R_drew HO_6.out)
          replace BK376:=am (bD_ BK376.out)
          replace HB:=am (below_drew1 HB.out)
          obtain⟨Ao46,co46,eo46⟩:=Kd.R_slice HO_6.out
          (first|subst eo46|(injection eo46 with f1_ f2_ f3_;have f4_:=f1_.symm;have f5_:=f3_.symm;clear f1_ f2_ f3_;subst f4_;subst f5_))
          have p383:0≤((ji40):Int):=od
          have q383:(ji40)<(x6_2.length:Int):=od
          obtain⟨ad383,e383,hx383_0⟩:=Kd.at_int (Kd.R_reads' HO_6.out).2.2 (ji40) p383 q383
          cases e383
          replace p383:=eq_true p383
          replace q383:=eq_true q383
          refine start_ (n:=14) (S:=fun w'=>w'.cell? ⟨gb376,0,none⟩=some (.int .i64 ((rd_T45 l0 x23_2).f0))∧w'.cell? ⟨gb376,1,none⟩=some (.int .i64 ((rd_T45 l0 x23_2).f1))∧w'.cell? (ad383.add ((ji40)).toNat)=some (.int .i64 (rd x6_2 (ji40)))) (ds:=[13]) (fl 0 14) (by kernel_rfl) rfl rfl ⟨bc BK376.out 0,bc BK376.out 1,hx383_0⟩ (fun hHeld=>?_);refine with_tabW spec_TeethNeeded.tab14 spec_TeethNeeded.bits14 (fun HT_ HW_=>?_)
          generalize wr.drew=w45 at HO_6 BK376 HB hx383_0 hHeld ⊢
          refine pu HT_.out 0 (some 54) (fl 1 14) (h:=?_)
          refine pu HT_.out 1 (some 55) (fl 2 14) (h:=?_)
          refine pu HT_.out 4 (some 58) #[true,true,false,false,true,false,false,false,false,false,false,false,false,false] (h:=?_)
          refine pu HT_.out 5 (some 59) #[true,true,false,false,true,true,false,false,false,false,false,false,false,false] (h:=?_)
          refine pu HT_.out 10 (some 64) #[true,true,false,false,true,true,false,false,false,false,true,false,false,false] (h:=?_)
          refine ta HT_.out HW_.out 2 (some 56) #[true,true,true,false,true,true,false,false,false,false,true,false,false,false] hHeld rfl (by rintro w' ⟨s0,s1,s2⟩;go_simp;with_reducible rfl) (h:=?_)
          refine pu HT_.out 3 (some 57) #[true,true,true,true,true,true,false,false,false,false,true,false,false,false] (h:=?_)
          refine ta HT_.out HW_.out 6 (some 60) #[true,true,true,true,true,true,true,false,false,false,true,false,false,false] hHeld rfl (by rintro w' ⟨s0,s1,s2⟩;go_simp;with_reducible rfl) (h:=?_)
          refine pu HT_.out 7 (some 61) #[true,true,true,true,true,true,true,true,false,false,true,false,false,false] (h:=?_)
          refine pu HT_.out 8 (some 62) #[true,true,true,true,true,true,true,true,true,false,true,false,false,false] (h:=?_)
          refine ta HT_.out HW_.out 9 (some 63) (fl 11 14) hHeld rfl (by rintro w' ⟨s0,s1,s2⟩;go_simp;with_reducible rfl) (h:=?_)
          refine one_ (i:=11) (N:=some 65) (fl 12 14) rfl rfl (one_of HT_.out (by kernel_rfl)) (by decide) (fun K hK=>?_)
          refine goes_ Try.func30 (by kernel_rfl) rfl #[.int .i64 (rd x6_2 (ji40)),.int .i64 x9_3] (by rfl) rfl rfl (by(try simp only[List.map_toArray,List.map_cons,List.map_nil]);first|done|(simp only[hji40];rfl)|rfl|(simp only[List.length_drop,List.length_take];rfl)) ?_
          with_reducible refine(spec_l1Most.calls (rd x6_2 (ji40)) x9_3 t384 _ A43.out).mono ?_
          rintro e w' ⟨rfl,⟨nd,rfl⟩⟩
          refine⟨_,rfl,?_⟩
          have p44:0≤((ji40):Int):=od
          have q44:((ji40):Int)<((x6_2.length:Int):Int):=od
          obtain⟨go44,co44,eo44,gb44,gl44,cl44,HG44⟩:=Kd.R_form HO_6.out (by omega)
          (first|cases eo44|(injection eo44 with ea_ en_ ec_;(first|subst ea_|(injection ea_ with ea_;subst ea_));subst ec_;clear en_))
          have GB44:=am gb44
          have GG44:=am HG44
          clear gb44 gl44 HG44
          (first|simp only[add_plain] at hx383_0|skip)
          obtain⟨hx44_0,hf44_0⟩:=Kd.R_celln 0 HO_6.out ((ji40):Int) p44 q44
          replace p44:=eq_true p44
          replace q44:=eq_true q44
          have HP47:=Kd.R_putn HO_6.out ((ji40):Int) t384
          rw[← Ny385.out] at HP47
          have HQ47:=am HP47
          clear HP47
          refine hK.out _ _ ⟨bc BK376.out 0,bc BK376.out 1,hHeld.2.2⟩ (fun hHeld=>?_)
          clear hK K
          refine norm_ (a':=?_) ?_ ?_
          rotate_left
          ·show Act.put _ (some 65) _=_
           simp only[Act.put,List.setIfInBounds_toArray,List.set_cons_zero,List.set_cons_succ,i64_w,i32_w]
           rfl
          refine pu HT_.out 12 (some 66) (fl 13 14) (h:=?_)
          refine last_ (i:=13) (N:=none) (fl 14 14) rfl rfl (one_of HT_.out (by kernel_rfl)) (by decide) (fun K hK=>?_)
          refine skip_ (w1:=?_) (by rfl) rfl ?_ ?_
          rotate_left
          ·go_simp
           rfl
          refine hK.out _ _ ?_
          clear hK K
          refine done_ (done_of HT_.out (by kernel_rfl)) ?_
          try go_wp2
          go_roundg k3
          case measure=>have:=HJ2.out;have:=HK2.out;have:=HK3.out;omega
          case rel=>exact⟨(y385),(wrap64 (x23_2+1)),fin2,H',⟨by have:=HJ2.out;have:=HK2.out;have:=HK3.out;omega⟩,⟨rup (HQ47.out)⟩,⟨by repeat(first|(with_reducible first|exact HB.out|apply below_alloc|apply pw_below_drewN|apply below_drew1|refine below_set ?_ GB44.out|refine below_set ?_ GE376.out)|exact HB.out)⟩⟩
      ·have c13b0:=decide_eq_false c13
       clear c13
       simp only[Option.some.injEq,Prod.mk.injEq] at H
       obtain⟨rfl,rfl⟩:=H
       go_wp2
       go_ret2
       exact⟨_,fin1,by(with_reducible repeat(first|apply Kd.R_alloc|apply Kd.R_drewN|apply Kd.R_drew));exact HO_6.out,bl⟩

def spec_DrawGreatestRest.f (k:Nat) (l0:List Int):Option ((List (S41))×(List (S45))):=(spec_l1Cur_comb.f k l0 0 0).bind fun bt387=>((spec_l1Cur_strikes.f k l0 bt387.2.1 bt387.2.2 bt387.1).bind fun bt392=>(some (bt387.1,bt392.1)))
set_option maxHeartbeats 8000000 in
set_option maxRecDepth 100000 in
theorem spec_DrawGreatestRest.calls (k:Nat) (A0:Option Addr) (c0:Nat) (l0:List Int) (r1:List (S41)) (r2:List (S45)) (w:World) (hr0:Kd.C (Kd.int .u8) w A0 l0.length l0) (hc0:l0.length≤c0) (h:spec_DrawGreatestRest.f k l0=some (r1,r2)) :
  Calls Try.prog 9 #[.slice A0 l0.length c0] w fun e w'=>∃ v0_ v1_:Value,e = .returned (.tuple #[v0_,v1_])∧Kd.R k41 41 w' w.heap.size (fun _=>True) v0_ r1∧Kd.R k45 45 w' w.heap.size (fun _=>True) v1_ r2∧Below w.heap.size w w':=by
 have hu50:=Try.underlying50
 have HR0:=am hr0
 have HC0:=am hc0
 clear hr0 hc0
 have HB:=am (Below.refl w.heap.size w)
 have H:((spec_l1Cur_comb.f k l0 0 0).bind fun bt387=>((spec_l1Cur_strikes.f k l0 bt387.2.1 bt387.2.2 bt387.1).bind fun bt392=>(some (bt387.1,bt392.1))))=some (r1,r2):=h
 clear h
 replace H:=Option.bind_eq_some_iff.mp H
 obtain⟨⟨t387,t390,t391⟩,A20,H⟩:=H
 replace H:((spec_l1Cur_strikes.f k l0 t390 t391 t387).bind fun bt392=>(some (t387,bt392.1)))=some (r1,r2):=H
 have A2:=am A20
 clear A20
 replace H:=Option.bind_eq_some_iff.mp H
 obtain⟨⟨t392,t395,t396⟩,A30,H⟩:=H
 replace H:(some (t387,t392))=some (r1,r2):=H
 have A3:=am A30
 clear A30
 simp only[Option.some.injEq,Prod.mk.injEq] at H
 obtain⟨rfl,rfl⟩:=H
 go_enter Try.func9,Try.ntmps9
 go_wp2_with (first|((with_reducible refine gate_dst (N:=8) rfl ?_);refine box_event ?hg (N:=8) ?hd (cs := #[.slice A0 l0.length c0,.int .i64 0,.int .u64 0]) (t:=50) ?hr ?_;(case hd=>rfl);(case hg=>rfl);(case hr=>first|(go_simp;done)|(go_simp;rfl));intro gb386 hg w4 hbox hb;have BK386:=am (hbox);have GW386:=am (ge_ bl hg);have GE386:=am (ge_ bl hg);have HI386:=am ((show IsS50 w w4 gb386 l0 0 0 from⟨_,_,hbox,(by rw[hg];exact(below_size bl):w.heap.size≤gb386),HR0.out⟩));replace HB:=am (below_step bl hb);clear hb hbox hg)|((with_reducible refine gate_callee (f:=21) rfl ?_);refine goesL_ (some 10) rfl rfl Try.func21 (by kernel_rfl) rfl #[.pointer (some ⟨gb386,0,none⟩)] rfl tl ?_;(with_reducible refine(spec_l1Cur_comb.calls k gb386 l0 0 0 t387 t390 t391 w _ ?side1 ?side2 A2.out).mono ?_);(case side1=>repeat(first|(with_reducible first|exact HI386.out|apply IsS50.alloc|apply IsS50.drewN|apply IsS50.drew|apply IsS50.set_1|apply IsS50.set_2)|exact HI386.out));(case side2=>repeat(first|(with_reducible first|exact HB.out|apply below_alloc|apply pw_below_drewN|apply below_drew1|refine below_set ?_ (IsS50.ge HI386.out))|exact HB.out));rintro e w5 ⟨v388,rfl,ho0,hi,hb,hk⟩;refine⟨_,rfl,?_⟩;have HO389:=am (Kd.R_lower ho0 (below_size (by repeat(first|(with_reducible first|exact HB.out|apply below_alloc|apply pw_below_drewN|apply below_drew1|refine below_set ?_ (IsS50.ge HI386.out))|exact HB.out))));replace HB:=am (hb);replace HI386:=am (hi);(try clear hb);(try clear hk);(try clear hi);(try clear ho0);obtain⟨Ao6,co6,eo6⟩:=Kd.R_slice HO389.out;subst eo6)|((with_reducible refine gate_callee (f:=22) rfl ?_);refine goesL_ (some 14) rfl rfl Try.func22 (by kernel_rfl) rfl #[.pointer (some ⟨gb386,0,none⟩),.slice Ao6 t387.length co6] rfl tl ?_;(with_reducible refine(spec_l1Cur_strikes.calls k gb386 l0 t390 t391 _ _ t387 t392 t395 t396 w _ ?side1 ?side2 ?side3 ?side4 A3.out).mono ?_);(case side1=>repeat(first|(with_reducible first|exact HI386.out|apply IsS50.alloc|apply IsS50.drewN|apply IsS50.drew|apply IsS50.set_1|apply IsS50.set_2)|exact HI386.out));(case side2=>repeat(first|(with_reducible first|exact HB.out|apply below_alloc|apply pw_below_drewN|apply below_drew1|refine below_set ?_ (IsS50.ge HI386.out))|exact HB.out));(case side3=>exact Kd.C_foot_own (IsS50.apart (show IsS50 w _ gb386 l0 t390 t391 from by repeat(first|(with_reducible first|exact HI386.out|apply IsS50.alloc|apply IsS50.drewN|apply IsS50.drew|apply IsS50.set_1|apply IsS50.set_2)|exact HI386.out)) (rup HO389.out) (by decide)) (fun _ h_=>h_.2));(case side4=>exact(Kd.R_reads' HO389.out).2.1);rintro e w7 ⟨v393,rfl,ho0,hi,hb,hk⟩;refine⟨_,rfl,?_⟩;replace HO389:=am (Kd.R_mono (Kd.R_keep (IsS50.apart (show IsS50 w _ gb386 l0 t390 t391 from by repeat(first|(with_reducible first|exact HI386.out|apply IsS50.alloc|apply IsS50.drewN|apply IsS50.drew|apply IsS50.set_1|apply IsS50.set_2)|exact HI386.out)) (rup HO389.out) (by decide)) hk (fun _ h=>h.2)) (fun _ h=>h.1));have HO394:=am (Kd.R_lower ho0 (below_size (by repeat(first|(with_reducible first|exact HB.out|apply below_alloc|apply pw_below_drewN|apply below_drew1|refine below_set ?_ (IsS50.ge HI386.out))|exact HB.out))));replace HB:=am (hb);replace HI386:=am (hi);(try clear hb);(try clear hk);(try clear hi);(try clear ho0)))
 go_ret2
 exact⟨_,_,fin1,by(with_reducible repeat(first|apply Kd.R_alloc|apply Kd.R_drewN|apply Kd.R_drew));exact HO389.out,by(with_reducible repeat(first|apply Kd.R_alloc|apply Kd.R_drewN|apply Kd.R_drew));exact HO394.out,by repeat(first|(with_reducible first|exact HB.out|apply below_alloc|apply pw_below_drewN|apply below_drew1|refine below_set ?_ (IsS50.ge HI386.out))|exact HB.out)⟩

mutual
def impl_GreatestRest.j0:Nat→List (S41)→List (S45)→Bool→Option (Int×Bool)
 | 0,_,_,_=>none
 | k+1,x0,x1,x16=>if x16=true then(some (0,false)) else(impl_GreatestRest.l0 k x0 x1 200)
def impl_GreatestRest.l0:Nat→List (S41)→List (S45)→Int→Option (Int×Bool)
 | 0,_,_,_=>none
 | k+1,x0,x1,x6=>if x6≥1 then((impl_giveTeeth.f k x0 x1 x6).bind fun bt399=>(if bt399.2=true then(some (x6,true)) else(impl_GreatestRest.l0 k x0 x1 (wrap64 (x6 - 1))))) else(some (0,false))
end
def impl_GreatestRest.f (k:Nat) (l0:List (S41)) (l1:List (S45)):Option (Int×Bool):=(impl_IsComb.f k l0).bind fun t397=>(if t397=true then((impl_AreStrikes.f k l1).bind fun t398=>(impl_GreatestRest.j0 k l0 l1 (!t398))) else(impl_GreatestRest.j0 k l0 l1 true))
set_option maxHeartbeats 8000000 in
set_option maxRecDepth 100000 in
theorem impl_GreatestRest.calls (k:Nat) (A0:Option Addr) (c0:Nat) (l0:List (S41)) (A1:Option Addr) (c1:Nat) (l1:List (S45)) (r1:Int) (r2:Bool) (w:World) (hr0:Kd.C k41 w A0 l0.length l0) (hc0:l0.length≤c0) (hr1:Kd.C k45 w A1 l1.length l1) (hc1:l1.length≤c1) (h:impl_GreatestRest.f k l0 l1=some (r1,r2)) :
  Calls Try.prog 10 #[.slice A0 l0.length c0,.slice A1 l1.length c1] w fun e w'=>e = .returned (.tuple #[.int .i64 r1,.bool r2])∧Below w.heap.size w w':=by
 have HR0:=am hr0
 have HC0:=am hc0
 clear hr0 hc0
 have HR1:=am hr1
 have HC1:=am hc1
 clear hr1 hc1
 have HB:=am (Below.refl w.heap.size w)
 have H:((impl_IsComb.f k l0).bind fun t397=>(if t397=true then((impl_AreStrikes.f k l1).bind fun t398=>(impl_GreatestRest.j0 k l0 l1 (!t398))) else(impl_GreatestRest.j0 k l0 l1 true)))=some (r1,r2):=h
 clear h
 have HC3:=am H
 clear H
 go_enter Try.func10,Try.ntmps10
 go_upto_region 1 with(fail)
 go_cut [16] (fun v16 wc=>∃(kq:Nat) (x16_2:Bool),v16 = .bool x16_2∧Aside0 (impl_GreatestRest.j0 kq l0 l1 x16_2=some (r1,r2))∧Aside0 (kq≤k)∧Aside0 (Below w.heap.size w wc))
 case first =>
  have H:=HC3.out
  clear HC3
  replace H:=Option.bind_eq_some_iff.mp H
  obtain⟨t397,A40,H⟩:=H
  replace H:(if t397=true then((impl_AreStrikes.f k l1).bind fun t398=>(impl_GreatestRest.j0 k l0 l1 (!t398))) else(impl_GreatestRest.j0 k l0 l1 true))=some (r1,r2):=H
  have A4:=am A40
  clear A40
  by_cases c5:t397=true
  ·subst c5
   replace H:=(if_pos rfl).symm.trans H
   replace H:=Option.bind_eq_some_iff.mp H
   obtain⟨t398,A60,H⟩:=H
   replace H:(impl_GreatestRest.j0 k l0 l1 (!t398))=some (r1,r2):=H
   have A6:=am A60
   clear A60
   have H':=am H
   clear H
   go_wp2_with (first|((with_reducible refine gate_callee (f:=18) rfl ?_);refine goesL_ (some 10) rfl rfl Try.func18 (by kernel_rfl) rfl #[.slice A0 l0.length c0] rfl tl ?_;(with_reducible refine(impl_IsComb.calls k _ _ l0 true _ ?side1 ?side2 A4.out).mono ?_);(case side1=>exact cup (Kd.C_below HR0.out HB.out));(case side2=>exact HC0.out);rintro e w7 ⟨rfl,hb⟩;refine⟨_,rfl,?_⟩;replace HB:=am (below_step bl hb);(try clear hb))|(go_at_call 16;(with_reducible refine(impl_AreStrikes.calls k _ _ l1 t398 _ ?side1 ?side2 A6.out).mono ?_);(case side1=>exact cup (Kd.C_below HR1.out HB.out));(case side2=>exact HC1.out);rintro e w8 ⟨rfl,hb⟩;replace HB:=am (below_step bl hb);(try clear hb)))
   go_meet
   case rel=>exact⟨_,(!t398),fin2,H',⟨by first|omega|exact Nat.le_refl _⟩,⟨bl⟩⟩
  ·replace c5:=Bool.eq_false_iff.mpr c5
   subst c5
   replace H:=(if_neg Bool.false_ne_true).symm.trans H
   have H':=am H
   clear H
   go_wp2_with (first|((with_reducible refine gate_callee (f:=18) rfl ?_);refine goesL_ (some 10) rfl rfl Try.func18 (by kernel_rfl) rfl #[.slice A0 l0.length c0] rfl tl ?_;(with_reducible refine(impl_IsComb.calls k _ _ l0 false _ ?side1 ?side2 A4.out).mono ?_);(case side1=>exact cup (Kd.C_below HR0.out HB.out));(case side2=>exact HC0.out);rintro e w9 ⟨rfl,hb⟩;refine⟨_,rfl,?_⟩;replace HB:=am (below_step bl hb);(try clear hb)))
   go_meet
   case rel=>exact⟨_,(true),fin2,H',⟨by first|omega|exact Nat.le_refl _⟩,⟨bl⟩⟩
 case rest =>
  clear HC3
  obtain⟨kq,x16_2,rfl,HA,HJ2,HB⟩:=hcut
  cases kq with
  | zero=>exact absurd HA.out (by simp [impl_GreatestRest.j0])
  | succ kj2 =>
   have H:=HA.out
   clear HA
   simp only[impl_GreatestRest.j0] at H
   by_cases c10:x16_2=true
   ·subst c10
    replace H:=(if_pos rfl).symm.trans H
    simp only[Option.some.injEq,Prod.mk.injEq] at H
    obtain⟨rfl,rfl⟩:=H
    go_wp2
    go_ret2
    exact⟨fin1,bl⟩
   ·replace c10:=Bool.eq_false_iff.mpr c10
    subst c10
    replace H:=(if_neg Bool.false_ne_true).symm.trans H
    have H':=am H
    clear H
    go_wp2
    go_loopg [6] kj2 (fun kq v6 w'=>∃(x6_2:Int),v6 = .int .i64 x6_2∧Aside0 (impl_GreatestRest.l0 kq l0 l1 x6_2=some (r1,r2))∧Aside0 (kq≤kj2)∧Aside0 (Below w.heap.size w w'))
    case atStart=>exact⟨(200),fin2,H',⟨Nat.le_refl _⟩,⟨bl⟩⟩
    case round =>
     clear H'
     try clear c10
     obtain⟨x6_2,rfl,HA,HK2,HB⟩:=hrel
     cases gk with
     | zero=>exact absurd HA.out (by simp [impl_GreatestRest.l0])
     | succ k2 =>
      have H:=HA.out
      clear HA
      simp only[impl_GreatestRest.l0] at H
      rcases itc H with⟨c11,H⟩|⟨c11,H⟩
      ·have c11b0:decide (1≤x6_2)=true:=decide_eq_true c11
       clear c11
       replace H:=Option.bind_eq_some_iff.mp H
       obtain⟨⟨t399,t400⟩,A120,H⟩:=H
       replace H:(if t400=true then(some (x6_2,true)) else(impl_GreatestRest.l0 k2 l0 l1 (wrap64 (x6_2 - 1))))=some (r1,r2):=H
       have A12:=am A120
       clear A120
       by_cases c13:t400=true
       ·subst c13
        replace H:=(if_pos rfl).symm.trans H
        simp only[Option.some.injEq,Prod.mk.injEq] at H
        obtain⟨rfl,rfl⟩:=H
        go_wp2_with (first|((with_reducible refine gate_callee (f:=25) rfl ?_);refine goesL_ (some 25) rfl rfl Try.func25 (by kernel_rfl) rfl #[.slice A0 l0.length c0,.slice A1 l1.length c1,.int .i64 x6_2] rfl tl ?_;(with_reducible refine(impl_giveTeeth.calls k2 _ _ l0 _ _ l1 x6_2 t399 true _ ?side1 ?side2 ?side3 ?side4 A12.out).mono ?_);(case side1=>exact cup (Kd.C_below HR0.out HB.out));(case side2=>exact HC0.out);(case side3=>exact cup (Kd.C_below HR1.out HB.out));(case side4=>exact HC1.out);rintro e w14 ⟨v401,rfl,ho0,hb⟩;refine⟨_,rfl,?_⟩;have HO402:=am (Kd.R_lower ho0 (below_size bl));replace HB:=am (below_step bl hb);(try clear hb);(try clear ho0)))
        go_ret2
        exact⟨fin1,bl⟩
       ·replace c13:=Bool.eq_false_iff.mpr c13
        subst c13
        replace H:=(if_neg Bool.false_ne_true).symm.trans H
        have H':=am H
        clear H
        go_wp2_with (first|((with_reducible refine gate_callee (f:=25) rfl ?_);refine goesL_ (some 25) rfl rfl Try.func25 (by kernel_rfl) rfl #[.slice A0 l0.length c0,.slice A1 l1.length c1,.int .i64 x6_2] rfl tl ?_;(with_reducible refine(impl_giveTeeth.calls k2 _ _ l0 _ _ l1 x6_2 t399 false _ ?side1 ?side2 ?side3 ?side4 A12.out).mono ?_);(case side1=>exact cup (Kd.C_below HR0.out HB.out));(case side2=>exact HC0.out);(case side3=>exact cup (Kd.C_below HR1.out HB.out));(case side4=>exact HC1.out);rintro e w15 ⟨v401,rfl,ho0,hb⟩;refine⟨_,rfl,?_⟩;have HO402:=am (Kd.R_lower ho0 (below_size bl));replace HB:=am (below_step bl hb);(try clear hb);(try clear ho0)))
        go_roundg k2
        case measure=>have:=HJ2.out;have:=HK2.out;omega
        case rel=>exact⟨(wrap64 (x6_2 - 1)),fin2,H',⟨by have:=HJ2.out;have:=HK2.out;omega⟩,⟨bl⟩⟩
      ·have c11b0:decide (1≤x6_2)=false:=decide_eq_false c11
       clear c11
       simp only[Option.some.injEq,Prod.mk.injEq] at H
       obtain⟨rfl,rfl⟩:=H
       go_wp2
       go_ret2
       exact⟨fin1,bl⟩

end Go.Proofs.Ytiekokdlcgpcdaa.PFnStrikes
