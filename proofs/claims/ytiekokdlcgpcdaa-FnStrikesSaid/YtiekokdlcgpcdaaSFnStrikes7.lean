/- Walks of functions that FnStrikes reaches. No conditions beyond the arguments' being read. -/
import Derived.Test.YtiekokdlcgpcdaaSFnStrikes0
import Derived.Test.YtiekokdlcgpcdaaSFnStrikes2
import Derived.Test.YtiekokdlcgpcdaaSFnStrikes4
namespace Go.Proofs.Ytiekokdlcgpcdaa.PFnStrikes
open Go.RowKit Go.Proofs.YtiekokdlcgpcdaaW.PrintWords Go.Proofs.YtiekokdlcgpcdaaW.PrintLast Go.Proofs.YtiekokdlcgpcdaaW.PrintMore
attribute [local go_sem] max2_int min2_int max_two min_two max_three min_three max_four min_four
set_option linter.unusedVariables false
set_option linter.unusedSimpArgs false

mutual
def impl_TeethNeeded.j0:Nat→List (S45)→Int→Bool→Option (List Int×Bool)
 | 0,_,_,_=>none
 | k+1,x0,x1,x19=>if x19=true then(some (([]:List Int),false)) else(if 73≤35184372088832 then(impl_TeethNeeded.l0 k x0 x1 (List.replicate 73 0) x0 (x0.length:Int) 0) else(none))
def impl_TeethNeeded.l0:Nat→List (S45)→Int→List Int→List (S45)→Int→Int→Option (List Int×Bool)
 | 0,_,_,_,_,_,_=>none
 | k+1,x0,x1,x6,x21,x22,x23=>if x23<x22 then(if 0≤x23 then(if x23<(x21.length:Int) then(if 0≤(wrap64 (x23+1)) then(if(wrap64 (x23+1))≤(x0.length:Int) then((some (x0.take ((wrap64 (x23+1)):Int).toNat:List (S45))).bind fun y362=>(impl_TeethNeeded.l1 k x0 x1 x6 0 x21 x22 x23 y362 (y362.length:Int) 0 ((rd_T45 x21 x23).f0) ((rd_T45 x21 x23).f1))) else(none)) else(none)) else(none)) else(none)) else(some (x6,true))
def impl_TeethNeeded.l1:Nat→List (S45)→Int→List Int→Int→List (S45)→Int→Int→List (S45)→Int→Int→Int→Int→Option (List Int×Bool)
 | 0,_,_,_,_,_,_,_,_,_,_,_,_=>none
 | k+1,x0,x1,x6,x9,x21,x22,x23,x31,x32,x33,x362000,x362001=>if x33<x32 then(if 0≤x33 then(if x33<(x31.length:Int) then(if((rd_T45 x31 x33).f0)=x362000 then(if(wrap64 (x362001 - ((rd_T45 x31 x33).f1)))<x1 then(impl_TeethNeeded.l1 k x0 x1 x6 (wrap64 (x9+1)) x21 x22 x23 x31 x32 (wrap64 (x33+1)) x362000 x362001) else(impl_TeethNeeded.l1 k x0 x1 x6 x9 x21 x22 x23 x31 x32 (wrap64 (x33+1)) x362000 x362001)) else(impl_TeethNeeded.l1 k x0 x1 x6 x9 x21 x22 x23 x31 x32 (wrap64 (x33+1)) x362000 x362001)) else(none)) else(none)) else(if 0≤(wrap64 (x362000 - 24)) then(if(wrap64 (x362000 - 24))<(x6.length:Int) then(impl_TeethNeeded.l0 k x0 x1 (x6.set ((wrap64 (x362000 - 24)):Int).toNat (mx (rd x6 (wrap64 (x362000 - 24))) x9)) x21 x22 (wrap64 (x23+1))) else(none)) else(none))
end
def impl_TeethNeeded.f (k:Nat) (l0:List (S45)) (a1:Int):Option (List Int×Bool):=(impl_AreStrikes.f k l0).bind fun t355=>(if t355=true then((impl_isRest.f a1).bind fun t356=>(impl_TeethNeeded.j0 k l0 a1 (!t356))) else(impl_TeethNeeded.j0 k l0 a1 true))
def impl_TeethNeeded.T14:Bool×List (List Nat×List Nat):=(true,[([],[]),([],[]),([1],[1]),([2],[2]),([],[]),([],[]),([5],[5]),([6],[6]),([4,7],[4,7]),([8],[8]),([],[]),([9,10],[9,10]),([0,3,0,1,2,3,4,5,6,7,8,9,10,11],[0,3]),([12,11,0,1,2,3,4,5,6,7,8,9,10,11],[11,12])])
def impl_TeethNeeded.B14:List Nat:=[0,0,2,6,0,0,32,96,240,496,0,2032,4095,8191]
theorem impl_TeethNeeded.tab14:rtab .any (opsOf Try.f7 14)=impl_TeethNeeded.T14:=by kernel_rfl
theorem impl_TeethNeeded.bits14:waitsOk impl_TeethNeeded.T14.2 impl_TeethNeeded.B14=true:=by kernel_rfl
set_option maxHeartbeats 8000000 in
set_option maxRecDepth 100000 in
theorem impl_TeethNeeded.calls (k:Nat) (A0:Option Addr) (c0:Nat) (l0:List (S45)) (a1:Int) (r1:List Int) (r2:Bool) (w:World) (hr0:Kd.C k45 w A0 l0.length l0) (hc0:l0.length≤c0) (h:impl_TeethNeeded.f k l0 a1=some (r1,r2)) :
  Calls Try.prog 7 #[.slice A0 l0.length c0,.int .i64 a1] w fun e w'=>∃ v0_:Value,e = .returned (.tuple #[v0_,.bool r2])∧Kd.R (Kd.int .i64) 3 w' w.heap.size (fun _=>True) v0_ r1∧Below w.heap.size w w':=by
 have hu45:=Try.underlying45
 have HR0:=am hr0
 have HC0:=am hc0
 clear hr0 hc0
 have HB:=am (Below.refl w.heap.size w)
 have H:((impl_AreStrikes.f k l0).bind fun t355=>(if t355=true then((impl_isRest.f a1).bind fun t356=>(impl_TeethNeeded.j0 k l0 a1 (!t356))) else(impl_TeethNeeded.j0 k l0 a1 true)))=some (r1,r2):=h
 clear h
 have HC3:=am H
 clear H
 go_enter Try.func7,Try.ntmps7
 go_upto_region 1 with(fail)
 go_cut [19] (fun v19 wc=>∃(kq:Nat) (x19_2:Bool),v19 = .bool x19_2∧Aside0 (impl_TeethNeeded.j0 kq l0 a1 x19_2=some (r1,r2))∧Aside0 (kq≤k)∧Aside0 (Below w.heap.size w wc))
 case first =>
  have H:=HC3.out
  clear HC3
  replace H:=Option.bind_eq_some_iff.mp H
  obtain⟨t355,A40,H⟩:=H
  replace H:(if t355=true then((impl_isRest.f a1).bind fun t356=>(impl_TeethNeeded.j0 k l0 a1 (!t356))) else(impl_TeethNeeded.j0 k l0 a1 true))=some (r1,r2):=H
  have A4:=am A40
  clear A40
  by_cases c5:t355=true
  ·subst c5
   replace H:=(if_pos rfl).symm.trans H
   replace H:=Option.bind_eq_some_iff.mp H
   obtain⟨t356,A60,H⟩:=H
   replace H:(impl_TeethNeeded.j0 k l0 a1 (!t356))=some (r1,r2):=H
   have A6:=am A60
   clear A60
   have H':=am H
   clear H
   go_wp2_with (first|((with_reducible refine gate_callee (f:=16) rfl ?_);refine goesL_ (some 13) rfl rfl Try.func16 (by kernel_rfl) rfl #[.slice A0 l0.length c0] rfl tl ?_;(with_reducible refine(impl_AreStrikes.calls k _ _ l0 true _ ?side1 ?side2 A4.out).mono ?_);(case side1=>exact cup (Kd.C_below HR0.out HB.out));(case side2=>exact HC0.out);rintro e w7 ⟨rfl,hb⟩;refine⟨_,rfl,?_⟩;replace HB:=am (below_step bl hb);(try clear hb))|(go_at_call 24;(with_reducible refine(impl_isRest.calls a1 t356 _ A6.out).mono ?_);rintro e w' ⟨rfl,⟨nd,rfl⟩⟩))
   go_meet
   case rel=>exact⟨_,(!t356),fin2,H',⟨by first|omega|exact Nat.le_refl _⟩,⟨bl⟩⟩
  ·replace c5:=Bool.eq_false_iff.mpr c5
   subst c5
   replace H:=(if_neg Bool.false_ne_true).symm.trans H
   have H':=am H
   clear H
   go_wp2_with (first|((with_reducible refine gate_callee (f:=16) rfl ?_);refine goesL_ (some 13) rfl rfl Try.func16 (by kernel_rfl) rfl #[.slice A0 l0.length c0] rfl tl ?_;(with_reducible refine(impl_AreStrikes.calls k _ _ l0 false _ ?side1 ?side2 A4.out).mono ?_);(case side1=>exact cup (Kd.C_below HR0.out HB.out));(case side2=>exact HC0.out);rintro e w8 ⟨rfl,hb⟩;refine⟨_,rfl,?_⟩;replace HB:=am (below_step bl hb);(try clear hb)))
   go_meet
   case rel=>exact⟨_,(true),fin2,H',⟨by first|omega|exact Nat.le_refl _⟩,⟨bl⟩⟩
 case rest =>
  clear HC3
  obtain⟨kq,x19_2,rfl,HA,HJ2,HB⟩:=hcut
  cases kq with
  | zero=>exact absurd HA.out (by simp [impl_TeethNeeded.j0])
  | succ kj2 =>
   have H:=HA.out
   clear HA
   simp only[impl_TeethNeeded.j0] at H
   by_cases c9:x19_2=true
   ·subst c9
    replace H:=(if_pos rfl).symm.trans H
    simp only[Option.some.injEq,Prod.mk.injEq] at H
    obtain⟨rfl,rfl⟩:=H
    go_wp2
    go_ret2
    exact⟨_,fin1,by first|exact Kd.R_nil _ _ _ _ _|exact Kd.N_nil _ _ _ _ _|exact Kd.V_nil _ _ _ _ _|exact Kd.Q_nil _ _ _ _ _|exact Kd.S_nil _ _ _ _ _,bl⟩
   ·replace c9:=Bool.eq_false_iff.mpr c9
    subst c9
    replace H:=(if_neg Bool.false_ne_true).symm.trans H
    obtain⟨c10,H⟩:=ifp H
    have c10b0:=eq_true c10
    have c10b1:decide (73≤35184372088832)=true:=decide_eq_true c10
    clear c10
    obtain⟨y357,hy357⟩:∃ y_:List Int,y_=(List.replicate 73 0):=⟨_,rfl⟩
    replace H:(impl_TeethNeeded.l0 kj2 l0 a1 y357 l0 (l0.length:Int) 0)=some (r1,r2):=by subst hy357;exact H
    have Ny357:=am hy357
    clear hy357
    have H':=am H
    clear H
    go_wp2_with (first|((with_reducible refine gate_dst (N:=20) rfl ?_);refine Kd.R_make (Kd.int .i64) _ 3 rfl (N:=20) rfl 27 _ _ rfl 73 rfl rfl Try.underlying27 (.int .i64 0) 8 info3 rfl (by decide) (by omega) 0 (ok:=fun _=>True) (okp:=fun _=>True) rfl (fun _ hk=>hk) trivial (by omega) (by omega) (Below.refl _ _) (Nat.le_refl _) ?_;intro v358 w11 ho12 hb hg_ hnew_;clear hg_ hnew_;(first|rw[← Ny357.out] at ho12|(simp only[Int.reduceToNat] at ho12;rw[← Ny357.out] at ho12));have HO359:=am (Kd.R_lower ho12 (below_size bl));replace HB:=am (below_step bl hb);clear hb ho12))
    go_loopg [23] kj2 (fun kq v23 w'=>∃(x6_2:List Int) (x23_2:Int),v23 = .int .i64 x23_2∧Aside0 (impl_TeethNeeded.l0 kq l0 a1 x6_2 l0 (l0.length:Int) x23_2=some (r1,r2))∧Aside0 (kq≤kj2)∧Aside0 (Kd.R (Kd.int .i64) 3 w' w.heap.size (fun _=>True) v358 x6_2)∧Aside0 (Below w.heap.size w w'))
    case atStart=>exact⟨(y357),(0),fin2,H',⟨Nat.le_refl _⟩,⟨rup HO359.out⟩,⟨bl⟩⟩
    case round =>
     clear H'
     try clear c9
     try clear c10b0
     try clear c10b1
     obtain⟨x6_2,x23_2,rfl,HA,HK2,HO_6,HB⟩:=hrel
     cases gk with
     | zero=>exact absurd HA.out (by simp [impl_TeethNeeded.l0])
     | succ k2 =>
      have H:=HA.out
      clear HA
      simp only[impl_TeethNeeded.l0] at H
      rcases itc H with⟨c13,H⟩|⟨c13,H⟩
      ·have c13b0:=decide_eq_true c13
       clear c13
       obtain⟨c14b0,H⟩:=ifb H
       obtain⟨c15b0,H⟩:=ifb H
       obtain⟨ji16,hji16⟩:∃ j_:Int,(wrap64 (x23_2+1))=j_:=⟨_,rfl⟩
       replace H:(if 0≤(ji16) then(if(ji16)≤(l0.length:Int) then((some (l0.take ((ji16):Int).toNat:List (S45))).bind fun y362=>(impl_TeethNeeded.l1 k2 l0 a1 x6_2 0 l0 (l0.length:Int) x23_2 y362 (y362.length:Int) 0 ((rd_T45 l0 x23_2).f0) ((rd_T45 l0 x23_2).f1))) else(none)) else(none))=some (r1,r2):=by first|(rw[hji16] at H;exact H)|(simp only[hji16] at H ⊢;exact H)
       have hji16w:(IntKind.i64.wrap (x23_2+1))=ji16:=(i64_w _).trans hji16
       obtain⟨c17,H⟩:=ifp H
       have c17b0:=eq_true c17
       have c17b1:decide (0≤(ji16))=true:=decide_eq_true c17
       clear c17
       obtain⟨c18,H⟩:=ifp H
       have c18b0:=eq_true c18
       have c18b1:decide ((ji16)≤(l0.length:Int))=true:=decide_eq_true c18
       clear c18
       obtain⟨y362,hy362⟩:∃ y_:List (S45),y_=(l0.take ((ji16):Int).toNat):=⟨_,rfl⟩
       replace H:(impl_TeethNeeded.l1 k2 l0 a1 x6_2 0 l0 (l0.length:Int) x23_2 y362 (y362.length:Int) 0 ((rd_T45 l0 x23_2).f0) ((rd_T45 l0 x23_2).f1))=some (r1,r2):=by subst hy362;exact H
       have Ny362:=am hy362
       clear hy362
       have H':=am H
       clear H
       have p360:0≤(x23_2:Int):=od
       have q360:x23_2<(l0.length:Int):=od
       obtain⟨ad360,e360,hx360_0,hx360_1⟩:=at_T45 HR0.out x23_2 p360 q360
       cases e360
       replace hx360_0:=(HB.out.cell (World.block_lt_of_cell? w _ hx360_0)).trans hx360_0
       replace hx360_1:=(HB.out.cell (World.block_lt_of_cell? w _ hx360_1)).trans hx360_1
       replace p360:=eq_true p360
       replace q360:=eq_true q360
       go_wp2_with (first|((with_reducible refine gate_dst (N:=8) rfl ?_);refine box_event ?hg (N:=8) ?hd (cs := #[.int .i64 0,.int .i64 0]) (t:=45) ?hr ?_;(case hd=>rfl);(case hg=>rfl);(case hr=>first|(go_simp;done)|(go_simp;rfl));intro gb361 hg w19 hbox hb;replace HO_6:=am (Kd.R_below (rup HO_6.out) hb);have BK361:=am (hbox);have GW361:=am (ge_ bl hg);have GE361:=am (ge_ bl hg);replace HB:=am (below_step bl hb);clear hb hbox hg;have hcz20_0:=bc BK361.out 0;have hcz20_1:=bc BK361.out 1;have hfz20_0:=blk_frozen BK361.out 0;have hfz20_1:=blk_frozen BK361.out 1)|((with_reducible refine gate_store (t:=45) (p:=8) rfl ?_);refine store_event (t:=45) (p:=8) (v:=?vo_w21) (w1:=((w19.setCell ⟨gb361,0,none⟩ (.int .i64 ((rd_T45 l0 x23_2).f0))).setCell ⟨gb361,1,none⟩ (.int .i64 ((rd_T45 l0 x23_2).f1)))) ?hg ?ho ?hn ?hr ?_;(case ho=>rfl);(case hg=>rfl);(case hn=>rfl);(case hr=>first|(go_simp;done)|(go_simp;rfl));intro w21 hw;have n0_:Aside0 (Kd.R (Kd.int .i64) 3 w21 w.heap.size (fun _=>True) v358 x6_2):=⟨(by rw[hw];exact(rup (Kd.R_mono (Kd.R_far (p:=⟨gb361,1,none⟩) (Kd.R_far (p:=⟨gb361,0,none⟩) (Kd.R_types HO_6.out BK361.out (by decide)) (fun _ hk=>hk.2) (.int .i64 ((rd_T45 l0 x23_2).f0))) (fun _ hk=>hk.2) (.int .i64 ((rd_T45 l0 x23_2).f1))) (fun _ hk=>trivial))))⟩;have n1_:Aside0 (w21.heap[gb361]?=some (.cells #[.int .i64 ((rd_T45 l0 x23_2).f0),.int .i64 ((rd_T45 l0 x23_2).f1)] 45 (0,0))):=⟨(by rw[hw];exact(by(with_reducible repeat(first|refine bN_ ?_ _|refine bD_ ?_|refine bA_ ?_ _));refine blk_put (cs := #[.int .i64 ((rd_T45 l0 x23_2).f0),.int .i64 0]) ?_ 1 _ rfl;(with_reducible repeat(first|refine bN_ ?_ _|refine bD_ ?_|refine bA_ ?_ _));refine blk_put (cs := #[.int .i64 0,.int .i64 0]) ?_ 0 _ rfl;exact bup BK361.out))⟩;have n2_:Aside0 (Below w.heap.size w w21):=⟨(by rw[hw];exact bl)⟩;clear hw HO_6 BK361 HB;have HO_6:=n0_;have BK361:=n1_;have HB:=n2_;clear n0_ n1_ n2_;have q22:((ji16):Int)≤((l0.length:Int):Int):=od;obtain⟨i022,hi022,_,hsz22,_⟩:=info_parts info45;have hroom22:l0.length≤c0:=HC0.out;have hC22:Kd.C k45 _ (some ad360) l0.length l0:=HR0.out;have hcut22:=cut_to (P:=Try.prog) 24 45 .i64 Try.underlying24 hi022 (some ad360) l0.length c0 (ji16) (od) q22 hroom22;have hr22:=Kd.C_take (m:=((ji16):Int).toNat) hC22 (by omega);have hy22:y362.length=((ji16):Int).toNat:=(by rw[Ny362.out,List.length_take];omega);rw[← Ny362.out] at hr22;rw[← hy22] at hcut22;have HR365:=am hr22;have HC365:=am (show y362.length≤c0 from by omega);clear hr22 hC22 hroom22 hi022 hsz22;have KY22:=am hy22;clear hy22;replace q22:=eq_true q22))
       go_loopg [9,33] k2 (fun kq v9 v33 w'=>∃(x9_3:Int) (x33_3:Int),v9 = .int .i64 x9_3∧v33 = .int .i64 x33_3∧Aside0 (impl_TeethNeeded.l1 kq l0 a1 x6_2 x9_3 l0 (l0.length:Int) x23_2 y362 (y362.length:Int) x33_3 ((rd_T45 l0 x23_2).f0) ((rd_T45 l0 x23_2).f1)=some (r1,r2))∧Aside0 (kq≤k2)∧Aside0 (Kd.R (Kd.int .i64) 3 w' w.heap.size (fun _=>True) v358 x6_2)∧Aside0 (w'.heap[gb361]?=some (.cells #[.int .i64 ((rd_T45 l0 x23_2).f0),.int .i64 ((rd_T45 l0 x23_2).f1)] 45 (0,0)))∧Aside0 (Below w.heap.size w w'))
       case atStart=>exact⟨(0),(0),fin2,fin2,H',⟨Nat.le_refl _⟩,⟨rup HO_6.out⟩,⟨bup BK361.out⟩,⟨bl⟩⟩
       case round =>
        clear H'
        try clear c13b0
        try clear c14b0
        try clear c15b0
        try clear c17b0
        try clear c17b1
        try clear c18b0
        try clear c18b1
        try clear q22
        try clear hcz20_0
        try clear hcz20_1
        try clear hfz20_0
        try clear hfz20_1
        try clear hx360_0
        try clear hx360_1
        try clear p360
        try clear q360
        obtain⟨x9_3,x33_3,rfl,rfl,HA,HK3,HO_6,BK361,HB⟩:=hrel
        cases gk with
        | zero=>exact absurd HA.out (by simp [impl_TeethNeeded.l1])
        | succ k3 =>
         have H:=HA.out
         clear HA
         simp only[impl_TeethNeeded.l1] at H
         rcases itc H with⟨c23,H⟩|⟨c23,H⟩
         ·have c23b0:=decide_eq_true c23
          clear c23
          obtain⟨c24b0,H⟩:=ifb H
          obtain⟨c25b0,H⟩:=ifb H
          rcases itc H with⟨c26,H⟩|⟨c26,H⟩
          ·have c26b0:(((rd_T45 y362 x33_3).f0) == ((rd_T45 l0 x23_2).f0))=true:=beq_iff_eq.mpr c26
           have c26b1:(((rd_T45 y362 x33_3).f0) != ((rd_T45 l0 x23_2).f0))=false:=bne_eq_false_iff_eq.mpr c26
           clear c26
           rcases itc H with⟨c27,H⟩|⟨c27,H⟩
           ·have c27b0:=decide_eq_true c27
            clear c27
            have H':=am H
            clear H
            have p366:0≤(x33_3:Int):=od
            have q366:x33_3<(y362.length:Int):=od
            obtain⟨ad366,e366,hx366_0,hx366_1⟩:=at_T45 HR365.out x33_3 p366 q366
            obtain rfl:ad360=ad366:=(by injection e366)
            replace hx366_0:=(HB.out.cell (World.block_lt_of_cell? w _ hx366_0)).trans hx366_0
            replace hx366_1:=(HB.out.cell (World.block_lt_of_cell? w _ hx366_1)).trans hx366_1
            replace p366:=eq_true p366
            replace q366:=eq_true q366
            go_wp2_with (first|((with_reducible refine gate_dst (N:=11) rfl ?_);refine box_event ?hg (N:=11) ?hd (cs := #[.int .i64 0,.int .i64 0]) (t:=45) ?hr ?_;(case hd=>rfl);(case hg=>rfl);(case hr=>first|(go_simp;done)|(go_simp;rfl));intro gb367 hg w28 hbox hb;replace HO_6:=am (Kd.R_below (rup HO_6.out) hb);have BK367:=am (hbox);have GW367:=am (ge_ bl hg);have GE367:=am (ge_ bl hg);replace HB:=am (below_step bl hb);have NB361_367:=am (nl (bup BK361.out) hg);have NB367_361:=am (ng (bup BK361.out) hg);replace BK361:=am (blk_below (bup BK361.out) hb);clear hb hbox hg;have hnb29:=NB367_361.out;have hnc29:=NB361_367.out;have hcz30_0:=bc BK367.out 0;have hcz30_1:=bc BK367.out 1;have hfz30_0:=blk_frozen BK367.out 0;have hfz30_1:=blk_frozen BK367.out 1;have hcz31_0:=bc BK361.out 0;have hcz31_1:=bc BK361.out 1;have hfz31_0:=blk_frozen BK361.out 0;have hfz31_1:=blk_frozen BK361.out 1))
            go_roundg k3
            case measure=>have:=HJ2.out;have:=HK2.out;have:=HK3.out;omega
            case rel=>exact⟨(wrap64 (x9_3+1)),(wrap64 (x33_3+1)),fin2,fin2,H',⟨by have:=HJ2.out;have:=HK2.out;have:=HK3.out;omega⟩,⟨rup (Kd.R_mono (Kd.R_far (p:=⟨gb367,1,none⟩) (Kd.R_far (p:=⟨gb367,0,none⟩) (Kd.R_types HO_6.out BK367.out (by decide)) (fun _ hk=>hk.2) (.int .i64 ((rd_T45 y362 x33_3).f0))) (fun _ hk=>hk.2) (.int .i64 ((rd_T45 y362 x33_3).f1))) (fun _ hk=>trivial))⟩,⟨by(with_reducible repeat(first|refine bN_ ?_ _|refine bD_ ?_|refine bA_ ?_ _));refine blk_far ?_ NB361_367.out _;(with_reducible repeat(first|refine bN_ ?_ _|refine bD_ ?_|refine bA_ ?_ _));refine blk_far ?_ NB361_367.out _;exact bup BK361.out⟩,⟨bl⟩⟩
           ·have c27b0:=decide_eq_false c27
            clear c27
            have H':=am H
            clear H
            have p366:0≤(x33_3:Int):=od
            have q366:x33_3<(y362.length:Int):=od
            obtain⟨ad366,e366,hx366_0,hx366_1⟩:=at_T45 HR365.out x33_3 p366 q366
            obtain rfl:ad360=ad366:=(by injection e366)
            replace hx366_0:=(HB.out.cell (World.block_lt_of_cell? w _ hx366_0)).trans hx366_0
            replace hx366_1:=(HB.out.cell (World.block_lt_of_cell? w _ hx366_1)).trans hx366_1
            replace p366:=eq_true p366
            replace q366:=eq_true q366
            go_wp2_with (first|((with_reducible refine gate_dst (N:=11) rfl ?_);refine box_event ?hg (N:=11) ?hd (cs := #[.int .i64 0,.int .i64 0]) (t:=45) ?hr ?_;(case hd=>rfl);(case hg=>rfl);(case hr=>first|(go_simp;done)|(go_simp;rfl));intro gb367 hg w32 hbox hb;replace HO_6:=am (Kd.R_below (rup HO_6.out) hb);have BK367:=am (hbox);have GW367:=am (ge_ bl hg);have GE367:=am (ge_ bl hg);replace HB:=am (below_step bl hb);have NB361_367:=am (nl (bup BK361.out) hg);have NB367_361:=am (ng (bup BK361.out) hg);replace BK361:=am (blk_below (bup BK361.out) hb);clear hb hbox hg;have hnb33:=NB367_361.out;have hnc33:=NB361_367.out;have hcz34_0:=bc BK367.out 0;have hcz34_1:=bc BK367.out 1;have hfz34_0:=blk_frozen BK367.out 0;have hfz34_1:=blk_frozen BK367.out 1;have hcz35_0:=bc BK361.out 0;have hcz35_1:=bc BK361.out 1;have hfz35_0:=blk_frozen BK361.out 0;have hfz35_1:=blk_frozen BK361.out 1))
            go_roundg k3
            case measure=>have:=HJ2.out;have:=HK2.out;have:=HK3.out;omega
            case rel=>exact⟨(x9_3),(wrap64 (x33_3+1)),fin2,fin2,H',⟨by have:=HJ2.out;have:=HK2.out;have:=HK3.out;omega⟩,⟨rup (Kd.R_mono (Kd.R_far (p:=⟨gb367,1,none⟩) (Kd.R_far (p:=⟨gb367,0,none⟩) (Kd.R_types HO_6.out BK367.out (by decide)) (fun _ hk=>hk.2) (.int .i64 ((rd_T45 y362 x33_3).f0))) (fun _ hk=>hk.2) (.int .i64 ((rd_T45 y362 x33_3).f1))) (fun _ hk=>trivial))⟩,⟨by(with_reducible repeat(first|refine bN_ ?_ _|refine bD_ ?_|refine bA_ ?_ _));refine blk_far ?_ NB361_367.out _;(with_reducible repeat(first|refine bN_ ?_ _|refine bD_ ?_|refine bA_ ?_ _));refine blk_far ?_ NB361_367.out _;exact bup BK361.out⟩,⟨bl⟩⟩
          ·have c26b0:(((rd_T45 y362 x33_3).f0) == ((rd_T45 l0 x23_2).f0))=false:=beq_eq_false_iff_ne.mpr c26
           have c26b1:(((rd_T45 y362 x33_3).f0) != ((rd_T45 l0 x23_2).f0))=true:=bne_iff_ne.mpr c26
           have H':=am H
           clear H
           have p366:0≤(x33_3:Int):=od
           have q366:x33_3<(y362.length:Int):=od
           obtain⟨ad366,e366,hx366_0,hx366_1⟩:=at_T45 HR365.out x33_3 p366 q366
           obtain rfl:ad360=ad366:=(by injection e366)
           replace hx366_0:=(HB.out.cell (World.block_lt_of_cell? w _ hx366_0)).trans hx366_0
           replace hx366_1:=(HB.out.cell (World.block_lt_of_cell? w _ hx366_1)).trans hx366_1
           replace p366:=eq_true p366
           replace q366:=eq_true q366
           go_wp2_with (first|((with_reducible refine gate_dst (N:=11) rfl ?_);refine box_event ?hg (N:=11) ?hd (cs := #[.int .i64 0,.int .i64 0]) (t:=45) ?hr ?_;(case hd=>rfl);(case hg=>rfl);(case hr=>first|(go_simp;done)|(go_simp;rfl));intro gb367 hg w36 hbox hb;replace HO_6:=am (Kd.R_below (rup HO_6.out) hb);have BK367:=am (hbox);have GW367:=am (ge_ bl hg);have GE367:=am (ge_ bl hg);replace HB:=am (below_step bl hb);have NB361_367:=am (nl (bup BK361.out) hg);have NB367_361:=am (ng (bup BK361.out) hg);replace BK361:=am (blk_below (bup BK361.out) hb);clear hb hbox hg;have hnb37:=NB367_361.out;have hnc37:=NB361_367.out;have hcz38_0:=bc BK367.out 0;have hcz38_1:=bc BK367.out 1;have hfz38_0:=blk_frozen BK367.out 0;have hfz38_1:=blk_frozen BK367.out 1;have hcz39_0:=bc BK361.out 0;have hcz39_1:=bc BK361.out 1;have hfz39_0:=blk_frozen BK361.out 0;have hfz39_1:=blk_frozen BK361.out 1))
           go_roundg k3
           case measure=>have:=HJ2.out;have:=HK2.out;have:=HK3.out;omega
           case rel=>exact⟨(x9_3),(wrap64 (x33_3+1)),fin2,fin2,H',⟨by have:=HJ2.out;have:=HK2.out;have:=HK3.out;omega⟩,⟨rup (Kd.R_mono (Kd.R_far (p:=⟨gb367,1,none⟩) (Kd.R_far (p:=⟨gb367,0,none⟩) (Kd.R_types HO_6.out BK367.out (by decide)) (fun _ hk=>hk.2) (.int .i64 ((rd_T45 y362 x33_3).f0))) (fun _ hk=>hk.2) (.int .i64 ((rd_T45 y362 x33_3).f1))) (fun _ hk=>trivial))⟩,⟨by(with_reducible repeat(first|refine bN_ ?_ _|refine bD_ ?_|refine bA_ ?_ _));refine blk_far ?_ NB361_367.out _;(with_reducible repeat(first|refine bN_ ?_ _|refine bD_ ?_|refine bA_ ?_ _));refine blk_far ?_ NB361_367.out _;exact bup BK361.out⟩,⟨bl⟩⟩
         ·have c23b0:=decide_eq_false c23
          clear c23
          obtain⟨ji40,hji40⟩:∃ j_:Int,(wrap64 (((rd_T45 l0 x23_2).f0) - 24))=j_:=⟨_,rfl⟩
          replace H:(if 0≤(ji40) then(if(ji40)<(x6_2.length:Int) then(impl_TeethNeeded.l0 k3 l0 a1 (x6_2.set ((ji40):Int).toNat (mx (rd x6_2 (ji40)) x9_3)) l0 (l0.length:Int) (wrap64 (x23_2+1))) else(none)) else(none))=some (r1,r2):=by first|(rw[hji40] at H;exact H)|(simp only[hji40] at H ⊢;exact H)
          have hji40w:(IntKind.i64.wrap (((rd_T45 l0 x23_2).f0) - 24))=ji40:=(i64_w _).trans hji40
          obtain⟨c41b0,H⟩:=ifb H
          obtain⟨c42b0,H⟩:=ifb H
          obtain⟨ji43,hji43⟩:∃ j_:Int,(mx (rd x6_2 (ji40)) x9_3)=j_:=⟨_,rfl⟩
          replace H:(impl_TeethNeeded.l0 k3 l0 a1 (x6_2.set ((ji40):Int).toNat (ji43)) l0 (l0.length:Int) (wrap64 (x23_2+1)))=some (r1,r2):=by first|(rw[hji43] at H;exact H)|(simp only[hji43] at H ⊢;exact H)
          have hji43_:(if(rd x6_2 (ji40))<x9_3 then x9_3 else(rd x6_2 (ji40)))=ji43:=hji43
          obtain⟨y369,hy369⟩:∃ y_:List Int,y_=(x6_2.set ((ji40):Int).toNat (ji43)):=⟨_,rfl⟩
          replace H:(impl_TeethNeeded.l0 k3 l0 a1 y369 l0 (l0.length:Int) (wrap64 (x23_2+1)))=some (r1,r2):=by subst hy369;exact H
          have Ny369:=am hy369
          clear hy369
          have H':=am H
          clear H
          try go_wp2
          replace HO_6:=am (Kd.R_drew HO_6.out)
          replace BK361:=am (bD_ BK361.out)
          replace HB:=am (below_drew1 HB.out)
          obtain⟨Ao46,co46,eo46⟩:=Kd.R_slice HO_6.out
          (first|subst eo46|(injection eo46 with f1_ f2_ f3_;have f4_:=f1_.symm;have f5_:=f3_.symm;clear f1_ f2_ f3_;subst f4_;subst f5_))
          have p368:0≤((ji40):Int):=od
          have q368:(ji40)<(x6_2.length:Int):=od
          obtain⟨ad368,e368,hx368_0⟩:=Kd.at_int (Kd.R_reads' HO_6.out).2.2 (ji40) p368 q368
          cases e368
          replace p368:=eq_true p368
          replace q368:=eq_true q368
          have p44:0≤((ji40):Int):=od
          have q44:((ji40):Int)<((x6_2.length:Int):Int):=od
          obtain⟨go44,co44,eo44,gb44,gl44,cl44,HG44⟩:=Kd.R_form HO_6.out (by omega)
          (first|cases eo44|(injection eo44 with ea_ en_ ec_;(first|subst ea_|(injection ea_ with ea_;subst ea_));subst ec_;clear en_))
          have GB44:=am gb44
          have GG44:=am HG44
          clear gb44 gl44 HG44
          (first|simp only[add_plain] at hx368_0|skip)
          obtain⟨hx44_0,hf44_0⟩:=Kd.R_celln 0 HO_6.out ((ji40):Int) p44 q44
          replace p44:=eq_true p44
          replace q44:=eq_true q44
          have HP47:=Kd.R_putn HO_6.out ((ji40):Int) ji43
          rw[← Ny369.out] at HP47
          have HQ47:=am HP47
          clear HP47
          refine start_ (n:=14) (S:=fun w'=>w'.cell? ⟨gb361,0,none⟩=some (.int .i64 ((rd_T45 l0 x23_2).f0))∧w'.cell? ⟨gb361,1,none⟩=some (.int .i64 ((rd_T45 l0 x23_2).f1))∧w'.cell? ⟨go44,((ji40)).toNat,none⟩=some (.int .i64 (rd x6_2 (ji40)))) (ds:=[13]) (fl 0 14) (by kernel_rfl) rfl rfl ⟨bc BK361.out 0,bc BK361.out 1,hx368_0⟩ (fun hHeld=>?_);refine with_tabW impl_TeethNeeded.tab14 impl_TeethNeeded.bits14 (fun HT_ HW_=>?_)
          generalize wr.drew=w45 at HO_6 BK361 HB GG44 HQ47 hf44_0 hx368_0 hx44_0 hHeld ⊢
          refine pu HT_.out 0 (some 54) (fl 1 14) (h:=?_)
          refine pu HT_.out 1 (some 55) (fl 2 14) (h:=?_)
          refine pu HT_.out 4 (some 58) #[true,true,false,false,true,false,false,false,false,false,false,false,false,false] (h:=?_)
          refine pu HT_.out 5 (some 59) #[true,true,false,false,true,true,false,false,false,false,false,false,false,false] (h:=?_)
          refine pu HT_.out 10 (some 64) #[true,true,false,false,true,true,false,false,false,false,true,false,false,false] (h:=?_)
          refine ta HT_.out HW_.out 2 (some 56) #[true,true,true,false,true,true,false,false,false,false,true,false,false,false] hHeld rfl (by rintro w' ⟨s0,s1,s2⟩;go_simp;with_reducible rfl) (h:=?_)
          refine pu HT_.out 3 (some 57) #[true,true,true,true,true,true,false,false,false,false,true,false,false,false] (h:=?_)
          refine ta HT_.out HW_.out 6 (some 60) #[true,true,true,true,true,true,true,false,false,false,true,false,false,false] hHeld rfl (by rintro w' ⟨s0,s1,s2⟩;go_simp;with_reducible rfl) (h:=?_)
          refine pu HT_.out 7 (some 61) #[true,true,true,true,true,true,true,true,false,false,true,false,false,false] (h:=?_)
          refine pu HT_.out 8 (some 62) #[true,true,true,true,true,true,true,true,true,false,true,false,false,false] (h:=?_)
          refine ta HT_.out HW_.out 9 (some 63) (fl 11 14) hHeld rfl (by rintro w' ⟨s0,s1,s2⟩;go_simp;with_reducible rfl) (h:=?_)
          refine pu HT_.out 11 (some 65) (fl 12 14) (h:=?_)
          refine pu HT_.out 12 (some 66) (fl 13 14) (h:=?_)
          refine last_ (i:=13) (N:=none) (fl 14 14) rfl rfl (one_of HT_.out (by kernel_rfl)) (by decide) (fun K hK=>?_)
          refine skip_ (w1:=?_) (by rfl) rfl ?_ ?_
          rotate_left
          ·go_simp
           rfl
          refine hK.out _ _ ?_
          clear hK K
          refine done_ (done_of HT_.out (by kernel_rfl)) ?_
          try go_wp2
          go_roundg k3
          case measure=>have:=HJ2.out;have:=HK2.out;have:=HK3.out;omega
          case rel=>exact⟨(y369),(wrap64 (x23_2+1)),fin2,H',⟨by have:=HJ2.out;have:=HK2.out;have:=HK3.out;omega⟩,⟨rup (HQ47.out)⟩,⟨by repeat(first|(with_reducible first|exact HB.out|apply below_alloc|apply pw_below_drewN|apply below_drew1|refine below_set ?_ GB44.out|refine below_set ?_ GE361.out)|exact HB.out)⟩⟩
      ·have c13b0:=decide_eq_false c13
       clear c13
       simp only[Option.some.injEq,Prod.mk.injEq] at H
       obtain⟨rfl,rfl⟩:=H
       go_wp2
       go_ret2
       exact⟨_,fin1,by(with_reducible repeat(first|apply Kd.R_alloc|apply Kd.R_drewN|apply Kd.R_drew));exact HO_6.out,bl⟩

def spec_l1Most.f (a0:Int) (a1:Int):Option (Int):=if a0>a1 then(some a0) else(some a1)
set_option maxHeartbeats 8000000 in
set_option maxRecDepth 100000 in
theorem spec_l1Most.calls (a0:Int) (a1:Int) (r:Int) (w:World) (h:spec_l1Most.f a0 a1=some r) :
  Calls Try.prog 30 #[.int .i64 a0,.int .i64 a1] w fun e w'=>e = .returned (.int .i64 r)∧Drawn0 w w':=by
 have H:(if a0>a1 then(some a0) else(some a1))=some r:=h
 clear h
 rcases itc H with⟨c3,H⟩|⟨c3,H⟩
 ·have c3b0:decide (a1<a0)=true:=decide_eq_true c3
  clear c3
  obtain rfl:=Option.some.inj H
  go_enter Try.func30,Try.ntmps30
  go_wp2
  go_ret
  exact⟨by first|rfl|(simp;done)|(simp [*];done),by repeat(first|exact Drawn0.refl _|apply Drawn0.step)⟩
 ·have c3b0:decide (a1<a0)=false:=decide_eq_false c3
  clear c3
  obtain rfl:=Option.some.inj H
  go_enter Try.func30,Try.ntmps30
  go_wp2
  go_ret
  exact⟨by first|rfl|(simp;done)|(simp [*];done),by repeat(first|exact Drawn0.refl _|apply Drawn0.step)⟩

end Go.Proofs.Ytiekokdlcgpcdaa.PFnStrikes
