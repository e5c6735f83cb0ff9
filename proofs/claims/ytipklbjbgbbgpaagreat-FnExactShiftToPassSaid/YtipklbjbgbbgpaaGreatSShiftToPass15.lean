/- Walks of functions that FnExactShiftToPass reaches. No conditions beyond the arguments' being read. -/
import Derived.Test.YtipklbjbgbbgpaaGreatSShiftToPass0
namespace Go.Proofs.YtipklbjbgbbgpaaGreat.PFnExactShiftToPass
open Go.RowKit Go.Proofs.YtipklbjbgbbgpaaGreatW.PrintWords Go.Proofs.YtipklbjbgbbgpaaGreatW.PrintLast Go.Proofs.YtipklbjbgbbgpaaGreatW.PrintMore
attribute [local go_sem] max2_int min2_int max_two min_two max_three min_three max_four min_four
set_option linter.unusedVariables false
set_option linter.unusedSimpArgs false

def slices_Index_int_int.l0:Nat→List Int→Int→Int→Int→Option (Int)
 | 0,_,_,_,_=>none
 | k+1,x0,x1,x7,x8=>if x8<x7 then(if 0≤x8 then(if x8<(x0.length:Int) then(if x1=(rd x0 x8) then(some x8) else(slices_Index_int_int.l0 k x0 x1 x7 (wrap64 (x8+1)))) else(none)) else(none)) else(some (-1))
def slices_Index_int_int.f (k:Nat) (l0:List Int) (a1:Int):Option (Int):=slices_Index_int_int.l0 k l0 a1 (l0.length:Int) 0
set_option maxHeartbeats 8000000 in
set_option maxRecDepth 100000 in
theorem slices_Index_int_int.calls (k:Nat) (A0:Option Addr) (c0:Nat) (l0:List Int) (a1:Int) (r:Int) (w:World) (hr0:Kd.C (Kd.int .i64) w A0 l0.length l0) (hc0:l0.length≤c0) (h:slices_Index_int_int.f k l0 a1=some r) :
  Calls Tryz.prog 65 #[.slice A0 l0.length c0,.int .i64 a1] w fun e w'=>e = .returned (.int .i64 r)∧Drawn0 w w':=by
 have HR0:=am hr0
 have HC0:=am hc0
 clear hr0 hc0
 have H:(slices_Index_int_int.l0 k l0 a1 (l0.length:Int) 0)=some r:=h
 clear h
 have H':=am H
 clear H
 go_enter Tryz.func65,Tryz.ntmps65
 go_wp2
 go_loopg [8] k (fun kq v8 w'=>∃(x8_1:Int),v8 = .int .i64 x8_1∧Aside0 (slices_Index_int_int.l0 kq l0 a1 (l0.length:Int) x8_1=some r)∧Aside0 (kq≤k)∧Drawn0 w w')
 case atStart=>exact⟨(0),fin2,H',⟨Nat.le_refl _⟩,by repeat(first|exact Drawn0.refl _|apply Drawn0.step)⟩
 case round =>
  clear H'
  obtain⟨x8_1,rfl,HA,HK1,⟨m1,rfl⟩⟩:=hrel
  cases gk with
  | zero=>exact absurd HA.out (by simp [slices_Index_int_int.l0])
  | succ k1 =>
   have H:=HA.out
   clear HA
   simp only[slices_Index_int_int.l0] at H
   rcases itc H with⟨c3,H⟩|⟨c3,H⟩
   ·have c3b0:=decide_eq_true c3
    clear c3
    obtain⟨c4b0,H⟩:=ifb H
    obtain⟨c5b0,H⟩:=ifb H
    rcases itc H with⟨c6,H⟩|⟨c6,H⟩
    ·have c6b0:(a1 == (rd l0 x8_1))=true:=beq_iff_eq.mpr c6
     have c6b1:(a1 != (rd l0 x8_1))=false:=bne_eq_false_iff_eq.mpr c6
     clear c6
     obtain rfl:=Option.some.inj H
     have p353:0≤(x8_1:Int):=od
     have q353:x8_1<(l0.length:Int):=od
     obtain⟨ad353,e353,hx353_0⟩:=Kd.at_int HR0.out x8_1 p353 q353
     cases e353
     replace p353:=eq_true p353
     replace q353:=eq_true q353
     go_wp2
     go_ret
     exact⟨by first|rfl|(simp;done)|(simp [*];done),by repeat(first|exact Drawn0.refl _|apply Drawn0.step)⟩
    ·have c6b0:(a1 == (rd l0 x8_1))=false:=beq_eq_false_iff_ne.mpr c6
     have c6b1:(a1 != (rd l0 x8_1))=true:=bne_iff_ne.mpr c6
     have H':=am H
     clear H
     have p353:0≤(x8_1:Int):=od
     have q353:x8_1<(l0.length:Int):=od
     obtain⟨ad353,e353,hx353_0⟩:=Kd.at_int HR0.out x8_1 p353 q353
     cases e353
     replace p353:=eq_true p353
     replace q353:=eq_true q353
     go_wp2
     go_roundg k1
     case measure=>have:=HK1.out;omega
     case rel=>exact⟨(wrap64 (x8_1+1)),fin2,H',⟨by have:=HK1.out;omega⟩,by repeat(first|exact Drawn0.refl _|apply Drawn0.step)⟩
   ·have c3b0:=decide_eq_false c3
    clear c3
    obtain rfl:=Option.some.inj H
    go_wp2
    go_ret
    exact⟨by first|rfl|(simp;done)|(simp [*];done),by repeat(first|exact Drawn0.refl _|apply Drawn0.step)⟩

mutual
def impl_matched.l0:Nat→List (S59)→List Bool→List Int→List (S55)→Int→Int→List Int→Int→Option (List Int×List Int)
 | 0,_,_,_,_,_,_,_,_=>none
 | k+1,x2,x8,x9,x22,x23,x24,x355000,x355001=>if x24<x23 then(if 0≤x24 then(if x24<(x22.length:Int) then((slices_Index_int_int.f k x355000 ((rd_T55 x22 x24).f0)).bind fun t363=>(impl_matched.l1 k x2 x8 x9 t363 (-1) x22 x23 x24 x2 (x2.length:Int) 0 x355000 x355001)) else(none)) else(none)) else(impl_matched.l2 k x8 x9 (([]:List Int)) (x2.length:Int) 0)
def impl_matched.l1:Nat→List (S59)→List Bool→List Int→Int→Int→List (S55)→Int→Int→List (S59)→Int→Int→List Int→Int→Option (List Int×List Int)
 | 0,_,_,_,_,_,_,_,_,_,_,_,_,_=>none
 | k+1,x2,x8,x9,x12,x13,x22,x23,x24,x33,x34,x35,x355000,x355001=>if x35<x34 then(if 0≤x35 then(if x35<(x33.length:Int) then(if x12≥0 then(if((rd_T59 x33 x35).f0)=x12 then(if x35<(x8.length:Int) then(if rdOf false x8 x35=true then(impl_matched.l1 k x2 x8 x9 x12 x13 x22 x23 x24 x33 x34 (wrap64 (x35+1)) x355000 x355001) else(if x9.length<17592186044416 then(impl_matched.l0 k x2 (x8.set (x35:Int).toNat true) (x9 ++ [x35]) x22 x23 (wrap64 (x24+1)) x355000 x355001) else(none))) else(none)) else(impl_matched.l1 k x2 x8 x9 x12 x13 x22 x23 x24 x33 x34 (wrap64 (x35+1)) x355000 x355001)) else(impl_matched.l1 k x2 x8 x9 x12 x13 x22 x23 x24 x33 x34 (wrap64 (x35+1)) x355000 x355001)) else(none)) else(none)) else(if x9.length<17592186044416 then(impl_matched.l0 k x2 x8 (x9 ++ [x13]) x22 x23 (wrap64 (x24+1)) x355000 x355001) else(none))
def impl_matched.l2:Nat→List Bool→List Int→List Int→Int→Int→Option (List Int×List Int)
 | 0,_,_,_,_,_=>none
 | k+1,x8,x9,x16,x67,x68=>if x68<x67 then(if 0≤x68 then(if x68<(x8.length:Int) then(if rdOf false x8 x68=true then(impl_matched.l2 k x8 x9 x16 x67 (wrap64 (x68+1))) else(if x16.length<17592186044416 then(impl_matched.l2 k x8 x9 (x16 ++ [x68]) x67 (wrap64 (x68+1))) else(none))) else(none)) else(none)) else(some (x9,x16))
end
def impl_matched.f (k:Nat) (l0_0:List Int) (a0_1:Int) (l1:List (S55)) (l2:List (S59)):Option (List Int×List Int):=if 0≤(l2.length:Int) then(if((l2.length:Int):Int).toNat≤281474976710656 then(impl_matched.l0 k l2 (List.replicate ((l2.length:Int):Int).toNat false) (([]:List Int)) l1 (l1.length:Int) 0 l0_0 a0_1) else(none)) else(none)
set_option maxHeartbeats 8000000 in
set_option maxRecDepth 100000 in
theorem impl_matched.calls (k:Nat) (A0_0:Option Addr) (c0_0:Nat) (l0_0:List Int) (a0_1:Int) (A1:Option Addr) (c1:Nat) (l1:List (S55)) (A2:Option Addr) (c2:Nat) (l2:List (S59)) (r1:List Int) (r2:List Int) (w:World) (hr0_0:Kd.C (Kd.int .i64) w A0_0 l0_0.length l0_0) (hc0_0:l0_0.length≤c0_0) (hr1:Kd.C k55 w A1 l1.length l1) (hc1:l1.length≤c1) (hr2:Kd.C k59 w A2 l2.length l2) (hc2:l2.length≤c2) (h:impl_matched.f k l0_0 a0_1 l1 l2=some (r1,r2)) :
  Calls Tryz.prog 46 #[.agg #[.slice A0_0 l0_0.length c0_0,.int .i64 a0_1],.slice A1 l1.length c1,.slice A2 l2.length c2] w fun e w'=>∃ v0_ v1_:Value,e = .returned (.tuple #[v0_,v1_])∧Kd.R (Kd.int .i64) 3 w' w.heap.size (fun k_=>some k_≠(v1_:Value).ownBlock) v0_ r1∧Kd.R (Kd.int .i64) 3 w' w.heap.size (fun k_=>some k_≠(v0_:Value).ownBlock) v1_ r2∧Below w.heap.size w w':=by
 have hu34:=Tryz.underlying34
 have hu55:=Tryz.underlying55
 have hu59:=Tryz.underlying59
 have HR0_0:=am hr0_0
 have HC0_0:=am hc0_0
 clear hr0_0 hc0_0
 have HR1:=am hr1
 have HC1:=am hc1
 clear hr1 hc1
 have HR2:=am hr2
 have HC2:=am hc2
 clear hr2 hc2
 have HB:=am (Below.refl w.heap.size w)
 have H:(if 0≤(l2.length:Int) then(if((l2.length:Int):Int).toNat≤281474976710656 then(impl_matched.l0 k l2 (List.replicate ((l2.length:Int):Int).toNat false) (([]:List Int)) l1 (l1.length:Int) 0 l0_0 a0_1) else(none)) else(none))=some (r1,r2):=h
 clear h
 obtain⟨c4,H⟩:=ifp H
 have c4b0:=eq_true c4
 have c4b1:decide (0≤(l2.length:Int))=true:=decide_eq_true c4
 clear c4
 obtain⟨c5,H⟩:=ifp H
 have c5b0:=eq_true c5
 have c5b1:decide (((l2.length:Int):Int).toNat≤281474976710656)=true:=decide_eq_true c5
 clear c5
 obtain⟨y355,hy355⟩:∃ y_:List Bool,y_=(List.replicate ((l2.length:Int):Int).toNat false):=⟨_,rfl⟩
 replace H:(impl_matched.l0 k l2 y355 (([]:List Int)) l1 (l1.length:Int) 0 l0_0 a0_1)=some (r1,r2):=by subst hy355;exact H
 have Ny355:=am hy355
 clear hy355
 obtain⟨y358,hy358⟩:∃ y_:List Int,y_=(([]:List Int)):=⟨_,rfl⟩
 replace H:(impl_matched.l0 k l2 y355 y358 l1 (l1.length:Int) 0 l0_0 a0_1)=some (r1,r2):=by subst hy358;exact H
 have Ny358:=am hy358
 clear hy358
 have H':=am H
 clear H
 go_enter Tryz.func46,Tryz.ntmps46
 go_wp2_with (first|((with_reducible refine gate_dst (N:=3) rfl ?_);refine box_event ?hg (N:=3) ?hd (cs := #[.slice A0_0 l0_0.length c0_0,.int .i64 a0_1]) (t:=34) ?hr ?_;(case hd=>rfl);(case hg=>rfl);(case hr=>first|(go_simp;done)|(go_simp;rfl));intro gb354 hg w6 hbox hb;have BK354:=am (hbox);have GW354:=am (ge_ bl hg);have GE354:=am (ge_ bl hg);replace HB:=am (below_step bl hb);clear hb hbox hg)|((with_reducible refine gate_dst (N:=20) rfl ?_);refine Kd.R_make Kd.bool _ 4 rfl (N:=20) rfl 87 _ _ rfl (l2.length:Int) rfl rfl Tryz.underlying87 (.bool false) 1 info4 rfl (by decide) (by omega) false (ok:=fun _=>True) (okp:=fun _=>True) rfl (fun _ hk=>hk) trivial (od) (Nat.le_trans (Nat.mul_le_mul_right _ (od:(l2.length:Int).toNat≤281474976710656)) (by omega)) (Below.refl _ _) (Nat.le_refl _) ?_;intro v356 w7 ho8 hb hg_ hnew_;clear hg_ hnew_;(first|rw[← Ny355.out] at ho8|(simp only[Int.reduceToNat] at ho8;rw[← Ny355.out] at ho8));have HO357:=am (Kd.R_lower ho8 (below_size bl));replace BK354:=am (blk_below (bup BK354.out) hb);replace HB:=am (below_step bl hb);clear hb ho8)|((with_reducible refine gate_dst (N:=21) rfl ?_);refine Kd.R_lit (Kd.int .i64) _ 3 ?hg (N:=21) ?hd (xs:=([]:List Int)) (inner:=[]) (ok:=fun _=>True) (okp:=fun _=>True) ?hr ?hp (fun _ hk=>hk) trivial (Below.refl _ _) (Nat.le_refl _) (by simp) ?_;(case hd=>rfl);(case hg=>rfl);(case hr=>first|(go_simp;done)|(go_simp;rfl));(case hp=>exact(Reps.none _ _));intro v359 w9 ho10 hb hg_ hnew_;clear hg_ hnew_;(first|rw[← Ny358.out] at ho10|(simp only[Int.reduceToNat] at ho10;rw[← Ny358.out] at ho10));replace HO357:=am (Kd.R_below (rup HO357.out) hb);have HO360:=am (Kd.R_lower ho10 (below_size bl));replace BK354:=am (blk_below (bup BK354.out) hb);replace HB:=am (below_step bl hb);clear hb ho10))
 go_loopg [9,24] k (fun kq v9 v24 w'=>∃(x8_1:List Bool) (x9_1:List Int) (x24_1:Int),v24 = .int .i64 x24_1∧Aside0 (impl_matched.l0 kq l2 x8_1 x9_1 l1 (l1.length:Int) x24_1 l0_0 a0_1=some (r1,r2))∧Aside0 (kq≤k)∧Aside0 (Kd.R Kd.bool 4 w' w.heap.size (fun _=>True) v356 x8_1)∧Aside0 (Kd.R (Kd.int .i64) 3 w' w.heap.size (fun _=>True) v9 x9_1)∧Aside0 (w'.heap[gb354]?=some (.cells #[(.slice A0_0 l0_0.length c0_0),.int .i64 a0_1] 34 (0,0)))∧Aside0 (Below w.heap.size w w'))
 case atStart=>exact⟨(y355),(y358),(0),fin2,H',⟨Nat.le_refl _⟩,⟨rup HO357.out⟩,⟨rup HO360.out⟩,⟨bup BK354.out⟩,⟨bl⟩⟩
 case round =>
  clear H'
  try clear c4b0
  try clear c4b1
  try clear c5b0
  try clear c5b1
  obtain⟨x8_1,x9_1,x24_1,rfl,HA,HK1,HO_8,HO_9,BK354,HB⟩:=hrel
  cases gk with
  | zero=>exact absurd HA.out (by simp [impl_matched.l0])
  | succ k1 =>
   have H:=HA.out
   clear HA
   simp only[impl_matched.l0] at H
   rcases itc H with⟨c11,H⟩|⟨c11,H⟩
   ·have c11b0:=decide_eq_true c11
    clear c11
    obtain⟨c12b0,H⟩:=ifb H
    obtain⟨c13b0,H⟩:=ifb H
    replace H:=Option.bind_eq_some_iff.mp H
    obtain⟨t363,A140,H⟩:=H
    replace H:(impl_matched.l1 k1 l2 x8_1 x9_1 t363 (-1) l1 (l1.length:Int) x24_1 l2 (l2.length:Int) 0 l0_0 a0_1)=some (r1,r2):=H
    have A14:=am A140
    clear A140
    have H':=am H
    clear H
    have p361:0≤(x24_1:Int):=od
    have q361:x24_1<(l1.length:Int):=od
    obtain⟨ad361,e361,hx361_0,hx361_1,hx361_2⟩:=at_T55 HR1.out x24_1 p361 q361
    cases e361
    replace hx361_0:=(HB.out.cell (World.block_lt_of_cell? w _ hx361_0)).trans hx361_0
    replace hx361_1:=(HB.out.cell (World.block_lt_of_cell? w _ hx361_1)).trans hx361_1
    replace hx361_2:=(HB.out.cell (World.block_lt_of_cell? w _ hx361_2)).trans hx361_2
    replace p361:=eq_true p361
    replace q361:=eq_true q361
    go_wp2_with (first|((with_reducible refine gate_dst (N:=11) rfl ?_);refine box_event ?hg (N:=11) ?hd (cs := #[.int .i64 0,.int .i64 0,.int .i64 0]) (t:=55) ?hr ?_;(case hd=>rfl);(case hg=>rfl);(case hr=>first|(go_simp;done)|(go_simp;rfl));intro gb362 hg w15 hbox hb;replace HO_8:=am (Kd.R_below (rup HO_8.out) hb);replace HO_9:=am (Kd.R_below (rup HO_9.out) hb);have BK362:=am (hbox);have GW362:=am (ge_ bl hg);have GE362:=am (ge_ bl hg);replace HB:=am (below_step bl hb);have NB354_362:=am (nl (bup BK354.out) hg);have NB362_354:=am (ng (bup BK354.out) hg);replace BK354:=am (blk_below (bup BK354.out) hb);clear hb hbox hg;have hnb16:=NB362_354.out;have hnc16:=NB354_362.out;have hcz17_0:=bc BK362.out 0;have hcz17_1:=bc BK362.out 1;have hcz17_2:=bc BK362.out 2;have hfz17_0:=blk_frozen BK362.out 0;have hfz17_1:=blk_frozen BK362.out 1;have hfz17_2:=blk_frozen BK362.out 2;have hcz18_0:=bc BK354.out 0;have hcz18_1:=bc BK354.out 1;have hfz18_0:=blk_frozen BK354.out 0;have hfz18_1:=blk_frozen BK354.out 1)|((with_reducible refine gate_callee (f:=65) rfl ?_);refine goesL_ (some 32) rfl rfl Tryz.func65 (by kernel_rfl) rfl #[.slice A0_0 l0_0.length c0_0,.int .i64 ((rd_T55 l1 x24_1).f0)] rfl tl ?_;(with_reducible refine(slices_Index_int_int.calls k1 _ _ l0_0 ((rd_T55 l1 x24_1).f0) t363 _ ?side1 ?side2 A14.out).mono ?_);(case side1=>exact Kd.C_below HR0_0.out bl);(case side2=>exact HC0_0.out);rintro e w' ⟨rfl,⟨nd,rfl⟩⟩;refine⟨_,rfl,?_⟩))
    go_loopg [13,35] k1 (fun kq v13 v35 w'=>∃(x8_2:List Bool) (x13_2:Int) (x35_2:Int),v13 = .int .i64 x13_2∧v35 = .int .i64 x35_2∧Aside0 (impl_matched.l1 kq l2 x8_2 x9_1 t363 x13_2 l1 (l1.length:Int) x24_1 l2 (l2.length:Int) x35_2 l0_0 a0_1=some (r1,r2))∧Aside0 (kq≤k1)∧Aside0 (Kd.R Kd.bool 4 w' w.heap.size (fun _=>True) v356 x8_2)∧Aside0 (Kd.R (Kd.int .i64) 3 w' w.heap.size (fun _=>True) u9 x9_1)∧Aside0 (w'.heap[gb354]?=some (.cells #[(.slice A0_0 l0_0.length c0_0),.int .i64 a0_1] 34 (0,0)))∧Aside0 (w'.heap[gb362]?=some (.cells #[.int .i64 ((rd_T55 l1 x24_1).f0),.int .i64 ((rd_T55 l1 x24_1).f1),.int .i64 ((rd_T55 l1 x24_1).f2)] 55 (0,0)))∧Aside0 (Below w.heap.size w w'))
    case atStart=>exact⟨(x8_1),((-1)),(0),fin2,fin2,H',⟨Nat.le_refl _⟩,⟨rup (Kd.R_mono (Kd.R_far (p:=⟨gb362,2,none⟩) (Kd.R_far (p:=⟨gb362,1,none⟩) (Kd.R_far (p:=⟨gb362,0,none⟩) (Kd.R_types HO_8.out BK362.out (by decide)) (fun _ hk=>hk.2) (.int .i64 ((rd_T55 l1 x24_1).f0))) (fun _ hk=>hk.2) (.int .i64 ((rd_T55 l1 x24_1).f1))) (fun _ hk=>hk.2) (.int .i64 ((rd_T55 l1 x24_1).f2))) (fun _ hk=>trivial))⟩,⟨rup (Kd.R_mono (Kd.R_far (p:=⟨gb362,2,none⟩) (Kd.R_far (p:=⟨gb362,1,none⟩) (Kd.R_far (p:=⟨gb362,0,none⟩) (Kd.R_types HO_9.out BK362.out (by decide)) (fun _ hk=>hk.2) (.int .i64 ((rd_T55 l1 x24_1).f0))) (fun _ hk=>hk.2) (.int .i64 ((rd_T55 l1 x24_1).f1))) (fun _ hk=>hk.2) (.int .i64 ((rd_T55 l1 x24_1).f2))) (fun _ hk=>trivial))⟩,⟨by(with_reducible repeat(first|refine bN_ ?_ _|refine bD_ ?_|refine bA_ ?_ _));refine blk_far ?_ NB354_362.out _;(with_reducible repeat(first|refine bN_ ?_ _|refine bD_ ?_|refine bA_ ?_ _));refine blk_far ?_ NB354_362.out _;(with_reducible repeat(first|refine bN_ ?_ _|refine bD_ ?_|refine bA_ ?_ _));refine blk_far ?_ NB354_362.out _;exact bup BK354.out⟩,⟨by(with_reducible repeat(first|refine bN_ ?_ _|refine bD_ ?_|refine bA_ ?_ _));refine blk_put (cs := #[.int .i64 ((rd_T55 l1 x24_1).f0),.int .i64 ((rd_T55 l1 x24_1).f1),.int .i64 0]) ?_ 2 _ rfl;(with_reducible repeat(first|refine bN_ ?_ _|refine bD_ ?_|refine bA_ ?_ _));refine blk_put (cs := #[.int .i64 ((rd_T55 l1 x24_1).f0),.int .i64 0,.int .i64 0]) ?_ 1 _ rfl;(with_reducible repeat(first|refine bN_ ?_ _|refine bD_ ?_|refine bA_ ?_ _));refine blk_put (cs := #[.int .i64 0,.int .i64 0,.int .i64 0]) ?_ 0 _ rfl;exact bup BK362.out⟩,⟨bl⟩⟩
    case round =>
     clear H'
     try clear c11b0
     try clear c12b0
     try clear c13b0
     try clear hcz17_0
     try clear hcz17_1
     try clear hcz17_2
     try clear hcz18_0
     try clear hcz18_1
     try clear hfz17_0
     try clear hfz17_1
     try clear hfz17_2
     try clear hfz18_0
     try clear hfz18_1
     try clear hx361_0
     try clear hx361_1
     try clear hx361_2
     try clear p361
     try clear q361
     obtain⟨x8_2,x13_2,x35_2,rfl,rfl,HA,HK2,HO_8,HO_9,BK354,BK362,HB⟩:=hrel
     cases gk with
     | zero=>exact absurd HA.out (by simp [impl_matched.l1])
     | succ k2 =>
      have H:=HA.out
      clear HA
      simp only[impl_matched.l1] at H
      rcases itc H with⟨c19,H⟩|⟨c19,H⟩
      ·have c19b0:=decide_eq_true c19
       clear c19
       obtain⟨c20b0,H⟩:=ifb H
       obtain⟨c21b0,H⟩:=ifb H
       rcases itc H with⟨c22,H⟩|⟨c22,H⟩
       ·have c22b0:decide (0≤t363)=true:=decide_eq_true c22
        clear c22
        rcases itc H with⟨c23,H⟩|⟨c23,H⟩
        ·have c23b0:(((rd_T59 l2 x35_2).f0) == t363)=true:=beq_iff_eq.mpr c23
         have c23b1:(((rd_T59 l2 x35_2).f0) != t363)=false:=bne_eq_false_iff_eq.mpr c23
         clear c23
         obtain⟨c24b0,H⟩:=ifb H
         obtain⟨bq25,hbq25⟩:∃ b_:Bool,b_=(rdOf false x8_2 x35_2):=⟨_,rfl⟩
         replace H:(if bq25=true then(impl_matched.l1 k2 l2 x8_2 x9_1 t363 x13_2 l1 (l1.length:Int) x24_1 l2 (l2.length:Int) (wrap64 (x35_2+1)) l0_0 a0_1) else(if x9_1.length<17592186044416 then(impl_matched.l0 k2 l2 (x8_2.set (x35_2:Int).toNat true) (x9_1 ++ [x35_2]) l1 (l1.length:Int) (wrap64 (x24_1+1)) l0_0 a0_1) else(none)))=some (r1,r2):=by rw[← hbq25] at H;exact H
         have Nbq25:=am hbq25
         clear hbq25
         by_cases c26:bq25=true
         ·subst c26
          replace H:=(if_pos rfl).symm.trans H
          have H':=am H
          clear H
          have p364:0≤(x35_2:Int):=od
          have q364:x35_2<(l2.length:Int):=od
          obtain⟨ad364,e364,hx364_0,hx364_1,hx364_2⟩:=at_T59 HR2.out x35_2 p364 q364
          cases e364
          replace hx364_0:=(HB.out.cell (World.block_lt_of_cell? w _ hx364_0)).trans hx364_0
          replace hx364_1:=(HB.out.cell (World.block_lt_of_cell? w _ hx364_1)).trans hx364_1
          replace hx364_2:=(HB.out.cell (World.block_lt_of_cell? w _ hx364_2)).trans hx364_2
          replace p364:=eq_true p364
          replace q364:=eq_true q364
          go_wp2_with (first|((with_reducible refine gate_dst (N:=15) rfl ?_);refine box_event ?hg (N:=15) ?hd (cs := #[.int .i64 0,.int .i64 0,.int .i64 0]) (t:=59) ?hr ?_;(case hd=>rfl);(case hg=>rfl);(case hr=>first|(go_simp;done)|(go_simp;rfl));intro gb365 hg w27 hbox hb;replace HO_8:=am (Kd.R_below (rup HO_8.out) hb);replace HO_9:=am (Kd.R_below (rup HO_9.out) hb);have BK365:=am (hbox);have GW365:=am (ge_ bl hg);have GE365:=am (ge_ bl hg);replace HB:=am (below_step bl hb);have NB354_365:=am (nl (bup BK354.out) hg);have NB365_354:=am (ng (bup BK354.out) hg);replace BK354:=am (blk_below (bup BK354.out) hb);have NB362_365:=am (nl (bup BK362.out) hg);have NB365_362:=am (ng (bup BK362.out) hg);replace BK362:=am (blk_below (bup BK362.out) hb);clear hb hbox hg;have hnb28:=NB365_354.out;have hnc28:=NB354_365.out;have hnb29:=NB365_362.out;have hnc29:=NB362_365.out;have hcz30_0:=bc BK365.out 0;have hcz30_1:=bc BK365.out 1;have hcz30_2:=bc BK365.out 2;have hfz30_0:=blk_frozen BK365.out 0;have hfz30_1:=blk_frozen BK365.out 1;have hfz30_2:=blk_frozen BK365.out 2;obtain⟨Ao31,co31,eo31⟩:=Kd.R_slice HO_8.out;subst eo31;have p366:0≤(x35_2:Int):=od;have q366:x35_2<(x8_2.length:Int):=od;obtain⟨ad366,e366,hx366_0⟩:=Kd.at_bool (Kd.R_reads' HO_8.out).2.2 x35_2 p366 q366;(try rw[← Nbq25.out] at hx366_0);cases e366;have hn366_0:ad366.block≠gb365:=Kd.own_blk (Kd.R_ne HO_8.out BK365.out (by decide));have hn366_1:ad366.block≠gb365:=Kd.own_blk (Kd.R_ne HO_8.out BK365.out (by decide));have hn366_2:ad366.block≠gb365:=Kd.own_blk (Kd.R_ne HO_8.out BK365.out (by decide));replace hx366_0:=(cell_far (p:=⟨gb365,0,none⟩) (by first|(rw[add_block];exact hn366_0)|(show(Addr.add _ _).block≠_;rw[add_block];exact hn366_0)|exact hn366_0) (.int .i64 ((rd_T59 l2 x35_2).f0))).trans hx366_0;replace hx366_0:=(cell_far (p:=⟨gb365,1,none⟩) (by first|(rw[add_block];exact hn366_1)|(show(Addr.add _ _).block≠_;rw[add_block];exact hn366_1)|exact hn366_1) (.int .i64 ((rd_T59 l2 x35_2).f1))).trans hx366_0;replace hx366_0:=(cell_far (p:=⟨gb365,2,none⟩) (by first|(rw[add_block];exact hn366_2)|(show(Addr.add _ _).block≠_;rw[add_block];exact hn366_2)|exact hn366_2) (.int .i64 ((rd_T59 l2 x35_2).f2))).trans hx366_0;clear hn366_0 hn366_1 hn366_2;replace p366:=eq_true p366;replace q366:=eq_true q366))
          go_roundg k2
          case measure=>have:=HK1.out;have:=HK2.out;omega
          case rel=>exact⟨(x8_2),(x13_2),(wrap64 (x35_2+1)),fin2,fin2,H',⟨by have:=HK1.out;have:=HK2.out;omega⟩,⟨rup (Kd.R_mono (Kd.R_far (p:=⟨gb365,2,none⟩) (Kd.R_far (p:=⟨gb365,1,none⟩) (Kd.R_far (p:=⟨gb365,0,none⟩) (Kd.R_types HO_8.out BK365.out (by decide)) (fun _ hk=>hk.2) (.int .i64 ((rd_T59 l2 x35_2).f0))) (fun _ hk=>hk.2) (.int .i64 ((rd_T59 l2 x35_2).f1))) (fun _ hk=>hk.2) (.int .i64 ((rd_T59 l2 x35_2).f2))) (fun _ hk=>trivial))⟩,⟨rup (Kd.R_mono (Kd.R_far (p:=⟨gb365,2,none⟩) (Kd.R_far (p:=⟨gb365,1,none⟩) (Kd.R_far (p:=⟨gb365,0,none⟩) (Kd.R_types HO_9.out BK365.out (by decide)) (fun _ hk=>hk.2) (.int .i64 ((rd_T59 l2 x35_2).f0))) (fun _ hk=>hk.2) (.int .i64 ((rd_T59 l2 x35_2).f1))) (fun _ hk=>hk.2) (.int .i64 ((rd_T59 l2 x35_2).f2))) (fun _ hk=>trivial))⟩,⟨by(with_reducible repeat(first|refine bN_ ?_ _|refine bD_ ?_|refine bA_ ?_ _));refine blk_far ?_ NB354_365.out _;(with_reducible repeat(first|refine bN_ ?_ _|refine bD_ ?_|refine bA_ ?_ _));refine blk_far ?_ NB354_365.out _;(with_reducible repeat(first|refine bN_ ?_ _|refine bD_ ?_|refine bA_ ?_ _));refine blk_far ?_ NB354_365.out _;exact bup BK354.out⟩,⟨by(with_reducible repeat(first|refine bN_ ?_ _|refine bD_ ?_|refine bA_ ?_ _));refine blk_far ?_ NB362_365.out _;(with_reducible repeat(first|refine bN_ ?_ _|refine bD_ ?_|refine bA_ ?_ _));refine blk_far ?_ NB362_365.out _;(with_reducible repeat(first|refine bN_ ?_ _|refine bD_ ?_|refine bA_ ?_ _));refine blk_far ?_ NB362_365.out _;exact bup BK362.out⟩,⟨bl⟩⟩
         ·replace c26:=Bool.eq_false_iff.mpr c26
          subst c26
          replace H:=(if_neg Bool.false_ne_true).symm.trans H
          obtain⟨y367,hy367⟩:∃ y_:List Bool,y_=(x8_2.set (x35_2:Int).toNat true):=⟨_,rfl⟩
          replace H:(if x9_1.length<17592186044416 then(impl_matched.l0 k2 l2 y367 (x9_1 ++ [x35_2]) l1 (l1.length:Int) (wrap64 (x24_1+1)) l0_0 a0_1) else(none))=some (r1,r2):=by subst hy367;exact H
          have Ny367:=am hy367
          clear hy367
          obtain⟨c33,H⟩:=ifp H
          have LMc33:=am c33
          clear c33
          obtain⟨y368,hy368⟩:∃ y_:List Int,y_=(x9_1 ++ [x35_2]):=⟨_,rfl⟩
          replace H:(impl_matched.l0 k2 l2 y367 y368 l1 (l1.length:Int) (wrap64 (x24_1+1)) l0_0 a0_1)=some (r1,r2):=by subst hy368;exact H
          have Ny368:=am hy368
          clear hy368
          have H':=am H
          clear H
          have p364:0≤(x35_2:Int):=od
          have q364:x35_2<(l2.length:Int):=od
          obtain⟨ad364,e364,hx364_0,hx364_1,hx364_2⟩:=at_T59 HR2.out x35_2 p364 q364
          cases e364
          replace hx364_0:=(HB.out.cell (World.block_lt_of_cell? w _ hx364_0)).trans hx364_0
          replace hx364_1:=(HB.out.cell (World.block_lt_of_cell? w _ hx364_1)).trans hx364_1
          replace hx364_2:=(HB.out.cell (World.block_lt_of_cell? w _ hx364_2)).trans hx364_2
          replace p364:=eq_true p364
          replace q364:=eq_true q364
          go_wp2_with (first|((with_reducible refine gate_dst (N:=15) rfl ?_);refine box_event ?hg (N:=15) ?hd (cs := #[.int .i64 0,.int .i64 0,.int .i64 0]) (t:=59) ?hr ?_;(case hd=>rfl);(case hg=>rfl);(case hr=>first|(go_simp;done)|(go_simp;rfl));intro gb365 hg w34 hbox hb;replace HO_8:=am (Kd.R_below (rup HO_8.out) hb);replace HO_9:=am (Kd.R_below (rup HO_9.out) hb);have BK365:=am (hbox);have GW365:=am (ge_ bl hg);have GE365:=am (ge_ bl hg);replace HB:=am (below_step bl hb);have NB354_365:=am (nl (bup BK354.out) hg);have NB365_354:=am (ng (bup BK354.out) hg);replace BK354:=am (blk_below (bup BK354.out) hb);have NB362_365:=am (nl (bup BK362.out) hg);have NB365_362:=am (ng (bup BK362.out) hg);replace BK362:=am (blk_below (bup BK362.out) hb);clear hb hbox hg;have hnb35:=NB365_354.out;have hnc35:=NB354_365.out;have hnb36:=NB365_362.out;have hnc36:=NB362_365.out;have hcz37_0:=bc BK365.out 0;have hcz37_1:=bc BK365.out 1;have hcz37_2:=bc BK365.out 2;have hfz37_0:=blk_frozen BK365.out 0;have hfz37_1:=blk_frozen BK365.out 1;have hfz37_2:=blk_frozen BK365.out 2)|((with_reducible refine gate_store (t:=59) (p:=15) rfl ?_);refine store_event (t:=59) (p:=15) (v:=?vo_w38) (w1:=(((w34.setCell ⟨gb365,0,none⟩ (.int .i64 ((rd_T59 l2 x35_2).f0))).setCell ⟨gb365,1,none⟩ (.int .i64 ((rd_T59 l2 x35_2).f1))).setCell ⟨gb365,2,none⟩ (.int .i64 ((rd_T59 l2 x35_2).f2)))) ?hg ?ho ?hn ?hr ?_;(case ho=>rfl);(case hg=>rfl);(case hn=>rfl);(case hr=>first|(go_simp;done)|(go_simp;rfl));intro w38 hw;have n0_:Aside0 (Kd.R Kd.bool 4 w38 w.heap.size (fun _=>True) v356 x8_2):=⟨(by rw[hw];exact(rup (Kd.R_mono (Kd.R_far (p:=⟨gb365,2,none⟩) (Kd.R_far (p:=⟨gb365,1,none⟩) (Kd.R_far (p:=⟨gb365,0,none⟩) (Kd.R_types HO_8.out BK365.out (by decide)) (fun _ hk=>hk.2) (.int .i64 ((rd_T59 l2 x35_2).f0))) (fun _ hk=>hk.2) (.int .i64 ((rd_T59 l2 x35_2).f1))) (fun _ hk=>hk.2) (.int .i64 ((rd_T59 l2 x35_2).f2))) (fun _ hk=>trivial))))⟩;have n1_:Aside0 (Kd.R (Kd.int .i64) 3 w38 w.heap.size (fun _=>True) u9 x9_1):=⟨(by rw[hw];exact(rup (Kd.R_mono (Kd.R_far (p:=⟨gb365,2,none⟩) (Kd.R_far (p:=⟨gb365,1,none⟩) (Kd.R_far (p:=⟨gb365,0,none⟩) (Kd.R_types HO_9.out BK365.out (by decide)) (fun _ hk=>hk.2) (.int .i64 ((rd_T59 l2 x35_2).f0))) (fun _ hk=>hk.2) (.int .i64 ((rd_T59 l2 x35_2).f1))) (fun _ hk=>hk.2) (.int .i64 ((rd_T59 l2 x35_2).f2))) (fun _ hk=>trivial))))⟩;have n2_:Aside0 (w38.heap[gb354]?=some (.cells #[.slice A0_0 l0_0.length c0_0,.int .i64 a0_1] 34 (0,0))):=⟨(by rw[hw];exact(by(with_reducible repeat(first|refine bN_ ?_ _|refine bD_ ?_|refine bA_ ?_ _));refine blk_far ?_ NB354_365.out _;(with_reducible repeat(first|refine bN_ ?_ _|refine bD_ ?_|refine bA_ ?_ _));refine blk_far ?_ NB354_365.out _;(with_reducible repeat(first|refine bN_ ?_ _|refine bD_ ?_|refine bA_ ?_ _));refine blk_far ?_ NB354_365.out _;exact bup BK354.out))⟩;have n3_:Aside0 (w38.heap[gb362]?=some (.cells #[.int .i64 ((rd_T55 l1 x24_1).f0),.int .i64 ((rd_T55 l1 x24_1).f1),.int .i64 ((rd_T55 l1 x24_1).f2)] 55 (0,0))):=⟨(by rw[hw];exact(by(with_reducible repeat(first|refine bN_ ?_ _|refine bD_ ?_|refine bA_ ?_ _));refine blk_far ?_ NB362_365.out _;(with_reducible repeat(first|refine bN_ ?_ _|refine bD_ ?_|refine bA_ ?_ _));refine blk_far ?_ NB362_365.out _;(with_reducible repeat(first|refine bN_ ?_ _|refine bD_ ?_|refine bA_ ?_ _));refine blk_far ?_ NB362_365.out _;exact bup BK362.out))⟩;have n4_:Aside0 (w38.heap[gb365]?=some (.cells #[.int .i64 ((rd_T59 l2 x35_2).f0),.int .i64 ((rd_T59 l2 x35_2).f1),.int .i64 ((rd_T59 l2 x35_2).f2)] 59 (0,0))):=⟨(by rw[hw];exact(by(with_reducible repeat(first|refine bN_ ?_ _|refine bD_ ?_|refine bA_ ?_ _));refine blk_put (cs := #[.int .i64 ((rd_T59 l2 x35_2).f0),.int .i64 ((rd_T59 l2 x35_2).f1),.int .i64 0]) ?_ 2 _ rfl;(with_reducible repeat(first|refine bN_ ?_ _|refine bD_ ?_|refine bA_ ?_ _));refine blk_put (cs := #[.int .i64 ((rd_T59 l2 x35_2).f0),.int .i64 0,.int .i64 0]) ?_ 1 _ rfl;(with_reducible repeat(first|refine bN_ ?_ _|refine bD_ ?_|refine bA_ ?_ _));refine blk_put (cs := #[.int .i64 0,.int .i64 0,.int .i64 0]) ?_ 0 _ rfl;exact bup BK365.out))⟩;have n5_:Aside0 (Below w.heap.size w w38):=⟨(by rw[hw];exact bl)⟩;clear hw HO_8 HO_9 BK354 BK362 BK365 HB;have HO_8:=n0_;have HO_9:=n1_;have BK354:=n2_;have BK362:=n3_;have BK365:=n4_;have HB:=n5_;clear n0_ n1_ n2_ n3_ n4_ n5_;have hcz39_0:=bc BK365.out 0;have hcz39_1:=bc BK365.out 1;have hcz39_2:=bc BK365.out 2;have hfz39_0:=blk_frozen BK365.out 0;have hfz39_1:=blk_frozen BK365.out 1;have hfz39_2:=blk_frozen BK365.out 2;obtain⟨Ao40,co40,eo40⟩:=Kd.R_slice HO_8.out;subst eo40;have p366:0≤(x35_2:Int):=od;have q366:x35_2<(x8_2.length:Int):=od;obtain⟨ad366,e366,hx366_0⟩:=Kd.at_bool (Kd.R_reads' HO_8.out).2.2 x35_2 p366 q366;(try rw[← Nbq25.out] at hx366_0);cases e366;replace p366:=eq_true p366;replace q366:=eq_true q366;have p32:0≤(x35_2:Int):=od;have q32:(x35_2:Int)<((x8_2.length:Int):Int):=od;obtain⟨go32,co32,eo32,gb32,gl32,cl32,HG32⟩:=Kd.R_form HO_8.out (by omega);(first|cases eo32|(injection eo32 with ea_ en_ ec_;(first|subst ea_|(injection ea_ with ea_;subst ea_));subst ec_;clear en_));have GB32:=am gb32;have GG32:=am HG32;clear gb32 gl32 HG32;(first|simp only[add_plain] at hx366_0|skip);obtain⟨hx32_0,hf32_0⟩:=Kd.R_celln false HO_8.out (x35_2:Int) p32 q32;replace p32:=eq_true p32;replace q32:=eq_true q32;obtain⟨hy41_,hz41_⟩:=Kd.R_celln false HO_8.out (x35_2:Int) (od) (od);have HP41:=Kd.R_putg HO_8.out (x35_2:Int) true)|((with_reducible refine gate_store (t:=4) (p:=58) rfl ?_);refine store_event (t:=4) (p:=58) (v:=?vo_w42) (w1:=(w38.setCell ⟨go32,(x35_2:Int).toNat,none⟩ (.bool true))) ?hg ?ho ?hn ?hr ?_;(case ho=>rfl);(case hg=>rfl);(case hn=>rfl);(case hr=>first|(go_simp;done)|(go_simp;rfl));intro w42 hw;have hg:w38.grownBy w42 (some go32):=(by rw[hw];exact HP41.2);have hp_:Kd.R Kd.bool 4 w42 w.heap.size (fun _=>True) (.slice (some ⟨go32,0,none⟩) x8_2.length co40) y367:=(by rw[hw,Ny367.out];exact HP41.1);clear HP41;replace HO_9:=am (Kd.R_over' (v:=(.slice (some ⟨go32,0,none⟩) x8_2.length co40)) (rup HO_9.out) (Kd.R_typed HO_8.out) (by decide) hg);replace BK354:=am (blk_grown (bup BK354.out) hg (Kd.R_ne HO_8.out BK354.out (by decide)));replace BK362:=am (blk_grown (bup BK362.out) hg (Kd.R_ne HO_8.out BK362.out (by decide)));replace BK365:=am (blk_grown (bup BK365.out) hg (Kd.R_ne HO_8.out BK365.out (by decide)));replace HO_8:=am (hp_);replace HB:=am ((by rw[hw];exact below_set (HB.out) GB32.out:Below w.heap.size w w42));clear hg hw hp_)|((with_reducible refine gate_builtin (b := .append) (xs := #[.tmp 60,.tmp 62]) rfl ?_);at_builtin;refine Kd.R_append (Kd.int .i64) (w0:=w) w.heap.size rfl (.tmp 60) (.tmp 62) 22 3 (.int .i64 0) 8 rfl Tryz.underlying22 info3 rfl (by decide) (by omega) u9 x9_1 x35_2 [.int .i64 x35_2] (fun _=>True) (fun _=>False) rfl rfl ?aP (fun _ hk=>hk.elim) ?aF ?aO ?aB ?aS ?aL ?_;(case aP=>exact rfl);(case aB=>exact bl);(case aF=>exact(fun _ _=>trivial));(case aO=>exact(rup HO_9.out));(case aS=>exact(below_size bl));(case aL=>have:=LMc33.out;omega);intro v369 w43 ho hb hg hat;rw[← Ny368.out] at ho;replace HO_8:=am (Kd.R_over' (rup HO_8.out) (Kd.R_typed (rup HO_9.out)) (by decide) hg);replace BK354:=am (blk_grown (bup BK354.out) hg (Kd.R_ne HO_9.out BK354.out (by decide)));replace BK362:=am (blk_grown (bup BK362.out) hg (Kd.R_ne HO_9.out BK362.out (by decide)));replace BK365:=am (blk_grown (bup BK365.out) hg (Kd.R_ne HO_9.out BK365.out (by decide)));replace HB:=am (hb);have HO370:=am (ho);clear HO_9 ho hb hg hat))
          go_roundg k2
          case measure=>have:=HK1.out;have:=HK2.out;omega
          case rel=>exact⟨(y367),(y368),(wrap64 (x24_1+1)),fin2,H',⟨by have:=HK1.out;have:=HK2.out;omega⟩,⟨rup HO_8.out⟩,⟨rup HO370.out⟩,⟨bup BK354.out⟩,⟨bl⟩⟩
        ·have c23b0:(((rd_T59 l2 x35_2).f0) == t363)=false:=beq_eq_false_iff_ne.mpr c23
         have c23b1:(((rd_T59 l2 x35_2).f0) != t363)=true:=bne_iff_ne.mpr c23
         have H':=am H
         clear H
         have p364:0≤(x35_2:Int):=od
         have q364:x35_2<(l2.length:Int):=od
         obtain⟨ad364,e364,hx364_0,hx364_1,hx364_2⟩:=at_T59 HR2.out x35_2 p364 q364
         cases e364
         replace hx364_0:=(HB.out.cell (World.block_lt_of_cell? w _ hx364_0)).trans hx364_0
         replace hx364_1:=(HB.out.cell (World.block_lt_of_cell? w _ hx364_1)).trans hx364_1
         replace hx364_2:=(HB.out.cell (World.block_lt_of_cell? w _ hx364_2)).trans hx364_2
         replace p364:=eq_true p364
         replace q364:=eq_true q364
         go_wp2_with (first|((with_reducible refine gate_dst (N:=15) rfl ?_);refine box_event ?hg (N:=15) ?hd (cs := #[.int .i64 0,.int .i64 0,.int .i64 0]) (t:=59) ?hr ?_;(case hd=>rfl);(case hg=>rfl);(case hr=>first|(go_simp;done)|(go_simp;rfl));intro gb365 hg w44 hbox hb;replace HO_8:=am (Kd.R_below (rup HO_8.out) hb);replace HO_9:=am (Kd.R_below (rup HO_9.out) hb);have BK365:=am (hbox);have GW365:=am (ge_ bl hg);have GE365:=am (ge_ bl hg);replace HB:=am (below_step bl hb);have NB354_365:=am (nl (bup BK354.out) hg);have NB365_354:=am (ng (bup BK354.out) hg);replace BK354:=am (blk_below (bup BK354.out) hb);have NB362_365:=am (nl (bup BK362.out) hg);have NB365_362:=am (ng (bup BK362.out) hg);replace BK362:=am (blk_below (bup BK362.out) hb);clear hb hbox hg;have hnb45:=NB365_354.out;have hnc45:=NB354_365.out;have hnb46:=NB365_362.out;have hnc46:=NB362_365.out;have hcz47_0:=bc BK365.out 0;have hcz47_1:=bc BK365.out 1;have hcz47_2:=bc BK365.out 2;have hfz47_0:=blk_frozen BK365.out 0;have hfz47_1:=blk_frozen BK365.out 1;have hfz47_2:=blk_frozen BK365.out 2))
         go_roundg k2
         case measure=>have:=HK1.out;have:=HK2.out;omega
         case rel=>exact⟨(x8_2),(x13_2),(wrap64 (x35_2+1)),fin2,fin2,H',⟨by have:=HK1.out;have:=HK2.out;omega⟩,⟨rup (Kd.R_mono (Kd.R_far (p:=⟨gb365,2,none⟩) (Kd.R_far (p:=⟨gb365,1,none⟩) (Kd.R_far (p:=⟨gb365,0,none⟩) (Kd.R_types HO_8.out BK365.out (by decide)) (fun _ hk=>hk.2) (.int .i64 ((rd_T59 l2 x35_2).f0))) (fun _ hk=>hk.2) (.int .i64 ((rd_T59 l2 x35_2).f1))) (fun _ hk=>hk.2) (.int .i64 ((rd_T59 l2 x35_2).f2))) (fun _ hk=>trivial))⟩,⟨rup (Kd.R_mono (Kd.R_far (p:=⟨gb365,2,none⟩) (Kd.R_far (p:=⟨gb365,1,none⟩) (Kd.R_far (p:=⟨gb365,0,none⟩) (Kd.R_types HO_9.out BK365.out (by decide)) (fun _ hk=>hk.2) (.int .i64 ((rd_T59 l2 x35_2).f0))) (fun _ hk=>hk.2) (.int .i64 ((rd_T59 l2 x35_2).f1))) (fun _ hk=>hk.2) (.int .i64 ((rd_T59 l2 x35_2).f2))) (fun _ hk=>trivial))⟩,⟨by(with_reducible repeat(first|refine bN_ ?_ _|refine bD_ ?_|refine bA_ ?_ _));refine blk_far ?_ NB354_365.out _;(with_reducible repeat(first|refine bN_ ?_ _|refine bD_ ?_|refine bA_ ?_ _));refine blk_far ?_ NB354_365.out _;(with_reducible repeat(first|refine bN_ ?_ _|refine bD_ ?_|refine bA_ ?_ _));refine blk_far ?_ NB354_365.out _;exact bup BK354.out⟩,⟨by(with_reducible repeat(first|refine bN_ ?_ _|refine bD_ ?_|refine bA_ ?_ _));refine blk_far ?_ NB362_365.out _;(with_reducible repeat(first|refine bN_ ?_ _|refine bD_ ?_|refine bA_ ?_ _));refine blk_far ?_ NB362_365.out _;(with_reducible repeat(first|refine bN_ ?_ _|refine bD_ ?_|refine bA_ ?_ _));refine blk_far ?_ NB362_365.out _;exact bup BK362.out⟩,⟨bl⟩⟩
       ·have c22b0:decide (0≤t363)=false:=decide_eq_false c22
        clear c22
        have H':=am H
        clear H
        have p364:0≤(x35_2:Int):=od
        have q364:x35_2<(l2.length:Int):=od
        obtain⟨ad364,e364,hx364_0,hx364_1,hx364_2⟩:=at_T59 HR2.out x35_2 p364 q364
        cases e364
        replace hx364_0:=(HB.out.cell (World.block_lt_of_cell? w _ hx364_0)).trans hx364_0
        replace hx364_1:=(HB.out.cell (World.block_lt_of_cell? w _ hx364_1)).trans hx364_1
        replace hx364_2:=(HB.out.cell (World.block_lt_of_cell? w _ hx364_2)).trans hx364_2
        replace p364:=eq_true p364
        replace q364:=eq_true q364
        go_wp2_with (first|((with_reducible refine gate_dst (N:=15) rfl ?_);refine box_event ?hg (N:=15) ?hd (cs := #[.int .i64 0,.int .i64 0,.int .i64 0]) (t:=59) ?hr ?_;(case hd=>rfl);(case hg=>rfl);(case hr=>first|(go_simp;done)|(go_simp;rfl));intro gb365 hg w48 hbox hb;replace HO_8:=am (Kd.R_below (rup HO_8.out) hb);replace HO_9:=am (Kd.R_below (rup HO_9.out) hb);have BK365:=am (hbox);have GW365:=am (ge_ bl hg);have GE365:=am (ge_ bl hg);replace HB:=am (below_step bl hb);have NB354_365:=am (nl (bup BK354.out) hg);have NB365_354:=am (ng (bup BK354.out) hg);replace BK354:=am (blk_below (bup BK354.out) hb);have NB362_365:=am (nl (bup BK362.out) hg);have NB365_362:=am (ng (bup BK362.out) hg);replace BK362:=am (blk_below (bup BK362.out) hb);clear hb hbox hg;have hnb49:=NB365_354.out;have hnc49:=NB354_365.out;have hnb50:=NB365_362.out;have hnc50:=NB362_365.out;have hcz51_0:=bc BK365.out 0;have hcz51_1:=bc BK365.out 1;have hcz51_2:=bc BK365.out 2;have hfz51_0:=blk_frozen BK365.out 0;have hfz51_1:=blk_frozen BK365.out 1;have hfz51_2:=blk_frozen BK365.out 2))
        go_roundg k2
        case measure=>have:=HK1.out;have:=HK2.out;omega
        case rel=>exact⟨(x8_2),(x13_2),(wrap64 (x35_2+1)),fin2,fin2,H',⟨by have:=HK1.out;have:=HK2.out;omega⟩,⟨rup (Kd.R_mono (Kd.R_far (p:=⟨gb365,2,none⟩) (Kd.R_far (p:=⟨gb365,1,none⟩) (Kd.R_far (p:=⟨gb365,0,none⟩) (Kd.R_types HO_8.out BK365.out (by decide)) (fun _ hk=>hk.2) (.int .i64 ((rd_T59 l2 x35_2).f0))) (fun _ hk=>hk.2) (.int .i64 ((rd_T59 l2 x35_2).f1))) (fun _ hk=>hk.2) (.int .i64 ((rd_T59 l2 x35_2).f2))) (fun _ hk=>trivial))⟩,⟨rup (Kd.R_mono (Kd.R_far (p:=⟨gb365,2,none⟩) (Kd.R_far (p:=⟨gb365,1,none⟩) (Kd.R_far (p:=⟨gb365,0,none⟩) (Kd.R_types HO_9.out BK365.out (by decide)) (fun _ hk=>hk.2) (.int .i64 ((rd_T59 l2 x35_2).f0))) (fun _ hk=>hk.2) (.int .i64 ((rd_T59 l2 x35_2).f1))) (fun _ hk=>hk.2) (.int .i64 ((rd_T59 l2 x35_2).f2))) (fun _ hk=>trivial))⟩,⟨by(with_reducible repeat(first|refine bN_ ?_ _|refine bD_ ?_|refine bA_ ?_ _));refine blk_far ?_ NB354_365.out _;(with_reducible repeat(first|refine bN_ ?_ _|refine bD_ ?_|refine bA_ ?_ _));refine blk_far ?_ NB354_365.out _;(with_reducible repeat(first|refine bN_ ?_ _|refine bD_ ?_|refine bA_ ?_ _));refine blk_far ?_ NB354_365.out _;exact bup BK354.out⟩,⟨by(with_reducible repeat(first|refine bN_ ?_ _|refine bD_ ?_|refine bA_ ?_ _));refine blk_far ?_ NB362_365.out _;(with_reducible repeat(first|refine bN_ ?_ _|refine bD_ ?_|refine bA_ ?_ _));refine blk_far ?_ NB362_365.out _;(with_reducible repeat(first|refine bN_ ?_ _|refine bD_ ?_|refine bA_ ?_ _));refine blk_far ?_ NB362_365.out _;exact bup BK362.out⟩,⟨bl⟩⟩
      ·have c19b0:=decide_eq_false c19
       clear c19
       obtain⟨c52,H⟩:=ifp H
       have LMc52:=am c52
       clear c52
       obtain⟨y371,hy371⟩:∃ y_:List Int,y_=(x9_1 ++ [x13_2]):=⟨_,rfl⟩
       replace H:(impl_matched.l0 k2 l2 x8_2 y371 l1 (l1.length:Int) (wrap64 (x24_1+1)) l0_0 a0_1)=some (r1,r2):=by subst hy371;exact H
       have Ny371:=am hy371
       clear hy371
       have H':=am H
       clear H
       go_wp2_with (first|((with_reducible refine gate_builtin (b := .append) (xs := #[.tmp 60,.tmp 62]) rfl ?_);at_builtin;refine Kd.R_append (Kd.int .i64) (w0:=w) w.heap.size rfl (.tmp 60) (.tmp 62) 22 3 (.int .i64 0) 8 rfl Tryz.underlying22 info3 rfl (by decide) (by omega) u9 x9_1 x13_2 [.int .i64 x13_2] (fun _=>True) (fun _=>False) rfl rfl ?aP (fun _ hk=>hk.elim) ?aF ?aO ?aB ?aS ?aL ?_;(case aP=>exact rfl);(case aB=>exact bl);(case aF=>exact(fun _ _=>trivial));(case aO=>exact(rup HO_9.out));(case aS=>exact(below_size bl));(case aL=>have:=LMc52.out;omega);intro v372 w53 ho hb hg hat;rw[← Ny371.out] at ho;replace HO_8:=am (Kd.R_over' (rup HO_8.out) (Kd.R_typed (rup HO_9.out)) (by decide) hg);replace BK354:=am (blk_grown (bup BK354.out) hg (Kd.R_ne HO_9.out BK354.out (by decide)));replace BK362:=am (blk_grown (bup BK362.out) hg (Kd.R_ne HO_9.out BK362.out (by decide)));replace HB:=am (hb);have HO373:=am (ho);clear HO_9 ho hb hg hat))
       go_roundg k2
       case measure=>have:=HK1.out;have:=HK2.out;omega
       case rel=>exact⟨(x8_2),(y371),(wrap64 (x24_1+1)),fin2,H',⟨by have:=HK1.out;have:=HK2.out;omega⟩,⟨rup HO_8.out⟩,⟨rup HO373.out⟩,⟨bup BK354.out⟩,⟨bl⟩⟩
   ·have c11b0:=decide_eq_false c11
    clear c11
    obtain⟨y374,hy374⟩:∃ y_:List Int,y_=(([]:List Int)):=⟨_,rfl⟩
    replace H:(impl_matched.l2 k1 x8_1 x9_1 y374 (l2.length:Int) 0)=some (r1,r2):=by subst hy374;exact H
    have Ny374:=am hy374
    clear hy374
    have H':=am H
    clear H
    go_wp2_with (first|((with_reducible refine gate_dst (N:=65) rfl ?_);refine Kd.R_lit (Kd.int .i64) _ 3 ?hg (N:=65) ?hd (xs:=([]:List Int)) (inner:=[]) (ok:=fun _=>True) (okp:=fun _=>True) ?hr ?hp (fun _ hk=>hk) trivial (Below.refl _ _) (Nat.le_refl _) (by simp) ?_;(case hd=>rfl);(case hg=>rfl);(case hr=>first|(go_simp;done)|(go_simp;rfl));(case hp=>exact(Reps.none _ _));intro v375 w54 ho55 hb hg_ hnew_;clear hg_ hnew_;(first|rw[← Ny374.out] at ho55|(simp only[Int.reduceToNat] at ho55;rw[← Ny374.out] at ho55));replace HO_8:=am (Kd.R_below (rup HO_8.out) hb);have HO376:=am (Kd.R_lower (Kd.R_new' ho55 (Kd.R_lt (rup HO_9.out))) (below_size bl));replace HO_9:=am (Kd.R_elder' (rup HO_9.out) (Kd.R_base ho55) hb);replace BK354:=am (blk_below (bup BK354.out) hb);replace HB:=am (below_step bl hb);clear hb ho55))
    go_loopg [16,68] k1 (fun kq v16 v68 w'=>∃(x16_2:List Int) (x68_2:Int),v68 = .int .i64 x68_2∧Aside0 (impl_matched.l2 kq x8_1 x9_1 x16_2 (l2.length:Int) x68_2=some (r1,r2))∧Aside0 (kq≤k1)∧Aside0 (Kd.R Kd.bool 4 w' w.heap.size (fun _=>True) v356 x8_1)∧Aside0 (Kd.R (Kd.int .i64) 3 w' w.heap.size (fun k_=>some k_≠(v16:Value).ownBlock) u9 x9_1)∧Aside0 (Kd.R (Kd.int .i64) 3 w' w.heap.size (fun k_=>some k_≠(u9:Value).ownBlock) v16 x16_2)∧Aside0 (w'.heap[gb354]?=some (.cells #[(.slice A0_0 l0_0.length c0_0),.int .i64 a0_1] 34 (0,0)))∧Aside0 (Below w.heap.size w w'))
    case atStart=>exact⟨(y374),(0),fin2,H',⟨Nat.le_refl _⟩,⟨rup HO_8.out⟩,⟨rup (Kd.R_mono HO_9.out (fun _ hk=>hk.2))⟩,⟨rup (Kd.R_mono HO376.out (fun _ hk=>hk.2))⟩,⟨bup BK354.out⟩,⟨bl⟩⟩
    case round =>
     clear H'
     try clear c11b0
     obtain⟨x16_2,x68_2,rfl,HA,HK2,HO_8,HO_9,HO_16,BK354,HB⟩:=hrel
     cases gk with
     | zero=>exact absurd HA.out (by simp [impl_matched.l2])
     | succ k2 =>
      have H:=HA.out
      clear HA
      simp only[impl_matched.l2] at H
      rcases itc H with⟨c56,H⟩|⟨c56,H⟩
      ·have c56b0:=decide_eq_true c56
       clear c56
       obtain⟨c57b0,H⟩:=ifb H
       obtain⟨c58b0,H⟩:=ifb H
       obtain⟨bq59,hbq59⟩:∃ b_:Bool,b_=(rdOf false x8_1 x68_2):=⟨_,rfl⟩
       replace H:(if bq59=true then(impl_matched.l2 k2 x8_1 x9_1 x16_2 (l2.length:Int) (wrap64 (x68_2+1))) else(if x16_2.length<17592186044416 then(impl_matched.l2 k2 x8_1 x9_1 (x16_2 ++ [x68_2]) (l2.length:Int) (wrap64 (x68_2+1))) else(none)))=some (r1,r2):=by rw[← hbq59] at H;exact H
       have Nbq59:=am hbq59
       clear hbq59
       by_cases c60:bq59=true
       ·subst c60
        replace H:=(if_pos rfl).symm.trans H
        have H':=am H
        clear H
        obtain⟨Ao61,co61,eo61⟩:=Kd.R_slice HO_8.out
        subst eo61
        have p377:0≤(x68_2:Int):=od
        have q377:x68_2<(x8_1.length:Int):=od
        obtain⟨ad377,e377,hx377_0⟩:=Kd.at_bool (Kd.R_reads' HO_8.out).2.2 x68_2 p377 q377
        (try rw[← Nbq59.out] at hx377_0)
        cases e377
        replace p377:=eq_true p377
        replace q377:=eq_true q377
        go_wp2
        go_roundg k2
        case measure=>have:=HK1.out;have:=HK2.out;omega
        case rel=>exact⟨(x16_2),(wrap64 (x68_2+1)),fin2,H',⟨by have:=HK1.out;have:=HK2.out;omega⟩,⟨rup HO_8.out⟩,⟨rup HO_9.out⟩,⟨rup HO_16.out⟩,⟨bup BK354.out⟩,⟨bl⟩⟩
       ·replace c60:=Bool.eq_false_iff.mpr c60
        subst c60
        replace H:=(if_neg Bool.false_ne_true).symm.trans H
        obtain⟨c62,H⟩:=ifp H
        have LMc62:=am c62
        clear c62
        obtain⟨y378,hy378⟩:∃ y_:List Int,y_=(x16_2 ++ [x68_2]):=⟨_,rfl⟩
        replace H:(impl_matched.l2 k2 x8_1 x9_1 y378 (l2.length:Int) (wrap64 (x68_2+1)))=some (r1,r2):=by subst hy378;exact H
        have Ny378:=am hy378
        clear hy378
        have H':=am H
        clear H
        obtain⟨Ao63,co63,eo63⟩:=Kd.R_slice HO_8.out
        subst eo63
        have p377:0≤(x68_2:Int):=od
        have q377:x68_2<(x8_1.length:Int):=od
        obtain⟨ad377,e377,hx377_0⟩:=Kd.at_bool (Kd.R_reads' HO_8.out).2.2 x68_2 p377 q377
        (try rw[← Nbq59.out] at hx377_0)
        cases e377
        replace p377:=eq_true p377
        replace q377:=eq_true q377
        go_wp2_with (first|((with_reducible refine gate_builtin (b := .append) (xs := #[.tmp 76,.tmp 78]) rfl ?_);at_builtin;refine Kd.R_append (Kd.int .i64) (w0:=w) w.heap.size rfl (.tmp 76) (.tmp 78) 22 3 (.int .i64 0) 8 rfl Tryz.underlying22 info3 rfl (by decide) (by omega) u16 x16_2 x68_2 [.int .i64 x68_2] (fun k_=>some k_≠(u9:Value).ownBlock) (fun _=>False) rfl rfl ?aP (fun _ hk=>hk.elim) ?aF ?aO ?aB ?aS ?aL ?_;(case aP=>exact rfl);(case aB=>exact bl);(case aF=>exact(fun k_ hk=>Kd.fresh' (Kd.R_lt (rup HO_9.out)) k_ hk));(case aO=>exact(rup HO_16.out));(case aS=>exact(below_size bl));(case aL=>have:=LMc62.out;omega);intro v379 w64 ho hb hg hat;rw[← Ny378.out] at ho;replace HO_8:=am (Kd.R_over' (rup HO_8.out) (Kd.R_typed (rup HO_16.out)) (by decide) hg);replace HO_9:=am (Kd.R_after (ok:=(fun _=>True)) (rup (Kd.R_mono HO_9.out (fun _ hk=>⟨trivial,hk⟩))) hg hat);replace BK354:=am (blk_grown (bup BK354.out) hg (Kd.R_ne HO_16.out BK354.out (by decide)));replace HB:=am (hb);have HO380:=am (ho);clear HO_16 ho hb hg hat))
        go_roundg k2
        case measure=>have:=HK1.out;have:=HK2.out;omega
        case rel=>exact⟨(y378),(wrap64 (x68_2+1)),fin2,H',⟨by have:=HK1.out;have:=HK2.out;omega⟩,⟨rup HO_8.out⟩,⟨rup (Kd.R_mono HO_9.out (fun _ hk=>hk.2))⟩,⟨rup HO380.out⟩,⟨bup BK354.out⟩,⟨bl⟩⟩
      ·have c56b0:=decide_eq_false c56
       clear c56
       simp only[Option.some.injEq,Prod.mk.injEq] at H
       obtain⟨rfl,rfl⟩:=H
       go_wp2
       go_ret2
       exact⟨_,_,fin1,by(with_reducible repeat(first|apply Kd.R_alloc|apply Kd.R_drewN|apply Kd.R_drew));exact HO_9.out,by(with_reducible repeat(first|apply Kd.R_alloc|apply Kd.R_drewN|apply Kd.R_drew));exact HO_16.out,bl⟩

end Go.Proofs.YtipklbjbgbbgpaaGreat.PFnExactShiftToPass
