/- Walks of functions that FnExactShiftToPass reaches. No conditions beyond the arguments' being read. -/
import Derived.Test.YtipklbjbgbbgpaaGreatSShiftToPass0
import Derived.Test.YtipklbjbgbbgpaaGreatSShiftToPass15
import Derived.Test.YtipklbjbgbbgpaaGreatSShiftToPass16
import Derived.Test.YtipklbjbgbbgpaaGreatSShiftToPass17
namespace Go.Proofs.YtipklbjbgbbgpaaGreat.PFnExactShiftToPass
open Go.RowKit Go.Proofs.YtipklbjbgbbgpaaGreatW.PrintWords Go.Proofs.YtipklbjbgbbgpaaGreatW.PrintLast Go.Proofs.YtipklbjbgbbgpaaGreatW.PrintMore
attribute [local go_sem] max2_int min2_int max_two min_two max_three min_three max_four min_four
set_option linter.unusedVariables false
set_option linter.unusedSimpArgs false

mutual
def impl_faultsOf.l0:Nat→List (S55)→List (S59)→Int→List Int→List (List Int)→List Int→Int→Int→List Int→Int→Int→Int→Int→Option ((List (List Int)))
 | 0,_,_,_,_,_,_,_,_,_,_,_,_,_=>none
 | k+1,x1,x2,x4,x12,x13,x31,x32,x33,x393000,x393001,x394000,x394001,x394002=>if x33<x32 then(if 0≤x33 then(if x33<(x31.length:Int) then(if(rd x31 x33)<0 then(if x13.length<5864062014805 then(impl_faultsOf.l0 k x1 x2 x4 x12 (x13 ++ [(([0,x33]:List Int))]) x31 x32 (wrap64 (x33+1)) x393000 x393001 x394000 x394001 x394002) else(none)) else(if x33<(x1.length:Int) then(if 0≤(rd x31 x33) then(if(rd x31 x33)<(x2.length:Int) then((impl_holeErrors.f ((rd_T55 x1 x33).f0) ((rd_T55 x1 x33).f1) ((rd_T55 x1 x33).f2) ((rd_T59 x2 (rd x31 x33)).f0) ((rd_T59 x2 (rd x31 x33)).f1) ((rd_T59 x2 (rd x31 x33)).f2)).bind fun t412=>(if 0<(t412.length:Int) then((impl_distance.f (rd t412 0) 0).bind fun t416=>(if t416>x4 then(if x13.length<5864062014805 then((some (x13 ++ [(([2,x33]:List Int))]:List (List Int))).bind fun y420=>(if 1<(t412.length:Int) then((impl_distance.f (rd t412 1) 0).bind fun t424=>(if t424>x4 then(if y420.length<5864062014805 then(impl_faultsOf.l0 k x1 x2 x4 x12 (y420 ++ [(([3,x33]:List Int))]) x31 x32 (wrap64 (x33+1)) x393000 x393001 x394000 x394001 x394002) else(none)) else(impl_faultsOf.l0 k x1 x2 x4 x12 y420 x31 x32 (wrap64 (x33+1)) x393000 x393001 x394000 x394001 x394002))) else(none))) else(none)) else(if 1<(t412.length:Int) then((impl_distance.f (rd t412 1) 0).bind fun t432=>(if t432>x4 then(if x13.length<5864062014805 then(impl_faultsOf.l0 k x1 x2 x4 x12 (x13 ++ [(([3,x33]:List Int))]) x31 x32 (wrap64 (x33+1)) x393000 x393001 x394000 x394001 x394002) else(none)) else(impl_faultsOf.l0 k x1 x2 x4 x12 x13 x31 x32 (wrap64 (x33+1)) x393000 x393001 x394000 x394001 x394002))) else(none)))) else(none))) else(none)) else(none)) else(none))) else(none)) else(none)) else(impl_faultsOf.l1 k x2 x13 x12 (x12.length:Int) 0 x393000 x393001 x394000 x394001 x394002)
def impl_faultsOf.l1:Nat→List (S59)→List (List Int)→List Int→Int→Int→List Int→Int→Int→Int→Int→Option ((List (List Int)))
 | 0,_,_,_,_,_,_,_,_,_,_=>none
 | k+1,x2,x13,x77,x78,x79,x393000,x393001,x394000,x394001,x394002=>if x79<x78 then(if 0≤x79 then(if x79<(x77.length:Int) then(if x13.length<5864062014805 then(impl_faultsOf.l1 k x2 (x13 ++ [(([1,rd x77 x79]:List Int))]) x77 x78 (wrap64 (x79+1)) x393000 x393001 x394000 x394001 x394002) else(none)) else(none)) else(none)) else((impl_spoken.f k x393000 x393001 x2 x394000 x394001 x394002).bind fun bt446=>(impl_faultsOf.l2 k x13 bt446.2 (bt446.2.length:Int) 0))
def impl_faultsOf.l2:Nat→List (List Int)→List Int→Int→Int→Option ((List (List Int)))
 | 0,_,_,_,_=>none
 | k+1,x13,x96,x97,x98=>if x98<x97 then(if 0≤x98 then(if x98<(x96.length:Int) then(if x13.length<5864062014805 then(impl_faultsOf.l2 k (x13 ++ [(([4,rd x96 x98]:List Int))]) x96 x97 (wrap64 (x98+1))) else(none)) else(none)) else(none)) else(slices_SortFunc_int_int.f x13)
end
def impl_faultsOf.f (k:Nat) (l0_0:List Int) (a0_1:Int) (l1:List (S55)) (l2:List (S59)) (a3_0:Int) (a3_1:Int) (a3_2:Int) (a4:Int):Option ((List (List Int))):=(impl_matched.f k l0_0 a0_1 l1 l2).bind fun bt394=>(impl_faultsOf.l0 k l1 l2 a4 bt394.2 (([]:List (List Int))) bt394.1 (bt394.1.length:Int) 0 l0_0 a0_1 a3_0 a3_1 a3_2)
def impl_faultsOf.T8:Bool×List (List Nat×List Nat):=(true,[([],[]),([],[]),([0,1],[0,1]),([2],[2]),([],[]),([],[]),([4,5],[4,5]),([6],[6]),([3,7],[3,7]),([8,8,0,1,2,3,4,5,6,7,8],[8])])
def impl_faultsOf.B8:List Nat:=[0,0,3,7,0,0,48,112,255,511]
theorem impl_faultsOf.tab8:rtab .any (opsOf Tryz.f28 8)=impl_faultsOf.T8:=by kernel_rfl
theorem impl_faultsOf.bits8:waitsOk impl_faultsOf.T8.2 impl_faultsOf.B8=true:=by kernel_rfl
set_option maxHeartbeats 8000000 in
set_option maxRecDepth 100000 in
theorem impl_faultsOf.calls (k:Nat) (A0_0:Option Addr) (c0_0:Nat) (l0_0:List Int) (a0_1:Int) (A1:Option Addr) (c1:Nat) (l1:List (S55)) (A2:Option Addr) (c2:Nat) (l2:List (S59)) (a3_0:Int) (a3_1:Int) (a3_2:Int) (a4:Int) (r:List (List Int)) (w:World) (hr0_0:Kd.C (Kd.int .i64) w A0_0 l0_0.length l0_0) (hc0_0:l0_0.length≤c0_0) (hr1:Kd.C k55 w A1 l1.length l1) (hc1:l1.length≤c1) (hr2:Kd.C k59 w A2 l2.length l2) (hc2:l2.length≤c2) (h:impl_faultsOf.f k l0_0 a0_1 l1 l2 a3_0 a3_1 a3_2 a4=some r) :
  Calls Tryz.prog 28 #[.agg #[.slice A0_0 l0_0.length c0_0,.int .i64 a0_1],.slice A1 l1.length c1,.slice A2 l2.length c2,.agg #[.int .i64 a3_0,.int .i64 a3_1,.int .i64 a3_2],.int .i64 a4] w fun e w'=>∃ v0_:Value,e = .returned (v0_)∧Kd.S (Kd.slice 3 (Kd.int .i64)) 22 w' w.heap.size (fun _=>True) v0_ r∧Below w.heap.size w w':=by
 have hu34:=Tryz.underlying34
 have hu40:=Tryz.underlying40
 have hu55:=Tryz.underlying55
 have hu59:=Tryz.underlying59
 have HR0_0:=am hr0_0
 have HC0_0:=am hc0_0
 clear hr0_0 hc0_0
 have HR1:=am hr1
 have HC1:=am hc1
 clear hr1 hc1
 have HR2:=am hr2
 have HC2:=am hc2
 clear hr2 hc2
 have HB:=am (Below.refl w.heap.size w)
 have H:((impl_matched.f k l0_0 a0_1 l1 l2).bind fun bt394=>(impl_faultsOf.l0 k l1 l2 a4 bt394.2 (([]:List (List Int))) bt394.1 (bt394.1.length:Int) 0 l0_0 a0_1 a3_0 a3_1 a3_2))=some r:=h
 clear h
 obtain⟨⟨t394,t397⟩,A6,H⟩:=bnd H;dsimp only at H
 obtain⟨y400,hy400⟩:∃ y_:List (List Int),y_=(([]:List (List Int))):=⟨_,rfl⟩
 replace H:(impl_faultsOf.l0 k l1 l2 a4 t397 y400 t394 (t394.length:Int) 0 l0_0 a0_1 a3_0 a3_1 a3_2)=some r:=by subst hy400;exact H
 have Ny400:=am hy400
 clear hy400
 have H':=am H
 clear H
 go_enter Tryz.func28,Tryz.ntmps28
 go_wp2_with (first|((with_reducible refine gate_dst (N:=5) rfl ?_);refine box_event ?hg (N:=5) ?hd (cs := #[.slice A0_0 l0_0.length c0_0,.int .i64 a0_1]) (t:=34) ?hr ?_;(case hd=>rfl);(case hg=>rfl);(case hr=>first|(go_simp;done)|(go_simp;rfl));intro gb392 hg w7 hbox hb;have BK392:=am (hbox);have GW392:=am (ge_ bl hg);have GE392:=am (ge_ bl hg);replace HB:=am (below_step bl hb);clear hb hbox hg)|((with_reducible refine gate_dst (N:=8) rfl ?_);refine box_event ?hg (N:=8) ?hd (cs := #[.int .i64 a3_0,.int .i64 a3_1,.int .i64 a3_2]) (t:=40) ?hr ?_;(case hd=>rfl);(case hg=>rfl);(case hr=>first|(go_simp;done)|(go_simp;rfl));intro gb393 hg w8 hbox hb;have BK393:=am (hbox);have GW393:=am (ge_ bl hg);have GE393:=am (ge_ bl hg);replace HB:=am (below_step bl hb);have NB392_393:=am (nl (bup BK392.out) hg);have NB393_392:=am (ng (bup BK392.out) hg);replace BK392:=am (blk_below (bup BK392.out) hb);clear hb hbox hg;have hnb9:=NB392_393.out;have hnc9:=NB393_392.out;have hcz10_0:=bc BK392.out 0;have hcz10_1:=bc BK392.out 1;have hfz10_0:=blk_frozen BK392.out 0;have hfz10_1:=blk_frozen BK392.out 1)|((with_reducible refine gate_callee (f:=46) rfl ?_);refine goesL_ (some 27) rfl rfl Tryz.func46 (by kernel_rfl) rfl #[.agg #[.slice A0_0 l0_0.length c0_0,.int .i64 a0_1],.slice A1 l1.length c1,.slice A2 l2.length c2] rfl tl ?_;(with_reducible refine(impl_matched.calls k _ _ l0_0 a0_1 _ _ l1 _ _ l2 t394 t397 _ ?side1 ?side2 ?side3 ?side4 ?side5 ?side6 A6.out).mono ?_);(case side1=>exact cup (Kd.C_below HR0_0.out HB.out));(case side2=>exact HC0_0.out);(case side3=>exact cup (Kd.C_below HR1.out HB.out));(case side4=>exact HC1.out);(case side5=>exact cup (Kd.C_below HR2.out HB.out));(case side6=>exact HC2.out);rintro e w11 ⟨v395,v398,rfl,ho0,ho1,hb⟩;refine⟨_,rfl,?_⟩;have HO396:=am (Kd.R_lower ho0 (below_size bl));have HO399:=am (Kd.R_lower ho1 (below_size bl));replace BK392:=am (blk_below (bup BK392.out) hb);replace BK393:=am (blk_below (bup BK393.out) hb);replace HB:=am (below_step bl hb);(try clear hb);(try clear ho0);(try clear ho1))|((with_reducible refine gate_dst (N:=30) rfl ?_);refine Kd.S_lit (Kd.slice 3 (Kd.int .i64)) _ 22 ?hg (N:=30) ?hd (xs:=([]:List (List Int))) (inner:=[]) (ok:=fun _=>True) (okp:=fun _=>True) ?hr ?hp (fun _ hk=>hk) trivial (Below.refl _ _) (Nat.le_refl _) (by simp) ?_;(case hd=>rfl);(case hg=>rfl);(case hr=>first|(go_simp;done)|(go_simp;rfl));(case hp=>exact(Reps.none _ _));intro v401 w12 ho13 hb hg_ hnew_;clear hg_ hnew_;(first|rw[← Ny400.out] at ho13|(simp only[Int.reduceToNat] at ho13;rw[← Ny400.out] at ho13));have HO402:=am (Kd.S_lower (Kd.S_new' (Kd.S_new' ho13 (Kd.R_lt (rup HO396.out))) (Kd.R_lt (rup HO399.out))) (below_size bl));replace HO396:=am (Kd.R_below (rup HO396.out) hb);replace HO399:=am (Kd.R_below (rup HO399.out) hb);replace BK392:=am (blk_below (bup BK392.out) hb);replace BK393:=am (blk_below (bup BK393.out) hb);replace HB:=am (below_step bl hb);clear hb ho13;obtain⟨Ao14,co14,eo14⟩:=Kd.R_slice HO396.out;subst eo14))
 go_loopg [13,33] k (fun kq v13 v33 w'=>∃(x13_1:List (List Int)) (x33_1:Int),v33 = .int .i64 x33_1∧Aside0 (impl_faultsOf.l0 kq l1 l2 a4 t397 x13_1 t394 (t394.length:Int) x33_1 l0_0 a0_1 a3_0 a3_1 a3_2=some r)∧Aside0 (kq≤k)∧Aside0 (Kd.R (Kd.int .i64) 3 w' w.heap.size (fun k_=>some k_≠((.slice Ao14 t394.length co14):Value).ownBlock) v398 t397)∧Aside0 (Kd.S (Kd.slice 3 (Kd.int .i64)) 22 w' w.heap.size (fun k_=>some k_≠(v398:Value).ownBlock∧some k_≠((.slice Ao14 t394.length co14):Value).ownBlock) v13 x13_1)∧Aside0 (Kd.R (Kd.int .i64) 3 w' w.heap.size (fun k_=>some k_≠(v398:Value).ownBlock) (.slice Ao14 t394.length co14) t394)∧Aside0 (w'.heap[gb392]?=some (.cells #[(.slice A0_0 l0_0.length c0_0),.int .i64 a0_1] 34 (0,0)))∧Aside0 (w'.heap[gb393]?=some (.cells #[.int .i64 a3_0,.int .i64 a3_1,.int .i64 a3_2] 40 (0,0)))∧Aside0 (Below w.heap.size w w'))
 case atStart=>exact⟨(y400),(0),fin2,H',⟨Nat.le_refl _⟩,⟨rup HO399.out⟩,⟨by(with_reducible repeat(first|apply Kd.S_alloc|apply Kd.S_drewN|apply Kd.S_drew));exact Kd.S_mono HO402.out (fun _ hk=>⟨hk.2,hk.1.2⟩)⟩,⟨rup HO396.out⟩,⟨bup BK392.out⟩,⟨bup BK393.out⟩,⟨bl⟩⟩
 case round =>
  clear H'
  try clear hcz10_0
  try clear hcz10_1
  try clear hfz10_0
  try clear hfz10_1
  obtain⟨x13_1,x33_1,rfl,HA,HK1,HO_12,HO_13,HO_31,BK392,BK393,HB⟩:=hrel
  cases gk with
  | zero=>exact absurd HA.out (by simp [impl_faultsOf.l0])
  | succ k1 =>
   have H:=HA.out
   clear HA
   simp only[impl_faultsOf.l0] at H
   rcases itc H with⟨c15,H⟩|⟨c15,H⟩
   ·have c15b0:=decide_eq_true c15
    clear c15
    obtain⟨c16b0,H⟩:=ifb H
    obtain⟨c17b0,H⟩:=ifb H
    rcases itc H with⟨c18,H⟩|⟨c18,H⟩
    ·have c18b0:=decide_eq_true c18
     clear c18
     obtain⟨y404,hy404⟩:∃ y_:List Int,y_=(([0,x33_1]:List Int)):=⟨_,rfl⟩
     replace H:(if x13_1.length<5864062014805 then(impl_faultsOf.l0 k1 l1 l2 a4 t397 (x13_1 ++ [y404]) t394 (t394.length:Int) (wrap64 (x33_1+1)) l0_0 a0_1 a3_0 a3_1 a3_2) else(none))=some r:=by subst hy404;exact H
     have Ny404:=am hy404
     clear hy404
     obtain⟨c19,H⟩:=ifp H
     have LMc19:=am c19
     clear c19
     obtain⟨y407,hy407⟩:∃ y_:List (List Int),y_=(x13_1 ++ [y404]):=⟨_,rfl⟩
     replace H:(impl_faultsOf.l0 k1 l1 l2 a4 t397 y407 t394 (t394.length:Int) (wrap64 (x33_1+1)) l0_0 a0_1 a3_0 a3_1 a3_2)=some r:=by subst hy407;exact H
     have Ny407:=am hy407
     clear hy407
     have H':=am H
     clear H
     have p403:0≤(x33_1:Int):=od
     have q403:x33_1<(t394.length:Int):=od
     obtain⟨ad403,e403,hx403_0⟩:=Kd.at_int (Kd.R_reads' HO_31.out).2.2 x33_1 p403 q403
     cases e403
     replace p403:=eq_true p403
     replace q403:=eq_true q403
     go_wp2_with (first|((with_reducible refine gate_dst (N:=42) rfl ?_);refine Kd.R_lit (Kd.int .i64) _ 3 ?hg (N:=42) ?hd (xs:=([0,x33_1]:List Int)) (inner:=[.int .i64 0,.int .i64 x33_1]) (ok:=fun _=>True) (okp:=fun _=>True) ?hr ?hp (fun _ hk=>hk) trivial (Below.refl _ _) (Nat.le_refl _) (by simp) ?_;(case hd=>rfl);(case hg=>rfl);(case hr=>first|(go_simp;done)|(go_simp;rfl));(case hp=>exact(Reps.one (show Kd.M (Kd.int .i64) _ _ _ 0 [.int .i64 0] from rfl) (Reps.one (show Kd.M (Kd.int .i64) _ _ _ x33_1 [.int .i64 x33_1] from rfl) (Reps.none _ _))));intro v405 w20 ho21 hb hg_ hnew_;clear hg_ hnew_;(first|rw[← Ny404.out] at ho21|(simp only[Int.reduceToNat] at ho21;rw[← Ny404.out] at ho21));replace HO_13:=am (Kd.S_elder' (by(with_reducible repeat(first|apply Kd.S_alloc|apply Kd.S_drewN|apply Kd.S_drew));exact HO_13.out) (Kd.R_base ho21) hb);have HO406:=am (Kd.R_lower (Kd.R_new' (Kd.R_new' ho21 (Kd.R_lt (rup HO_12.out))) (Kd.R_lt (rup HO_31.out))) (below_size bl));replace HO_12:=am (Kd.R_elder' (rup HO_12.out) (Kd.R_base ho21) hb);replace HO_31:=am (Kd.R_elder' (rup HO_31.out) (Kd.R_base ho21) hb);replace BK392:=am (blk_below (bup BK392.out) hb);replace BK393:=am (blk_below (bup BK393.out) hb);replace HB:=am (below_step bl hb);clear hb ho21;obtain⟨Ao23,co23,eo23⟩:=Kd.R_slice HO406.out;subst eo23)|((with_reducible refine gate_builtin (b := .append) (xs := #[.tmp 40,.tmp 43]) rfl ?_);at_builtin;refine Kd.S_append (Kd.slice 3 (Kd.int .i64)) (w0:=w) w.heap.size rfl (.tmp 40) (.tmp 43) 51 22 (.slice none 0 0) 24 rfl Tryz.underlying51 info22 rfl (by decide) (by omega) u13 x13_1 y404 [.slice Ao23 y404.length co23] (fun k_=>some k_≠(v398:Value).ownBlock∧some k_≠(.slice (some ad403) t394.length co14:Value).ownBlock) (fun k_=>some k_=(.slice Ao23 y404.length co23:Value).ownBlock) rfl rfl ?aP (fun k_ hk_=>((Kd.R_mono (ok':=fun k_=>((fun k_=>some k_≠(v398:Value).ownBlock∧some k_≠(.slice (some ad403) t394.length co14:Value).ownBlock)) k_∧some k_≠(u13:Value).ownBlock) (Kd.R_apart' (HO406.out) (Kd.S_typed HO_13.out) (by decide)) (fun k_ hk=>⟨⟨hk.1.1.2,hk.1.2⟩,hk.2⟩))).1 k_ hk_.symm) ?aF ?aO ?aB ?aS ?aL ?_;(case aP=>exact Kd.M_row (Kd.R_mono (Kd.R_tight rfl (Kd.R_mono (ok':=fun k_=>((fun k_=>some k_≠(v398:Value).ownBlock∧some k_≠(.slice (some ad403) t394.length co14:Value).ownBlock)) k_∧some k_≠(u13:Value).ownBlock) (Kd.R_apart' (HO406.out) (Kd.S_typed HO_13.out) (by decide)) (fun k_ hk=>⟨⟨hk.1.1.2,hk.1.2⟩,hk.2⟩))) (fun _ h_=>h_)));(case aB=>exact bl);(case aF=>exact(fun k_ hk=>⟨Kd.fresh' (Kd.R_lt (rup HO_12.out)) k_ hk,Kd.fresh' (Kd.R_lt (rup HO_31.out)) k_ hk⟩));(case aO=>exact(by(with_reducible repeat(first|apply Kd.S_alloc|apply Kd.S_drewN|apply Kd.S_drew));exact Kd.S_mono HO_13.out (fun k_ hk=>⟨⟨hk.1.1,hk.1.2⟩,fun e_=>hk.2 e_⟩)));(case aS=>exact(below_size bl));(case aL=>have:=LMc19.out;omega);intro v408 w22 ho hb hg hat;rw[← Ny407.out] at ho;replace HO_12:=am (Kd.R_over' (rup HO_12.out) (Kd.S_typed (by(with_reducible repeat(first|apply Kd.S_alloc|apply Kd.S_drewN|apply Kd.S_drew));exact HO_13.out)) (by decide) hg);replace HO_31:=am (Kd.R_over' (rup HO_31.out) (Kd.S_typed (by(with_reducible repeat(first|apply Kd.S_alloc|apply Kd.S_drewN|apply Kd.S_drew));exact HO_13.out)) (by decide) hg);replace BK392:=am (blk_grown (bup BK392.out) hg (Kd.S_ne HO_13.out BK392.out (by decide)));replace BK393:=am (blk_grown (bup BK393.out) hg (Kd.S_ne HO_13.out BK393.out (by decide)));replace HB:=am (hb);have HO409:=am (ho);clear HO_13 HO406 ho hb hg hat))
     go_roundg k1
     case measure=>have:=HK1.out;omega
     case rel=>exact⟨(y407),(wrap64 (x33_1+1)),fin2,H',⟨by have:=HK1.out;omega⟩,⟨rup (Kd.R_mono HO_12.out (fun _ hk=>hk.1))⟩,⟨by(with_reducible repeat(first|apply Kd.S_alloc|apply Kd.S_drewN|apply Kd.S_drew));exact HO409.out⟩,⟨rup (Kd.R_mono HO_31.out (fun _ hk=>hk.1))⟩,⟨bup BK392.out⟩,⟨bup BK393.out⟩,⟨bl⟩⟩
    ·have c18b0:=decide_eq_false c18
     clear c18
     obtain⟨c24b0,H⟩:=ifb H
     obtain⟨c25b0,H⟩:=ifb H
     obtain⟨c26b0,H⟩:=ifb H
     obtain⟨t412,A27,H⟩:=bnd H
     obtain⟨c28,H⟩:=ifp H
     have c28b0:=decide_eq_true c28
     have c28b1:decide (0<t412.length)=true:=decide_eq_true (by omega)
     clear c28
     obtain⟨t416,A29,H⟩:=bnd H
     rcases itc H with⟨c30,H⟩|⟨c30,H⟩
     ·have c30b0:decide (a4<t416)=true:=decide_eq_true c30
      clear c30
      obtain⟨y417,hy417⟩:∃ y_:List Int,y_=(([2,x33_1]:List Int)):=⟨_,rfl⟩
      replace H:(if x13_1.length<5864062014805 then((some (x13_1 ++ [y417]:List (List Int))).bind fun y420=>(if 1<(t412.length:Int) then((impl_distance.f (rd t412 1) 0).bind fun t424=>(if t424>a4 then(if y420.length<5864062014805 then(impl_faultsOf.l0 k1 l1 l2 a4 t397 (y420 ++ [(([3,x33_1]:List Int))]) t394 (t394.length:Int) (wrap64 (x33_1+1)) l0_0 a0_1 a3_0 a3_1 a3_2) else(none)) else(impl_faultsOf.l0 k1 l1 l2 a4 t397 y420 t394 (t394.length:Int) (wrap64 (x33_1+1)) l0_0 a0_1 a3_0 a3_1 a3_2))) else(none))) else(none))=some r:=by subst hy417;exact H
      have Ny417:=am hy417
      clear hy417
      obtain⟨c31,H⟩:=ifp H
      have LMc31:=am c31
      clear c31
      obtain⟨y420,hy420⟩:∃ y_:List (List Int),y_=(x13_1 ++ [y417]):=⟨_,rfl⟩
      replace H:(if 1<(t412.length:Int) then((impl_distance.f (rd t412 1) 0).bind fun t424=>(if t424>a4 then(if y420.length<5864062014805 then(impl_faultsOf.l0 k1 l1 l2 a4 t397 (y420 ++ [(([3,x33_1]:List Int))]) t394 (t394.length:Int) (wrap64 (x33_1+1)) l0_0 a0_1 a3_0 a3_1 a3_2) else(none)) else(impl_faultsOf.l0 k1 l1 l2 a4 t397 y420 t394 (t394.length:Int) (wrap64 (x33_1+1)) l0_0 a0_1 a3_0 a3_1 a3_2))) else(none))=some r:=by subst hy420;exact H
      have Ny420:=am hy420
      clear hy420
      obtain⟨c32,H⟩:=ifp H
      have c32b0:=decide_eq_true c32
      have c32b1:decide (1<t412.length)=true:=decide_eq_true (by omega)
      clear c32
      obtain⟨t424,A33,H⟩:=bnd H
      rcases itc H with⟨c34,H⟩|⟨c34,H⟩
      ·have c34b0:decide (a4<t424)=true:=decide_eq_true c34
       clear c34
       obtain⟨y425,hy425⟩:∃ y_:List Int,y_=(([3,x33_1]:List Int)):=⟨_,rfl⟩
       replace H:(if y420.length<5864062014805 then(impl_faultsOf.l0 k1 l1 l2 a4 t397 (y420 ++ [y425]) t394 (t394.length:Int) (wrap64 (x33_1+1)) l0_0 a0_1 a3_0 a3_1 a3_2) else(none))=some r:=by subst hy425;exact H
       have Ny425:=am hy425
       clear hy425
       obtain⟨c35,H⟩:=ifp H
       have LMc35:=am c35
       clear c35
       obtain⟨y428,hy428⟩:∃ y_:List (List Int),y_=(y420 ++ [y425]):=⟨_,rfl⟩
       replace H:(impl_faultsOf.l0 k1 l1 l2 a4 t397 y428 t394 (t394.length:Int) (wrap64 (x33_1+1)) l0_0 a0_1 a3_0 a3_1 a3_2)=some r:=by subst hy428;exact H
       have Ny428:=am hy428
       clear hy428
       have H':=am H
       clear H
       have p403:0≤(x33_1:Int):=od
       have q403:x33_1<(t394.length:Int):=od
       obtain⟨ad403,e403,hx403_0⟩:=Kd.at_int (Kd.R_reads' HO_31.out).2.2 x33_1 p403 q403
       cases e403
       replace p403:=eq_true p403
       replace q403:=eq_true q403
       try go_wp2
       replace HO_12:=am (Kd.R_drew HO_12.out)
       replace HO_13:=am (Kd.S_drew HO_13.out)
       replace HO_31:=am (Kd.R_drew HO_31.out)
       replace BK392:=am (bD_ BK392.out)
       replace BK393:=am (bD_ BK393.out)
       replace HB:=am (below_drew1 HB.out)
       have p410:0≤(x33_1:Int):=od
       have q410:x33_1<(l1.length:Int):=od
       obtain⟨ad410,e410,hx410_0,hx410_1,hx410_2⟩:=at_T55 HR1.out x33_1 p410 q410
       have hw410_2:=hx410_2
       have hw410_1:=hx410_1
       have hw410_0:=hx410_0
       cases e410
       replace hx410_0:=(HB.out.cell (World.block_lt_of_cell? w _ hx410_0)).trans hx410_0
       replace hx410_1:=(HB.out.cell (World.block_lt_of_cell? w _ hx410_1)).trans hx410_1
       replace hx410_2:=(HB.out.cell (World.block_lt_of_cell? w _ hx410_2)).trans hx410_2
       replace p410:=eq_true p410
       replace q410:=eq_true q410
       have p411:0≤((rd t394 x33_1):Int):=od
       have q411:(rd t394 x33_1)<(l2.length:Int):=od
       obtain⟨ad411,e411,hx411_0,hx411_1,hx411_2⟩:=at_T59 HR2.out (rd t394 x33_1) p411 q411
       have hw411_2:=hx411_2
       have hw411_1:=hx411_1
       have hw411_0:=hx411_0
       cases e411
       replace hx411_0:=(HB.out.cell (World.block_lt_of_cell? w _ hx411_0)).trans hx411_0
       replace hx411_1:=(HB.out.cell (World.block_lt_of_cell? w _ hx411_1)).trans hx411_1
       replace hx411_2:=(HB.out.cell (World.block_lt_of_cell? w _ hx411_2)).trans hx411_2
       replace p411:=eq_true p411
       replace q411:=eq_true q411
       refine start_ (n:=10) (S:=fun w'=>w'.cell? (ad410.add ((x33_1).toNat*3))=some (.int .i64 ((rd_T55 l1 x33_1).f0))∧w'.cell? ⟨(ad410.add ((x33_1).toNat*3)).block,(ad410.add ((x33_1).toNat*3)).off+1,none⟩=some (.int .i64 ((rd_T55 l1 x33_1).f1))∧w'.cell? ⟨(ad410.add ((x33_1).toNat*3)).block,(ad410.add ((x33_1).toNat*3)).off+2,none⟩=some (.int .i64 ((rd_T55 l1 x33_1).f2))∧w'.cell? (ad411.add (((rd t394 x33_1)).toNat*3))=some (.int .i64 ((rd_T59 l2 (rd t394 x33_1)).f0))∧w'.cell? ⟨(ad411.add (((rd t394 x33_1)).toNat*3)).block,(ad411.add (((rd t394 x33_1)).toNat*3)).off+1,none⟩=some (.int .i64 ((rd_T59 l2 (rd t394 x33_1)).f1))∧w'.cell? ⟨(ad411.add (((rd t394 x33_1)).toNat*3)).block,(ad411.add (((rd t394 x33_1)).toNat*3)).off+2,none⟩=some (.int .i64 ((rd_T59 l2 (rd t394 x33_1)).f2))) (ds:=[]) (fl 0 10) (by kernel_rfl) rfl rfl ⟨((HB.out.cell (World.block_lt_of_cell? w _ hw410_0)).trans hw410_0),((HB.out.cell (World.block_lt_of_cell? w _ hw410_1)).trans hw410_1),((HB.out.cell (World.block_lt_of_cell? w _ hw410_2)).trans hw410_2),((HB.out.cell (World.block_lt_of_cell? w _ hw411_0)).trans hw411_0),((HB.out.cell (World.block_lt_of_cell? w _ hw411_1)).trans hw411_1),((HB.out.cell (World.block_lt_of_cell? w _ hw411_2)).trans hw411_2)⟩ (fun hHeld=>?_);refine with_tabW impl_faultsOf.tab8 impl_faultsOf.bits8 (fun HT_ HW_=>?_)
       generalize wr.drew=w36 at HO_12 HO_13 HO_31 BK392 BK393 HB hx410_0 hx410_1 hx410_2 hx411_0 hx411_1 hx411_2 hHeld ⊢
       refine pu HT_.out 0 (some 45) (fl 1 10) (h:=?_)
       refine pu HT_.out 1 (some 46) (fl 2 10) (h:=?_)
       refine pu HT_.out 2 (some 47) (fl 3 10) (h:=?_)
       refine pu HT_.out 4 (some 49) #[true,true,true,false,true,false,false,false,false,false] (h:=?_)
       refine pu HT_.out 5 (some 50) #[true,true,true,false,true,true,false,false,false,false] (h:=?_)
       refine pu HT_.out 6 (some 51) #[true,true,true,false,true,true,true,false,false,false] (h:=?_)
       refine ta HT_.out HW_.out 3 (some 48) (fl 7 10) hHeld rfl (by rintro w' ⟨s0,s1,s2,s3,s4,s5⟩;go_simp;with_reducible rfl) (h:=?_)
       refine ta HT_.out HW_.out 7 (some 52) (fl 8 10) hHeld rfl (by rintro w' ⟨s0,s1,s2,s3,s4,s5⟩;go_simp;with_reducible rfl) (h:=?_)
       refine one_ (i:=8) (N:=some 53) (fl 9 10) rfl rfl (one_of HT_.out (by kernel_rfl)) (by decide) (fun K hK=>?_)
       refine goes_ Tryz.func47 (by kernel_rfl) rfl #[.agg #[.int .i64 ((rd_T55 l1 x33_1).f0),.int .i64 ((rd_T55 l1 x33_1).f1),.int .i64 ((rd_T55 l1 x33_1).f2)],.agg #[.int .i64 ((rd_T59 l2 (rd t394 x33_1)).f0),.int .i64 ((rd_T59 l2 (rd t394 x33_1)).f1),.int .i64 ((rd_T59 l2 (rd t394 x33_1)).f2)]] (by rfl) rfl rfl tl ?_
       with_reducible refine(impl_holeErrors.calls ((rd_T55 l1 x33_1).f0) ((rd_T55 l1 x33_1).f1) ((rd_T55 l1 x33_1).f2) ((rd_T59 l2 (rd t394 x33_1)).f0) ((rd_T59 l2 (rd t394 x33_1)).f1) ((rd_T59 l2 (rd t394 x33_1)).f2) t412 _ A27.out).mono ?_
       rintro e w37 ⟨v413,rfl,ho0,hb⟩
       refine⟨_,rfl,?_⟩
       replace HO_13:=am (Kd.S_elder' (by(with_reducible repeat(first|apply Kd.S_alloc|apply Kd.S_drewN|apply Kd.S_drew));exact HO_13.out) (Kd.R_base ho0) hb)
       have HO414:=am (Kd.R_lower (Kd.R_new' (Kd.R_new' ho0 (Kd.R_lt (rup HO_12.out))) (Kd.R_lt (rup HO_31.out))) (below_size bl))
       replace HO_12:=am (Kd.R_elder' (rup HO_12.out) (Kd.R_base ho0) hb)
       replace HO_31:=am (Kd.R_elder' (rup HO_31.out) (Kd.R_base ho0) hb)
       replace BK392:=am (blk_below (bup BK392.out) hb)
       replace BK393:=am (blk_below (bup BK393.out) hb)
       replace HB:=am (below_step bl hb)
       (try clear hb)
       (try clear ho0)
       refine hK.out _ _ ⟨((HB.out.cell (World.block_lt_of_cell? w _ hw410_0)).trans hw410_0),((HB.out.cell (World.block_lt_of_cell? w _ hw410_1)).trans hw410_1),((HB.out.cell (World.block_lt_of_cell? w _ hw410_2)).trans hw410_2),((HB.out.cell (World.block_lt_of_cell? w _ hw411_0)).trans hw411_0),((HB.out.cell (World.block_lt_of_cell? w _ hw411_1)).trans hw411_1),((HB.out.cell (World.block_lt_of_cell? w _ hw411_2)).trans hw411_2)⟩ (fun hHeld=>?_)
       clear hK K
       refine norm_ (a':=?_) ?_ ?_
       rotate_left
       ·show Act.put _ (some 53) _=_
        simp only[Act.put,List.setIfInBounds_toArray,List.set_cons_zero,List.set_cons_succ,i64_w,i32_w]
        rfl
       refine pu HT_.out 9 (some 16) (fl 10 10) (h:=?_)
       refine done_ (done_of HT_.out (by kernel_rfl)) ?_
       obtain⟨Ao38,co38,eo38⟩:=Kd.R_slice HO414.out
       subst eo38
       have p415:0≤(0:Int):=(by omega)
       have q415:0<(t412.length:Int):=od
       obtain⟨ad415,e415,hx415_0⟩:=Kd.at_int (Kd.R_reads' HO414.out).2.2 0 p415 q415
       cases e415
       have qi415:(0<t412.length)=True:=eq_true (by omega)
       (try rw[show((0:Int)).toNat=0 from rfl] at hx415_0)
       (try rw[Addr.add_zero'] at hx415_0)
       replace p415:=eq_true p415
       replace q415:=eq_true q415
       try go_wp2_with (first|((with_reducible refine gate_callee (f:=48) rfl ?_);refine goesL_ (some 57) rfl rfl Tryz.func48 (by kernel_rfl) rfl #[.int .i64 (rd t412 0),.int .i64 0] rfl tl ?_;(with_reducible refine(impl_distance.calls (rd t412 0) 0 t416 _ A29.out).mono ?_);rintro e w39 ⟨rfl,hb⟩;refine⟨_,rfl,?_⟩;replace HO_12:=am (Kd.R_below (rup HO_12.out) hb);replace HO_13:=am (Kd.S_below (by(with_reducible repeat(first|apply Kd.S_alloc|apply Kd.S_drewN|apply Kd.S_drew));exact HO_13.out) hb);replace HO_31:=am (Kd.R_below (rup HO_31.out) hb);replace HO414:=am (Kd.R_below (rup HO414.out) hb);replace BK392:=am (blk_below (bup BK392.out) hb);replace BK393:=am (blk_below (bup BK393.out) hb);replace HB:=am (below_step bl hb);(try clear hb))|((with_reducible refine gate_dst (N:=62) rfl ?_);refine Kd.R_lit (Kd.int .i64) _ 3 ?hg (N:=62) ?hd (xs:=([2,x33_1]:List Int)) (inner:=[.int .i64 2,.int .i64 x33_1]) (ok:=fun _=>True) (okp:=fun _=>True) ?hr ?hp (fun _ hk=>hk) trivial (Below.refl _ _) (Nat.le_refl _) (by simp) ?_;(case hd=>rfl);(case hg=>rfl);(case hr=>first|(go_simp;done)|(go_simp;rfl));(case hp=>exact(Reps.one (show Kd.M (Kd.int .i64) _ _ _ 2 [.int .i64 2] from rfl) (Reps.one (show Kd.M (Kd.int .i64) _ _ _ x33_1 [.int .i64 x33_1] from rfl) (Reps.none _ _))));intro v418 w40 ho41 hb hg_ hnew_;clear hg_ hnew_;(first|rw[← Ny417.out] at ho41|(simp only[Int.reduceToNat] at ho41;rw[← Ny417.out] at ho41));replace HO_13:=am (Kd.S_elder' (by(with_reducible repeat(first|apply Kd.S_alloc|apply Kd.S_drewN|apply Kd.S_drew));exact HO_13.out) (Kd.R_base ho41) hb);have HO419:=am (Kd.R_lower (Kd.R_new' (Kd.R_new' (Kd.R_new' ho41 (Kd.R_lt (rup HO_12.out))) (Kd.R_lt (rup HO_31.out))) (Kd.R_lt (rup HO414.out))) (below_size bl));replace HO_12:=am (Kd.R_elder' (rup HO_12.out) (Kd.R_base ho41) hb);replace HO_31:=am (Kd.R_elder' (rup HO_31.out) (Kd.R_base ho41) hb);replace HO414:=am (Kd.R_elder' (rup HO414.out) (Kd.R_base ho41) hb);replace BK392:=am (blk_below (bup BK392.out) hb);replace BK393:=am (blk_below (bup BK393.out) hb);replace HB:=am (below_step bl hb);clear hb ho41;obtain⟨Ao43,co43,eo43⟩:=Kd.R_slice HO419.out;subst eo43)|((with_reducible refine gate_builtin (b := .append) (xs := #[.tmp 60,.tmp 63]) rfl ?_);at_builtin;refine Kd.S_append (Kd.slice 3 (Kd.int .i64)) (w0:=w) w.heap.size rfl (.tmp 60) (.tmp 63) 51 22 (.slice none 0 0) 24 rfl Tryz.underlying51 info22 rfl (by decide) (by omega) u13 x13_1 y417 [.slice Ao43 y417.length co43] (fun k_=>some k_≠(v398:Value).ownBlock∧some k_≠(.slice (some ad403) t394.length co14:Value).ownBlock∧some k_≠(.slice (some ad415) t412.length co38:Value).ownBlock) (fun k_=>some k_=(.slice Ao43 y417.length co43:Value).ownBlock) rfl rfl ?aP (fun k_ hk_=>((Kd.R_mono (ok':=fun k_=>((fun k_=>some k_≠(v398:Value).ownBlock∧some k_≠(.slice (some ad403) t394.length co14:Value).ownBlock∧some k_≠(.slice (some ad415) t412.length co38:Value).ownBlock)) k_∧some k_≠(u13:Value).ownBlock) (Kd.R_apart' (HO419.out) (Kd.S_typed HO_13.out) (by decide)) (fun k_ hk=>⟨⟨hk.1.1.1.2,⟨hk.1.1.2,hk.1.2⟩⟩,hk.2⟩))).1 k_ hk_.symm) ?aF ?aO ?aB ?aS ?aL ?_;(case aP=>exact Kd.M_row (Kd.R_mono (Kd.R_tight rfl (Kd.R_mono (ok':=fun k_=>((fun k_=>some k_≠(v398:Value).ownBlock∧some k_≠(.slice (some ad403) t394.length co14:Value).ownBlock∧some k_≠(.slice (some ad415) t412.length co38:Value).ownBlock)) k_∧some k_≠(u13:Value).ownBlock) (Kd.R_apart' (HO419.out) (Kd.S_typed HO_13.out) (by decide)) (fun k_ hk=>⟨⟨hk.1.1.1.2,⟨hk.1.1.2,hk.1.2⟩⟩,hk.2⟩))) (fun _ h_=>h_)));(case aB=>exact bl);(case aF=>exact(fun k_ hk=>⟨Kd.fresh' (Kd.R_lt (rup HO_12.out)) k_ hk,Kd.fresh' (Kd.R_lt (rup HO_31.out)) k_ hk,Kd.fresh' (Kd.R_lt (rup HO414.out)) k_ hk⟩));(case aO=>exact(by(with_reducible repeat(first|apply Kd.S_alloc|apply Kd.S_drewN|apply Kd.S_drew));exact Kd.S_mono HO_13.out (fun k_ hk=>⟨⟨hk.1.1.1,⟨hk.1.1.2,hk.1.2⟩⟩,fun e_=>hk.2 e_⟩)));(case aS=>exact(below_size bl));(case aL=>have:=LMc31.out;omega);intro v421 w42 ho hb hg hat;rw[← Ny420.out] at ho;replace HO_12:=am (Kd.R_over' (rup HO_12.out) (Kd.S_typed (by(with_reducible repeat(first|apply Kd.S_alloc|apply Kd.S_drewN|apply Kd.S_drew));exact HO_13.out)) (by decide) hg);replace HO_31:=am (Kd.R_over' (rup HO_31.out) (Kd.S_typed (by(with_reducible repeat(first|apply Kd.S_alloc|apply Kd.S_drewN|apply Kd.S_drew));exact HO_13.out)) (by decide) hg);replace BK392:=am (blk_grown (bup BK392.out) hg (Kd.S_ne HO_13.out BK392.out (by decide)));replace BK393:=am (blk_grown (bup BK393.out) hg (Kd.S_ne HO_13.out BK393.out (by decide)));replace HO414:=am (Kd.R_over' (rup HO414.out) (Kd.S_typed (by(with_reducible repeat(first|apply Kd.S_alloc|apply Kd.S_drewN|apply Kd.S_drew));exact HO_13.out)) (by decide) hg);replace HB:=am (hb);have HO422:=am (ho);clear HO_13 HO419 ho hb hg hat;have p423:0≤(1:Int):=(by omega);have q423:1<(t412.length:Int):=od;obtain⟨ad423,e423,hx423_0⟩:=Kd.at_int (Kd.R_reads' HO414.out).2.2 1 p423 q423;obtain rfl:ad415=ad423:=(by injection e423);(try simp only[show(1:Int).toNat=1 from rfl,Nat.reduceMul,Nat.reduceEqDiff,Go.Addr.add,↓reduceIte] at hx423_0);have qi423:(1<t412.length)=True:=eq_true (by omega);(try rw[show((1:Int)).toNat=1 from rfl] at hx423_0);replace p423:=eq_true p423;replace q423:=eq_true q423)|((with_reducible refine gate_callee (f:=48) rfl ?_);refine goesL_ (some 68) rfl rfl Tryz.func48 (by kernel_rfl) rfl #[.int .i64 (rd t412 1),.int .i64 0] rfl tl ?_;(with_reducible refine(impl_distance.calls (rd t412 1) 0 t424 _ A33.out).mono ?_);rintro e w44 ⟨rfl,hb⟩;refine⟨_,rfl,?_⟩;replace HO_12:=am (Kd.R_below (rup HO_12.out) hb);replace HO_31:=am (Kd.R_below (rup HO_31.out) hb);replace HO414:=am (Kd.R_below (rup HO414.out) hb);replace HO422:=am (Kd.S_below (by(with_reducible repeat(first|apply Kd.S_alloc|apply Kd.S_drewN|apply Kd.S_drew));exact HO422.out) hb);replace BK392:=am (blk_below (bup BK392.out) hb);replace BK393:=am (blk_below (bup BK393.out) hb);replace HB:=am (below_step bl hb);(try clear hb))|((with_reducible refine gate_dst (N:=73) rfl ?_);refine Kd.R_lit (Kd.int .i64) _ 3 ?hg (N:=73) ?hd (xs:=([3,x33_1]:List Int)) (inner:=[.int .i64 3,.int .i64 x33_1]) (ok:=fun _=>True) (okp:=fun _=>True) ?hr ?hp (fun _ hk=>hk) trivial (Below.refl _ _) (Nat.le_refl _) (by simp) ?_;(case hd=>rfl);(case hg=>rfl);(case hr=>first|(go_simp;done)|(go_simp;rfl));(case hp=>exact(Reps.one (show Kd.M (Kd.int .i64) _ _ _ 3 [.int .i64 3] from rfl) (Reps.one (show Kd.M (Kd.int .i64) _ _ _ x33_1 [.int .i64 x33_1] from rfl) (Reps.none _ _))));intro v426 w45 ho46 hb hg_ hnew_;clear hg_ hnew_;(first|rw[← Ny425.out] at ho46|(simp only[Int.reduceToNat] at ho46;rw[← Ny425.out] at ho46));replace HO422:=am (Kd.S_elder' (by(with_reducible repeat(first|apply Kd.S_alloc|apply Kd.S_drewN|apply Kd.S_drew));exact HO422.out) (Kd.R_base ho46) hb);have HO427:=am (Kd.R_lower (Kd.R_new' (Kd.R_new' (Kd.R_new' ho46 (Kd.R_lt (rup HO_12.out))) (Kd.R_lt (rup HO_31.out))) (Kd.R_lt (rup HO414.out))) (below_size bl));replace HO_12:=am (Kd.R_elder' (rup HO_12.out) (Kd.R_base ho46) hb);replace HO_31:=am (Kd.R_elder' (rup HO_31.out) (Kd.R_base ho46) hb);replace HO414:=am (Kd.R_elder' (rup HO414.out) (Kd.R_base ho46) hb);replace BK392:=am (blk_below (bup BK392.out) hb);replace BK393:=am (blk_below (bup BK393.out) hb);replace HB:=am (below_step bl hb);clear hb ho46;obtain⟨Ao48,co48,eo48⟩:=Kd.R_slice HO427.out;subst eo48)|((with_reducible refine gate_builtin (b := .append) (xs := #[.tmp 71,.tmp 74]) rfl ?_);at_builtin;refine Kd.S_append (Kd.slice 3 (Kd.int .i64)) (w0:=w) w.heap.size rfl (.tmp 71) (.tmp 74) 51 22 (.slice none 0 0) 24 rfl Tryz.underlying51 info22 rfl (by decide) (by omega) v421 y420 y425 [.slice Ao48 y425.length co48] (fun k_=>some k_≠(v398:Value).ownBlock∧some k_≠(.slice (some ad403) t394.length co14:Value).ownBlock∧some k_≠(.slice (some ad415) t412.length co38:Value).ownBlock) (fun k_=>some k_=(.slice Ao48 y425.length co48:Value).ownBlock) rfl rfl ?aP (fun k_ hk_=>((Kd.R_mono (ok':=fun k_=>((fun k_=>some k_≠(v398:Value).ownBlock∧some k_≠(.slice (some ad403) t394.length co14:Value).ownBlock∧some k_≠(.slice (some ad415) t412.length co38:Value).ownBlock)) k_∧some k_≠(v421:Value).ownBlock) (Kd.R_apart' (HO427.out) (Kd.S_typed HO422.out) (by decide)) (fun k_ hk=>⟨⟨hk.1.1.1.2,⟨hk.1.1.2,hk.1.2⟩⟩,hk.2⟩))).1 k_ hk_.symm) ?aF ?aO ?aB ?aS ?aL ?_;(case aP=>exact Kd.M_row (Kd.R_mono (Kd.R_tight rfl (Kd.R_mono (ok':=fun k_=>((fun k_=>some k_≠(v398:Value).ownBlock∧some k_≠(.slice (some ad403) t394.length co14:Value).ownBlock∧some k_≠(.slice (some ad415) t412.length co38:Value).ownBlock)) k_∧some k_≠(v421:Value).ownBlock) (Kd.R_apart' (HO427.out) (Kd.S_typed HO422.out) (by decide)) (fun k_ hk=>⟨⟨hk.1.1.1.2,⟨hk.1.1.2,hk.1.2⟩⟩,hk.2⟩))) (fun _ h_=>h_)));(case aB=>exact bl);(case aF=>exact(fun k_ hk=>⟨Kd.fresh' (Kd.R_lt (rup HO_12.out)) k_ hk,Kd.fresh' (Kd.R_lt (rup HO_31.out)) k_ hk,Kd.fresh' (Kd.R_lt (rup HO414.out)) k_ hk⟩));(case aO=>exact(by(with_reducible repeat(first|apply Kd.S_alloc|apply Kd.S_drewN|apply Kd.S_drew));exact Kd.S_mono HO422.out (fun k_ hk=>⟨⟨hk.1.1,⟨hk.1.2.1,hk.1.2.2⟩⟩,fun e_=>hk.2 e_⟩)));(case aS=>exact(below_size bl));(case aL=>have:=LMc35.out;omega);intro v429 w47 ho hb hg hat;rw[← Ny428.out] at ho;replace HO_12:=am (Kd.R_over' (rup HO_12.out) (Kd.S_typed (by(with_reducible repeat(first|apply Kd.S_alloc|apply Kd.S_drewN|apply Kd.S_drew));exact HO422.out)) (by decide) hg);replace HO_31:=am (Kd.R_over' (rup HO_31.out) (Kd.S_typed (by(with_reducible repeat(first|apply Kd.S_alloc|apply Kd.S_drewN|apply Kd.S_drew));exact HO422.out)) (by decide) hg);replace BK392:=am (blk_grown (bup BK392.out) hg (Kd.S_ne HO422.out BK392.out (by decide)));replace BK393:=am (blk_grown (bup BK393.out) hg (Kd.S_ne HO422.out BK393.out (by decide)));replace HO414:=am (Kd.R_over' (rup HO414.out) (Kd.S_typed (by(with_reducible repeat(first|apply Kd.S_alloc|apply Kd.S_drewN|apply Kd.S_drew));exact HO422.out)) (by decide) hg);replace HB:=am (hb);have HO430:=am (ho);clear HO422 HO427 ho hb hg hat))
       go_roundg k1
       case measure=>have:=HK1.out;omega
       case rel=>exact⟨(y428),(wrap64 (x33_1+1)),fin2,H',⟨by have:=HK1.out;omega⟩,⟨rup (Kd.R_mono HO_12.out (fun _ hk=>hk.1.1.1))⟩,⟨by(with_reducible repeat(first|apply Kd.S_alloc|apply Kd.S_drewN|apply Kd.S_drew));exact Kd.S_mono HO430.out (fun _ hk=>⟨hk.1,hk.2.1⟩)⟩,⟨rup (Kd.R_mono HO_31.out (fun _ hk=>hk.1.1.1))⟩,⟨bup BK392.out⟩,⟨bup BK393.out⟩,⟨bl⟩⟩
      ·have c34b0:decide (a4<t424)=false:=decide_eq_false c34
       clear c34
       have H':=am H
       clear H
       have p403:0≤(x33_1:Int):=od
       have q403:x33_1<(t394.length:Int):=od
       obtain⟨ad403,e403,hx403_0⟩:=Kd.at_int (Kd.R_reads' HO_31.out).2.2 x33_1 p403 q403
       cases e403
       replace p403:=eq_true p403
       replace q403:=eq_true q403
       try go_wp2
       replace HO_12:=am (Kd.R_drew HO_12.out)
       replace HO_13:=am (Kd.S_drew HO_13.out)
       replace HO_31:=am (Kd.R_drew HO_31.out)
       replace BK392:=am (bD_ BK392.out)
       replace BK393:=am (bD_ BK393.out)
       replace HB:=am (below_drew1 HB.out)
       have p410:0≤(x33_1:Int):=od
       have q410:x33_1<(l1.length:Int):=od
       obtain⟨ad410,e410,hx410_0,hx410_1,hx410_2⟩:=at_T55 HR1.out x33_1 p410 q410
       have hw410_2:=hx410_2
       have hw410_1:=hx410_1
       have hw410_0:=hx410_0
       cases e410
       replace hx410_0:=(HB.out.cell (World.block_lt_of_cell? w _ hx410_0)).trans hx410_0
       replace hx410_1:=(HB.out.cell (World.block_lt_of_cell? w _ hx410_1)).trans hx410_1
       replace hx410_2:=(HB.out.cell (World.block_lt_of_cell? w _ hx410_2)).trans hx410_2
       replace p410:=eq_true p410
       replace q410:=eq_true q410
       have p411:0≤((rd t394 x33_1):Int):=od
       have q411:(rd t394 x33_1)<(l2.length:Int):=od
       obtain⟨ad411,e411,hx411_0,hx411_1,hx411_2⟩:=at_T59 HR2.out (rd t394 x33_1) p411 q411
       have hw411_2:=hx411_2
       have hw411_1:=hx411_1
       have hw411_0:=hx411_0
       cases e411
       replace hx411_0:=(HB.out.cell (World.block_lt_of_cell? w _ hx411_0)).trans hx411_0
       replace hx411_1:=(HB.out.cell (World.block_lt_of_cell? w _ hx411_1)).trans hx411_1
       replace hx411_2:=(HB.out.cell (World.block_lt_of_cell? w _ hx411_2)).trans hx411_2
       replace p411:=eq_true p411
       replace q411:=eq_true q411
       refine start_ (n:=10) (S:=fun w'=>w'.cell? (ad410.add ((x33_1).toNat*3))=some (.int .i64 ((rd_T55 l1 x33_1).f0))∧w'.cell? ⟨(ad410.add ((x33_1).toNat*3)).block,(ad410.add ((x33_1).toNat*3)).off+1,none⟩=some (.int .i64 ((rd_T55 l1 x33_1).f1))∧w'.cell? ⟨(ad410.add ((x33_1).toNat*3)).block,(ad410.add ((x33_1).toNat*3)).off+2,none⟩=some (.int .i64 ((rd_T55 l1 x33_1).f2))∧w'.cell? (ad411.add (((rd t394 x33_1)).toNat*3))=some (.int .i64 ((rd_T59 l2 (rd t394 x33_1)).f0))∧w'.cell? ⟨(ad411.add (((rd t394 x33_1)).toNat*3)).block,(ad411.add (((rd t394 x33_1)).toNat*3)).off+1,none⟩=some (.int .i64 ((rd_T59 l2 (rd t394 x33_1)).f1))∧w'.cell? ⟨(ad411.add (((rd t394 x33_1)).toNat*3)).block,(ad411.add (((rd t394 x33_1)).toNat*3)).off+2,none⟩=some (.int .i64 ((rd_T59 l2 (rd t394 x33_1)).f2))) (ds:=[]) (fl 0 10) (by kernel_rfl) rfl rfl ⟨((HB.out.cell (World.block_lt_of_cell? w _ hw410_0)).trans hw410_0),((HB.out.cell (World.block_lt_of_cell? w _ hw410_1)).trans hw410_1),((HB.out.cell (World.block_lt_of_cell? w _ hw410_2)).trans hw410_2),((HB.out.cell (World.block_lt_of_cell? w _ hw411_0)).trans hw411_0),((HB.out.cell (World.block_lt_of_cell? w _ hw411_1)).trans hw411_1),((HB.out.cell (World.block_lt_of_cell? w _ hw411_2)).trans hw411_2)⟩ (fun hHeld=>?_);refine with_tabW impl_faultsOf.tab8 impl_faultsOf.bits8 (fun HT_ HW_=>?_)
       generalize wr.drew=w49 at HO_12 HO_13 HO_31 BK392 BK393 HB hx410_0 hx410_1 hx410_2 hx411_0 hx411_1 hx411_2 hHeld ⊢
       refine pu HT_.out 0 (some 45) (fl 1 10) (h:=?_)
       refine pu HT_.out 1 (some 46) (fl 2 10) (h:=?_)
       refine pu HT_.out 2 (some 47) (fl 3 10) (h:=?_)
       refine pu HT_.out 4 (some 49) #[true,true,true,false,true,false,false,false,false,false] (h:=?_)
       refine pu HT_.out 5 (some 50) #[true,true,true,false,true,true,false,false,false,false] (h:=?_)
       refine pu HT_.out 6 (some 51) #[true,true,true,false,true,true,true,false,false,false] (h:=?_)
       refine ta HT_.out HW_.out 3 (some 48) (fl 7 10) hHeld rfl (by rintro w' ⟨s0,s1,s2,s3,s4,s5⟩;go_simp;with_reducible rfl) (h:=?_)
       refine ta HT_.out HW_.out 7 (some 52) (fl 8 10) hHeld rfl (by rintro w' ⟨s0,s1,s2,s3,s4,s5⟩;go_simp;with_reducible rfl) (h:=?_)
       refine one_ (i:=8) (N:=some 53) (fl 9 10) rfl rfl (one_of HT_.out (by kernel_rfl)) (by decide) (fun K hK=>?_)
       refine goes_ Tryz.func47 (by kernel_rfl) rfl #[.agg #[.int .i64 ((rd_T55 l1 x33_1).f0),.int .i64 ((rd_T55 l1 x33_1).f1),.int .i64 ((rd_T55 l1 x33_1).f2)],.agg #[.int .i64 ((rd_T59 l2 (rd t394 x33_1)).f0),.int .i64 ((rd_T59 l2 (rd t394 x33_1)).f1),.int .i64 ((rd_T59 l2 (rd t394 x33_1)).f2)]] (by rfl) rfl rfl tl ?_
       with_reducible refine(impl_holeErrors.calls ((rd_T55 l1 x33_1).f0) ((rd_T55 l1 x33_1).f1) ((rd_T55 l1 x33_1).f2) ((rd_T59 l2 (rd t394 x33_1)).f0) ((rd_T59 l2 (rd t394 x33_1)).f1) ((rd_T59 l2 (rd t394 x33_1)).f2) t412 _ A27.out).mono ?_
       rintro e w50 ⟨v413,rfl,ho0,hb⟩
       refine⟨_,rfl,?_⟩
       replace HO_13:=am (Kd.S_elder' (by(with_reducible repeat(first|apply Kd.S_alloc|apply Kd.S_drewN|apply Kd.S_drew));exact HO_13.out) (Kd.R_base ho0) hb)
       have HO414:=am (Kd.R_lower (Kd.R_new' (Kd.R_new' ho0 (Kd.R_lt (rup HO_12.out))) (Kd.R_lt (rup HO_31.out))) (below_size bl))
       replace HO_12:=am (Kd.R_elder' (rup HO_12.out) (Kd.R_base ho0) hb)
       replace HO_31:=am (Kd.R_elder' (rup HO_31.out) (Kd.R_base ho0) hb)
       replace BK392:=am (blk_below (bup BK392.out) hb)
       replace BK393:=am (blk_below (bup BK393.out) hb)
       replace HB:=am (below_step bl hb)
       (try clear hb)
       (try clear ho0)
       refine hK.out _ _ ⟨((HB.out.cell (World.block_lt_of_cell? w _ hw410_0)).trans hw410_0),((HB.out.cell (World.block_lt_of_cell? w _ hw410_1)).trans hw410_1),((HB.out.cell (World.block_lt_of_cell? w _ hw410_2)).trans hw410_2),((HB.out.cell (World.block_lt_of_cell? w _ hw411_0)).trans hw411_0),((HB.out.cell (World.block_lt_of_cell? w _ hw411_1)).trans hw411_1),((HB.out.cell (World.block_lt_of_cell? w _ hw411_2)).trans hw411_2)⟩ (fun hHeld=>?_)
       clear hK K
       refine norm_ (a':=?_) ?_ ?_
       rotate_left
       ·show Act.put _ (some 53) _=_
        simp only[Act.put,List.setIfInBounds_toArray,List.set_cons_zero,List.set_cons_succ,i64_w,i32_w]
        rfl
       refine pu HT_.out 9 (some 16) (fl 10 10) (h:=?_)
       refine done_ (done_of HT_.out (by kernel_rfl)) ?_
       obtain⟨Ao51,co51,eo51⟩:=Kd.R_slice HO414.out
       subst eo51
       have p415:0≤(0:Int):=(by omega)
       have q415:0<(t412.length:Int):=od
       obtain⟨ad415,e415,hx415_0⟩:=Kd.at_int (Kd.R_reads' HO414.out).2.2 0 p415 q415
       cases e415
       have qi415:(0<t412.length)=True:=eq_true (by omega)
       (try rw[show((0:Int)).toNat=0 from rfl] at hx415_0)
       (try rw[Addr.add_zero'] at hx415_0)
       replace p415:=eq_true p415
       replace q415:=eq_true q415
       try go_wp2_with (first|((with_reducible refine gate_callee (f:=48) rfl ?_);refine goesL_ (some 57) rfl rfl Tryz.func48 (by kernel_rfl) rfl #[.int .i64 (rd t412 0),.int .i64 0] rfl tl ?_;(with_reducible refine(impl_distance.calls (rd t412 0) 0 t416 _ A29.out).mono ?_);rintro e w52 ⟨rfl,hb⟩;refine⟨_,rfl,?_⟩;replace HO_12:=am (Kd.R_below (rup HO_12.out) hb);replace HO_13:=am (Kd.S_below (by(with_reducible repeat(first|apply Kd.S_alloc|apply Kd.S_drewN|apply Kd.S_drew));exact HO_13.out) hb);replace HO_31:=am (Kd.R_below (rup HO_31.out) hb);replace HO414:=am (Kd.R_below (rup HO414.out) hb);replace BK392:=am (blk_below (bup BK392.out) hb);replace BK393:=am (blk_below (bup BK393.out) hb);replace HB:=am (below_step bl hb);(try clear hb))|((with_reducible refine gate_dst (N:=62) rfl ?_);refine Kd.R_lit (Kd.int .i64) _ 3 ?hg (N:=62) ?hd (xs:=([2,x33_1]:List Int)) (inner:=[.int .i64 2,.int .i64 x33_1]) (ok:=fun _=>True) (okp:=fun _=>True) ?hr ?hp (fun _ hk=>hk) trivial (Below.refl _ _) (Nat.le_refl _) (by simp) ?_;(case hd=>rfl);(case hg=>rfl);(case hr=>first|(go_simp;done)|(go_simp;rfl));(case hp=>exact(Reps.one (show Kd.M (Kd.int .i64) _ _ _ 2 [.int .i64 2] from rfl) (Reps.one (show Kd.M (Kd.int .i64) _ _ _ x33_1 [.int .i64 x33_1] from rfl) (Reps.none _ _))));intro v418 w53 ho54 hb hg_ hnew_;clear hg_ hnew_;(first|rw[← Ny417.out] at ho54|(simp only[Int.reduceToNat] at ho54;rw[← Ny417.out] at ho54));replace HO_13:=am (Kd.S_elder' (by(with_reducible repeat(first|apply Kd.S_alloc|apply Kd.S_drewN|apply Kd.S_drew));exact HO_13.out) (Kd.R_base ho54) hb);have HO419:=am (Kd.R_lower (Kd.R_new' (Kd.R_new' (Kd.R_new' ho54 (Kd.R_lt (rup HO_12.out))) (Kd.R_lt (rup HO_31.out))) (Kd.R_lt (rup HO414.out))) (below_size bl));replace HO_12:=am (Kd.R_elder' (rup HO_12.out) (Kd.R_base ho54) hb);replace HO_31:=am (Kd.R_elder' (rup HO_31.out) (Kd.R_base ho54) hb);replace HO414:=am (Kd.R_elder' (rup HO414.out) (Kd.R_base ho54) hb);replace BK392:=am (blk_below (bup BK392.out) hb);replace BK393:=am (blk_below (bup BK393.out) hb);replace HB:=am (below_step bl hb);clear hb ho54;obtain⟨Ao56,co56,eo56⟩:=Kd.R_slice HO419.out;subst eo56)|((with_reducible refine gate_builtin (b := .append) (xs := #[.tmp 60,.tmp 63]) rfl ?_);at_builtin;refine Kd.S_append (Kd.slice 3 (Kd.int .i64)) (w0:=w) w.heap.size rfl (.tmp 60) (.tmp 63) 51 22 (.slice none 0 0) 24 rfl Tryz.underlying51 info22 rfl (by decide) (by omega) u13 x13_1 y417 [.slice Ao56 y417.length co56] (fun k_=>some k_≠(v398:Value).ownBlock∧some k_≠(.slice (some ad403) t394.length co14:Value).ownBlock∧some k_≠(.slice (some ad415) t412.length co51:Value).ownBlock) (fun k_=>some k_=(.slice Ao56 y417.length co56:Value).ownBlock) rfl rfl ?aP (fun k_ hk_=>((Kd.R_mono (ok':=fun k_=>((fun k_=>some k_≠(v398:Value).ownBlock∧some k_≠(.slice (some ad403) t394.length co14:Value).ownBlock∧some k_≠(.slice (some ad415) t412.length co51:Value).ownBlock)) k_∧some k_≠(u13:Value).ownBlock) (Kd.R_apart' (HO419.out) (Kd.S_typed HO_13.out) (by decide)) (fun k_ hk=>⟨⟨hk.1.1.1.2,⟨hk.1.1.2,hk.1.2⟩⟩,hk.2⟩))).1 k_ hk_.symm) ?aF ?aO ?aB ?aS ?aL ?_;(case aP=>exact Kd.M_row (Kd.R_mono (Kd.R_tight rfl (Kd.R_mono (ok':=fun k_=>((fun k_=>some k_≠(v398:Value).ownBlock∧some k_≠(.slice (some ad403) t394.length co14:Value).ownBlock∧some k_≠(.slice (some ad415) t412.length co51:Value).ownBlock)) k_∧some k_≠(u13:Value).ownBlock) (Kd.R_apart' (HO419.out) (Kd.S_typed HO_13.out) (by decide)) (fun k_ hk=>⟨⟨hk.1.1.1.2,⟨hk.1.1.2,hk.1.2⟩⟩,hk.2⟩))) (fun _ h_=>h_)));(case aB=>exact bl);(case aF=>exact(fun k_ hk=>⟨Kd.fresh' (Kd.R_lt (rup HO_12.out)) k_ hk,Kd.fresh' (Kd.R_lt (rup HO_31.out)) k_ hk,Kd.fresh' (Kd.R_lt (rup HO414.out)) k_ hk⟩));(case aO=>exact(by(with_reducible repeat(first|apply Kd.S_alloc|apply Kd.S_drewN|apply Kd.S_drew));exact Kd.S_mono HO_13.out (fun k_ hk=>⟨⟨hk.1.1.1,⟨hk.1.1.2,hk.1.2⟩⟩,fun e_=>hk.2 e_⟩)));(case aS=>exact(below_size bl));(case aL=>have:=LMc31.out;omega);intro v421 w55 ho hb hg hat;rw[← Ny420.out] at ho;replace HO_12:=am (Kd.R_over' (rup HO_12.out) (Kd.S_typed (by(with_reducible repeat(first|apply Kd.S_alloc|apply Kd.S_drewN|apply Kd.S_drew));exact HO_13.out)) (by decide) hg);replace HO_31:=am (Kd.R_over' (rup HO_31.out) (Kd.S_typed (by(with_reducible repeat(first|apply Kd.S_alloc|apply Kd.S_drewN|apply Kd.S_drew));exact HO_13.out)) (by decide) hg);replace BK392:=am (blk_grown (bup BK392.out) hg (Kd.S_ne HO_13.out BK392.out (by decide)));replace BK393:=am (blk_grown (bup BK393.out) hg (Kd.S_ne HO_13.out BK393.out (by decide)));replace HO414:=am (Kd.R_over' (rup HO414.out) (Kd.S_typed (by(with_reducible repeat(first|apply Kd.S_alloc|apply Kd.S_drewN|apply Kd.S_drew));exact HO_13.out)) (by decide) hg);replace HB:=am (hb);have HO422:=am (ho);clear HO_13 HO419 ho hb hg hat;have p423:0≤(1:Int):=(by omega);have q423:1<(t412.length:Int):=od;obtain⟨ad423,e423,hx423_0⟩:=Kd.at_int (Kd.R_reads' HO414.out).2.2 1 p423 q423;obtain rfl:ad415=ad423:=(by injection e423);(try simp only[show(1:Int).toNat=1 from rfl,Nat.reduceMul,Nat.reduceEqDiff,Go.Addr.add,↓reduceIte] at hx423_0);have qi423:(1<t412.length)=True:=eq_true (by omega);(try rw[show((1:Int)).toNat=1 from rfl] at hx423_0);replace p423:=eq_true p423;replace q423:=eq_true q423)|((with_reducible refine gate_callee (f:=48) rfl ?_);refine goesL_ (some 68) rfl rfl Tryz.func48 (by kernel_rfl) rfl #[.int .i64 (rd t412 1),.int .i64 0] rfl tl ?_;(with_reducible refine(impl_distance.calls (rd t412 1) 0 t424 _ A33.out).mono ?_);rintro e w57 ⟨rfl,hb⟩;refine⟨_,rfl,?_⟩;replace HO_12:=am (Kd.R_below (rup HO_12.out) hb);replace HO_31:=am (Kd.R_below (rup HO_31.out) hb);replace HO414:=am (Kd.R_below (rup HO414.out) hb);replace HO422:=am (Kd.S_below (by(with_reducible repeat(first|apply Kd.S_alloc|apply Kd.S_drewN|apply Kd.S_drew));exact HO422.out) hb);replace BK392:=am (blk_below (bup BK392.out) hb);replace BK393:=am (blk_below (bup BK393.out) hb);replace HB:=am (below_step bl hb);(try clear hb)))
       go_roundg k1
       case measure=>have:=HK1.out;omega
       case rel=>exact⟨(y420),(wrap64 (x33_1+1)),fin2,H',⟨by have:=HK1.out;omega⟩,⟨rup (Kd.R_mono HO_12.out (fun _ hk=>hk.1.1))⟩,⟨by(with_reducible repeat(first|apply Kd.S_alloc|apply Kd.S_drewN|apply Kd.S_drew));exact Kd.S_mono HO422.out (fun _ hk=>⟨hk.1,hk.2.1⟩)⟩,⟨rup (Kd.R_mono HO_31.out (fun _ hk=>hk.1.1))⟩,⟨bup BK392.out⟩,⟨bup BK393.out⟩,⟨bl⟩⟩
     ·have c30b0:decide (a4<t416)=false:=decide_eq_false c30
      clear c30
      obtain⟨c58,H⟩:=ifp H
      have c58b0:=decide_eq_true c58
      have c58b1:decide (1<t412.length)=true:=decide_eq_true (by omega)
      clear c58
      obtain⟨t432,A59,H⟩:=bnd H
      rcases itc H with⟨c60,H⟩|⟨c60,H⟩
      ·have c60b0:decide (a4<t432)=true:=decide_eq_true c60
       clear c60
       obtain⟨y433,hy433⟩:∃ y_:List Int,y_=(([3,x33_1]:List Int)):=⟨_,rfl⟩
       replace H:(if x13_1.length<5864062014805 then(impl_faultsOf.l0 k1 l1 l2 a4 t397 (x13_1 ++ [y433]) t394 (t394.length:Int) (wrap64 (x33_1+1)) l0_0 a0_1 a3_0 a3_1 a3_2) else(none))=some r:=by subst hy433;exact H
       have Ny433:=am hy433
       clear hy433
       obtain⟨c61,H⟩:=ifp H
       have LMc61:=am c61
       clear c61
       obtain⟨y436,hy436⟩:∃ y_:List (List Int),y_=(x13_1 ++ [y433]):=⟨_,rfl⟩
       replace H:(impl_faultsOf.l0 k1 l1 l2 a4 t397 y436 t394 (t394.length:Int) (wrap64 (x33_1+1)) l0_0 a0_1 a3_0 a3_1 a3_2)=some r:=by subst hy436;exact H
       have Ny436:=am hy436
       clear hy436
       have H':=am H
       clear H
       have p403:0≤(x33_1:Int):=od
       have q403:x33_1<(t394.length:Int):=od
       obtain⟨ad403,e403,hx403_0⟩:=Kd.at_int (Kd.R_reads' HO_31.out).2.2 x33_1 p403 q403
       cases e403
       replace p403:=eq_true p403
       replace q403:=eq_true q403
       try go_wp2
       replace HO_12:=am (Kd.R_drew HO_12.out)
       replace HO_13:=am (Kd.S_drew HO_13.out)
       replace HO_31:=am (Kd.R_drew HO_31.out)
       replace BK392:=am (bD_ BK392.out)
       replace BK393:=am (bD_ BK393.out)
       replace HB:=am (below_drew1 HB.out)
       have p410:0≤(x33_1:Int):=od
       have q410:x33_1<(l1.length:Int):=od
       obtain⟨ad410,e410,hx410_0,hx410_1,hx410_2⟩:=at_T55 HR1.out x33_1 p410 q410
       have hw410_2:=hx410_2
       have hw410_1:=hx410_1
       have hw410_0:=hx410_0
       cases e410
       replace hx410_0:=(HB.out.cell (World.block_lt_of_cell? w _ hx410_0)).trans hx410_0
       replace hx410_1:=(HB.out.cell (World.block_lt_of_cell? w _ hx410_1)).trans hx410_1
       replace hx410_2:=(HB.out.cell (World.block_lt_of_cell? w _ hx410_2)).trans hx410_2
       replace p410:=eq_true p410
       replace q410:=eq_true q410
       have p411:0≤((rd t394 x33_1):Int):=od
       have q411:(rd t394 x33_1)<(l2.length:Int):=od
       obtain⟨ad411,e411,hx411_0,hx411_1,hx411_2⟩:=at_T59 HR2.out (rd t394 x33_1) p411 q411
       have hw411_2:=hx411_2
       have hw411_1:=hx411_1
       have hw411_0:=hx411_0
       cases e411
       replace hx411_0:=(HB.out.cell (World.block_lt_of_cell? w _ hx411_0)).trans hx411_0
       replace hx411_1:=(HB.out.cell (World.block_lt_of_cell? w _ hx411_1)).trans hx411_1
       replace hx411_2:=(HB.out.cell (World.block_lt_of_cell? w _ hx411_2)).trans hx411_2
       replace p411:=eq_true p411
       replace q411:=eq_true q411
       refine start_ (n:=10) (S:=fun w'=>w'.cell? (ad410.add ((x33_1).toNat*3))=some (.int .i64 ((rd_T55 l1 x33_1).f0))∧w'.cell? ⟨(ad410.add ((x33_1).toNat*3)).block,(ad410.add ((x33_1).toNat*3)).off+1,none⟩=some (.int .i64 ((rd_T55 l1 x33_1).f1))∧w'.cell? ⟨(ad410.add ((x33_1).toNat*3)).block,(ad410.add ((x33_1).toNat*3)).off+2,none⟩=some (.int .i64 ((rd_T55 l1 x33_1).f2))∧w'.cell? (ad411.add (((rd t394 x33_1)).toNat*3))=some (.int .i64 ((rd_T59 l2 (rd t394 x33_1)).f0))∧w'.cell? ⟨(ad411.add (((rd t394 x33_1)).toNat*3)).block,(ad411.add (((rd t394 x33_1)).toNat*3)).off+1,none⟩=some (.int .i64 ((rd_T59 l2 (rd t394 x33_1)).f1))∧w'.cell? ⟨(ad411.add (((rd t394 x33_1)).toNat*3)).block,(ad411.add (((rd t394 x33_1)).toNat*3)).off+2,none⟩=some (.int .i64 ((rd_T59 l2 (rd t394 x33_1)).f2))) (ds:=[]) (fl 0 10) (by kernel_rfl) rfl rfl ⟨((HB.out.cell (World.block_lt_of_cell? w _ hw410_0)).trans hw410_0),((HB.out.cell (World.block_lt_of_cell? w _ hw410_1)).trans hw410_1),((HB.out.cell (World.block_lt_of_cell? w _ hw410_2)).trans hw410_2),((HB.out.cell (World.block_lt_of_cell? w _ hw411_0)).trans hw411_0),((HB.out.cell (World.block_lt_of_cell? w _ hw411_1)).trans hw411_1),((HB.out.cell (World.block_lt_of_cell? w _ hw411_2)).trans hw411_2)⟩ (fun hHeld=>?_);refine with_tabW impl_faultsOf.tab8 impl_faultsOf.bits8 (fun HT_ HW_=>?_)
       generalize wr.drew=w62 at HO_12 HO_13 HO_31 BK392 BK393 HB hx410_0 hx410_1 hx410_2 hx411_0 hx411_1 hx411_2 hHeld ⊢
       refine pu HT_.out 0 (some 45) (fl 1 10) (h:=?_)
       refine pu HT_.out 1 (some 46) (fl 2 10) (h:=?_)
       refine pu HT_.out 2 (some 47) (fl 3 10) (h:=?_)
       refine pu HT_.out 4 (some 49) #[true,true,true,false,true,false,false,false,false,false] (h:=?_)
       refine pu HT_.out 5 (some 50) #[true,true,true,false,true,true,false,false,false,false] (h:=?_)
       refine pu HT_.out 6 (some 51) #[true,true,true,false,true,true,true,false,false,false] (h:=?_)
       refine ta HT_.out HW_.out 3 (some 48) (fl 7 10) hHeld rfl (by rintro w' ⟨s0,s1,s2,s3,s4,s5⟩;go_simp;with_reducible rfl) (h:=?_)
       refine ta HT_.out HW_.out 7 (some 52) (fl 8 10) hHeld rfl (by rintro w' ⟨s0,s1,s2,s3,s4,s5⟩;go_simp;with_reducible rfl) (h:=?_)
       refine one_ (i:=8) (N:=some 53) (fl 9 10) rfl rfl (one_of HT_.out (by kernel_rfl)) (by decide) (fun K hK=>?_)
       refine goes_ Tryz.func47 (by kernel_rfl) rfl #[.agg #[.int .i64 ((rd_T55 l1 x33_1).f0),.int .i64 ((rd_T55 l1 x33_1).f1),.int .i64 ((rd_T55 l1 x33_1).f2)],.agg #[.int .i64 ((rd_T59 l2 (rd t394 x33_1)).f0),.int .i64 ((rd_T59 l2 (rd t394 x33_1)).f1),.int .i64 ((rd_T59 l2 (rd t394 x33_1)).f2)]] (by rfl) rfl rfl tl ?_
       with_reducible refine(impl_holeErrors.calls ((rd_T55 l1 x33_1).f0) ((rd_T55 l1 x33_1).f1) ((rd_T55 l1 x33_1).f2) ((rd_T59 l2 (rd t394 x33_1)).f0) ((rd_T59 l2 (rd t394 x33_1)).f1) ((rd_T59 l2 (rd t394 x33_1)).f2) t412 _ A27.out).mono ?_
       rintro e w63 ⟨v413,rfl,ho0,hb⟩
       refine⟨_,rfl,?_⟩
       replace HO_13:=am (Kd.S_elder' (by(with_reducible repeat(first|apply Kd.S_alloc|apply Kd.S_drewN|apply Kd.S_drew));exact HO_13.out) (Kd.R_base ho0) hb)
       have HO414:=am (Kd.R_lower (Kd.R_new' (Kd.R_new' ho0 (Kd.R_lt (rup HO_12.out))) (Kd.R_lt (rup HO_31.out))) (below_size bl))
       replace HO_12:=am (Kd.R_elder' (rup HO_12.out) (Kd.R_base ho0) hb)
       replace HO_31:=am (Kd.R_elder' (rup HO_31.out) (Kd.R_base ho0) hb)
       replace BK392:=am (blk_below (bup BK392.out) hb)
       replace BK393:=am (blk_below (bup BK393.out) hb)
       replace HB:=am (below_step bl hb)
       (try clear hb)
       (try clear ho0)
       refine hK.out _ _ ⟨((HB.out.cell (World.block_lt_of_cell? w _ hw410_0)).trans hw410_0),((HB.out.cell (World.block_lt_of_cell? w _ hw410_1)).trans hw410_1),((HB.out.cell (World.block_lt_of_cell? w _ hw410_2)).trans hw410_2),((HB.out.cell (World.block_lt_of_cell? w _ hw411_0)).trans hw411_0),((HB.out.cell (World.block_lt_of_cell? w _ hw411_1)).trans hw411_1),((HB.out.cell (World.block_lt_of_cell? w _ hw411_2)).trans hw411_2)⟩ (fun hHeld=>?_)
       clear hK K
       refine norm_ (a':=?_) ?_ ?_
       rotate_left
       ·show Act.put _ (some 53) _=_
        simp only[Act.put,List.setIfInBounds_toArray,List.set_cons_zero,List.set_cons_succ,i64_w,i32_w]
        rfl
       refine pu HT_.out 9 (some 16) (fl 10 10) (h:=?_)
       refine done_ (done_of HT_.out (by kernel_rfl)) ?_
       obtain⟨Ao64,co64,eo64⟩:=Kd.R_slice HO414.out
       subst eo64
       have p415:0≤(0:Int):=(by omega)
       have q415:0<(t412.length:Int):=od
       obtain⟨ad415,e415,hx415_0⟩:=Kd.at_int (Kd.R_reads' HO414.out).2.2 0 p415 q415
       cases e415
       have qi415:(0<t412.length)=True:=eq_true (by omega)
       (try rw[show((0:Int)).toNat=0 from rfl] at hx415_0)
       (try rw[Addr.add_zero'] at hx415_0)
       replace p415:=eq_true p415
       replace q415:=eq_true q415
       try go_wp2_with (first|((with_reducible refine gate_callee (f:=48) rfl ?_);refine goesL_ (some 57) rfl rfl Tryz.func48 (by kernel_rfl) rfl #[.int .i64 (rd t412 0),.int .i64 0] rfl tl ?_;(with_reducible refine(impl_distance.calls (rd t412 0) 0 t416 _ A29.out).mono ?_);rintro e w65 ⟨rfl,hb⟩;refine⟨_,rfl,?_⟩;replace HO_12:=am (Kd.R_below (rup HO_12.out) hb);replace HO_13:=am (Kd.S_below (by(with_reducible repeat(first|apply Kd.S_alloc|apply Kd.S_drewN|apply Kd.S_drew));exact HO_13.out) hb);replace HO_31:=am (Kd.R_below (rup HO_31.out) hb);replace HO414:=am (Kd.R_below (rup HO414.out) hb);replace BK392:=am (blk_below (bup BK392.out) hb);replace BK393:=am (blk_below (bup BK393.out) hb);replace HB:=am (below_step bl hb);(try clear hb);have p431:0≤(1:Int):=(by omega);have q431:1<(t412.length:Int):=od;obtain⟨ad431,e431,hx431_0⟩:=Kd.at_int (Kd.R_reads' HO414.out).2.2 1 p431 q431;obtain rfl:ad415=ad431:=(by injection e431);(try simp only[show(1:Int).toNat=1 from rfl,Nat.reduceMul,Nat.reduceEqDiff,Go.Addr.add,↓reduceIte] at hx431_0);have qi431:(1<t412.length)=True:=eq_true (by omega);(try rw[show((1:Int)).toNat=1 from rfl] at hx431_0);replace p431:=eq_true p431;replace q431:=eq_true q431)|((with_reducible refine gate_callee (f:=48) rfl ?_);refine goesL_ (some 68) rfl rfl Tryz.func48 (by kernel_rfl) rfl #[.int .i64 (rd t412 1),.int .i64 0] rfl tl ?_;(with_reducible refine(impl_distance.calls (rd t412 1) 0 t432 _ A59.out).mono ?_);rintro e w66 ⟨rfl,hb⟩;refine⟨_,rfl,?_⟩;replace HO_12:=am (Kd.R_below (rup HO_12.out) hb);replace HO_13:=am (Kd.S_below (by(with_reducible repeat(first|apply Kd.S_alloc|apply Kd.S_drewN|apply Kd.S_drew));exact HO_13.out) hb);replace HO_31:=am (Kd.R_below (rup HO_31.out) hb);replace HO414:=am (Kd.R_below (rup HO414.out) hb);replace BK392:=am (blk_below (bup BK392.out) hb);replace BK393:=am (blk_below (bup BK393.out) hb);replace HB:=am (below_step bl hb);(try clear hb))|((with_reducible refine gate_dst (N:=73) rfl ?_);refine Kd.R_lit (Kd.int .i64) _ 3 ?hg (N:=73) ?hd (xs:=([3,x33_1]:List Int)) (inner:=[.int .i64 3,.int .i64 x33_1]) (ok:=fun _=>True) (okp:=fun _=>True) ?hr ?hp (fun _ hk=>hk) trivial (Below.refl _ _) (Nat.le_refl _) (by simp) ?_;(case hd=>rfl);(case hg=>rfl);(case hr=>first|(go_simp;done)|(go_simp;rfl));(case hp=>exact(Reps.one (show Kd.M (Kd.int .i64) _ _ _ 3 [.int .i64 3] from rfl) (Reps.one (show Kd.M (Kd.int .i64) _ _ _ x33_1 [.int .i64 x33_1] from rfl) (Reps.none _ _))));intro v434 w67 ho68 hb hg_ hnew_;clear hg_ hnew_;(first|rw[← Ny433.out] at ho68|(simp only[Int.reduceToNat] at ho68;rw[← Ny433.out] at ho68));replace HO_13:=am (Kd.S_elder' (by(with_reducible repeat(first|apply Kd.S_alloc|apply Kd.S_drewN|apply Kd.S_drew));exact HO_13.out) (Kd.R_base ho68) hb);have HO435:=am (Kd.R_lower (Kd.R_new' (Kd.R_new' (Kd.R_new' ho68 (Kd.R_lt (rup HO_12.out))) (Kd.R_lt (rup HO_31.out))) (Kd.R_lt (rup HO414.out))) (below_size bl));replace HO_12:=am (Kd.R_elder' (rup HO_12.out) (Kd.R_base ho68) hb);replace HO_31:=am (Kd.R_elder' (rup HO_31.out) (Kd.R_base ho68) hb);replace HO414:=am (Kd.R_elder' (rup HO414.out) (Kd.R_base ho68) hb);replace BK392:=am (blk_below (bup BK392.out) hb);replace BK393:=am (blk_below (bup BK393.out) hb);replace HB:=am (below_step bl hb);clear hb ho68;obtain⟨Ao70,co70,eo70⟩:=Kd.R_slice HO435.out;subst eo70)|((with_reducible refine gate_builtin (b := .append) (xs := #[.tmp 71,.tmp 74]) rfl ?_);at_builtin;refine Kd.S_append (Kd.slice 3 (Kd.int .i64)) (w0:=w) w.heap.size rfl (.tmp 71) (.tmp 74) 51 22 (.slice none 0 0) 24 rfl Tryz.underlying51 info22 rfl (by decide) (by omega) u13 x13_1 y433 [.slice Ao70 y433.length co70] (fun k_=>some k_≠(v398:Value).ownBlock∧some k_≠(.slice (some ad403) t394.length co14:Value).ownBlock∧some k_≠(.slice (some ad415) t412.length co64:Value).ownBlock) (fun k_=>some k_=(.slice Ao70 y433.length co70:Value).ownBlock) rfl rfl ?aP (fun k_ hk_=>((Kd.R_mono (ok':=fun k_=>((fun k_=>some k_≠(v398:Value).ownBlock∧some k_≠(.slice (some ad403) t394.length co14:Value).ownBlock∧some k_≠(.slice (some ad415) t412.length co64:Value).ownBlock)) k_∧some k_≠(u13:Value).ownBlock) (Kd.R_apart' (HO435.out) (Kd.S_typed HO_13.out) (by decide)) (fun k_ hk=>⟨⟨hk.1.1.1.2,⟨hk.1.1.2,hk.1.2⟩⟩,hk.2⟩))).1 k_ hk_.symm) ?aF ?aO ?aB ?aS ?aL ?_;(case aP=>exact Kd.M_row (Kd.R_mono (Kd.R_tight rfl (Kd.R_mono (ok':=fun k_=>((fun k_=>some k_≠(v398:Value).ownBlock∧some k_≠(.slice (some ad403) t394.length co14:Value).ownBlock∧some k_≠(.slice (some ad415) t412.length co64:Value).ownBlock)) k_∧some k_≠(u13:Value).ownBlock) (Kd.R_apart' (HO435.out) (Kd.S_typed HO_13.out) (by decide)) (fun k_ hk=>⟨⟨hk.1.1.1.2,⟨hk.1.1.2,hk.1.2⟩⟩,hk.2⟩))) (fun _ h_=>h_)));(case aB=>exact bl);(case aF=>exact(fun k_ hk=>⟨Kd.fresh' (Kd.R_lt (rup HO_12.out)) k_ hk,Kd.fresh' (Kd.R_lt (rup HO_31.out)) k_ hk,Kd.fresh' (Kd.R_lt (rup HO414.out)) k_ hk⟩));(case aO=>exact(by(with_reducible repeat(first|apply Kd.S_alloc|apply Kd.S_drewN|apply Kd.S_drew));exact Kd.S_mono HO_13.out (fun k_ hk=>⟨⟨hk.1.1.1,⟨hk.1.1.2,hk.1.2⟩⟩,fun e_=>hk.2 e_⟩)));(case aS=>exact(below_size bl));(case aL=>have:=LMc61.out;omega);intro v437 w69 ho hb hg hat;rw[← Ny436.out] at ho;replace HO_12:=am (Kd.R_over' (rup HO_12.out) (Kd.S_typed (by(with_reducible repeat(first|apply Kd.S_alloc|apply Kd.S_drewN|apply Kd.S_drew));exact HO_13.out)) (by decide) hg);replace HO_31:=am (Kd.R_over' (rup HO_31.out) (Kd.S_typed (by(with_reducible repeat(first|apply Kd.S_alloc|apply Kd.S_drewN|apply Kd.S_drew));exact HO_13.out)) (by decide) hg);replace BK392:=am (blk_grown (bup BK392.out) hg (Kd.S_ne HO_13.out BK392.out (by decide)));replace BK393:=am (blk_grown (bup BK393.out) hg (Kd.S_ne HO_13.out BK393.out (by decide)));replace HO414:=am (Kd.R_over' (rup HO414.out) (Kd.S_typed (by(with_reducible repeat(first|apply Kd.S_alloc|apply Kd.S_drewN|apply Kd.S_drew));exact HO_13.out)) (by decide) hg);replace HB:=am (hb);have HO438:=am (ho);clear HO_13 HO435 ho hb hg hat))
       go_roundg k1
       case measure=>have:=HK1.out;omega
       case rel=>exact⟨(y436),(wrap64 (x33_1+1)),fin2,H',⟨by have:=HK1.out;omega⟩,⟨rup (Kd.R_mono HO_12.out (fun _ hk=>hk.1.1))⟩,⟨by(with_reducible repeat(first|apply Kd.S_alloc|apply Kd.S_drewN|apply Kd.S_drew));exact Kd.S_mono HO438.out (fun _ hk=>⟨hk.1,hk.2.1⟩)⟩,⟨rup (Kd.R_mono HO_31.out (fun _ hk=>hk.1.1))⟩,⟨bup BK392.out⟩,⟨bup BK393.out⟩,⟨bl⟩⟩
      ·have c60b0:decide (a4<t432)=false:=decide_eq_false c60
       clear c60
       have H':=am H
       clear H
       have p403:0≤(x33_1:Int):=od
       have q403:x33_1<(t394.length:Int):=od
       obtain⟨ad403,e403,hx403_0⟩:=Kd.at_int (Kd.R_reads' HO_31.out).2.2 x33_1 p403 q403
       cases e403
       replace p403:=eq_true p403
       replace q403:=eq_true q403
       try go_wp2
       replace HO_12:=am (Kd.R_drew HO_12.out)
       replace HO_13:=am (Kd.S_drew HO_13.out)
       replace HO_31:=am (Kd.R_drew HO_31.out)
       replace BK392:=am (bD_ BK392.out)
       replace BK393:=am (bD_ BK393.out)
       replace HB:=am (below_drew1 HB.out)
       have p410:0≤(x33_1:Int):=od
       have q410:x33_1<(l1.length:Int):=od
       obtain⟨ad410,e410,hx410_0,hx410_1,hx410_2⟩:=at_T55 HR1.out x33_1 p410 q410
       have hw410_2:=hx410_2
       have hw410_1:=hx410_1
       have hw410_0:=hx410_0
       cases e410
       replace hx410_0:=(HB.out.cell (World.block_lt_of_cell? w _ hx410_0)).trans hx410_0
       replace hx410_1:=(HB.out.cell (World.block_lt_of_cell? w _ hx410_1)).trans hx410_1
       replace hx410_2:=(HB.out.cell (World.block_lt_of_cell? w _ hx410_2)).trans hx410_2
       replace p410:=eq_true p410
       replace q410:=eq_true q410
       have p411:0≤((rd t394 x33_1):Int):=od
       have q411:(rd t394 x33_1)<(l2.length:Int):=od
       obtain⟨ad411,e411,hx411_0,hx411_1,hx411_2⟩:=at_T59 HR2.out (rd t394 x33_1) p411 q411
       have hw411_2:=hx411_2
       have hw411_1:=hx411_1
       have hw411_0:=hx411_0
       cases e411
       replace hx411_0:=(HB.out.cell (World.block_lt_of_cell? w _ hx411_0)).trans hx411_0
       replace hx411_1:=(HB.out.cell (World.block_lt_of_cell? w _ hx411_1)).trans hx411_1
       replace hx411_2:=(HB.out.cell (World.block_lt_of_cell? w _ hx411_2)).trans hx411_2
       replace p411:=eq_true p411
       replace q411:=eq_true q411
       refine start_ (n:=10) (S:=fun w'=>w'.cell? (ad410.add ((x33_1).toNat*3))=some (.int .i64 ((rd_T55 l1 x33_1).f0))∧w'.cell? ⟨(ad410.add ((x33_1).toNat*3)).block,(ad410.add ((x33_1).toNat*3)).off+1,none⟩=some (.int .i64 ((rd_T55 l1 x33_1).f1))∧w'.cell? ⟨(ad410.add ((x33_1).toNat*3)).block,(ad410.add ((x33_1).toNat*3)).off+2,none⟩=some (.int .i64 ((rd_T55 l1 x33_1).f2))∧w'.cell? (ad411.add (((rd t394 x33_1)).toNat*3))=some (.int .i64 ((rd_T59 l2 (rd t394 x33_1)).f0))∧w'.cell? ⟨(ad411.add (((rd t394 x33_1)).toNat*3)).block,(ad411.add (((rd t394 x33_1)).toNat*3)).off+1,none⟩=some (.int .i64 ((rd_T59 l2 (rd t394 x33_1)).f1))∧w'.cell? ⟨(ad411.add (((rd t394 x33_1)).toNat*3)).block,(ad411.add (((rd t394 x33_1)).toNat*3)).off+2,none⟩=some (.int .i64 ((rd_T59 l2 (rd t394 x33_1)).f2))) (ds:=[]) (fl 0 10) (by kernel_rfl) rfl rfl ⟨((HB.out.cell (World.block_lt_of_cell? w _ hw410_0)).trans hw410_0),((HB.out.cell (World.block_lt_of_cell? w _ hw410_1)).trans hw410_1),((HB.out.cell (World.block_lt_of_cell? w _ hw410_2)).trans hw410_2),((HB.out.cell (World.block_lt_of_cell? w _ hw411_0)).trans hw411_0),((HB.out.cell (World.block_lt_of_cell? w _ hw411_1)).trans hw411_1),((HB.out.cell (World.block_lt_of_cell? w _ hw411_2)).trans hw411_2)⟩ (fun hHeld=>?_);refine with_tabW impl_faultsOf.tab8 impl_faultsOf.bits8 (fun HT_ HW_=>?_)
       generalize wr.drew=w71 at HO_12 HO_13 HO_31 BK392 BK393 HB hx410_0 hx410_1 hx410_2 hx411_0 hx411_1 hx411_2 hHeld ⊢
       refine pu HT_.out 0 (some 45) (fl 1 10) (h:=?_)
       refine pu HT_.out 1 (some 46) (fl 2 10) (h:=?_)
       refine pu HT_.out 2 (some 47) (fl 3 10) (h:=?_)
       refine pu HT_.out 4 (some 49) #[true,true,true,false,true,false,false,false,false,false] (h:=?_)
       refine pu HT_.out 5 (some 50) #[true,true,true,false,true,true,false,false,false,false] (h:=?_)
       refine pu HT_.out 6 (some 51) #[true,true,true,false,true,true,true,false,false,false] (h:=?_)
       refine ta HT_.out HW_.out 3 (some 48) (fl 7 10) hHeld rfl (by rintro w' ⟨s0,s1,s2,s3,s4,s5⟩;go_simp;with_reducible rfl) (h:=?_)
       refine ta HT_.out HW_.out 7 (some 52) (fl 8 10) hHeld rfl (by rintro w' ⟨s0,s1,s2,s3,s4,s5⟩;go_simp;with_reducible rfl) (h:=?_)
       refine one_ (i:=8) (N:=some 53) (fl 9 10) rfl rfl (one_of HT_.out (by kernel_rfl)) (by decide) (fun K hK=>?_)
       refine goes_ Tryz.func47 (by kernel_rfl) rfl #[.agg #[.int .i64 ((rd_T55 l1 x33_1).f0),.int .i64 ((rd_T55 l1 x33_1).f1),.int .i64 ((rd_T55 l1 x33_1).f2)],.agg #[.int .i64 ((rd_T59 l2 (rd t394 x33_1)).f0),.int .i64 ((rd_T59 l2 (rd t394 x33_1)).f1),.int .i64 ((rd_T59 l2 (rd t394 x33_1)).f2)]] (by rfl) rfl rfl tl ?_
       with_reducible refine(impl_holeErrors.calls ((rd_T55 l1 x33_1).f0) ((rd_T55 l1 x33_1).f1) ((rd_T55 l1 x33_1).f2) ((rd_T59 l2 (rd t394 x33_1)).f0) ((rd_T59 l2 (rd t394 x33_1)).f1) ((rd_T59 l2 (rd t394 x33_1)).f2) t412 _ A27.out).mono ?_
       rintro e w72 ⟨v413,rfl,ho0,hb⟩
       refine⟨_,rfl,?_⟩
       replace HO_13:=am (Kd.S_elder' (by(with_reducible repeat(first|apply Kd.S_alloc|apply Kd.S_drewN|apply Kd.S_drew));exact HO_13.out) (Kd.R_base ho0) hb)
       have HO414:=am (Kd.R_lower (Kd.R_new' (Kd.R_new' ho0 (Kd.R_lt (rup HO_12.out))) (Kd.R_lt (rup HO_31.out))) (below_size bl))
       replace HO_12:=am (Kd.R_elder' (rup HO_12.out) (Kd.R_base ho0) hb)
       replace HO_31:=am (Kd.R_elder' (rup HO_31.out) (Kd.R_base ho0) hb)
       replace BK392:=am (blk_below (bup BK392.out) hb)
       replace BK393:=am (blk_below (bup BK393.out) hb)
       replace HB:=am (below_step bl hb)
       (try clear hb)
       (try clear ho0)
       refine hK.out _ _ ⟨((HB.out.cell (World.block_lt_of_cell? w _ hw410_0)).trans hw410_0),((HB.out.cell (World.block_lt_of_cell? w _ hw410_1)).trans hw410_1),((HB.out.cell (World.block_lt_of_cell? w _ hw410_2)).trans hw410_2),((HB.out.cell (World.block_lt_of_cell? w _ hw411_0)).trans hw411_0),((HB.out.cell (World.block_lt_of_cell? w _ hw411_1)).trans hw411_1),((HB.out.cell (World.block_lt_of_cell? w _ hw411_2)).trans hw411_2)⟩ (fun hHeld=>?_)
       clear hK K
       refine norm_ (a':=?_) ?_ ?_
       rotate_left
       ·show Act.put _ (some 53) _=_
        simp only[Act.put,List.setIfInBounds_toArray,List.set_cons_zero,List.set_cons_succ,i64_w,i32_w]
        rfl
       refine pu HT_.out 9 (some 16) (fl 10 10) (h:=?_)
       refine done_ (done_of HT_.out (by kernel_rfl)) ?_
       obtain⟨Ao73,co73,eo73⟩:=Kd.R_slice HO414.out
       subst eo73
       have p415:0≤(0:Int):=(by omega)
       have q415:0<(t412.length:Int):=od
       obtain⟨ad415,e415,hx415_0⟩:=Kd.at_int (Kd.R_reads' HO414.out).2.2 0 p415 q415
       cases e415
       have qi415:(0<t412.length)=True:=eq_true (by omega)
       (try rw[show((0:Int)).toNat=0 from rfl] at hx415_0)
       (try rw[Addr.add_zero'] at hx415_0)
       replace p415:=eq_true p415
       replace q415:=eq_true q415
       try go_wp2_with (first|((with_reducible refine gate_callee (f:=48) rfl ?_);refine goesL_ (some 57) rfl rfl Tryz.func48 (by kernel_rfl) rfl #[.int .i64 (rd t412 0),.int .i64 0] rfl tl ?_;(with_reducible refine(impl_distance.calls (rd t412 0) 0 t416 _ A29.out).mono ?_);rintro e w74 ⟨rfl,hb⟩;refine⟨_,rfl,?_⟩;replace HO_12:=am (Kd.R_below (rup HO_12.out) hb);replace HO_13:=am (Kd.S_below (by(with_reducible repeat(first|apply Kd.S_alloc|apply Kd.S_drewN|apply Kd.S_drew));exact HO_13.out) hb);replace HO_31:=am (Kd.R_below (rup HO_31.out) hb);replace HO414:=am (Kd.R_below (rup HO414.out) hb);replace BK392:=am (blk_below (bup BK392.out) hb);replace BK393:=am (blk_below (bup BK393.out) hb);replace HB:=am (below_step bl hb);(try clear hb);have p431:0≤(1:Int):=(by omega);have q431:1<(t412.length:Int):=od;obtain⟨ad431,e431,hx431_0⟩:=Kd.at_int (Kd.R_reads' HO414.out).2.2 1 p431 q431;obtain rfl:ad415=ad431:=(by injection e431);(try simp only[show(1:Int).toNat=1 from rfl,Nat.reduceMul,Nat.reduceEqDiff,Go.Addr.add,↓reduceIte] at hx431_0);have qi431:(1<t412.length)=True:=eq_true (by omega);(try rw[show((1:Int)).toNat=1 from rfl] at hx431_0);replace p431:=eq_true p431;replace q431:=eq_true q431)|((with_reducible refine gate_callee (f:=48) rfl ?_);refine goesL_ (some 68) rfl rfl Tryz.func48 (by kernel_rfl) rfl #[.int .i64 (rd t412 1),.int .i64 0] rfl tl ?_;(with_reducible refine(impl_distance.calls (rd t412 1) 0 t432 _ A59.out).mono ?_);rintro e w75 ⟨rfl,hb⟩;refine⟨_,rfl,?_⟩;replace HO_12:=am (Kd.R_below (rup HO_12.out) hb);replace HO_13:=am (Kd.S_below (by(with_reducible repeat(first|apply Kd.S_alloc|apply Kd.S_drewN|apply Kd.S_drew));exact HO_13.out) hb);replace HO_31:=am (Kd.R_below (rup HO_31.out) hb);replace HO414:=am (Kd.R_below (rup HO414.out) hb);replace BK392:=am (blk_below (bup BK392.out) hb);replace BK393:=am (blk_below (bup BK393.out) hb);replace HB:=am (below_step bl hb);(try clear hb)))
       go_roundg k1
       case measure=>have:=HK1.out;omega
       case rel=>exact⟨(x13_1),(wrap64 (x33_1+1)),fin2,H',⟨by have:=HK1.out;omega⟩,⟨rup (Kd.R_mono HO_12.out (fun _ hk=>hk.1))⟩,⟨by(with_reducible repeat(first|apply Kd.S_alloc|apply Kd.S_drewN|apply Kd.S_drew));exact Kd.S_mono HO_13.out (fun _ hk=>⟨hk.1.1,hk.1.2⟩)⟩,⟨rup (Kd.R_mono HO_31.out (fun _ hk=>hk.1))⟩,⟨bup BK392.out⟩,⟨bup BK393.out⟩,⟨bl⟩⟩
   ·have c15b0:=decide_eq_false c15
    clear c15
    have H':=am H
    clear H
    obtain⟨Ao76,co76,eo76⟩:=Kd.R_slice HO_12.out
    subst eo76
    go_wp2
    go_loopg [13,79] k1 (fun kq v13 v79 w'=>∃(x13_2:List (List Int)) (x79_2:Int),v79 = .int .i64 x79_2∧Aside0 (impl_faultsOf.l1 kq l2 x13_2 t397 (t397.length:Int) x79_2 l0_0 a0_1 a3_0 a3_1 a3_2=some r)∧Aside0 (kq≤k1)∧Aside0 (Kd.S (Kd.slice 3 (Kd.int .i64)) 22 w' w.heap.size (fun k_=>some k_≠((.slice Ao76 t397.length co76):Value).ownBlock) v13 x13_2)∧Aside0 (Kd.R (Kd.int .i64) 3 w' w.heap.size (fun _=>True) (.slice Ao76 t397.length co76) t397)∧Aside0 (w'.heap[gb392]?=some (.cells #[(.slice A0_0 l0_0.length c0_0),.int .i64 a0_1] 34 (0,0)))∧Aside0 (w'.heap[gb393]?=some (.cells #[.int .i64 a3_0,.int .i64 a3_1,.int .i64 a3_2] 40 (0,0)))∧Aside0 (Below w.heap.size w w'))
    case atStart=>exact⟨(x13_1),(0),fin2,H',⟨Nat.le_refl _⟩,⟨by(with_reducible repeat(first|apply Kd.S_alloc|apply Kd.S_drewN|apply Kd.S_drew));exact Kd.S_mono HO_13.out (fun _ hk=>hk.1)⟩,⟨rup (Kd.R_mono HO_12.out (fun _ hk=>trivial))⟩,⟨bup BK392.out⟩,⟨bup BK393.out⟩,⟨bl⟩⟩
    case round =>
     clear H'
     try clear c15b0
     obtain⟨x13_2,x79_2,rfl,HA,HK2,HO_13,HO_77,BK392,BK393,HB⟩:=hrel
     cases gk with
     | zero=>exact absurd HA.out (by simp [impl_faultsOf.l1])
     | succ k2 =>
      have H:=HA.out
      clear HA
      simp only[impl_faultsOf.l1] at H
      rcases itc H with⟨c77,H⟩|⟨c77,H⟩
      ·have c77b0:=decide_eq_true c77
       clear c77
       obtain⟨c78b0,H⟩:=ifb H
       obtain⟨c79b0,H⟩:=ifb H
       obtain⟨y440,hy440⟩:∃ y_:List Int,y_=(([1,rd t397 x79_2]:List Int)):=⟨_,rfl⟩
       replace H:(if x13_2.length<5864062014805 then(impl_faultsOf.l1 k2 l2 (x13_2 ++ [y440]) t397 (t397.length:Int) (wrap64 (x79_2+1)) l0_0 a0_1 a3_0 a3_1 a3_2) else(none))=some r:=by subst hy440;exact H
       have Ny440:=am hy440
       clear hy440
       obtain⟨c80,H⟩:=ifp H
       have LMc80:=am c80
       clear c80
       obtain⟨y443,hy443⟩:∃ y_:List (List Int),y_=(x13_2 ++ [y440]):=⟨_,rfl⟩
       replace H:(impl_faultsOf.l1 k2 l2 y443 t397 (t397.length:Int) (wrap64 (x79_2+1)) l0_0 a0_1 a3_0 a3_1 a3_2)=some r:=by subst hy443;exact H
       have Ny443:=am hy443
       clear hy443
       have H':=am H
       clear H
       have p439:0≤(x79_2:Int):=od
       have q439:x79_2<(t397.length:Int):=od
       obtain⟨ad439,e439,hx439_0⟩:=Kd.at_int (Kd.R_reads' HO_77.out).2.2 x79_2 p439 q439
       cases e439
       replace p439:=eq_true p439
       replace q439:=eq_true q439
       go_wp2_with (first|((with_reducible refine gate_dst (N:=85) rfl ?_);refine Kd.R_lit (Kd.int .i64) _ 3 ?hg (N:=85) ?hd (xs:=([1,rd t397 x79_2]:List Int)) (inner:=[.int .i64 1,.int .i64 (rd t397 x79_2)]) (ok:=fun _=>True) (okp:=fun _=>True) ?hr ?hp (fun _ hk=>hk) trivial (Below.refl _ _) (Nat.le_refl _) (by simp) ?_;(case hd=>rfl);(case hg=>rfl);(case hr=>first|(go_simp;done)|(go_simp;rfl));(case hp=>exact(Reps.one (show Kd.M (Kd.int .i64) _ _ _ 1 [.int .i64 1] from rfl) (Reps.one (show Kd.M (Kd.int .i64) _ _ _ (rd t397 x79_2) [.int .i64 (rd t397 x79_2)] from rfl) (Reps.none _ _))));intro v441 w81 ho82 hb hg_ hnew_;clear hg_ hnew_;(first|rw[← Ny440.out] at ho82|(simp only[Int.reduceToNat] at ho82;rw[← Ny440.out] at ho82));replace HO_13:=am (Kd.S_elder' (by(with_reducible repeat(first|apply Kd.S_alloc|apply Kd.S_drewN|apply Kd.S_drew));exact HO_13.out) (Kd.R_base ho82) hb);have HO442:=am (Kd.R_lower (Kd.R_new' ho82 (Kd.R_lt (rup HO_77.out))) (below_size bl));replace HO_77:=am (Kd.R_elder' (rup HO_77.out) (Kd.R_base ho82) hb);replace BK392:=am (blk_below (bup BK392.out) hb);replace BK393:=am (blk_below (bup BK393.out) hb);replace HB:=am (below_step bl hb);clear hb ho82;obtain⟨Ao84,co84,eo84⟩:=Kd.R_slice HO442.out;subst eo84)|((with_reducible refine gate_builtin (b := .append) (xs := #[.tmp 83,.tmp 86]) rfl ?_);at_builtin;refine Kd.S_append (Kd.slice 3 (Kd.int .i64)) (w0:=w) w.heap.size rfl (.tmp 83) (.tmp 86) 51 22 (.slice none 0 0) 24 rfl Tryz.underlying51 info22 rfl (by decide) (by omega) u13 x13_2 y440 [.slice Ao84 y440.length co84] (fun k_=>some k_≠(.slice (some ad439) t397.length co76:Value).ownBlock) (fun k_=>some k_=(.slice Ao84 y440.length co84:Value).ownBlock) rfl rfl ?aP (fun k_ hk_=>((Kd.R_mono (ok':=fun k_=>((fun k_=>some k_≠(.slice (some ad439) t397.length co76:Value).ownBlock)) k_∧some k_≠(u13:Value).ownBlock) (Kd.R_apart' (HO442.out) (Kd.S_typed HO_13.out) (by decide)) (fun k_ hk=>⟨hk.1.2,hk.2⟩))).1 k_ hk_.symm) ?aF ?aO ?aB ?aS ?aL ?_;(case aP=>exact Kd.M_row (Kd.R_mono (Kd.R_tight rfl (Kd.R_mono (ok':=fun k_=>((fun k_=>some k_≠(.slice (some ad439) t397.length co76:Value).ownBlock)) k_∧some k_≠(u13:Value).ownBlock) (Kd.R_apart' (HO442.out) (Kd.S_typed HO_13.out) (by decide)) (fun k_ hk=>⟨hk.1.2,hk.2⟩))) (fun _ h_=>h_)));(case aB=>exact bl);(case aF=>exact(fun k_ hk=>Kd.fresh' (Kd.R_lt (rup HO_77.out)) k_ hk));(case aO=>exact(by(with_reducible repeat(first|apply Kd.S_alloc|apply Kd.S_drewN|apply Kd.S_drew));exact Kd.S_mono HO_13.out (fun k_ hk=>⟨hk.1,fun e_=>hk.2 e_⟩)));(case aS=>exact(below_size bl));(case aL=>have:=LMc80.out;omega);intro v444 w83 ho hb hg hat;rw[← Ny443.out] at ho;replace HO_77:=am (Kd.R_over' (rup HO_77.out) (Kd.S_typed (by(with_reducible repeat(first|apply Kd.S_alloc|apply Kd.S_drewN|apply Kd.S_drew));exact HO_13.out)) (by decide) hg);replace BK392:=am (blk_grown (bup BK392.out) hg (Kd.S_ne HO_13.out BK392.out (by decide)));replace BK393:=am (blk_grown (bup BK393.out) hg (Kd.S_ne HO_13.out BK393.out (by decide)));replace HB:=am (hb);have HO445:=am (ho);clear HO_13 HO442 ho hb hg hat))
       go_roundg k2
       case measure=>have:=HK1.out;have:=HK2.out;omega
       case rel=>exact⟨(y443),(wrap64 (x79_2+1)),fin2,H',⟨by have:=HK1.out;have:=HK2.out;omega⟩,⟨by(with_reducible repeat(first|apply Kd.S_alloc|apply Kd.S_drewN|apply Kd.S_drew));exact HO445.out⟩,⟨rup (Kd.R_mono HO_77.out (fun _ hk=>trivial))⟩,⟨bup BK392.out⟩,⟨bup BK393.out⟩,⟨bl⟩⟩
      ·have c77b0:=decide_eq_false c77
       clear c77
       obtain⟨⟨t446,t449⟩,A85,H⟩:=bnd H;dsimp only at H
       have H':=am H
       clear H
       have hnb86:=NB392_393.out
       have hnc86:=NB393_392.out
       have hcz87_0:=bc BK392.out 0
       have hcz87_1:=bc BK392.out 1
       have hfz87_0:=blk_frozen BK392.out 0
       have hfz87_1:=blk_frozen BK392.out 1
       have hcz88_0:=bc BK393.out 0
       have hcz88_1:=bc BK393.out 1
       have hcz88_2:=bc BK393.out 2
       have hfz88_0:=blk_frozen BK393.out 0
       have hfz88_1:=blk_frozen BK393.out 1
       have hfz88_2:=blk_frozen BK393.out 2
       go_wp2_with (first|((with_reducible refine gate_callee (f:=49) rfl ?_);refine goesL_ (some 93) rfl rfl Tryz.func49 (by kernel_rfl) rfl #[.agg #[.slice A0_0 l0_0.length c0_0,.int .i64 a0_1],.slice A2 l2.length c2,.agg #[.int .i64 a3_0,.int .i64 a3_1,.int .i64 a3_2]] rfl tl ?_;(with_reducible refine(impl_spoken.calls k2 _ _ l0_0 a0_1 _ _ l2 a3_0 a3_1 a3_2 t446 t449 _ ?side1 ?side2 ?side3 ?side4 A85.out).mono ?_);(case side1=>exact cup (Kd.C_below HR0_0.out HB.out));(case side2=>exact HC0_0.out);(case side3=>exact cup (Kd.C_below HR2.out HB.out));(case side4=>exact HC2.out);rintro e w89 ⟨v447,v450,rfl,ho0,ho1,hb⟩;refine⟨_,rfl,?_⟩;replace HO_13:=am (Kd.S_elder' (by(with_reducible repeat(first|apply Kd.S_alloc|apply Kd.S_drewN|apply Kd.S_drew));exact HO_13.out) (Kd.R_base ho1) hb);have HO448:=am (Kd.R_lower ho0 (below_size bl));have HO451:=am (Kd.R_lower (Kd.R_new' ho1 (Kd.R_lt (rup HO_77.out))) (below_size bl));replace HO_77:=am (Kd.R_elder' (rup HO_77.out) (Kd.R_base ho1) hb);replace BK392:=am (blk_below (bup BK392.out) hb);replace BK393:=am (blk_below (bup BK393.out) hb);replace HB:=am (below_step bl hb);(try clear hb);(try clear ho0);(try clear ho1);obtain⟨Ao90,co90,eo90⟩:=Kd.R_slice HO451.out;subst eo90))
       go_loopg [13,98] k2 (fun kq v13 v98 w'=>∃(x13_3:List (List Int)) (x98_3:Int),v98 = .int .i64 x98_3∧Aside0 (impl_faultsOf.l2 kq x13_3 t449 (t449.length:Int) x98_3=some r)∧Aside0 (kq≤k2)∧Aside0 (Kd.S (Kd.slice 3 (Kd.int .i64)) 22 w' w.heap.size (fun k_=>some k_≠((.slice Ao90 t449.length co90):Value).ownBlock) v13 x13_3)∧Aside0 (Kd.R (Kd.int .i64) 3 w' w.heap.size (fun _=>True) (.slice Ao90 t449.length co90) t449)∧Aside0 (w'.heap[gb392]?=some (.cells #[(.slice A0_0 l0_0.length c0_0),.int .i64 a0_1] 34 (0,0)))∧Aside0 (w'.heap[gb393]?=some (.cells #[.int .i64 a3_0,.int .i64 a3_1,.int .i64 a3_2] 40 (0,0)))∧Aside0 (Below w.heap.size w w'))
       case atStart=>exact⟨(x13_2),(0),fin2,H',⟨Nat.le_refl _⟩,⟨by(with_reducible repeat(first|apply Kd.S_alloc|apply Kd.S_drewN|apply Kd.S_drew));exact Kd.S_mono HO_13.out (fun _ hk=>hk.2)⟩,⟨rup (Kd.R_mono HO451.out (fun _ hk=>trivial))⟩,⟨bup BK392.out⟩,⟨bup BK393.out⟩,⟨bl⟩⟩
       case round =>
        clear H'
        try clear c77b0
        try clear hcz87_0
        try clear hcz87_1
        try clear hcz88_0
        try clear hcz88_1
        try clear hcz88_2
        try clear hfz87_0
        try clear hfz87_1
        try clear hfz88_0
        try clear hfz88_1
        try clear hfz88_2
        obtain⟨x13_3,x98_3,rfl,HA,HK3,HO_13,HO_96,BK392,BK393,HB⟩:=hrel
        cases gk with
        | zero=>exact absurd HA.out (by simp [impl_faultsOf.l2])
        | succ k3 =>
         have H:=HA.out
         clear HA
         simp only[impl_faultsOf.l2] at H
         rcases itc H with⟨c91,H⟩|⟨c91,H⟩
         ·have c91b0:=decide_eq_true c91
          clear c91
          obtain⟨c92b0,H⟩:=ifb H
          obtain⟨c93b0,H⟩:=ifb H
          obtain⟨y453,hy453⟩:∃ y_:List Int,y_=(([4,rd t449 x98_3]:List Int)):=⟨_,rfl⟩
          replace H:(if x13_3.length<5864062014805 then(impl_faultsOf.l2 k3 (x13_3 ++ [y453]) t449 (t449.length:Int) (wrap64 (x98_3+1))) else(none))=some r:=by subst hy453;exact H
          have Ny453:=am hy453
          clear hy453
          obtain⟨c94,H⟩:=ifp H
          have LMc94:=am c94
          clear c94
          obtain⟨y456,hy456⟩:∃ y_:List (List Int),y_=(x13_3 ++ [y453]):=⟨_,rfl⟩
          replace H:(impl_faultsOf.l2 k3 y456 t449 (t449.length:Int) (wrap64 (x98_3+1)))=some r:=by subst hy456;exact H
          have Ny456:=am hy456
          clear hy456
          have H':=am H
          clear H
          have p452:0≤(x98_3:Int):=od
          have q452:x98_3<(t449.length:Int):=od
          obtain⟨ad452,e452,hx452_0⟩:=Kd.at_int (Kd.R_reads' HO_96.out).2.2 x98_3 p452 q452
          cases e452
          replace p452:=eq_true p452
          replace q452:=eq_true q452
          go_wp2_with (first|((with_reducible refine gate_dst (N:=104) rfl ?_);refine Kd.R_lit (Kd.int .i64) _ 3 ?hg (N:=104) ?hd (xs:=([4,rd t449 x98_3]:List Int)) (inner:=[.int .i64 4,.int .i64 (rd t449 x98_3)]) (ok:=fun _=>True) (okp:=fun _=>True) ?hr ?hp (fun _ hk=>hk) trivial (Below.refl _ _) (Nat.le_refl _) (by simp) ?_;(case hd=>rfl);(case hg=>rfl);(case hr=>first|(go_simp;done)|(go_simp;rfl));(case hp=>exact(Reps.one (show Kd.M (Kd.int .i64) _ _ _ 4 [.int .i64 4] from rfl) (Reps.one (show Kd.M (Kd.int .i64) _ _ _ (rd t449 x98_3) [.int .i64 (rd t449 x98_3)] from rfl) (Reps.none _ _))));intro v454 w95 ho96 hb hg_ hnew_;clear hg_ hnew_;(first|rw[← Ny453.out] at ho96|(simp only[Int.reduceToNat] at ho96;rw[← Ny453.out] at ho96));replace HO_13:=am (Kd.S_elder' (by(with_reducible repeat(first|apply Kd.S_alloc|apply Kd.S_drewN|apply Kd.S_drew));exact HO_13.out) (Kd.R_base ho96) hb);have HO455:=am (Kd.R_lower (Kd.R_new' ho96 (Kd.R_lt (rup HO_96.out))) (below_size bl));replace HO_96:=am (Kd.R_elder' (rup HO_96.out) (Kd.R_base ho96) hb);replace BK392:=am (blk_below (bup BK392.out) hb);replace BK393:=am (blk_below (bup BK393.out) hb);replace HB:=am (below_step bl hb);clear hb ho96;obtain⟨Ao98,co98,eo98⟩:=Kd.R_slice HO455.out;subst eo98)|((with_reducible refine gate_builtin (b := .append) (xs := #[.tmp 102,.tmp 105]) rfl ?_);at_builtin;refine Kd.S_append (Kd.slice 3 (Kd.int .i64)) (w0:=w) w.heap.size rfl (.tmp 102) (.tmp 105) 51 22 (.slice none 0 0) 24 rfl Tryz.underlying51 info22 rfl (by decide) (by omega) u13 x13_3 y453 [.slice Ao98 y453.length co98] (fun k_=>some k_≠(.slice (some ad452) t449.length co90:Value).ownBlock) (fun k_=>some k_=(.slice Ao98 y453.length co98:Value).ownBlock) rfl rfl ?aP (fun k_ hk_=>((Kd.R_mono (ok':=fun k_=>((fun k_=>some k_≠(.slice (some ad452) t449.length co90:Value).ownBlock)) k_∧some k_≠(u13:Value).ownBlock) (Kd.R_apart' (HO455.out) (Kd.S_typed HO_13.out) (by decide)) (fun k_ hk=>⟨hk.1.2,hk.2⟩))).1 k_ hk_.symm) ?aF ?aO ?aB ?aS ?aL ?_;(case aP=>exact Kd.M_row (Kd.R_mono (Kd.R_tight rfl (Kd.R_mono (ok':=fun k_=>((fun k_=>some k_≠(.slice (some ad452) t449.length co90:Value).ownBlock)) k_∧some k_≠(u13:Value).ownBlock) (Kd.R_apart' (HO455.out) (Kd.S_typed HO_13.out) (by decide)) (fun k_ hk=>⟨hk.1.2,hk.2⟩))) (fun _ h_=>h_)));(case aB=>exact bl);(case aF=>exact(fun k_ hk=>Kd.fresh' (Kd.R_lt (rup HO_96.out)) k_ hk));(case aO=>exact(by(with_reducible repeat(first|apply Kd.S_alloc|apply Kd.S_drewN|apply Kd.S_drew));exact Kd.S_mono HO_13.out (fun k_ hk=>⟨hk.1,fun e_=>hk.2 e_⟩)));(case aS=>exact(below_size bl));(case aL=>have:=LMc94.out;omega);intro v457 w97 ho hb hg hat;rw[← Ny456.out] at ho;replace HO_96:=am (Kd.R_over' (rup HO_96.out) (Kd.S_typed (by(with_reducible repeat(first|apply Kd.S_alloc|apply Kd.S_drewN|apply Kd.S_drew));exact HO_13.out)) (by decide) hg);replace BK392:=am (blk_grown (bup BK392.out) hg (Kd.S_ne HO_13.out BK392.out (by decide)));replace BK393:=am (blk_grown (bup BK393.out) hg (Kd.S_ne HO_13.out BK393.out (by decide)));replace HB:=am (hb);have HO458:=am (ho);clear HO_13 HO455 ho hb hg hat))
          go_roundg k3
          case measure=>have:=HK1.out;have:=HK2.out;have:=HK3.out;omega
          case rel=>exact⟨(y456),(wrap64 (x98_3+1)),fin2,H',⟨by have:=HK1.out;have:=HK2.out;have:=HK3.out;omega⟩,⟨by(with_reducible repeat(first|apply Kd.S_alloc|apply Kd.S_drewN|apply Kd.S_drew));exact HO458.out⟩,⟨rup (Kd.R_mono HO_96.out (fun _ hk=>trivial))⟩,⟨bup BK392.out⟩,⟨bup BK393.out⟩,⟨bl⟩⟩
         ·have c91b0:=decide_eq_false c91
          clear c91
          have HSR:=am H
          clear H
          go_wp2_with (go_at_call 50;refine(slices_SortFunc_int_int.calls (fun _=>True) _ _ _ w _ bl (by(with_reducible repeat(first|apply Kd.S_alloc|apply Kd.S_drewN|apply Kd.S_drew));exact Kd.S_mono HO_13.out (fun _ _=>trivial)) HSR.out).mono ?_;rintro e w' ⟨rfl,hS_,hB_,hK_⟩;have HS1:=am hS_;have HB1:=am hB_;clear hS_ hB_ hK_)
          go_ret
          exact⟨_,by first|rfl|(simp [errW_none,errW_some]<;>rfl),by(with_reducible repeat(first|apply Kd.S_alloc|apply Kd.S_drewN|apply Kd.S_drew));exact Kd.S_mono HS1.out (fun _ hk=>trivial),by repeat(first|(with_reducible first|exact HB1.out|apply below_alloc|apply pw_below_drewN|apply below_drew1|refine below_set ?_ GE392.out|refine below_set ?_ GE393.out)|exact HB1.out)⟩

end Go.Proofs.YtipklbjbgbbgpaaGreat.PFnExactShiftToPass
