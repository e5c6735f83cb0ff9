/- The walks of functions that FnExactLeastTolerance reaches: what they return is what the plain functions of the same names say. Laid by a program of this session after the kit's print. No conditions beyond the arguments' being read. -/
import Derived.Test.YtipklbjbgbbgpaaSLeastTolerance0
import Derived.Test.YtipklbjbgbbgpaaSLeastTolerance15
import Derived.Test.YtipklbjbgbbgpaaSLeastTolerance16
import Derived.Test.YtipklbjbgbbgpaaSLeastTolerance17
namespace Go.Proofs.Ytipklbjbgbbgpaa.PFnExactLeastTolerance
open Go.RowKit Go.Proofs.YtipklbjbgbbgpaaW.PrintWords Go.Proofs.YtipklbjbgbbgpaaW.PrintLast Go.Proofs.YtipklbjbgbbgpaaW.PrintMore
attribute [local go_sem] max2_int min2_int max_two min_two max_three min_three max_four min_four   -- for this text's walks alone
set_option linter.unusedVariables false
set_option linter.unusedSimpArgs false

mutual
def impl_faultsOf.l0:Nat→List (S62)→List (S66)→Int→List Int→List (List Int)→List Int→Int→Int→List Int→Int→Int→Int→Int→Option ((List (List Int)))
 | 0,_,_,_,_,_,_,_,_,_,_,_,_,_=>none
 | k+1,x1,x2,x4,x12,x13,x31,x32,x33,x372000,x372001,x373000,x373001,x373002=>if x33<x32 then(if 0≤x33 then(if x33<(x31.length:Int) then(if(rd x31 x33)<0 then(if x13.length<5864062014805 then(impl_faultsOf.l0 k x1 x2 x4 x12 (x13 ++ [(([0,x33]:List Int))]) x31 x32 (wrap64 (x33+1)) x372000 x372001 x373000 x373001 x373002) else(none)) else(if x33<(x1.length:Int) then(if 0≤(rd x31 x33) then(if(rd x31 x33)<(x2.length:Int) then((impl_holeErrors.f ((rd_T62 x1 x33).f0) ((rd_T62 x1 x33).f1) ((rd_T62 x1 x33).f2) ((rd_T66 x2 (rd x31 x33)).f0) ((rd_T66 x2 (rd x31 x33)).f1) ((rd_T66 x2 (rd x31 x33)).f2)).bind fun t391=>(if 0<(t391.length:Int) then((impl_distance.f (rd t391 0) 0).bind fun t395=>(if t395>x4 then(if x13.length<5864062014805 then((some (x13 ++ [(([2,x33]:List Int))]:List (List Int))).bind fun y399=>(if 1<(t391.length:Int) then((impl_distance.f (rd t391 1) 0).bind fun t403=>(if t403>x4 then(if y399.length<5864062014805 then(impl_faultsOf.l0 k x1 x2 x4 x12 (y399 ++ [(([3,x33]:List Int))]) x31 x32 (wrap64 (x33+1)) x372000 x372001 x373000 x373001 x373002) else(none)) else(impl_faultsOf.l0 k x1 x2 x4 x12 y399 x31 x32 (wrap64 (x33+1)) x372000 x372001 x373000 x373001 x373002))) else(none))) else(none)) else(if 1<(t391.length:Int) then((impl_distance.f (rd t391 1) 0).bind fun t411=>(if t411>x4 then(if x13.length<5864062014805 then(impl_faultsOf.l0 k x1 x2 x4 x12 (x13 ++ [(([3,x33]:List Int))]) x31 x32 (wrap64 (x33+1)) x372000 x372001 x373000 x373001 x373002) else(none)) else(impl_faultsOf.l0 k x1 x2 x4 x12 x13 x31 x32 (wrap64 (x33+1)) x372000 x372001 x373000 x373001 x373002))) else(none)))) else(none))) else(none)) else(none)) else(none))) else(none)) else(none)) else(impl_faultsOf.l1 k x2 x13 x12 (x12.length:Int) 0 x372000 x372001 x373000 x373001 x373002)
def impl_faultsOf.l1:Nat→List (S66)→List (List Int)→List Int→Int→Int→List Int→Int→Int→Int→Int→Option ((List (List Int)))
 | 0,_,_,_,_,_,_,_,_,_,_=>none
 | k+1,x2,x13,x77,x78,x79,x372000,x372001,x373000,x373001,x373002=>if x79<x78 then(if 0≤x79 then(if x79<(x77.length:Int) then(if x13.length<5864062014805 then(impl_faultsOf.l1 k x2 (x13 ++ [(([1,rd x77 x79]:List Int))]) x77 x78 (wrap64 (x79+1)) x372000 x372001 x373000 x373001 x373002) else(none)) else(none)) else(none)) else((impl_spoken.f k x372000 x372001 x2 x373000 x373001 x373002).bind fun bt425=>(impl_faultsOf.l2 k x13 bt425.2 (bt425.2.length:Int) 0))
def impl_faultsOf.l2:Nat→List (List Int)→List Int→Int→Int→Option ((List (List Int)))
 | 0,_,_,_,_=>none
 | k+1,x13,x96,x97,x98=>if x98<x97 then(if 0≤x98 then(if x98<(x96.length:Int) then(if x13.length<5864062014805 then(impl_faultsOf.l2 k (x13 ++ [(([4,rd x96 x98]:List Int))]) x96 x97 (wrap64 (x98+1))) else(none)) else(none)) else(none)) else(slices_SortFunc_int_int.f x13)
end
def impl_faultsOf.f (k:Nat) (l0_0:List Int) (a0_1:Int) (l1:List (S62)) (l2:List (S66)) (a3_0:Int) (a3_1:Int) (a3_2:Int) (a4:Int):Option ((List (List Int))):=(impl_matched.f k l0_0 a0_1 l1 l2).bind fun bt373=>(impl_faultsOf.l0 k l1 l2 a4 bt373.2 (([]:List (List Int))) bt373.1 (bt373.1.length:Int) 0 l0_0 a0_1 a3_0 a3_1 a3_2)
def impl_faultsOf.T8:Bool×List (List Nat×List Nat):=(true,[([],[]),([],[]),([0,1],[0,1]),([2],[2]),([],[]),([],[]),([4,5],[4,5]),([6],[6]),([3,7],[3,7]),([8,8,0,1,2,3,4,5,6,7,8],[8])])
def impl_faultsOf.B8:List Nat:=[0,0,3,7,0,0,48,112,255,511]
theorem impl_faultsOf.tab8:rtab .any (opsOf Try.f39 8)=impl_faultsOf.T8:=by kernel_rfl
theorem impl_faultsOf.bits8:waitsOk impl_faultsOf.T8.2 impl_faultsOf.B8=true:=by kernel_rfl
set_option maxHeartbeats 8000000 in
set_option maxRecDepth 100000 in
theorem impl_faultsOf.calls (k:Nat) (A0_0:Option Addr) (c0_0:Nat) (l0_0:List Int) (a0_1:Int) (A1:Option Addr) (c1:Nat) (l1:List (S62)) (A2:Option Addr) (c2:Nat) (l2:List (S66)) (a3_0:Int) (a3_1:Int) (a3_2:Int) (a4:Int) (r:List (List Int)) (w:World) (hr0_0:Kd.C (Kd.int .i64) w A0_0 l0_0.length l0_0) (hc0_0:l0_0.length≤c0_0) (hr1:Kd.C k62 w A1 l1.length l1) (hc1:l1.length≤c1) (hr2:Kd.C k66 w A2 l2.length l2) (hc2:l2.length≤c2) (h:impl_faultsOf.f k l0_0 a0_1 l1 l2 a3_0 a3_1 a3_2 a4=some r) :
  Calls Try.prog 39 #[.agg #[.slice A0_0 l0_0.length c0_0,.int .i64 a0_1],.slice A1 l1.length c1,.slice A2 l2.length c2,.agg #[.int .i64 a3_0,.int .i64 a3_1,.int .i64 a3_2],.int .i64 a4] w fun e w'=>∃ v0_:Value,e = .returned (v0_)∧Kd.S (Kd.slice 3 (Kd.int .i64)) 22 w' w.heap.size (fun _=>True) v0_ r∧Below w.heap.size w w':=by
 have hu34:=Try.underlying34
 have hu40:=Try.underlying40
 have hu62:=Try.underlying62
 have hu66:=Try.underlying66
 have HR0_0:=am hr0_0
 have HC0_0:=am hc0_0
 clear hr0_0 hc0_0
 have HR1:=am hr1
 have HC1:=am hc1
 clear hr1 hc1
 have HR2:=am hr2
 have HC2:=am hc2
 clear hr2 hc2
 have HB:=am (Below.refl w.heap.size w)
 have H:((impl_matched.f k l0_0 a0_1 l1 l2).bind fun bt373=>(impl_faultsOf.l0 k l1 l2 a4 bt373.2 (([]:List (List Int))) bt373.1 (bt373.1.length:Int) 0 l0_0 a0_1 a3_0 a3_1 a3_2))=some r:=h
 clear h
 obtain⟨⟨t373,t376⟩,A6,H⟩:=bnd H;dsimp only at H
 obtain⟨y379,hy379⟩:∃ y_:List (List Int),y_=(([]:List (List Int))):=⟨_,rfl⟩
 replace H:(impl_faultsOf.l0 k l1 l2 a4 t376 y379 t373 (t373.length:Int) 0 l0_0 a0_1 a3_0 a3_1 a3_2)=some r:=by subst hy379;exact H
 have Ny379:=am hy379
 clear hy379
 have H':=am H
 clear H
 go_enter Try.func39,Try.ntmps39
 go_wp2_with (first|((with_reducible refine gate_dst (N:=5) rfl ?_);refine box_event ?hg (N:=5) ?hd (cs := #[.slice A0_0 l0_0.length c0_0,.int .i64 a0_1]) (t:=34) ?hr ?_;(case hd=>rfl);(case hg=>rfl);(case hr=>first|(go_simp;done)|(go_simp;rfl));intro gb371 hg w7 hbox hb;have BK371:=am (hbox);have GW371:=am (ge_ bl hg);have GE371:=am (ge_ bl hg);replace HB:=am (below_step bl hb);clear hb hbox hg)|((with_reducible refine gate_dst (N:=8) rfl ?_);refine box_event ?hg (N:=8) ?hd (cs := #[.int .i64 a3_0,.int .i64 a3_1,.int .i64 a3_2]) (t:=40) ?hr ?_;(case hd=>rfl);(case hg=>rfl);(case hr=>first|(go_simp;done)|(go_simp;rfl));intro gb372 hg w8 hbox hb;have BK372:=am (hbox);have GW372:=am (ge_ bl hg);have GE372:=am (ge_ bl hg);replace HB:=am (below_step bl hb);have NB371_372:=am (nl (bup BK371.out) hg);have NB372_371:=am (ng (bup BK371.out) hg);replace BK371:=am (blk_below (bup BK371.out) hb);clear hb hbox hg;have hnb9:=NB371_372.out;have hnc9:=NB372_371.out;have hcz10_0:=bc BK371.out 0;have hcz10_1:=bc BK371.out 1;have hfz10_0:=blk_frozen BK371.out 0;have hfz10_1:=blk_frozen BK371.out 1)|((with_reducible refine gate_callee (f:=53) rfl ?_);refine goesL_ (some 27) rfl rfl Try.func53 (by kernel_rfl) rfl #[.agg #[.slice A0_0 l0_0.length c0_0,.int .i64 a0_1],.slice A1 l1.length c1,.slice A2 l2.length c2] rfl tl ?_;(with_reducible refine(impl_matched.calls k _ _ l0_0 a0_1 _ _ l1 _ _ l2 t373 t376 _ ?side1 ?side2 ?side3 ?side4 ?side5 ?side6 A6.out).mono ?_);(case side1=>exact cup (Kd.C_below HR0_0.out HB.out));(case side2=>exact HC0_0.out);(case side3=>exact cup (Kd.C_below HR1.out HB.out));(case side4=>exact HC1.out);(case side5=>exact cup (Kd.C_below HR2.out HB.out));(case side6=>exact HC2.out);rintro e w11 ⟨v374,v377,rfl,ho0,ho1,hb⟩;refine⟨_,rfl,?_⟩;have HO375:=am (Kd.R_lower ho0 (below_size bl));have HO378:=am (Kd.R_lower ho1 (below_size bl));replace BK371:=am (blk_below (bup BK371.out) hb);replace BK372:=am (blk_below (bup BK372.out) hb);replace HB:=am (below_step bl hb);(try clear hb);(try clear ho0);(try clear ho1))|((with_reducible refine gate_dst (N:=30) rfl ?_);refine Kd.S_lit (Kd.slice 3 (Kd.int .i64)) _ 22 ?hg (N:=30) ?hd (xs:=([]:List (List Int))) (inner:=[]) (ok:=fun _=>True) (okp:=fun _=>True) ?hr ?hp (fun _ hk=>hk) trivial (Below.refl _ _) (Nat.le_refl _) (by simp) ?_;(case hd=>rfl);(case hg=>rfl);(case hr=>first|(go_simp;done)|(go_simp;rfl));(case hp=>exact(Reps.none _ _));intro v380 w12 ho13 hb hg_ hnew_;clear hg_ hnew_;(first|rw[← Ny379.out] at ho13|(simp only[Int.reduceToNat] at ho13;rw[← Ny379.out] at ho13));have HO381:=am (Kd.S_lower (Kd.S_new' (Kd.S_new' ho13 (Kd.R_lt (rup HO375.out))) (Kd.R_lt (rup HO378.out))) (below_size bl));replace HO375:=am (Kd.R_below (rup HO375.out) hb);replace HO378:=am (Kd.R_below (rup HO378.out) hb);replace BK371:=am (blk_below (bup BK371.out) hb);replace BK372:=am (blk_below (bup BK372.out) hb);replace HB:=am (below_step bl hb);clear hb ho13;obtain⟨Ao14,co14,eo14⟩:=Kd.R_slice HO375.out;subst eo14))
 go_loopg [13,33] k (fun kq v13 v33 w'=>∃(x13_1:List (List Int)) (x33_1:Int),v33 = .int .i64 x33_1∧Aside0 (impl_faultsOf.l0 kq l1 l2 a4 t376 x13_1 t373 (t373.length:Int) x33_1 l0_0 a0_1 a3_0 a3_1 a3_2=some r)∧Aside0 (kq≤k)∧Aside0 (Kd.R (Kd.int .i64) 3 w' w.heap.size (fun k_=>some k_≠((.slice Ao14 t373.length co14):Value).ownBlock) v377 t376)∧Aside0 (Kd.S (Kd.slice 3 (Kd.int .i64)) 22 w' w.heap.size (fun k_=>some k_≠(v377:Value).ownBlock∧some k_≠((.slice Ao14 t373.length co14):Value).ownBlock) v13 x13_1)∧Aside0 (Kd.R (Kd.int .i64) 3 w' w.heap.size (fun k_=>some k_≠(v377:Value).ownBlock) (.slice Ao14 t373.length co14) t373)∧Aside0 (w'.heap[gb371]?=some (.cells #[(.slice A0_0 l0_0.length c0_0),.int .i64 a0_1] 34 (0,0)))∧Aside0 (w'.heap[gb372]?=some (.cells #[.int .i64 a3_0,.int .i64 a3_1,.int .i64 a3_2] 40 (0,0)))∧Aside0 (Below w.heap.size w w'))
 case atStart=>exact⟨(y379),(0),fin2,H',⟨Nat.le_refl _⟩,⟨rup HO378.out⟩,⟨by(with_reducible repeat(first|apply Kd.S_alloc|apply Kd.S_drewN|apply Kd.S_drew));exact Kd.S_mono HO381.out (fun _ hk=>⟨hk.2,hk.1.2⟩)⟩,⟨rup HO375.out⟩,⟨bup BK371.out⟩,⟨bup BK372.out⟩,⟨bl⟩⟩
 case round =>
  clear H'
  try clear c1
  try clear c2
  try clear p2
  try clear c3
  try clear c5
  try clear c9
  try clear hcz10_0
  try clear hcz10_1
  try clear hfz10_0
  try clear hfz10_1
  obtain⟨x13_1,x33_1,rfl,HA,HK1,HO_12,HO_13,HO_31,BK371,BK372,HB⟩:=hrel
  cases gk with
  | zero=>exact absurd HA.out (by simp [impl_faultsOf.l0])
  | succ k1 =>
   have H:=HA.out
   clear HA
   simp only[impl_faultsOf.l0] at H
   rcases itc H with⟨c15,H⟩|⟨c15,H⟩
   ·have c15b0:=decide_eq_true c15
    clear c15
    obtain⟨c16b0,H⟩:=ifb H
    obtain⟨c17b0,H⟩:=ifb H
    rcases itc H with⟨c18,H⟩|⟨c18,H⟩
    ·have c18b0:=decide_eq_true c18
     clear c18
     obtain⟨y383,hy383⟩:∃ y_:List Int,y_=(([0,x33_1]:List Int)):=⟨_,rfl⟩
     replace H:(if x13_1.length<5864062014805 then(impl_faultsOf.l0 k1 l1 l2 a4 t376 (x13_1 ++ [y383]) t373 (t373.length:Int) (wrap64 (x33_1+1)) l0_0 a0_1 a3_0 a3_1 a3_2) else(none))=some r:=by subst hy383;exact H
     have Ny383:=am hy383
     clear hy383
     obtain⟨c19,H⟩:=ifp H
     have LMc19:=am c19
     clear c19
     obtain⟨y386,hy386⟩:∃ y_:List (List Int),y_=(x13_1 ++ [y383]):=⟨_,rfl⟩
     replace H:(impl_faultsOf.l0 k1 l1 l2 a4 t376 y386 t373 (t373.length:Int) (wrap64 (x33_1+1)) l0_0 a0_1 a3_0 a3_1 a3_2)=some r:=by subst hy386;exact H
     have Ny386:=am hy386
     clear hy386
     have H':=am H
     clear H
     have p382:0≤(x33_1:Int):=od
     have q382:x33_1<(t373.length:Int):=od
     obtain⟨ad382,e382,hx382_0⟩:=Kd.at_int (Kd.R_reads' HO_31.out).2.2 x33_1 p382 q382
     cases e382
     replace p382:=eq_true p382
     replace q382:=eq_true q382
     go_wp2_with (first|((with_reducible refine gate_dst (N:=42) rfl ?_);refine Kd.R_lit (Kd.int .i64) _ 3 ?hg (N:=42) ?hd (xs:=([0,x33_1]:List Int)) (inner:=[.int .i64 0,.int .i64 x33_1]) (ok:=fun _=>True) (okp:=fun _=>True) ?hr ?hp (fun _ hk=>hk) trivial (Below.refl _ _) (Nat.le_refl _) (by simp) ?_;(case hd=>rfl);(case hg=>rfl);(case hr=>first|(go_simp;done)|(go_simp;rfl));(case hp=>exact(Reps.one (show Kd.M (Kd.int .i64) _ _ _ 0 [.int .i64 0] from rfl) (Reps.one (show Kd.M (Kd.int .i64) _ _ _ x33_1 [.int .i64 x33_1] from rfl) (Reps.none _ _))));intro v384 w20 ho21 hb hg_ hnew_;clear hg_ hnew_;(first|rw[← Ny383.out] at ho21|(simp only[Int.reduceToNat] at ho21;rw[← Ny383.out] at ho21));replace HO_13:=am (Kd.S_elder' (by(with_reducible repeat(first|apply Kd.S_alloc|apply Kd.S_drewN|apply Kd.S_drew));exact HO_13.out) (Kd.R_base ho21) hb);have HO385:=am (Kd.R_lower (Kd.R_new' (Kd.R_new' ho21 (Kd.R_lt (rup HO_12.out))) (Kd.R_lt (rup HO_31.out))) (below_size bl));replace HO_12:=am (Kd.R_elder' (rup HO_12.out) (Kd.R_base ho21) hb);replace HO_31:=am (Kd.R_elder' (rup HO_31.out) (Kd.R_base ho21) hb);replace BK371:=am (blk_below (bup BK371.out) hb);replace BK372:=am (blk_below (bup BK372.out) hb);replace HB:=am (below_step bl hb);clear hb ho21;obtain⟨Ao23,co23,eo23⟩:=Kd.R_slice HO385.out;subst eo23)|((with_reducible refine gate_builtin (b := .append) (xs := #[.tmp 40,.tmp 43]) rfl ?_);at_builtin;refine Kd.S_append (Kd.slice 3 (Kd.int .i64)) (w0:=w) w.heap.size rfl (.tmp 40) (.tmp 43) 49 22 (.slice none 0 0) 24 rfl Try.underlying49 info22 rfl (by decide) (by omega) u13 x13_1 y383 [.slice Ao23 y383.length co23] (fun k_=>some k_≠(v377:Value).ownBlock∧some k_≠(.slice (some ad382) t373.length co14:Value).ownBlock) (fun k_=>some k_=(.slice Ao23 y383.length co23:Value).ownBlock) rfl rfl ?aP (fun k_ hk_=>((Kd.R_mono (ok':=fun k_=>((fun k_=>some k_≠(v377:Value).ownBlock∧some k_≠(.slice (some ad382) t373.length co14:Value).ownBlock)) k_∧some k_≠(u13:Value).ownBlock) (Kd.R_apart' (HO385.out) (Kd.S_typed HO_13.out) (by decide)) (fun k_ hk=>⟨⟨hk.1.1.2,hk.1.2⟩,hk.2⟩))).1 k_ hk_.symm) ?aF ?aO ?aB ?aS ?aL ?_;(case aP=>exact Kd.M_row (Kd.R_mono (Kd.R_tight rfl (Kd.R_mono (ok':=fun k_=>((fun k_=>some k_≠(v377:Value).ownBlock∧some k_≠(.slice (some ad382) t373.length co14:Value).ownBlock)) k_∧some k_≠(u13:Value).ownBlock) (Kd.R_apart' (HO385.out) (Kd.S_typed HO_13.out) (by decide)) (fun k_ hk=>⟨⟨hk.1.1.2,hk.1.2⟩,hk.2⟩))) (fun _ h_=>h_)));(case aB=>exact bl);(case aF=>exact(fun k_ hk=>⟨Kd.fresh' (Kd.R_lt (rup HO_12.out)) k_ hk,Kd.fresh' (Kd.R_lt (rup HO_31.out)) k_ hk⟩));(case aO=>exact(by(with_reducible repeat(first|apply Kd.S_alloc|apply Kd.S_drewN|apply Kd.S_drew));exact Kd.S_mono HO_13.out (fun k_ hk=>⟨⟨hk.1.1,hk.1.2⟩,fun e_=>hk.2 e_⟩)));(case aS=>exact(below_size bl));(case aL=>have:=LMc19.out;omega);intro v387 w22 ho hb hg hat;rw[← Ny386.out] at ho;replace HO_12:=am (Kd.R_over' (rup HO_12.out) (Kd.S_typed (by(with_reducible repeat(first|apply Kd.S_alloc|apply Kd.S_drewN|apply Kd.S_drew));exact HO_13.out)) (by decide) hg);replace HO_31:=am (Kd.R_over' (rup HO_31.out) (Kd.S_typed (by(with_reducible repeat(first|apply Kd.S_alloc|apply Kd.S_drewN|apply Kd.S_drew));exact HO_13.out)) (by decide) hg);replace BK371:=am (blk_grown (bup BK371.out) hg (Kd.S_ne HO_13.out BK371.out (by decide)));replace BK372:=am (blk_grown (bup BK372.out) hg (Kd.S_ne HO_13.out BK372.out (by decide)));replace HB:=am (hb);have HO388:=am (ho);clear HO_13 HO385 ho hb hg hat))
     go_roundg k1
     case measure=>have:=HK1.out;omega
     case rel=>exact⟨(y386),(wrap64 (x33_1+1)),fin2,H',⟨by have:=HK1.out;omega⟩,⟨rup (Kd.R_mono HO_12.out (fun _ hk=>hk.1))⟩,⟨by(with_reducible repeat(first|apply Kd.S_alloc|apply Kd.S_drewN|apply Kd.S_drew));exact HO388.out⟩,⟨rup (Kd.R_mono HO_31.out (fun _ hk=>hk.1))⟩,⟨bup BK371.out⟩,⟨bup BK372.out⟩,⟨bl⟩⟩
    ·have c18b0:=decide_eq_false c18
     clear c18
     obtain⟨c24b0,H⟩:=ifb H
     obtain⟨c25b0,H⟩:=ifb H
     obtain⟨c26b0,H⟩:=ifb H
     obtain⟨t391,A27,H⟩:=bnd H
     obtain⟨c28,H⟩:=ifp H
     have c28b0:=decide_eq_true c28
     have c28b1:decide (0<t391.length)=true:=decide_eq_true (by omega)
     clear c28
     obtain⟨t395,A29,H⟩:=bnd H
     rcases itc H with⟨c30,H⟩|⟨c30,H⟩
     ·have c30b0:decide (a4<t395)=true:=decide_eq_true c30
      clear c30
      obtain⟨y396,hy396⟩:∃ y_:List Int,y_=(([2,x33_1]:List Int)):=⟨_,rfl⟩
      replace H:(if x13_1.length<5864062014805 then((some (x13_1 ++ [y396]:List (List Int))).bind fun y399=>(if 1<(t391.length:Int) then((impl_distance.f (rd t391 1) 0).bind fun t403=>(if t403>a4 then(if y399.length<5864062014805 then(impl_faultsOf.l0 k1 l1 l2 a4 t376 (y399 ++ [(([3,x33_1]:List Int))]) t373 (t373.length:Int) (wrap64 (x33_1+1)) l0_0 a0_1 a3_0 a3_1 a3_2) else(none)) else(impl_faultsOf.l0 k1 l1 l2 a4 t376 y399 t373 (t373.length:Int) (wrap64 (x33_1+1)) l0_0 a0_1 a3_0 a3_1 a3_2))) else(none))) else(none))=some r:=by subst hy396;exact H
      have Ny396:=am hy396
      clear hy396
      obtain⟨c31,H⟩:=ifp H
      have LMc31:=am c31
      clear c31
      obtain⟨y399,hy399⟩:∃ y_:List (List Int),y_=(x13_1 ++ [y396]):=⟨_,rfl⟩
      replace H:(if 1<(t391.length:Int) then((impl_distance.f (rd t391 1) 0).bind fun t403=>(if t403>a4 then(if y399.length<5864062014805 then(impl_faultsOf.l0 k1 l1 l2 a4 t376 (y399 ++ [(([3,x33_1]:List Int))]) t373 (t373.length:Int) (wrap64 (x33_1+1)) l0_0 a0_1 a3_0 a3_1 a3_2) else(none)) else(impl_faultsOf.l0 k1 l1 l2 a4 t376 y399 t373 (t373.length:Int) (wrap64 (x33_1+1)) l0_0 a0_1 a3_0 a3_1 a3_2))) else(none))=some r:=by subst hy399;exact H
      have Ny399:=am hy399
      clear hy399
      obtain⟨c32,H⟩:=ifp H
      have c32b0:=decide_eq_true c32
      have c32b1:decide (1<t391.length)=true:=decide_eq_true (by omega)
      clear c32
      obtain⟨t403,A33,H⟩:=bnd H
      rcases itc H with⟨c34,H⟩|⟨c34,H⟩
      ·have c34b0:decide (a4<t403)=true:=decide_eq_true c34
       clear c34
       obtain⟨y404,hy404⟩:∃ y_:List Int,y_=(([3,x33_1]:List Int)):=⟨_,rfl⟩
       replace H:(if y399.length<5864062014805 then(impl_faultsOf.l0 k1 l1 l2 a4 t376 (y399 ++ [y404]) t373 (t373.length:Int) (wrap64 (x33_1+1)) l0_0 a0_1 a3_0 a3_1 a3_2) else(none))=some r:=by subst hy404;exact H
       have Ny404:=am hy404
       clear hy404
       obtain⟨c35,H⟩:=ifp H
       have LMc35:=am c35
       clear c35
       obtain⟨y407,hy407⟩:∃ y_:List (List Int),y_=(y399 ++ [y404]):=⟨_,rfl⟩
       replace H:(impl_faultsOf.l0 k1 l1 l2 a4 t376 y407 t373 (t373.length:Int) (wrap64 (x33_1+1)) l0_0 a0_1 a3_0 a3_1 a3_2)=some r:=by subst hy407;exact H
       have Ny407:=am hy407
       clear hy407
       have H':=am H
       clear H
       have p382:0≤(x33_1:Int):=od
       have q382:x33_1<(t373.length:Int):=od
       obtain⟨ad382,e382,hx382_0⟩:=Kd.at_int (Kd.R_reads' HO_31.out).2.2 x33_1 p382 q382
       cases e382
       replace p382:=eq_true p382
       replace q382:=eq_true q382
       try go_wp2
       replace HO_12:=am (Kd.R_drew HO_12.out)
       replace HO_13:=am (Kd.S_drew HO_13.out)
       replace HO_31:=am (Kd.R_drew HO_31.out)
       replace BK371:=am (bD_ BK371.out)
       replace BK372:=am (bD_ BK372.out)
       replace HB:=am (below_drew1 HB.out)
       have p389:0≤(x33_1:Int):=od
       have q389:x33_1<(l1.length:Int):=od
       obtain⟨ad389,e389,hx389_0,hx389_1,hx389_2⟩:=at_T62 HR1.out x33_1 p389 q389
       have hw389_2:=hx389_2
       have hw389_1:=hx389_1
       have hw389_0:=hx389_0
       cases e389
       replace hx389_0:=(HB.out.cell (World.block_lt_of_cell? w _ hx389_0)).trans hx389_0
       replace hx389_1:=(HB.out.cell (World.block_lt_of_cell? w _ hx389_1)).trans hx389_1
       replace hx389_2:=(HB.out.cell (World.block_lt_of_cell? w _ hx389_2)).trans hx389_2
       replace p389:=eq_true p389
       replace q389:=eq_true q389
       have p390:0≤((rd t373 x33_1):Int):=od
       have q390:(rd t373 x33_1)<(l2.length:Int):=od
       obtain⟨ad390,e390,hx390_0,hx390_1,hx390_2⟩:=at_T66 HR2.out (rd t373 x33_1) p390 q390
       have hw390_2:=hx390_2
       have hw390_1:=hx390_1
       have hw390_0:=hx390_0
       cases e390
       replace hx390_0:=(HB.out.cell (World.block_lt_of_cell? w _ hx390_0)).trans hx390_0
       replace hx390_1:=(HB.out.cell (World.block_lt_of_cell? w _ hx390_1)).trans hx390_1
       replace hx390_2:=(HB.out.cell (World.block_lt_of_cell? w _ hx390_2)).trans hx390_2
       replace p390:=eq_true p390
       replace q390:=eq_true q390
       refine start_ (n:=10) (S:=fun w'=>w'.cell? (ad389.add ((x33_1).toNat*3))=some (.int .i64 ((rd_T62 l1 x33_1).f0))∧w'.cell? ⟨(ad389.add ((x33_1).toNat*3)).block,(ad389.add ((x33_1).toNat*3)).off+1,none⟩=some (.int .i64 ((rd_T62 l1 x33_1).f1))∧w'.cell? ⟨(ad389.add ((x33_1).toNat*3)).block,(ad389.add ((x33_1).toNat*3)).off+2,none⟩=some (.int .i64 ((rd_T62 l1 x33_1).f2))∧w'.cell? (ad390.add (((rd t373 x33_1)).toNat*3))=some (.int .i64 ((rd_T66 l2 (rd t373 x33_1)).f0))∧w'.cell? ⟨(ad390.add (((rd t373 x33_1)).toNat*3)).block,(ad390.add (((rd t373 x33_1)).toNat*3)).off+1,none⟩=some (.int .i64 ((rd_T66 l2 (rd t373 x33_1)).f1))∧w'.cell? ⟨(ad390.add (((rd t373 x33_1)).toNat*3)).block,(ad390.add (((rd t373 x33_1)).toNat*3)).off+2,none⟩=some (.int .i64 ((rd_T66 l2 (rd t373 x33_1)).f2))) (ds:=[]) (fl 0 10) (by kernel_rfl) rfl rfl ⟨((HB.out.cell (World.block_lt_of_cell? w _ hw389_0)).trans hw389_0),((HB.out.cell (World.block_lt_of_cell? w _ hw389_1)).trans hw389_1),((HB.out.cell (World.block_lt_of_cell? w _ hw389_2)).trans hw389_2),((HB.out.cell (World.block_lt_of_cell? w _ hw390_0)).trans hw390_0),((HB.out.cell (World.block_lt_of_cell? w _ hw390_1)).trans hw390_1),((HB.out.cell (World.block_lt_of_cell? w _ hw390_2)).trans hw390_2)⟩ (fun hHeld=>?_);refine with_tabW impl_faultsOf.tab8 impl_faultsOf.bits8 (fun HT_ HW_=>?_)
       generalize wr.drew=w36 at HO_12 HO_13 HO_31 BK371 BK372 HB hx389_0 hx389_1 hx389_2 hx390_0 hx390_1 hx390_2 hHeld ⊢
       refine pu HT_.out 0 (some 45) (fl 1 10) (h:=?_)
       refine pu HT_.out 1 (some 46) (fl 2 10) (h:=?_)
       refine pu HT_.out 2 (some 47) (fl 3 10) (h:=?_)
       refine pu HT_.out 4 (some 49) #[true,true,true,false,true,false,false,false,false,false] (h:=?_)
       refine pu HT_.out 5 (some 50) #[true,true,true,false,true,true,false,false,false,false] (h:=?_)
       refine pu HT_.out 6 (some 51) #[true,true,true,false,true,true,true,false,false,false] (h:=?_)
       refine ta HT_.out HW_.out 3 (some 48) (fl 7 10) hHeld rfl (by rintro w' ⟨s0,s1,s2,s3,s4,s5⟩;go_simp;with_reducible rfl) (h:=?_)
       refine ta HT_.out HW_.out 7 (some 52) (fl 8 10) hHeld rfl (by rintro w' ⟨s0,s1,s2,s3,s4,s5⟩;go_simp;with_reducible rfl) (h:=?_)
       refine one_ (i:=8) (N:=some 53) (fl 9 10) rfl rfl (one_of HT_.out (by kernel_rfl)) (by decide) (fun K hK=>?_)
       refine goes_ Try.func54 (by kernel_rfl) rfl #[.agg #[.int .i64 ((rd_T62 l1 x33_1).f0),.int .i64 ((rd_T62 l1 x33_1).f1),.int .i64 ((rd_T62 l1 x33_1).f2)],.agg #[.int .i64 ((rd_T66 l2 (rd t373 x33_1)).f0),.int .i64 ((rd_T66 l2 (rd t373 x33_1)).f1),.int .i64 ((rd_T66 l2 (rd t373 x33_1)).f2)]] (by rfl) rfl rfl tl ?_
       with_reducible refine(impl_holeErrors.calls ((rd_T62 l1 x33_1).f0) ((rd_T62 l1 x33_1).f1) ((rd_T62 l1 x33_1).f2) ((rd_T66 l2 (rd t373 x33_1)).f0) ((rd_T66 l2 (rd t373 x33_1)).f1) ((rd_T66 l2 (rd t373 x33_1)).f2) t391 _ A27.out).mono ?_
       rintro e w37 ⟨v392,rfl,ho0,hb⟩
       refine⟨_,rfl,?_⟩
       replace HO_13:=am (Kd.S_elder' (by(with_reducible repeat(first|apply Kd.S_alloc|apply Kd.S_drewN|apply Kd.S_drew));exact HO_13.out) (Kd.R_base ho0) hb)
       have HO393:=am (Kd.R_lower (Kd.R_new' (Kd.R_new' ho0 (Kd.R_lt (rup HO_12.out))) (Kd.R_lt (rup HO_31.out))) (below_size bl))
       replace HO_12:=am (Kd.R_elder' (rup HO_12.out) (Kd.R_base ho0) hb)
       replace HO_31:=am (Kd.R_elder' (rup HO_31.out) (Kd.R_base ho0) hb)
       replace BK371:=am (blk_below (bup BK371.out) hb)
       replace BK372:=am (blk_below (bup BK372.out) hb)
       replace HB:=am (below_step bl hb)
       (try clear hb)
       (try clear ho0)
       refine hK.out _ _ ⟨((HB.out.cell (World.block_lt_of_cell? w _ hw389_0)).trans hw389_0),((HB.out.cell (World.block_lt_of_cell? w _ hw389_1)).trans hw389_1),((HB.out.cell (World.block_lt_of_cell? w _ hw389_2)).trans hw389_2),((HB.out.cell (World.block_lt_of_cell? w _ hw390_0)).trans hw390_0),((HB.out.cell (World.block_lt_of_cell? w _ hw390_1)).trans hw390_1),((HB.out.cell (World.block_lt_of_cell? w _ hw390_2)).trans hw390_2)⟩ (fun hHeld=>?_)
       clear hK K
       refine norm_ (a':=?_) ?_ ?_
       rotate_left
       ·show Act.put _ (some 53) _=_
        simp only[Act.put,List.setIfInBounds_toArray,List.set_cons_zero,List.set_cons_succ,i64_w,i32_w]
        rfl
       refine pu HT_.out 9 (some 16) (fl 10 10) (h:=?_)
       refine done_ (done_of HT_.out (by kernel_rfl)) ?_
       obtain⟨Ao38,co38,eo38⟩:=Kd.R_slice HO393.out
       subst eo38
       have p394:0≤(0:Int):=(by omega)
       have q394:0<(t391.length:Int):=od
       obtain⟨ad394,e394,hx394_0⟩:=Kd.at_int (Kd.R_reads' HO393.out).2.2 0 p394 q394
       cases e394
       have qi394:(0<t391.length)=True:=eq_true (by omega)
       (try rw[show((0:Int)).toNat=0 from rfl] at hx394_0)
       (try rw[Addr.add_zero'] at hx394_0)
       replace p394:=eq_true p394
       replace q394:=eq_true q394
       try go_wp2_with (first|((with_reducible refine gate_callee (f:=55) rfl ?_);refine goesL_ (some 57) rfl rfl Try.func55 (by kernel_rfl) rfl #[.int .i64 (rd t391 0),.int .i64 0] rfl tl ?_;(with_reducible refine(impl_distance.calls (rd t391 0) 0 t395 _ A29.out).mono ?_);rintro e w39 ⟨rfl,hb⟩;refine⟨_,rfl,?_⟩;replace HO_12:=am (Kd.R_below (rup HO_12.out) hb);replace HO_13:=am (Kd.S_below (by(with_reducible repeat(first|apply Kd.S_alloc|apply Kd.S_drewN|apply Kd.S_drew));exact HO_13.out) hb);replace HO_31:=am (Kd.R_below (rup HO_31.out) hb);replace HO393:=am (Kd.R_below (rup HO393.out) hb);replace BK371:=am (blk_below (bup BK371.out) hb);replace BK372:=am (blk_below (bup BK372.out) hb);replace HB:=am (below_step bl hb);(try clear hb))|((with_reducible refine gate_dst (N:=62) rfl ?_);refine Kd.R_lit (Kd.int .i64) _ 3 ?hg (N:=62) ?hd (xs:=([2,x33_1]:List Int)) (inner:=[.int .i64 2,.int .i64 x33_1]) (ok:=fun _=>True) (okp:=fun _=>True) ?hr ?hp (fun _ hk=>hk) trivial (Below.refl _ _) (Nat.le_refl _) (by simp) ?_;(case hd=>rfl);(case hg=>rfl);(case hr=>first|(go_simp;done)|(go_simp;rfl));(case hp=>exact(Reps.one (show Kd.M (Kd.int .i64) _ _ _ 2 [.int .i64 2] from rfl) (Reps.one (show Kd.M (Kd.int .i64) _ _ _ x33_1 [.int .i64 x33_1] from rfl) (Reps.none _ _))));intro v397 w40 ho41 hb hg_ hnew_;clear hg_ hnew_;(first|rw[← Ny396.out] at ho41|(simp only[Int.reduceToNat] at ho41;rw[← Ny396.out] at ho41));replace HO_13:=am (Kd.S_elder' (by(with_reducible repeat(first|apply Kd.S_alloc|apply Kd.S_drewN|apply Kd.S_drew));exact HO_13.out) (Kd.R_base ho41) hb);have HO398:=am (Kd.R_lower (Kd.R_new' (Kd.R_new' (Kd.R_new' ho41 (Kd.R_lt (rup HO_12.out))) (Kd.R_lt (rup HO_31.out))) (Kd.R_lt (rup HO393.out))) (below_size bl));replace HO_12:=am (Kd.R_elder' (rup HO_12.out) (Kd.R_base ho41) hb);replace HO_31:=am (Kd.R_elder' (rup HO_31.out) (Kd.R_base ho41) hb);replace HO393:=am (Kd.R_elder' (rup HO393.out) (Kd.R_base ho41) hb);replace BK371:=am (blk_below (bup BK371.out) hb);replace BK372:=am (blk_below (bup BK372.out) hb);replace HB:=am (below_step bl hb);clear hb ho41;obtain⟨Ao43,co43,eo43⟩:=Kd.R_slice HO398.out;subst eo43)|((with_reducible refine gate_builtin (b := .append) (xs := #[.tmp 60,.tmp 63]) rfl ?_);at_builtin;refine Kd.S_append (Kd.slice 3 (Kd.int .i64)) (w0:=w) w.heap.size rfl (.tmp 60) (.tmp 63) 49 22 (.slice none 0 0) 24 rfl Try.underlying49 info22 rfl (by decide) (by omega) u13 x13_1 y396 [.slice Ao43 y396.length co43] (fun k_=>some k_≠(v377:Value).ownBlock∧some k_≠(.slice (some ad382) t373.length co14:Value).ownBlock∧some k_≠(.slice (some ad394) t391.length co38:Value).ownBlock) (fun k_=>some k_=(.slice Ao43 y396.length co43:Value).ownBlock) rfl rfl ?aP (fun k_ hk_=>((Kd.R_mono (ok':=fun k_=>((fun k_=>some k_≠(v377:Value).ownBlock∧some k_≠(.slice (some ad382) t373.length co14:Value).ownBlock∧some k_≠(.slice (some ad394) t391.length co38:Value).ownBlock)) k_∧some k_≠(u13:Value).ownBlock) (Kd.R_apart' (HO398.out) (Kd.S_typed HO_13.out) (by decide)) (fun k_ hk=>⟨⟨hk.1.1.1.2,⟨hk.1.1.2,hk.1.2⟩⟩,hk.2⟩))).1 k_ hk_.symm) ?aF ?aO ?aB ?aS ?aL ?_;(case aP=>exact Kd.M_row (Kd.R_mono (Kd.R_tight rfl (Kd.R_mono (ok':=fun k_=>((fun k_=>some k_≠(v377:Value).ownBlock∧some k_≠(.slice (some ad382) t373.length co14:Value).ownBlock∧some k_≠(.slice (some ad394) t391.length co38:Value).ownBlock)) k_∧some k_≠(u13:Value).ownBlock) (Kd.R_apart' (HO398.out) (Kd.S_typed HO_13.out) (by decide)) (fun k_ hk=>⟨⟨hk.1.1.1.2,⟨hk.1.1.2,hk.1.2⟩⟩,hk.2⟩))) (fun _ h_=>h_)));(case aB=>exact bl);(case aF=>exact(fun k_ hk=>⟨Kd.fresh' (Kd.R_lt (rup HO_12.out)) k_ hk,Kd.fresh' (Kd.R_lt (rup HO_31.out)) k_ hk,Kd.fresh' (Kd.R_lt (rup HO393.out)) k_ hk⟩));(case aO=>exact(by(with_reducible repeat(first|apply Kd.S_alloc|apply Kd.S_drewN|apply Kd.S_drew));exact Kd.S_mono HO_13.out (fun k_ hk=>⟨⟨hk.1.1.1,⟨hk.1.1.2,hk.1.2⟩⟩,fun e_=>hk.2 e_⟩)));(case aS=>exact(below_size bl));(case aL=>have:=LMc31.out;omega);intro v400 w42 ho hb hg hat;rw[← Ny399.out] at ho;replace HO_12:=am (Kd.R_over' (rup HO_12.out) (Kd.S_typed (by(with_reducible repeat(first|apply Kd.S_alloc|apply Kd.S_drewN|apply Kd.S_drew));exact HO_13.out)) (by decide) hg);replace HO_31:=am (Kd.R_over' (rup HO_31.out) (Kd.S_typed (by(with_reducible repeat(first|apply Kd.S_alloc|apply Kd.S_drewN|apply Kd.S_drew));exact HO_13.out)) (by decide) hg);replace BK371:=am (blk_grown (bup BK371.out) hg (Kd.S_ne HO_13.out BK371.out (by decide)));replace BK372:=am (blk_grown (bup BK372.out) hg (Kd.S_ne HO_13.out BK372.out (by decide)));replace HO393:=am (Kd.R_over' (rup HO393.out) (Kd.S_typed (by(with_reducible repeat(first|apply Kd.S_alloc|apply Kd.S_drewN|apply Kd.S_drew));exact HO_13.out)) (by decide) hg);replace HB:=am (hb);have HO401:=am (ho);clear HO_13 HO398 ho hb hg hat;have p402:0≤(1:Int):=(by omega);have q402:1<(t391.length:Int):=od;obtain⟨ad402,e402,hx402_0⟩:=Kd.at_int (Kd.R_reads' HO393.out).2.2 1 p402 q402;obtain rfl:ad394=ad402:=(by injection e402);(try simp only[show(1:Int).toNat=1 from rfl,Nat.reduceMul,Nat.reduceEqDiff,Go.Addr.add,↓reduceIte] at hx402_0);have qi402:(1<t391.length)=True:=eq_true (by omega);(try rw[show((1:Int)).toNat=1 from rfl] at hx402_0);replace p402:=eq_true p402;replace q402:=eq_true q402)|((with_reducible refine gate_callee (f:=55) rfl ?_);refine goesL_ (some 68) rfl rfl Try.func55 (by kernel_rfl) rfl #[.int .i64 (rd t391 1),.int .i64 0] rfl tl ?_;(with_reducible refine(impl_distance.calls (rd t391 1) 0 t403 _ A33.out).mono ?_);rintro e w44 ⟨rfl,hb⟩;refine⟨_,rfl,?_⟩;replace HO_12:=am (Kd.R_below (rup HO_12.out) hb);replace HO_31:=am (Kd.R_below (rup HO_31.out) hb);replace HO393:=am (Kd.R_below (rup HO393.out) hb);replace HO401:=am (Kd.S_below (by(with_reducible repeat(first|apply Kd.S_alloc|apply Kd.S_drewN|apply Kd.S_drew));exact HO401.out) hb);replace BK371:=am (blk_below (bup BK371.out) hb);replace BK372:=am (blk_below (bup BK372.out) hb);replace HB:=am (below_step bl hb);(try clear hb))|((with_reducible refine gate_dst (N:=73) rfl ?_);refine Kd.R_lit (Kd.int .i64) _ 3 ?hg (N:=73) ?hd (xs:=([3,x33_1]:List Int)) (inner:=[.int .i64 3,.int .i64 x33_1]) (ok:=fun _=>True) (okp:=fun _=>True) ?hr ?hp (fun _ hk=>hk) trivial (Below.refl _ _) (Nat.le_refl _) (by simp) ?_;(case hd=>rfl);(case hg=>rfl);(case hr=>first|(go_simp;done)|(go_simp;rfl));(case hp=>exact(Reps.one (show Kd.M (Kd.int .i64) _ _ _ 3 [.int .i64 3] from rfl) (Reps.one (show Kd.M (Kd.int .i64) _ _ _ x33_1 [.int .i64 x33_1] from rfl) (Reps.none _ _))));intro v405 w45 ho46 hb hg_ hnew_;clear hg_ hnew_;(first|rw[← Ny404.out] at ho46|(simp only[Int.reduceToNat] at ho46;rw[← Ny404.out] at ho46));replace HO401:=am (Kd.S_elder' (by(with_reducible repeat(first|apply Kd.S_alloc|apply Kd.S_drewN|apply Kd.S_drew));exact HO401.out) (Kd.R_base ho46) hb);have HO406:=am (Kd.R_lower (Kd.R_new' (Kd.R_new' (Kd.R_new' ho46 (Kd.R_lt (rup HO_12.out))) (Kd.R_lt (rup HO_31.out))) (Kd.R_lt (rup HO393.out))) (below_size bl));replace HO_12:=am (Kd.R_elder' (rup HO_12.out) (Kd.R_base ho46) hb);replace HO_31:=am (Kd.R_elder' (rup HO_31.out) (Kd.R_base ho46) hb);replace HO393:=am (Kd.R_elder' (rup HO393.out) (Kd.R_base ho46) hb);replace BK371:=am (blk_below (bup BK371.out) hb);replace BK372:=am (blk_below (bup BK372.out) hb);replace HB:=am (below_step bl hb);clear hb ho46;obtain⟨Ao48,co48,eo48⟩:=Kd.R_slice HO406.out;subst eo48)|((with_reducible refine gate_builtin (b := .append) (xs := #[.tmp 71,.tmp 74]) rfl ?_);at_builtin;refine Kd.S_append (Kd.slice 3 (Kd.int .i64)) (w0:=w) w.heap.size rfl (.tmp 71) (.tmp 74) 49 22 (.slice none 0 0) 24 rfl Try.underlying49 info22 rfl (by decide) (by omega) v400 y399 y404 [.slice Ao48 y404.length co48] (fun k_=>some k_≠(v377:Value).ownBlock∧some k_≠(.slice (some ad382) t373.length co14:Value).ownBlock∧some k_≠(.slice (some ad394) t391.length co38:Value).ownBlock) (fun k_=>some k_=(.slice Ao48 y404.length co48:Value).ownBlock) rfl rfl ?aP (fun k_ hk_=>((Kd.R_mono (ok':=fun k_=>((fun k_=>some k_≠(v377:Value).ownBlock∧some k_≠(.slice (some ad382) t373.length co14:Value).ownBlock∧some k_≠(.slice (some ad394) t391.length co38:Value).ownBlock)) k_∧some k_≠(v400:Value).ownBlock) (Kd.R_apart' (HO406.out) (Kd.S_typed HO401.out) (by decide)) (fun k_ hk=>⟨⟨hk.1.1.1.2,⟨hk.1.1.2,hk.1.2⟩⟩,hk.2⟩))).1 k_ hk_.symm) ?aF ?aO ?aB ?aS ?aL ?_;(case aP=>exact Kd.M_row (Kd.R_mono (Kd.R_tight rfl (Kd.R_mono (ok':=fun k_=>((fun k_=>some k_≠(v377:Value).ownBlock∧some k_≠(.slice (some ad382) t373.length co14:Value).ownBlock∧some k_≠(.slice (some ad394) t391.length co38:Value).ownBlock)) k_∧some k_≠(v400:Value).ownBlock) (Kd.R_apart' (HO406.out) (Kd.S_typed HO401.out) (by decide)) (fun k_ hk=>⟨⟨hk.1.1.1.2,⟨hk.1.1.2,hk.1.2⟩⟩,hk.2⟩))) (fun _ h_=>h_)));(case aB=>exact bl);(case aF=>exact(fun k_ hk=>⟨Kd.fresh' (Kd.R_lt (rup HO_12.out)) k_ hk,Kd.fresh' (Kd.R_lt (rup HO_31.out)) k_ hk,Kd.fresh' (Kd.R_lt (rup HO393.out)) k_ hk⟩));(case aO=>exact(by(with_reducible repeat(first|apply Kd.S_alloc|apply Kd.S_drewN|apply Kd.S_drew));exact Kd.S_mono HO401.out (fun k_ hk=>⟨⟨hk.1.1,⟨hk.1.2.1,hk.1.2.2⟩⟩,fun e_=>hk.2 e_⟩)));(case aS=>exact(below_size bl));(case aL=>have:=LMc35.out;omega);intro v408 w47 ho hb hg hat;rw[← Ny407.out] at ho;replace HO_12:=am (Kd.R_over' (rup HO_12.out) (Kd.S_typed (by(with_reducible repeat(first|apply Kd.S_alloc|apply Kd.S_drewN|apply Kd.S_drew));exact HO401.out)) (by decide) hg);replace HO_31:=am (Kd.R_over' (rup HO_31.out) (Kd.S_typed (by(with_reducible repeat(first|apply Kd.S_alloc|apply Kd.S_drewN|apply Kd.S_drew));exact HO401.out)) (by decide) hg);replace BK371:=am (blk_grown (bup BK371.out) hg (Kd.S_ne HO401.out BK371.out (by decide)));replace BK372:=am (blk_grown (bup BK372.out) hg (Kd.S_ne HO401.out BK372.out (by decide)));replace HO393:=am (Kd.R_over' (rup HO393.out) (Kd.S_typed (by(with_reducible repeat(first|apply Kd.S_alloc|apply Kd.S_drewN|apply Kd.S_drew));exact HO401.out)) (by decide) hg);replace HB:=am (hb);have HO409:=am (ho);clear HO401 HO406 ho hb hg hat))
       go_roundg k1
       case measure=>have:=HK1.out;omega
       case rel=>exact⟨(y407),(wrap64 (x33_1+1)),fin2,H',⟨by have:=HK1.out;omega⟩,⟨rup (Kd.R_mono HO_12.out (fun _ hk=>hk.1.1.1))⟩,⟨by(with_reducible repeat(first|apply Kd.S_alloc|apply Kd.S_drewN|apply Kd.S_drew));exact Kd.S_mono HO409.out (fun _ hk=>⟨hk.1,hk.2.1⟩)⟩,⟨rup (Kd.R_mono HO_31.out (fun _ hk=>hk.1.1.1))⟩,⟨bup BK371.out⟩,⟨bup BK372.out⟩,⟨bl⟩⟩
      ·have c34b0:decide (a4<t403)=false:=decide_eq_false c34
       clear c34
       have H':=am H
       clear H
       have p382:0≤(x33_1:Int):=od
       have q382:x33_1<(t373.length:Int):=od
       obtain⟨ad382,e382,hx382_0⟩:=Kd.at_int (Kd.R_reads' HO_31.out).2.2 x33_1 p382 q382
       cases e382
       replace p382:=eq_true p382
       replace q382:=eq_true q382
       try go_wp2
       replace HO_12:=am (Kd.R_drew HO_12.out)
       replace HO_13:=am (Kd.S_drew HO_13.out)
       replace HO_31:=am (Kd.R_drew HO_31.out)
       replace BK371:=am (bD_ BK371.out)
       replace BK372:=am (bD_ BK372.out)
       replace HB:=am (below_drew1 HB.out)
       have p389:0≤(x33_1:Int):=od
       have q389:x33_1<(l1.length:Int):=od
       obtain⟨ad389,e389,hx389_0,hx389_1,hx389_2⟩:=at_T62 HR1.out x33_1 p389 q389
       have hw389_2:=hx389_2
       have hw389_1:=hx389_1
       have hw389_0:=hx389_0
       cases e389
       replace hx389_0:=(HB.out.cell (World.block_lt_of_cell? w _ hx389_0)).trans hx389_0
       replace hx389_1:=(HB.out.cell (World.block_lt_of_cell? w _ hx389_1)).trans hx389_1
       replace hx389_2:=(HB.out.cell (World.block_lt_of_cell? w _ hx389_2)).trans hx389_2
       replace p389:=eq_true p389
       replace q389:=eq_true q389
       have p390:0≤((rd t373 x33_1):Int):=od
       have q390:(rd t373 x33_1)<(l2.length:Int):=od
       obtain⟨ad390,e390,hx390_0,hx390_1,hx390_2⟩:=at_T66 HR2.out (rd t373 x33_1) p390 q390
       have hw390_2:=hx390_2
       have hw390_1:=hx390_1
       have hw390_0:=hx390_0
       cases e390
       replace hx390_0:=(HB.out.cell (World.block_lt_of_cell? w _ hx390_0)).trans hx390_0
       replace hx390_1:=(HB.out.cell (World.block_lt_of_cell? w _ hx390_1)).trans hx390_1
       replace hx390_2:=(HB.out.cell (World.block_lt_of_cell? w _ hx390_2)).trans hx390_2
       replace p390:=eq_true p390
       replace q390:=eq_true q390
       refine start_ (n:=10) (S:=fun w'=>w'.cell? (ad389.add ((x33_1).toNat*3))=some (.int .i64 ((rd_T62 l1 x33_1).f0))∧w'.cell? ⟨(ad389.add ((x33_1).toNat*3)).block,(ad389.add ((x33_1).toNat*3)).off+1,none⟩=some (.int .i64 ((rd_T62 l1 x33_1).f1))∧w'.cell? ⟨(ad389.add ((x33_1).toNat*3)).block,(ad389.add ((x33_1).toNat*3)).off+2,none⟩=some (.int .i64 ((rd_T62 l1 x33_1).f2))∧w'.cell? (ad390.add (((rd t373 x33_1)).toNat*3))=some (.int .i64 ((rd_T66 l2 (rd t373 x33_1)).f0))∧w'.cell? ⟨(ad390.add (((rd t373 x33_1)).toNat*3)).block,(ad390.add (((rd t373 x33_1)).toNat*3)).off+1,none⟩=some (.int .i64 ((rd_T66 l2 (rd t373 x33_1)).f1))∧w'.cell? ⟨(ad390.add (((rd t373 x33_1)).toNat*3)).block,(ad390.add (((rd t373 x33_1)).toNat*3)).off+2,none⟩=some (.int .i64 ((rd_T66 l2 (rd t373 x33_1)).f2))) (ds:=[]) (fl 0 10) (by kernel_rfl) rfl rfl ⟨((HB.out.cell (World.block_lt_of_cell? w _ hw389_0)).trans hw389_0),((HB.out.cell (World.block_lt_of_cell? w _ hw389_1)).trans hw389_1),((HB.out.cell (World.block_lt_of_cell? w _ hw389_2)).trans hw389_2),((HB.out.cell (World.block_lt_of_cell? w _ hw390_0)).trans hw390_0),((HB.out.cell (World.block_lt_of_cell? w _ hw390_1)).trans hw390_1),((HB.out.cell (World.block_lt_of_cell? w _ hw390_2)).trans hw390_2)⟩ (fun hHeld=>?_);refine with_tabW impl_faultsOf.tab8 impl_faultsOf.bits8 (fun HT_ HW_=>?_)
       generalize wr.drew=w49 at HO_12 HO_13 HO_31 BK371 BK372 HB hx389_0 hx389_1 hx389_2 hx390_0 hx390_1 hx390_2 hHeld ⊢
       refine pu HT_.out 0 (some 45) (fl 1 10) (h:=?_)
       refine pu HT_.out 1 (some 46) (fl 2 10) (h:=?_)
       refine pu HT_.out 2 (some 47) (fl 3 10) (h:=?_)
       refine pu HT_.out 4 (some 49) #[true,true,true,false,true,false,false,false,false,false] (h:=?_)
       refine pu HT_.out 5 (some 50) #[true,true,true,false,true,true,false,false,false,false] (h:=?_)
       refine pu HT_.out 6 (some 51) #[true,true,true,false,true,true,true,false,false,false] (h:=?_)
       refine ta HT_.out HW_.out 3 (some 48) (fl 7 10) hHeld rfl (by rintro w' ⟨s0,s1,s2,s3,s4,s5⟩;go_simp;with_reducible rfl) (h:=?_)
       refine ta HT_.out HW_.out 7 (some 52) (fl 8 10) hHeld rfl (by rintro w' ⟨s0,s1,s2,s3,s4,s5⟩;go_simp;with_reducible rfl) (h:=?_)
       refine one_ (i:=8) (N:=some 53) (fl 9 10) rfl rfl (one_of HT_.out (by kernel_rfl)) (by decide) (fun K hK=>?_)
       refine goes_ Try.func54 (by kernel_rfl) rfl #[.agg #[.int .i64 ((rd_T62 l1 x33_1).f0),.int .i64 ((rd_T62 l1 x33_1).f1),.int .i64 ((rd_T62 l1 x33_1).f2)],.agg #[.int .i64 ((rd_T66 l2 (rd t373 x33_1)).f0),.int .i64 ((rd_T66 l2 (rd t373 x33_1)).f1),.int .i64 ((rd_T66 l2 (rd t373 x33_1)).f2)]] (by rfl) rfl rfl tl ?_
       with_reducible refine(impl_holeErrors.calls ((rd_T62 l1 x33_1).f0) ((rd_T62 l1 x33_1).f1) ((rd_T62 l1 x33_1).f2) ((rd_T66 l2 (rd t373 x33_1)).f0) ((rd_T66 l2 (rd t373 x33_1)).f1) ((rd_T66 l2 (rd t373 x33_1)).f2) t391 _ A27.out).mono ?_
       rintro e w50 ⟨v392,rfl,ho0,hb⟩
       refine⟨_,rfl,?_⟩
       replace HO_13:=am (Kd.S_elder' (by(with_reducible repeat(first|apply Kd.S_alloc|apply Kd.S_drewN|apply Kd.S_drew));exact HO_13.out) (Kd.R_base ho0) hb)
       have HO393:=am (Kd.R_lower (Kd.R_new' (Kd.R_new' ho0 (Kd.R_lt (rup HO_12.out))) (Kd.R_lt (rup HO_31.out))) (below_size bl))
       replace HO_12:=am (Kd.R_elder' (rup HO_12.out) (Kd.R_base ho0) hb)
       replace HO_31:=am (Kd.R_elder' (rup HO_31.out) (Kd.R_base ho0) hb)
       replace BK371:=am (blk_below (bup BK371.out) hb)
       replace BK372:=am (blk_below (bup BK372.out) hb)
       replace HB:=am (below_step bl hb)
       (try clear hb)
       (try clear ho0)
       refine hK.out _ _ ⟨((HB.out.cell (World.block_lt_of_cell? w _ hw389_0)).trans hw389_0),((HB.out.cell (World.block_lt_of_cell? w _ hw389_1)).trans hw389_1),((HB.out.cell (World.block_lt_of_cell? w _ hw389_2)).trans hw389_2),((HB.out.cell (World.block_lt_of_cell? w _ hw390_0)).trans hw390_0),((HB.out.cell (World.block_lt_of_cell? w _ hw390_1)).trans hw390_1),((HB.out.cell (World.block_lt_of_cell? w _ hw390_2)).trans hw390_2)⟩ (fun hHeld=>?_)
       clear hK K
       refine norm_ (a':=?_) ?_ ?_
       rotate_left
       ·show Act.put _ (some 53) _=_
        simp only[Act.put,List.setIfInBounds_toArray,List.set_cons_zero,List.set_cons_succ,i64_w,i32_w]
        rfl
       refine pu HT_.out 9 (some 16) (fl 10 10) (h:=?_)
       refine done_ (done_of HT_.out (by kernel_rfl)) ?_
       obtain⟨Ao51,co51,eo51⟩:=Kd.R_slice HO393.out
       subst eo51
       have p394:0≤(0:Int):=(by omega)
       have q394:0<(t391.length:Int):=od
       obtain⟨ad394,e394,hx394_0⟩:=Kd.at_int (Kd.R_reads' HO393.out).2.2 0 p394 q394
       cases e394
       have qi394:(0<t391.length)=True:=eq_true (by omega)
       (try rw[show((0:Int)).toNat=0 from rfl] at hx394_0)
       (try rw[Addr.add_zero'] at hx394_0)
       replace p394:=eq_true p394
       replace q394:=eq_true q394
       try go_wp2_with (first|((with_reducible refine gate_callee (f:=55) rfl ?_);refine goesL_ (some 57) rfl rfl Try.func55 (by kernel_rfl) rfl #[.int .i64 (rd t391 0),.int .i64 0] rfl tl ?_;(with_reducible refine(impl_distance.calls (rd t391 0) 0 t395 _ A29.out).mono ?_);rintro e w52 ⟨rfl,hb⟩;refine⟨_,rfl,?_⟩;replace HO_12:=am (Kd.R_below (rup HO_12.out) hb);replace HO_13:=am (Kd.S_below (by(with_reducible repeat(first|apply Kd.S_alloc|apply Kd.S_drewN|apply Kd.S_drew));exact HO_13.out) hb);replace HO_31:=am (Kd.R_below (rup HO_31.out) hb);replace HO393:=am (Kd.R_below (rup HO393.out) hb);replace BK371:=am (blk_below (bup BK371.out) hb);replace BK372:=am (blk_below (bup BK372.out) hb);replace HB:=am (below_step bl hb);(try clear hb))|((with_reducible refine gate_dst (N:=62) rfl ?_);refine Kd.R_lit (Kd.int .i64) _ 3 ?hg (N:=62) ?hd (xs:=([2,x33_1]:List Int)) (inner:=[.int .i64 2,.int .i64 x33_1]) (ok:=fun _=>True) (okp:=fun _=>True) ?hr ?hp (fun _ hk=>hk) trivial (Below.refl _ _) (Nat.le_refl _) (by simp) ?_;(case hd=>rfl);(case hg=>rfl);(case hr=>first|(go_simp;done)|(go_simp;rfl));(case hp=>exact(Reps.one (show Kd.M (Kd.int .i64) _ _ _ 2 [.int .i64 2] from rfl) (Reps.one (show Kd.M (Kd.int .i64) _ _ _ x33_1 [.int .i64 x33_1] from rfl) (Reps.none _ _))));intro v397 w53 ho54 hb hg_ hnew_;clear hg_ hnew_;(first|rw[← Ny396.out] at ho54|(simp only[Int.reduceToNat] at ho54;rw[← Ny396.out] at ho54));replace HO_13:=am (Kd.S_elder' (by(with_reducible repeat(first|apply Kd.S_alloc|apply Kd.S_drewN|apply Kd.S_drew));exact HO_13.out) (Kd.R_base ho54) hb);have HO398:=am (Kd.R_lower (Kd.R_new' (Kd.R_new' (Kd.R_new' ho54 (Kd.R_lt (rup HO_12.out))) (Kd.R_lt (rup HO_31.out))) (Kd.R_lt (rup HO393.out))) (below_size bl));replace HO_12:=am (Kd.R_elder' (rup HO_12.out) (Kd.R_base ho54) hb);replace HO_31:=am (Kd.R_elder' (rup HO_31.out) (Kd.R_base ho54) hb);replace HO393:=am (Kd.R_elder' (rup HO393.out) (Kd.R_base ho54) hb);replace BK371:=am (blk_below (bup BK371.out) hb);replace BK372:=am (blk_below (bup BK372.out) hb);replace HB:=am (below_step bl hb);clear hb ho54;obtain⟨Ao56,co56,eo56⟩:=Kd.R_slice HO398.out;subst eo56)|((with_reducible refine gate_builtin (b := .append) (xs := #[.tmp 60,.tmp 63]) rfl ?_);at_builtin;refine Kd.S_append (Kd.slice 3 (Kd.int .i64)) (w0:=w) w.heap.size rfl (.tmp 60) (.tmp 63) 49 22 (.slice none 0 0) 24 rfl Try.underlying49 info22 rfl (by decide) (by omega) u13 x13_1 y396 [.slice Ao56 y396.length co56] (fun k_=>some k_≠(v377:Value).ownBlock∧some k_≠(.slice (some ad382) t373.length co14:Value).ownBlock∧some k_≠(.slice (some ad394) t391.length co51:Value).ownBlock) (fun k_=>some k_=(.slice Ao56 y396.length co56:Value).ownBlock) rfl rfl ?aP (fun k_ hk_=>((Kd.R_mono (ok':=fun k_=>((fun k_=>some k_≠(v377:Value).ownBlock∧some k_≠(.slice (some ad382) t373.length co14:Value).ownBlock∧some k_≠(.slice (some ad394) t391.length co51:Value).ownBlock)) k_∧some k_≠(u13:Value).ownBlock) (Kd.R_apart' (HO398.out) (Kd.S_typed HO_13.out) (by decide)) (fun k_ hk=>⟨⟨hk.1.1.1.2,⟨hk.1.1.2,hk.1.2⟩⟩,hk.2⟩))).1 k_ hk_.symm) ?aF ?aO ?aB ?aS ?aL ?_;(case aP=>exact Kd.M_row (Kd.R_mono (Kd.R_tight rfl (Kd.R_mono (ok':=fun k_=>((fun k_=>some k_≠(v377:Value).ownBlock∧some k_≠(.slice (some ad382) t373.length co14:Value).ownBlock∧some k_≠(.slice (some ad394) t391.length co51:Value).ownBlock)) k_∧some k_≠(u13:Value).ownBlock) (Kd.R_apart' (HO398.out) (Kd.S_typed HO_13.out) (by decide)) (fun k_ hk=>⟨⟨hk.1.1.1.2,⟨hk.1.1.2,hk.1.2⟩⟩,hk.2⟩))) (fun _ h_=>h_)));(case aB=>exact bl);(case aF=>exact(fun k_ hk=>⟨Kd.fresh' (Kd.R_lt (rup HO_12.out)) k_ hk,Kd.fresh' (Kd.R_lt (rup HO_31.out)) k_ hk,Kd.fresh' (Kd.R_lt (rup HO393.out)) k_ hk⟩));(case aO=>exact(by(with_reducible repeat(first|apply Kd.S_alloc|apply Kd.S_drewN|apply Kd.S_drew));exact Kd.S_mono HO_13.out (fun k_ hk=>⟨⟨hk.1.1.1,⟨hk.1.1.2,hk.1.2⟩⟩,fun e_=>hk.2 e_⟩)));(case aS=>exact(below_size bl));(case aL=>have:=LMc31.out;omega);intro v400 w55 ho hb hg hat;rw[← Ny399.out] at ho;replace HO_12:=am (Kd.R_over' (rup HO_12.out) (Kd.S_typed (by(with_reducible repeat(first|apply Kd.S_alloc|apply Kd.S_drewN|apply Kd.S_drew));exact HO_13.out)) (by decide) hg);replace HO_31:=am (Kd.R_over' (rup HO_31.out) (Kd.S_typed (by(with_reducible repeat(first|apply Kd.S_alloc|apply Kd.S_drewN|apply Kd.S_drew));exact HO_13.out)) (by decide) hg);replace BK371:=am (blk_grown (bup BK371.out) hg (Kd.S_ne HO_13.out BK371.out (by decide)));replace BK372:=am (blk_grown (bup BK372.out) hg (Kd.S_ne HO_13.out BK372.out (by decide)));replace HO393:=am (Kd.R_over' (rup HO393.out) (Kd.S_typed (by(with_reducible repeat(first|apply Kd.S_alloc|apply Kd.S_drewN|apply Kd.S_drew));exact HO_13.out)) (by decide) hg);replace HB:=am (hb);have HO401:=am (ho);clear HO_13 HO398 ho hb hg hat;have p402:0≤(1:Int):=(by omega);have q402:1<(t391.length:Int):=od;obtain⟨ad402,e402,hx402_0⟩:=Kd.at_int (Kd.R_reads' HO393.out).2.2 1 p402 q402;obtain rfl:ad394=ad402:=(by injection e402);(try simp only[show(1:Int).toNat=1 from rfl,Nat.reduceMul,Nat.reduceEqDiff,Go.Addr.add,↓reduceIte] at hx402_0);have qi402:(1<t391.length)=True:=eq_true (by omega);(try rw[show((1:Int)).toNat=1 from rfl] at hx402_0);replace p402:=eq_true p402;replace q402:=eq_true q402)|((with_reducible refine gate_callee (f:=55) rfl ?_);refine goesL_ (some 68) rfl rfl Try.func55 (by kernel_rfl) rfl #[.int .i64 (rd t391 1),.int .i64 0] rfl tl ?_;(with_reducible refine(impl_distance.calls (rd t391 1) 0 t403 _ A33.out).mono ?_);rintro e w57 ⟨rfl,hb⟩;refine⟨_,rfl,?_⟩;replace HO_12:=am (Kd.R_below (rup HO_12.out) hb);replace HO_31:=am (Kd.R_below (rup HO_31.out) hb);replace HO393:=am (Kd.R_below (rup HO393.out) hb);replace HO401:=am (Kd.S_below (by(with_reducible repeat(first|apply Kd.S_alloc|apply Kd.S_drewN|apply Kd.S_drew));exact HO401.out) hb);replace BK371:=am (blk_below (bup BK371.out) hb);replace BK372:=am (blk_below (bup BK372.out) hb);replace HB:=am (below_step bl hb);(try clear hb)))
       go_roundg k1
       case measure=>have:=HK1.out;omega
       case rel=>exact⟨(y399),(wrap64 (x33_1+1)),fin2,H',⟨by have:=HK1.out;omega⟩,⟨rup (Kd.R_mono HO_12.out (fun _ hk=>hk.1.1))⟩,⟨by(with_reducible repeat(first|apply Kd.S_alloc|apply Kd.S_drewN|apply Kd.S_drew));exact Kd.S_mono HO401.out (fun _ hk=>⟨hk.1,hk.2.1⟩)⟩,⟨rup (Kd.R_mono HO_31.out (fun _ hk=>hk.1.1))⟩,⟨bup BK371.out⟩,⟨bup BK372.out⟩,⟨bl⟩⟩
     ·have c30b0:decide (a4<t395)=false:=decide_eq_false c30
      clear c30
      obtain⟨c58,H⟩:=ifp H
      have c58b0:=decide_eq_true c58
      have c58b1:decide (1<t391.length)=true:=decide_eq_true (by omega)
      clear c58
      obtain⟨t411,A59,H⟩:=bnd H
      rcases itc H with⟨c60,H⟩|⟨c60,H⟩
      ·have c60b0:decide (a4<t411)=true:=decide_eq_true c60
       clear c60
       obtain⟨y412,hy412⟩:∃ y_:List Int,y_=(([3,x33_1]:List Int)):=⟨_,rfl⟩
       replace H:(if x13_1.length<5864062014805 then(impl_faultsOf.l0 k1 l1 l2 a4 t376 (x13_1 ++ [y412]) t373 (t373.length:Int) (wrap64 (x33_1+1)) l0_0 a0_1 a3_0 a3_1 a3_2) else(none))=some r:=by subst hy412;exact H
       have Ny412:=am hy412
       clear hy412
       obtain⟨c61,H⟩:=ifp H
       have LMc61:=am c61
       clear c61
       obtain⟨y415,hy415⟩:∃ y_:List (List Int),y_=(x13_1 ++ [y412]):=⟨_,rfl⟩
       replace H:(impl_faultsOf.l0 k1 l1 l2 a4 t376 y415 t373 (t373.length:Int) (wrap64 (x33_1+1)) l0_0 a0_1 a3_0 a3_1 a3_2)=some r:=by subst hy415;exact H
       have Ny415:=am hy415
       clear hy415
       have H':=am H
       clear H
       have p382:0≤(x33_1:Int):=od
       have q382:x33_1<(t373.length:Int):=od
       obtain⟨ad382,e382,hx382_0⟩:=Kd.at_int (Kd.R_reads' HO_31.out).2.2 x33_1 p382 q382
       cases e382
       replace p382:=eq_true p382
       replace q382:=eq_true q382
       try go_wp2
       replace HO_12:=am (Kd.R_drew HO_12.out)
       replace HO_13:=am (Kd.S_drew HO_13.out)
       replace HO_31:=am (Kd.R_drew HO_31.out)
       replace BK371:=am (bD_ BK371.out)
       replace BK372:=am (bD_ BK372.out)
       replace HB:=am (below_drew1 HB.out)
       have p389:0≤(x33_1:Int):=od
       have q389:x33_1<(l1.length:Int):=od
       obtain⟨ad389,e389,hx389_0,hx389_1,hx389_2⟩:=at_T62 HR1.out x33_1 p389 q389
       have hw389_2:=hx389_2
       have hw389_1:=hx389_1
       have hw389_0:=hx389_0
       cases e389
       replace hx389_0:=(HB.out.cell (World.block_lt_of_cell? w _ hx389_0)).trans hx389_0
       replace hx389_1:=(HB.out.cell (World.block_lt_of_cell? w _ hx389_1)).trans hx389_1
       replace hx389_2:=(HB.out.cell (World.block_lt_of_cell? w _ hx389_2)).trans hx389_2
       replace p389:=eq_true p389
       replace q389:=eq_true q389
       have p390:0≤((rd t373 x33_1):Int):=od
       have q390:(rd t373 x33_1)<(l2.length:Int):=od
       obtain⟨ad390,e390,hx390_0,hx390_1,hx390_2⟩:=at_T66 HR2.out (rd t373 x33_1) p390 q390
       have hw390_2:=hx390_2
       have hw390_1:=hx390_1
       have hw390_0:=hx390_0
       cases e390
       replace hx390_0:=(HB.out.cell (World.block_lt_of_cell? w _ hx390_0)).trans hx390_0
       replace hx390_1:=(HB.out.cell (World.block_lt_of_cell? w _ hx390_1)).trans hx390_1
       replace hx390_2:=(HB.out.cell (World.block_lt_of_cell? w _ hx390_2)).trans hx390_2
       replace p390:=eq_true p390
       replace q390:=eq_true q390
       refine start_ (n:=10) (S:=fun w'=>w'.cell? (ad389.add ((x33_1).toNat*3))=some (.int .i64 ((rd_T62 l1 x33_1).f0))∧w'.cell? ⟨(ad389.add ((x33_1).toNat*3)).block,(ad389.add ((x33_1).toNat*3)).off+1,none⟩=some (.int .i64 ((rd_T62 l1 x33_1).f1))∧w'.cell? ⟨(ad389.add ((x33_1).toNat*3)).block,(ad389.add ((x33_1).toNat*3)).off+2,none⟩=some (.int .i64 ((rd_T62 l1 x33_1).f2))∧w'.cell? (ad390.add (((rd t373 x33_1)).toNat*3))=some (.int .i64 ((rd_T66 l2 (rd t373 x33_1)).f0))∧w'.cell? ⟨(ad390.add (((rd t373 x33_1)).toNat*3)).block,(ad390.add (((rd t373 x33_1)).toNat*3)).off+1,none⟩=some (.int .i64 ((rd_T66 l2 (rd t373 x33_1)).f1))∧w'.cell? ⟨(ad390.add (((rd t373 x33_1)).toNat*3)).block,(ad390.add (((rd t373 x33_1)).toNat*3)).off+2,none⟩=some (.int .i64 ((rd_T66 l2 (rd t373 x33_1)).f2))) (ds:=[]) (fl 0 10) (by kernel_rfl) rfl rfl ⟨((HB.out.cell (World.block_lt_of_cell? w _ hw389_0)).trans hw389_0),((HB.out.cell (World.block_lt_of_cell? w _ hw389_1)).trans hw389_1),((HB.out.cell (World.block_lt_of_cell? w _ hw389_2)).trans hw389_2),((HB.out.cell (World.block_lt_of_cell? w _ hw390_0)).trans hw390_0),((HB.out.cell (World.block_lt_of_cell? w _ hw390_1)).trans hw390_1),((HB.out.cell (World.block_lt_of_cell? w _ hw390_2)).trans hw390_2)⟩ (fun hHeld=>?_);refine with_tabW impl_faultsOf.tab8 impl_faultsOf.bits8 (fun HT_ HW_=>?_)
       generalize wr.drew=w62 at HO_12 HO_13 HO_31 BK371 BK372 HB hx389_0 hx389_1 hx389_2 hx390_0 hx390_1 hx390_2 hHeld ⊢
       refine pu HT_.out 0 (some 45) (fl 1 10) (h:=?_)
       refine pu HT_.out 1 (some 46) (fl 2 10) (h:=?_)
       refine pu HT_.out 2 (some 47) (fl 3 10) (h:=?_)
       refine pu HT_.out 4 (some 49) #[true,true,true,false,true,false,false,false,false,false] (h:=?_)
       refine pu HT_.out 5 (some 50) #[true,true,true,false,true,true,false,false,false,false] (h:=?_)
       refine pu HT_.out 6 (some 51) #[true,true,true,false,true,true,true,false,false,false] (h:=?_)
       refine ta HT_.out HW_.out 3 (some 48) (fl 7 10) hHeld rfl (by rintro w' ⟨s0,s1,s2,s3,s4,s5⟩;go_simp;with_reducible rfl) (h:=?_)
       refine ta HT_.out HW_.out 7 (some 52) (fl 8 10) hHeld rfl (by rintro w' ⟨s0,s1,s2,s3,s4,s5⟩;go_simp;with_reducible rfl) (h:=?_)
       refine one_ (i:=8) (N:=some 53) (fl 9 10) rfl rfl (one_of HT_.out (by kernel_rfl)) (by decide) (fun K hK=>?_)
       refine goes_ Try.func54 (by kernel_rfl) rfl #[.agg #[.int .i64 ((rd_T62 l1 x33_1).f0),.int .i64 ((rd_T62 l1 x33_1).f1),.int .i64 ((rd_T62 l1 x33_1).f2)],.agg #[.int .i64 ((rd_T66 l2 (rd t373 x33_1)).f0),.int .i64 ((rd_T66 l2 (rd t373 x33_1)).f1),.int .i64 ((rd_T66 l2 (rd t373 x33_1)).f2)]] (by rfl) rfl rfl tl ?_
       with_reducible refine(impl_holeErrors.calls ((rd_T62 l1 x33_1).f0) ((rd_T62 l1 x33_1).f1) ((rd_T62 l1 x33_1).f2) ((rd_T66 l2 (rd t373 x33_1)).f0) ((rd_T66 l2 (rd t373 x33_1)).f1) ((rd_T66 l2 (rd t373 x33_1)).f2) t391 _ A27.out).mono ?_
       rintro e w63 ⟨v392,rfl,ho0,hb⟩
       refine⟨_,rfl,?_⟩
       replace HO_13:=am (Kd.S_elder' (by(with_reducible repeat(first|apply Kd.S_alloc|apply Kd.S_drewN|apply Kd.S_drew));exact HO_13.out) (Kd.R_base ho0) hb)
       have HO393:=am (Kd.R_lower (Kd.R_new' (Kd.R_new' ho0 (Kd.R_lt (rup HO_12.out))) (Kd.R_lt (rup HO_31.out))) (below_size bl))
       replace HO_12:=am (Kd.R_elder' (rup HO_12.out) (Kd.R_base ho0) hb)
       replace HO_31:=am (Kd.R_elder' (rup HO_31.out) (Kd.R_base ho0) hb)
       replace BK371:=am (blk_below (bup BK371.out) hb)
       replace BK372:=am (blk_below (bup BK372.out) hb)
       replace HB:=am (below_step bl hb)
       (try clear hb)
       (try clear ho0)
       refine hK.out _ _ ⟨((HB.out.cell (World.block_lt_of_cell? w _ hw389_0)).trans hw389_0),((HB.out.cell (World.block_lt_of_cell? w _ hw389_1)).trans hw389_1),((HB.out.cell (World.block_lt_of_cell? w _ hw389_2)).trans hw389_2),((HB.out.cell (World.block_lt_of_cell? w _ hw390_0)).trans hw390_0),((HB.out.cell (World.block_lt_of_cell? w _ hw390_1)).trans hw390_1),((HB.out.cell (World.block_lt_of_cell? w _ hw390_2)).trans hw390_2)⟩ (fun hHeld=>?_)
       clear hK K
       refine norm_ (a':=?_) ?_ ?_
       rotate_left
       ·show Act.put _ (some 53) _=_
        simp only[Act.put,List.setIfInBounds_toArray,List.set_cons_zero,List.set_cons_succ,i64_w,i32_w]
        rfl
       refine pu HT_.out 9 (some 16) (fl 10 10) (h:=?_)
       refine done_ (done_of HT_.out (by kernel_rfl)) ?_
       obtain⟨Ao64,co64,eo64⟩:=Kd.R_slice HO393.out
       subst eo64
       have p394:0≤(0:Int):=(by omega)
       have q394:0<(t391.length:Int):=od
       obtain⟨ad394,e394,hx394_0⟩:=Kd.at_int (Kd.R_reads' HO393.out).2.2 0 p394 q394
       cases e394
       have qi394:(0<t391.length)=True:=eq_true (by omega)
       (try rw[show((0:Int)).toNat=0 from rfl] at hx394_0)
       (try rw[Addr.add_zero'] at hx394_0)
       replace p394:=eq_true p394
       replace q394:=eq_true q394
       try go_wp2_with (first|((with_reducible refine gate_callee (f:=55) rfl ?_);refine goesL_ (some 57) rfl rfl Try.func55 (by kernel_rfl) rfl #[.int .i64 (rd t391 0),.int .i64 0] rfl tl ?_;(with_reducible refine(impl_distance.calls (rd t391 0) 0 t395 _ A29.out).mono ?_);rintro e w65 ⟨rfl,hb⟩;refine⟨_,rfl,?_⟩;replace HO_12:=am (Kd.R_below (rup HO_12.out) hb);replace HO_13:=am (Kd.S_below (by(with_reducible repeat(first|apply Kd.S_alloc|apply Kd.S_drewN|apply Kd.S_drew));exact HO_13.out) hb);replace HO_31:=am (Kd.R_below (rup HO_31.out) hb);replace HO393:=am (Kd.R_below (rup HO393.out) hb);replace BK371:=am (blk_below (bup BK371.out) hb);replace BK372:=am (blk_below (bup BK372.out) hb);replace HB:=am (below_step bl hb);(try clear hb);have p410:0≤(1:Int):=(by omega);have q410:1<(t391.length:Int):=od;obtain⟨ad410,e410,hx410_0⟩:=Kd.at_int (Kd.R_reads' HO393.out).2.2 1 p410 q410;obtain rfl:ad394=ad410:=(by injection e410);(try simp only[show(1:Int).toNat=1 from rfl,Nat.reduceMul,Nat.reduceEqDiff,Go.Addr.add,↓reduceIte] at hx410_0);have qi410:(1<t391.length)=True:=eq_true (by omega);(try rw[show((1:Int)).toNat=1 from rfl] at hx410_0);replace p410:=eq_true p410;replace q410:=eq_true q410)|((with_reducible refine gate_callee (f:=55) rfl ?_);refine goesL_ (some 68) rfl rfl Try.func55 (by kernel_rfl) rfl #[.int .i64 (rd t391 1),.int .i64 0] rfl tl ?_;(with_reducible refine(impl_distance.calls (rd t391 1) 0 t411 _ A59.out).mono ?_);rintro e w66 ⟨rfl,hb⟩;refine⟨_,rfl,?_⟩;replace HO_12:=am (Kd.R_below (rup HO_12.out) hb);replace HO_13:=am (Kd.S_below (by(with_reducible repeat(first|apply Kd.S_alloc|apply Kd.S_drewN|apply Kd.S_drew));exact HO_13.out) hb);replace HO_31:=am (Kd.R_below (rup HO_31.out) hb);replace HO393:=am (Kd.R_below (rup HO393.out) hb);replace BK371:=am (blk_below (bup BK371.out) hb);replace BK372:=am (blk_below (bup BK372.out) hb);replace HB:=am (below_step bl hb);(try clear hb))|((with_reducible refine gate_dst (N:=73) rfl ?_);refine Kd.R_lit (Kd.int .i64) _ 3 ?hg (N:=73) ?hd (xs:=([3,x33_1]:List Int)) (inner:=[.int .i64 3,.int .i64 x33_1]) (ok:=fun _=>True) (okp:=fun _=>True) ?hr ?hp (fun _ hk=>hk) trivial (Below.refl _ _) (Nat.le_refl _) (by simp) ?_;(case hd=>rfl);(case hg=>rfl);(case hr=>first|(go_simp;done)|(go_simp;rfl));(case hp=>exact(Reps.one (show Kd.M (Kd.int .i64) _ _ _ 3 [.int .i64 3] from rfl) (Reps.one (show Kd.M (Kd.int .i64) _ _ _ x33_1 [.int .i64 x33_1] from rfl) (Reps.none _ _))));intro v413 w67 ho68 hb hg_ hnew_;clear hg_ hnew_;(first|rw[← Ny412.out] at ho68|(simp only[Int.reduceToNat] at ho68;rw[← Ny412.out] at ho68));replace HO_13:=am (Kd.S_elder' (by(with_reducible repeat(first|apply Kd.S_alloc|apply Kd.S_drewN|apply Kd.S_drew));exact HO_13.out) (Kd.R_base ho68) hb);have HO414:=am (Kd.R_lower (Kd.R_new' (Kd.R_new' (Kd.R_new' ho68 (Kd.R_lt (rup HO_12.out))) (Kd.R_lt (rup HO_31.out))) (Kd.R_lt (rup HO393.out))) (below_size bl));replace HO_12:=am (Kd.R_elder' (rup HO_12.out) (Kd.R_base ho68) hb);replace HO_31:=am (Kd.R_elder' (rup HO_31.out) (Kd.R_base ho68) hb);replace HO393:=am (Kd.R_elder' (rup HO393.out) (Kd.R_base ho68) hb);replace BK371:=am (blk_below (bup BK371.out) hb);replace BK372:=am (blk_below (bup BK372.out) hb);replace HB:=am (below_step bl hb);clear hb ho68;obtain⟨Ao70,co70,eo70⟩:=Kd.R_slice HO414.out;subst eo70)|((with_reducible refine gate_builtin (b := .append) (xs := #[.tmp 71,.tmp 74]) rfl ?_);at_builtin;refine Kd.S_append (Kd.slice 3 (Kd.int .i64)) (w0:=w) w.heap.size rfl (.tmp 71) (.tmp 74) 49 22 (.slice none 0 0) 24 rfl Try.underlying49 info22 rfl (by decide) (by omega) u13 x13_1 y412 [.slice Ao70 y412.length co70] (fun k_=>some k_≠(v377:Value).ownBlock∧some k_≠(.slice (some ad382) t373.length co14:Value).ownBlock∧some k_≠(.slice (some ad394) t391.length co64:Value).ownBlock) (fun k_=>some k_=(.slice Ao70 y412.length co70:Value).ownBlock) rfl rfl ?aP (fun k_ hk_=>((Kd.R_mono (ok':=fun k_=>((fun k_=>some k_≠(v377:Value).ownBlock∧some k_≠(.slice (some ad382) t373.length co14:Value).ownBlock∧some k_≠(.slice (some ad394) t391.length co64:Value).ownBlock)) k_∧some k_≠(u13:Value).ownBlock) (Kd.R_apart' (HO414.out) (Kd.S_typed HO_13.out) (by decide)) (fun k_ hk=>⟨⟨hk.1.1.1.2,⟨hk.1.1.2,hk.1.2⟩⟩,hk.2⟩))).1 k_ hk_.symm) ?aF ?aO ?aB ?aS ?aL ?_;(case aP=>exact Kd.M_row (Kd.R_mono (Kd.R_tight rfl (Kd.R_mono (ok':=fun k_=>((fun k_=>some k_≠(v377:Value).ownBlock∧some k_≠(.slice (some ad382) t373.length co14:Value).ownBlock∧some k_≠(.slice (some ad394) t391.length co64:Value).ownBlock)) k_∧some k_≠(u13:Value).ownBlock) (Kd.R_apart' (HO414.out) (Kd.S_typed HO_13.out) (by decide)) (fun k_ hk=>⟨⟨hk.1.1.1.2,⟨hk.1.1.2,hk.1.2⟩⟩,hk.2⟩))) (fun _ h_=>h_)));(case aB=>exact bl);(case aF=>exact(fun k_ hk=>⟨Kd.fresh' (Kd.R_lt (rup HO_12.out)) k_ hk,Kd.fresh' (Kd.R_lt (rup HO_31.out)) k_ hk,Kd.fresh' (Kd.R_lt (rup HO393.out)) k_ hk⟩));(case aO=>exact(by(with_reducible repeat(first|apply Kd.S_alloc|apply Kd.S_drewN|apply Kd.S_drew));exact Kd.S_mono HO_13.out (fun k_ hk=>⟨⟨hk.1.1.1,⟨hk.1.1.2,hk.1.2⟩⟩,fun e_=>hk.2 e_⟩)));(case aS=>exact(below_size bl));(case aL=>have:=LMc61.out;omega);intro v416 w69 ho hb hg hat;rw[← Ny415.out] at ho;replace HO_12:=am (Kd.R_over' (rup HO_12.out) (Kd.S_typed (by(with_reducible repeat(first|apply Kd.S_alloc|apply Kd.S_drewN|apply Kd.S_drew));exact HO_13.out)) (by decide) hg);replace HO_31:=am (Kd.R_over' (rup HO_31.out) (Kd.S_typed (by(with_reducible repeat(first|apply Kd.S_alloc|apply Kd.S_drewN|apply Kd.S_drew));exact HO_13.out)) (by decide) hg);replace BK371:=am (blk_grown (bup BK371.out) hg (Kd.S_ne HO_13.out BK371.out (by decide)));replace BK372:=am (blk_grown (bup BK372.out) hg (Kd.S_ne HO_13.out BK372.out (by decide)));replace HO393:=am (Kd.R_over' (rup HO393.out) (Kd.S_typed (by(with_reducible repeat(first|apply Kd.S_alloc|apply Kd.S_drewN|apply Kd.S_drew));exact HO_13.out)) (by decide) hg);replace HB:=am (hb);have HO417:=am (ho);clear HO_13 HO414 ho hb hg hat))
       go_roundg k1
       case measure=>have:=HK1.out;omega
       case rel=>exact⟨(y415),(wrap64 (x33_1+1)),fin2,H',⟨by have:=HK1.out;omega⟩,⟨rup (Kd.R_mono HO_12.out (fun _ hk=>hk.1.1))⟩,⟨by(with_reducible repeat(first|apply Kd.S_alloc|apply Kd.S_drewN|apply Kd.S_drew));exact Kd.S_mono HO417.out (fun _ hk=>⟨hk.1,hk.2.1⟩)⟩,⟨rup (Kd.R_mono HO_31.out (fun _ hk=>hk.1.1))⟩,⟨bup BK371.out⟩,⟨bup BK372.out⟩,⟨bl⟩⟩
      ·have c60b0:decide (a4<t411)=false:=decide_eq_false c60
       clear c60
       have H':=am H
       clear H
       have p382:0≤(x33_1:Int):=od
       have q382:x33_1<(t373.length:Int):=od
       obtain⟨ad382,e382,hx382_0⟩:=Kd.at_int (Kd.R_reads' HO_31.out).2.2 x33_1 p382 q382
       cases e382
       replace p382:=eq_true p382
       replace q382:=eq_true q382
       try go_wp2
       replace HO_12:=am (Kd.R_drew HO_12.out)
       replace HO_13:=am (Kd.S_drew HO_13.out)
       replace HO_31:=am (Kd.R_drew HO_31.out)
       replace BK371:=am (bD_ BK371.out)
       replace BK372:=am (bD_ BK372.out)
       replace HB:=am (below_drew1 HB.out)
       have p389:0≤(x33_1:Int):=od
       have q389:x33_1<(l1.length:Int):=od
       obtain⟨ad389,e389,hx389_0,hx389_1,hx389_2⟩:=at_T62 HR1.out x33_1 p389 q389
       have hw389_2:=hx389_2
       have hw389_1:=hx389_1
       have hw389_0:=hx389_0
       cases e389
       replace hx389_0:=(HB.out.cell (World.block_lt_of_cell? w _ hx389_0)).trans hx389_0
       replace hx389_1:=(HB.out.cell (World.block_lt_of_cell? w _ hx389_1)).trans hx389_1
       replace hx389_2:=(HB.out.cell (World.block_lt_of_cell? w _ hx389_2)).trans hx389_2
       replace p389:=eq_true p389
       replace q389:=eq_true q389
       have p390:0≤((rd t373 x33_1):Int):=od
       have q390:(rd t373 x33_1)<(l2.length:Int):=od
       obtain⟨ad390,e390,hx390_0,hx390_1,hx390_2⟩:=at_T66 HR2.out (rd t373 x33_1) p390 q390
       have hw390_2:=hx390_2
       have hw390_1:=hx390_1
       have hw390_0:=hx390_0
       cases e390
       replace hx390_0:=(HB.out.cell (World.block_lt_of_cell? w _ hx390_0)).trans hx390_0
       replace hx390_1:=(HB.out.cell (World.block_lt_of_cell? w _ hx390_1)).trans hx390_1
       replace hx390_2:=(HB.out.cell (World.block_lt_of_cell? w _ hx390_2)).trans hx390_2
       replace p390:=eq_true p390
       replace q390:=eq_true q390
       refine start_ (n:=10) (S:=fun w'=>w'.cell? (ad389.add ((x33_1).toNat*3))=some (.int .i64 ((rd_T62 l1 x33_1).f0))∧w'.cell? ⟨(ad389.add ((x33_1).toNat*3)).block,(ad389.add ((x33_1).toNat*3)).off+1,none⟩=some (.int .i64 ((rd_T62 l1 x33_1).f1))∧w'.cell? ⟨(ad389.add ((x33_1).toNat*3)).block,(ad389.add ((x33_1).toNat*3)).off+2,none⟩=some (.int .i64 ((rd_T62 l1 x33_1).f2))∧w'.cell? (ad390.add (((rd t373 x33_1)).toNat*3))=some (.int .i64 ((rd_T66 l2 (rd t373 x33_1)).f0))∧w'.cell? ⟨(ad390.add (((rd t373 x33_1)).toNat*3)).block,(ad390.add (((rd t373 x33_1)).toNat*3)).off+1,none⟩=some (.int .i64 ((rd_T66 l2 (rd t373 x33_1)).f1))∧w'.cell? ⟨(ad390.add (((rd t373 x33_1)).toNat*3)).block,(ad390.add (((rd t373 x33_1)).toNat*3)).off+2,none⟩=some (.int .i64 ((rd_T66 l2 (rd t373 x33_1)).f2))) (ds:=[]) (fl 0 10) (by kernel_rfl) rfl rfl ⟨((HB.out.cell (World.block_lt_of_cell? w _ hw389_0)).trans hw389_0),((HB.out.cell (World.block_lt_of_cell? w _ hw389_1)).trans hw389_1),((HB.out.cell (World.block_lt_of_cell? w _ hw389_2)).trans hw389_2),((HB.out.cell (World.block_lt_of_cell? w _ hw390_0)).trans hw390_0),((HB.out.cell (World.block_lt_of_cell? w _ hw390_1)).trans hw390_1),((HB.out.cell (World.block_lt_of_cell? w _ hw390_2)).trans hw390_2)⟩ (fun hHeld=>?_);refine with_tabW impl_faultsOf.tab8 impl_faultsOf.bits8 (fun HT_ HW_=>?_)
       generalize wr.drew=w71 at HO_12 HO_13 HO_31 BK371 BK372 HB hx389_0 hx389_1 hx389_2 hx390_0 hx390_1 hx390_2 hHeld ⊢
       refine pu HT_.out 0 (some 45) (fl 1 10) (h:=?_)
       refine pu HT_.out 1 (some 46) (fl 2 10) (h:=?_)
       refine pu HT_.out 2 (some 47) (fl 3 10) (h:=?_)
       refine pu HT_.out 4 (some 49) #[true,true,true,false,true,false,false,false,false,false] (h:=?_)
       refine pu HT_.out 5 (some 50) #[true,true,true,false,true,true,false,false,false,false] (h:=?_)
       refine pu HT_.out 6 (some 51) #[true,true,true,false,true,true,true,false,false,false] (h:=?_)
       refine ta HT_.out HW_.out 3 (some 48) (fl 7 10) hHeld rfl (by rintro w' ⟨s0,s1,s2,s3,s4,s5⟩;go_simp;with_reducible rfl) (h:=?_)
       refine ta HT_.out HW_.out 7 (some 52) (fl 8 10) hHeld rfl (by rintro w' ⟨s0,s1,s2,s3,s4,s5⟩;go_simp;with_reducible rfl) (h:=?_)
       refine one_ (i:=8) (N:=some 53) (fl 9 10) rfl rfl (one_of HT_.out (by kernel_rfl)) (by decide) (fun K hK=>?_)
       refine goes_ Try.func54 (by kernel_rfl) rfl #[.agg #[.int .i64 ((rd_T62 l1 x33_1).f0),.int .i64 ((rd_T62 l1 x33_1).f1),.int .i64 ((rd_T62 l1 x33_1).f2)],.agg #[.int .i64 ((rd_T66 l2 (rd t373 x33_1)).f0),.int .i64 ((rd_T66 l2 (rd t373 x33_1)).f1),.int .i64 ((rd_T66 l2 (rd t373 x33_1)).f2)]] (by rfl) rfl rfl tl ?_
       with_reducible refine(impl_holeErrors.calls ((rd_T62 l1 x33_1).f0) ((rd_T62 l1 x33_1).f1) ((rd_T62 l1 x33_1).f2) ((rd_T66 l2 (rd t373 x33_1)).f0) ((rd_T66 l2 (rd t373 x33_1)).f1) ((rd_T66 l2 (rd t373 x33_1)).f2) t391 _ A27.out).mono ?_
       rintro e w72 ⟨v392,rfl,ho0,hb⟩
       refine⟨_,rfl,?_⟩
       replace HO_13:=am (Kd.S_elder' (by(with_reducible repeat(first|apply Kd.S_alloc|apply Kd.S_drewN|apply Kd.S_drew));exact HO_13.out) (Kd.R_base ho0) hb)
       have HO393:=am (Kd.R_lower (Kd.R_new' (Kd.R_new' ho0 (Kd.R_lt (rup HO_12.out))) (Kd.R_lt (rup HO_31.out))) (below_size bl))
       replace HO_12:=am (Kd.R_elder' (rup HO_12.out) (Kd.R_base ho0) hb)
       replace HO_31:=am (Kd.R_elder' (rup HO_31.out) (Kd.R_base ho0) hb)
       replace BK371:=am (blk_below (bup BK371.out) hb)
       replace BK372:=am (blk_below (bup BK372.out) hb)
       replace HB:=am (below_step bl hb)
       (try clear hb)
       (try clear ho0)
       refine hK.out _ _ ⟨((HB.out.cell (World.block_lt_of_cell? w _ hw389_0)).trans hw389_0),((HB.out.cell (World.block_lt_of_cell? w _ hw389_1)).trans hw389_1),((HB.out.cell (World.block_lt_of_cell? w _ hw389_2)).trans hw389_2),((HB.out.cell (World.block_lt_of_cell? w _ hw390_0)).trans hw390_0),((HB.out.cell (World.block_lt_of_cell? w _ hw390_1)).trans hw390_1),((HB.out.cell (World.block_lt_of_cell? w _ hw390_2)).trans hw390_2)⟩ (fun hHeld=>?_)
       clear hK K
       refine norm_ (a':=?_) ?_ ?_
       rotate_left
       ·show Act.put _ (some 53) _=_
        simp only[Act.put,List.setIfInBounds_toArray,List.set_cons_zero,List.set_cons_succ,i64_w,i32_w]
        rfl
       refine pu HT_.out 9 (some 16) (fl 10 10) (h:=?_)
       refine done_ (done_of HT_.out (by kernel_rfl)) ?_
       obtain⟨Ao73,co73,eo73⟩:=Kd.R_slice HO393.out
       subst eo73
       have p394:0≤(0:Int):=(by omega)
       have q394:0<(t391.length:Int):=od
       obtain⟨ad394,e394,hx394_0⟩:=Kd.at_int (Kd.R_reads' HO393.out).2.2 0 p394 q394
       cases e394
       have qi394:(0<t391.length)=True:=eq_true (by omega)
       (try rw[show((0:Int)).toNat=0 from rfl] at hx394_0)
       (try rw[Addr.add_zero'] at hx394_0)
       replace p394:=eq_true p394
       replace q394:=eq_true q394
       try go_wp2_with (first|((with_reducible refine gate_callee (f:=55) rfl ?_);refine goesL_ (some 57) rfl rfl Try.func55 (by kernel_rfl) rfl #[.int .i64 (rd t391 0),.int .i64 0] rfl tl ?_;(with_reducible refine(impl_distance.calls (rd t391 0) 0 t395 _ A29.out).mono ?_);rintro e w74 ⟨rfl,hb⟩;refine⟨_,rfl,?_⟩;replace HO_12:=am (Kd.R_below (rup HO_12.out) hb);replace HO_13:=am (Kd.S_below (by(with_reducible repeat(first|apply Kd.S_alloc|apply Kd.S_drewN|apply Kd.S_drew));exact HO_13.out) hb);replace HO_31:=am (Kd.R_below (rup HO_31.out) hb);replace HO393:=am (Kd.R_below (rup HO393.out) hb);replace BK371:=am (blk_below (bup BK371.out) hb);replace BK372:=am (blk_below (bup BK372.out) hb);replace HB:=am (below_step bl hb);(try clear hb);have p410:0≤(1:Int):=(by omega);have q410:1<(t391.length:Int):=od;obtain⟨ad410,e410,hx410_0⟩:=Kd.at_int (Kd.R_reads' HO393.out).2.2 1 p410 q410;obtain rfl:ad394=ad410:=(by injection e410);(try simp only[show(1:Int).toNat=1 from rfl,Nat.reduceMul,Nat.reduceEqDiff,Go.Addr.add,↓reduceIte] at hx410_0);have qi410:(1<t391.length)=True:=eq_true (by omega);(try rw[show((1:Int)).toNat=1 from rfl] at hx410_0);replace p410:=eq_true p410;replace q410:=eq_true q410)|((with_reducible refine gate_callee (f:=55) rfl ?_);refine goesL_ (some 68) rfl rfl Try.func55 (by kernel_rfl) rfl #[.int .i64 (rd t391 1),.int .i64 0] rfl tl ?_;(with_reducible refine(impl_distance.calls (rd t391 1) 0 t411 _ A59.out).mono ?_);rintro e w75 ⟨rfl,hb⟩;refine⟨_,rfl,?_⟩;replace HO_12:=am (Kd.R_below (rup HO_12.out) hb);replace HO_13:=am (Kd.S_below (by(with_reducible repeat(first|apply Kd.S_alloc|apply Kd.S_drewN|apply Kd.S_drew));exact HO_13.out) hb);replace HO_31:=am (Kd.R_below (rup HO_31.out) hb);replace HO393:=am (Kd.R_below (rup HO393.out) hb);replace BK371:=am (blk_below (bup BK371.out) hb);replace BK372:=am (blk_below (bup BK372.out) hb);replace HB:=am (below_step bl hb);(try clear hb)))
       go_roundg k1
       case measure=>have:=HK1.out;omega
       case rel=>exact⟨(x13_1),(wrap64 (x33_1+1)),fin2,H',⟨by have:=HK1.out;omega⟩,⟨rup (Kd.R_mono HO_12.out (fun _ hk=>hk.1))⟩,⟨by(with_reducible repeat(first|apply Kd.S_alloc|apply Kd.S_drewN|apply Kd.S_drew));exact Kd.S_mono HO_13.out (fun _ hk=>⟨hk.1.1,hk.1.2⟩)⟩,⟨rup (Kd.R_mono HO_31.out (fun _ hk=>hk.1))⟩,⟨bup BK371.out⟩,⟨bup BK372.out⟩,⟨bl⟩⟩
   ·have c15b0:=decide_eq_false c15
    clear c15
    have H':=am H
    clear H
    obtain⟨Ao76,co76,eo76⟩:=Kd.R_slice HO_12.out
    subst eo76
    go_wp2
    go_loopg [13,79] k1 (fun kq v13 v79 w'=>∃(x13_2:List (List Int)) (x79_2:Int),v79 = .int .i64 x79_2∧Aside0 (impl_faultsOf.l1 kq l2 x13_2 t376 (t376.length:Int) x79_2 l0_0 a0_1 a3_0 a3_1 a3_2=some r)∧Aside0 (kq≤k1)∧Aside0 (Kd.S (Kd.slice 3 (Kd.int .i64)) 22 w' w.heap.size (fun k_=>some k_≠((.slice Ao76 t376.length co76):Value).ownBlock) v13 x13_2)∧Aside0 (Kd.R (Kd.int .i64) 3 w' w.heap.size (fun _=>True) (.slice Ao76 t376.length co76) t376)∧Aside0 (w'.heap[gb371]?=some (.cells #[(.slice A0_0 l0_0.length c0_0),.int .i64 a0_1] 34 (0,0)))∧Aside0 (w'.heap[gb372]?=some (.cells #[.int .i64 a3_0,.int .i64 a3_1,.int .i64 a3_2] 40 (0,0)))∧Aside0 (Below w.heap.size w w'))
    case atStart=>exact⟨(x13_1),(0),fin2,H',⟨Nat.le_refl _⟩,⟨by(with_reducible repeat(first|apply Kd.S_alloc|apply Kd.S_drewN|apply Kd.S_drew));exact Kd.S_mono HO_13.out (fun _ hk=>hk.1)⟩,⟨rup (Kd.R_mono HO_12.out (fun _ hk=>trivial))⟩,⟨bup BK371.out⟩,⟨bup BK372.out⟩,⟨bl⟩⟩
    case round =>
     clear H'
     try clear c1
     try clear c2
     try clear p2
     try clear c3
     try clear p3
     try clear q3
     try clear hx3
     try clear qi3
     try clear p4
     try clear q4
     try clear hx4
     try clear qi4
     try clear c5
     try clear c6
     try clear p6
     try clear c15
     try clear c15b0
     try clear c16
     try clear c17
     try clear c24
     try clear c25
     try clear c26
     try clear c28
     try clear c30
     try clear c30b0
     try clear c31
     try clear c32
     try clear p38
     try clear q38
     try clear hx38
     try clear p39
     try clear q39
     try clear hx39
     try clear qi39
     try clear p40
     try clear q40
     try clear hx40
     try clear qi40
     try clear p41
     try clear q41
     try clear hx41
     try clear qi41
     try clear c54
     try clear c55
     try clear c58
     try clear c58b0
     try clear c58b1
     try clear c60
     try clear c60b0
     try clear c61
     try clear p64
     try clear hx382_0
     try clear hx389_0
     try clear hx389_1
     try clear hx389_2
     try clear hx390_0
     try clear hx390_1
     try clear hx390_2
     try clear hx394_0
     try clear hx402_0
     try clear hx410_0
     try clear p382
     try clear p389
     try clear p390
     try clear p394
     try clear p402
     try clear p410
     try clear q382
     try clear q389
     try clear q390
     try clear q394
     try clear q402
     try clear q410
     obtain⟨x13_2,x79_2,rfl,HA,HK2,HO_13,HO_77,BK371,BK372,HB⟩:=hrel
     cases gk with
     | zero=>exact absurd HA.out (by simp [impl_faultsOf.l1])
     | succ k2 =>
      have H:=HA.out
      clear HA
      simp only[impl_faultsOf.l1] at H
      rcases itc H with⟨c77,H⟩|⟨c77,H⟩
      ·have c77b0:=decide_eq_true c77
       clear c77
       obtain⟨c78b0,H⟩:=ifb H
       obtain⟨c79b0,H⟩:=ifb H
       obtain⟨y419,hy419⟩:∃ y_:List Int,y_=(([1,rd t376 x79_2]:List Int)):=⟨_,rfl⟩
       replace H:(if x13_2.length<5864062014805 then(impl_faultsOf.l1 k2 l2 (x13_2 ++ [y419]) t376 (t376.length:Int) (wrap64 (x79_2+1)) l0_0 a0_1 a3_0 a3_1 a3_2) else(none))=some r:=by subst hy419;exact H
       have Ny419:=am hy419
       clear hy419
       obtain⟨c80,H⟩:=ifp H
       have LMc80:=am c80
       clear c80
       obtain⟨y422,hy422⟩:∃ y_:List (List Int),y_=(x13_2 ++ [y419]):=⟨_,rfl⟩
       replace H:(impl_faultsOf.l1 k2 l2 y422 t376 (t376.length:Int) (wrap64 (x79_2+1)) l0_0 a0_1 a3_0 a3_1 a3_2)=some r:=by subst hy422;exact H
       have Ny422:=am hy422
       clear hy422
       have H':=am H
       clear H
       have p418:0≤(x79_2:Int):=od
       have q418:x79_2<(t376.length:Int):=od
       obtain⟨ad418,e418,hx418_0⟩:=Kd.at_int (Kd.R_reads' HO_77.out).2.2 x79_2 p418 q418
       cases e418
       replace p418:=eq_true p418
       replace q418:=eq_true q418
       go_wp2_with (first|((with_reducible refine gate_dst (N:=85) rfl ?_);refine Kd.R_lit (Kd.int .i64) _ 3 ?hg (N:=85) ?hd (xs:=([1,rd t376 x79_2]:List Int)) (inner:=[.int .i64 1,.int .i64 (rd t376 x79_2)]) (ok:=fun _=>True) (okp:=fun _=>True) ?hr ?hp (fun _ hk=>hk) trivial (Below.refl _ _) (Nat.le_refl _) (by simp) ?_;(case hd=>rfl);(case hg=>rfl);(case hr=>first|(go_simp;done)|(go_simp;rfl));(case hp=>exact(Reps.one (show Kd.M (Kd.int .i64) _ _ _ 1 [.int .i64 1] from rfl) (Reps.one (show Kd.M (Kd.int .i64) _ _ _ (rd t376 x79_2) [.int .i64 (rd t376 x79_2)] from rfl) (Reps.none _ _))));intro v420 w81 ho82 hb hg_ hnew_;clear hg_ hnew_;(first|rw[← Ny419.out] at ho82|(simp only[Int.reduceToNat] at ho82;rw[← Ny419.out] at ho82));replace HO_13:=am (Kd.S_elder' (by(with_reducible repeat(first|apply Kd.S_alloc|apply Kd.S_drewN|apply Kd.S_drew));exact HO_13.out) (Kd.R_base ho82) hb);have HO421:=am (Kd.R_lower (Kd.R_new' ho82 (Kd.R_lt (rup HO_77.out))) (below_size bl));replace HO_77:=am (Kd.R_elder' (rup HO_77.out) (Kd.R_base ho82) hb);replace BK371:=am (blk_below (bup BK371.out) hb);replace BK372:=am (blk_below (bup BK372.out) hb);replace HB:=am (below_step bl hb);clear hb ho82;obtain⟨Ao84,co84,eo84⟩:=Kd.R_slice HO421.out;subst eo84)|((with_reducible refine gate_builtin (b := .append) (xs := #[.tmp 83,.tmp 86]) rfl ?_);at_builtin;refine Kd.S_append (Kd.slice 3 (Kd.int .i64)) (w0:=w) w.heap.size rfl (.tmp 83) (.tmp 86) 49 22 (.slice none 0 0) 24 rfl Try.underlying49 info22 rfl (by decide) (by omega) u13 x13_2 y419 [.slice Ao84 y419.length co84] (fun k_=>some k_≠(.slice (some ad418) t376.length co76:Value).ownBlock) (fun k_=>some k_=(.slice Ao84 y419.length co84:Value).ownBlock) rfl rfl ?aP (fun k_ hk_=>((Kd.R_mono (ok':=fun k_=>((fun k_=>some k_≠(.slice (some ad418) t376.length co76:Value).ownBlock)) k_∧some k_≠(u13:Value).ownBlock) (Kd.R_apart' (HO421.out) (Kd.S_typed HO_13.out) (by decide)) (fun k_ hk=>⟨hk.1.2,hk.2⟩))).1 k_ hk_.symm) ?aF ?aO ?aB ?aS ?aL ?_;(case aP=>exact Kd.M_row (Kd.R_mono (Kd.R_tight rfl (Kd.R_mono (ok':=fun k_=>((fun k_=>some k_≠(.slice (some ad418) t376.length co76:Value).ownBlock)) k_∧some k_≠(u13:Value).ownBlock) (Kd.R_apart' (HO421.out) (Kd.S_typed HO_13.out) (by decide)) (fun k_ hk=>⟨hk.1.2,hk.2⟩))) (fun _ h_=>h_)));(case aB=>exact bl);(case aF=>exact(fun k_ hk=>Kd.fresh' (Kd.R_lt (rup HO_77.out)) k_ hk));(case aO=>exact(by(with_reducible repeat(first|apply Kd.S_alloc|apply Kd.S_drewN|apply Kd.S_drew));exact Kd.S_mono HO_13.out (fun k_ hk=>⟨hk.1,fun e_=>hk.2 e_⟩)));(case aS=>exact(below_size bl));(case aL=>have:=LMc80.out;omega);intro v423 w83 ho hb hg hat;rw[← Ny422.out] at ho;replace HO_77:=am (Kd.R_over' (rup HO_77.out) (Kd.S_typed (by(with_reducible repeat(first|apply Kd.S_alloc|apply Kd.S_drewN|apply Kd.S_drew));exact HO_13.out)) (by decide) hg);replace BK371:=am (blk_grown (bup BK371.out) hg (Kd.S_ne HO_13.out BK371.out (by decide)));replace BK372:=am (blk_grown (bup BK372.out) hg (Kd.S_ne HO_13.out BK372.out (by decide)));replace HB:=am (hb);have HO424:=am (ho);clear HO_13 HO421 ho hb hg hat))
       go_roundg k2
       case measure=>have:=HK1.out;have:=HK2.out;omega
       case rel=>exact⟨(y422),(wrap64 (x79_2+1)),fin2,H',⟨by have:=HK1.out;have:=HK2.out;omega⟩,⟨by(with_reducible repeat(first|apply Kd.S_alloc|apply Kd.S_drewN|apply Kd.S_drew));exact HO424.out⟩,⟨rup (Kd.R_mono HO_77.out (fun _ hk=>trivial))⟩,⟨bup BK371.out⟩,⟨bup BK372.out⟩,⟨bl⟩⟩
      ·have c77b0:=decide_eq_false c77
       clear c77
       obtain⟨⟨t425,t428⟩,A85,H⟩:=bnd H;dsimp only at H
       have H':=am H
       clear H
       have hnb86:=NB371_372.out
       have hnc86:=NB372_371.out
       have hcz87_0:=bc BK371.out 0
       have hcz87_1:=bc BK371.out 1
       have hfz87_0:=blk_frozen BK371.out 0
       have hfz87_1:=blk_frozen BK371.out 1
       have hcz88_0:=bc BK372.out 0
       have hcz88_1:=bc BK372.out 1
       have hcz88_2:=bc BK372.out 2
       have hfz88_0:=blk_frozen BK372.out 0
       have hfz88_1:=blk_frozen BK372.out 1
       have hfz88_2:=blk_frozen BK372.out 2
       go_wp2_with (first|((with_reducible refine gate_callee (f:=56) rfl ?_);refine goesL_ (some 93) rfl rfl Try.func56 (by kernel_rfl) rfl #[.agg #[.slice A0_0 l0_0.length c0_0,.int .i64 a0_1],.slice A2 l2.length c2,.agg #[.int .i64 a3_0,.int .i64 a3_1,.int .i64 a3_2]] rfl tl ?_;(with_reducible refine(impl_spoken.calls k2 _ _ l0_0 a0_1 _ _ l2 a3_0 a3_1 a3_2 t425 t428 _ ?side1 ?side2 ?side3 ?side4 A85.out).mono ?_);(case side1=>exact cup (Kd.C_below HR0_0.out HB.out));(case side2=>exact HC0_0.out);(case side3=>exact cup (Kd.C_below HR2.out HB.out));(case side4=>exact HC2.out);rintro e w89 ⟨v426,v429,rfl,ho0,ho1,hb⟩;refine⟨_,rfl,?_⟩;replace HO_13:=am (Kd.S_elder' (by(with_reducible repeat(first|apply Kd.S_alloc|apply Kd.S_drewN|apply Kd.S_drew));exact HO_13.out) (Kd.R_base ho1) hb);have HO427:=am (Kd.R_lower ho0 (below_size bl));have HO430:=am (Kd.R_lower (Kd.R_new' ho1 (Kd.R_lt (rup HO_77.out))) (below_size bl));replace HO_77:=am (Kd.R_elder' (rup HO_77.out) (Kd.R_base ho1) hb);replace BK371:=am (blk_below (bup BK371.out) hb);replace BK372:=am (blk_below (bup BK372.out) hb);replace HB:=am (below_step bl hb);(try clear hb);(try clear ho0);(try clear ho1);obtain⟨Ao90,co90,eo90⟩:=Kd.R_slice HO430.out;subst eo90))
       go_loopg [13,98] k2 (fun kq v13 v98 w'=>∃(x13_3:List (List Int)) (x98_3:Int),v98 = .int .i64 x98_3∧Aside0 (impl_faultsOf.l2 kq x13_3 t428 (t428.length:Int) x98_3=some r)∧Aside0 (kq≤k2)∧Aside0 (Kd.S (Kd.slice 3 (Kd.int .i64)) 22 w' w.heap.size (fun k_=>some k_≠((.slice Ao90 t428.length co90):Value).ownBlock) v13 x13_3)∧Aside0 (Kd.R (Kd.int .i64) 3 w' w.heap.size (fun _=>True) (.slice Ao90 t428.length co90) t428)∧Aside0 (w'.heap[gb371]?=some (.cells #[(.slice A0_0 l0_0.length c0_0),.int .i64 a0_1] 34 (0,0)))∧Aside0 (w'.heap[gb372]?=some (.cells #[.int .i64 a3_0,.int .i64 a3_1,.int .i64 a3_2] 40 (0,0)))∧Aside0 (Below w.heap.size w w'))
       case atStart=>exact⟨(x13_2),(0),fin2,H',⟨Nat.le_refl _⟩,⟨by(with_reducible repeat(first|apply Kd.S_alloc|apply Kd.S_drewN|apply Kd.S_drew));exact Kd.S_mono HO_13.out (fun _ hk=>hk.2)⟩,⟨rup (Kd.R_mono HO430.out (fun _ hk=>trivial))⟩,⟨bup BK371.out⟩,⟨bup BK372.out⟩,⟨bl⟩⟩
       case round =>
        clear H'
        try clear c1
        try clear c2
        try clear p2
        try clear c3
        try clear p3
        try clear q3
        try clear hx3
        try clear qi3
        try clear p4
        try clear q4
        try clear hx4
        try clear qi4
        try clear c5
        try clear c6
        try clear p6
        try clear c7
        try clear c8
        try clear c15
        try clear c15b0
        try clear c16
        try clear c17
        try clear c24
        try clear c25
        try clear c26
        try clear c28
        try clear c30
        try clear c30b0
        try clear c31
        try clear c32
        try clear p38
        try clear q38
        try clear hx38
        try clear p39
        try clear q39
        try clear hx39
        try clear qi39
        try clear p40
        try clear q40
        try clear hx40
        try clear qi40
        try clear p41
        try clear q41
        try clear hx41
        try clear qi41
        try clear c54
        try clear c55
        try clear c56
        try clear c58
        try clear c58b0
        try clear c58b1
        try clear c60
        try clear c60b0
        try clear c61
        try clear p64
        try clear c77
        try clear c77b0
        try clear c78
        try clear c78b0
        try clear c79
        try clear c79b0
        try clear c80
        try clear c86
        try clear hcz87_0
        try clear hcz87_1
        try clear hcz88_0
        try clear hcz88_1
        try clear hcz88_2
        try clear hfz87_0
        try clear hfz87_1
        try clear hfz88_0
        try clear hfz88_1
        try clear hfz88_2
        try clear hx382_0
        try clear hx389_0
        try clear hx389_1
        try clear hx389_2
        try clear hx390_0
        try clear hx390_1
        try clear hx390_2
        try clear hx394_0
        try clear hx402_0
        try clear hx410_0
        try clear hx418_0
        try clear p2
        try clear p3
        try clear p38
        try clear p382
        try clear p389
        try clear p39
        try clear p390
        try clear p394
        try clear p4
        try clear p40
        try clear p402
        try clear p41
        try clear p410
        try clear p418
        try clear p6
        try clear p64
        try clear q3
        try clear q38
        try clear q382
        try clear q389
        try clear q39
        try clear q390
        try clear q394
        try clear q4
        try clear q40
        try clear q402
        try clear q41
        try clear q410
        try clear q418
        obtain⟨x13_3,x98_3,rfl,HA,HK3,HO_13,HO_96,BK371,BK372,HB⟩:=hrel
        cases gk with
        | zero=>exact absurd HA.out (by simp [impl_faultsOf.l2])
        | succ k3 =>
         have H:=HA.out
         clear HA
         simp only[impl_faultsOf.l2] at H
         rcases itc H with⟨c91,H⟩|⟨c91,H⟩
         ·have c91b0:=decide_eq_true c91
          clear c91
          obtain⟨c92b0,H⟩:=ifb H
          obtain⟨c93b0,H⟩:=ifb H
          obtain⟨y432,hy432⟩:∃ y_:List Int,y_=(([4,rd t428 x98_3]:List Int)):=⟨_,rfl⟩
          replace H:(if x13_3.length<5864062014805 then(impl_faultsOf.l2 k3 (x13_3 ++ [y432]) t428 (t428.length:Int) (wrap64 (x98_3+1))) else(none))=some r:=by subst hy432;exact H
          have Ny432:=am hy432
          clear hy432
          obtain⟨c94,H⟩:=ifp H
          have LMc94:=am c94
          clear c94
          obtain⟨y435,hy435⟩:∃ y_:List (List Int),y_=(x13_3 ++ [y432]):=⟨_,rfl⟩
          replace H:(impl_faultsOf.l2 k3 y435 t428 (t428.length:Int) (wrap64 (x98_3+1)))=some r:=by subst hy435;exact H
          have Ny435:=am hy435
          clear hy435
          have H':=am H
          clear H
          have p431:0≤(x98_3:Int):=od
          have q431:x98_3<(t428.length:Int):=od
          obtain⟨ad431,e431,hx431_0⟩:=Kd.at_int (Kd.R_reads' HO_96.out).2.2 x98_3 p431 q431
          cases e431
          replace p431:=eq_true p431
          replace q431:=eq_true q431
          go_wp2_with (first|((with_reducible refine gate_dst (N:=104) rfl ?_);refine Kd.R_lit (Kd.int .i64) _ 3 ?hg (N:=104) ?hd (xs:=([4,rd t428 x98_3]:List Int)) (inner:=[.int .i64 4,.int .i64 (rd t428 x98_3)]) (ok:=fun _=>True) (okp:=fun _=>True) ?hr ?hp (fun _ hk=>hk) trivial (Below.refl _ _) (Nat.le_refl _) (by simp) ?_;(case hd=>rfl);(case hg=>rfl);(case hr=>first|(go_simp;done)|(go_simp;rfl));(case hp=>exact(Reps.one (show Kd.M (Kd.int .i64) _ _ _ 4 [.int .i64 4] from rfl) (Reps.one (show Kd.M (Kd.int .i64) _ _ _ (rd t428 x98_3) [.int .i64 (rd t428 x98_3)] from rfl) (Reps.none _ _))));intro v433 w95 ho96 hb hg_ hnew_;clear hg_ hnew_;(first|rw[← Ny432.out] at ho96|(simp only[Int.reduceToNat] at ho96;rw[← Ny432.out] at ho96));replace HO_13:=am (Kd.S_elder' (by(with_reducible repeat(first|apply Kd.S_alloc|apply Kd.S_drewN|apply Kd.S_drew));exact HO_13.out) (Kd.R_base ho96) hb);have HO434:=am (Kd.R_lower (Kd.R_new' ho96 (Kd.R_lt (rup HO_96.out))) (below_size bl));replace HO_96:=am (Kd.R_elder' (rup HO_96.out) (Kd.R_base ho96) hb);replace BK371:=am (blk_below (bup BK371.out) hb);replace BK372:=am (blk_below (bup BK372.out) hb);replace HB:=am (below_step bl hb);clear hb ho96;obtain⟨Ao98,co98,eo98⟩:=Kd.R_slice HO434.out;subst eo98)|((with_reducible refine gate_builtin (b := .append) (xs := #[.tmp 102,.tmp 105]) rfl ?_);at_builtin;refine Kd.S_append (Kd.slice 3 (Kd.int .i64)) (w0:=w) w.heap.size rfl (.tmp 102) (.tmp 105) 49 22 (.slice none 0 0) 24 rfl Try.underlying49 info22 rfl (by decide) (by omega) u13 x13_3 y432 [.slice Ao98 y432.length co98] (fun k_=>some k_≠(.slice (some ad431) t428.length co90:Value).ownBlock) (fun k_=>some k_=(.slice Ao98 y432.length co98:Value).ownBlock) rfl rfl ?aP (fun k_ hk_=>((Kd.R_mono (ok':=fun k_=>((fun k_=>some k_≠(.slice (some ad431) t428.length co90:Value).ownBlock)) k_∧some k_≠(u13:Value).ownBlock) (Kd.R_apart' (HO434.out) (Kd.S_typed HO_13.out) (by decide)) (fun k_ hk=>⟨hk.1.2,hk.2⟩))).1 k_ hk_.symm) ?aF ?aO ?aB ?aS ?aL ?_;(case aP=>exact Kd.M_row (Kd.R_mono (Kd.R_tight rfl (Kd.R_mono (ok':=fun k_=>((fun k_=>some k_≠(.slice (some ad431) t428.length co90:Value).ownBlock)) k_∧some k_≠(u13:Value).ownBlock) (Kd.R_apart' (HO434.out) (Kd.S_typed HO_13.out) (by decide)) (fun k_ hk=>⟨hk.1.2,hk.2⟩))) (fun _ h_=>h_)));(case aB=>exact bl);(case aF=>exact(fun k_ hk=>Kd.fresh' (Kd.R_lt (rup HO_96.out)) k_ hk));(case aO=>exact(by(with_reducible repeat(first|apply Kd.S_alloc|apply Kd.S_drewN|apply Kd.S_drew));exact Kd.S_mono HO_13.out (fun k_ hk=>⟨hk.1,fun e_=>hk.2 e_⟩)));(case aS=>exact(below_size bl));(case aL=>have:=LMc94.out;omega);intro v436 w97 ho hb hg hat;rw[← Ny435.out] at ho;replace HO_96:=am (Kd.R_over' (rup HO_96.out) (Kd.S_typed (by(with_reducible repeat(first|apply Kd.S_alloc|apply Kd.S_drewN|apply Kd.S_drew));exact HO_13.out)) (by decide) hg);replace BK371:=am (blk_grown (bup BK371.out) hg (Kd.S_ne HO_13.out BK371.out (by decide)));replace BK372:=am (blk_grown (bup BK372.out) hg (Kd.S_ne HO_13.out BK372.out (by decide)));replace HB:=am (hb);have HO437:=am (ho);clear HO_13 HO434 ho hb hg hat))
          go_roundg k3
          case measure=>have:=HK1.out;have:=HK2.out;have:=HK3.out;omega
          case rel=>exact⟨(y435),(wrap64 (x98_3+1)),fin2,H',⟨by have:=HK1.out;have:=HK2.out;have:=HK3.out;omega⟩,⟨by(with_reducible repeat(first|apply Kd.S_alloc|apply Kd.S_drewN|apply Kd.S_drew));exact HO437.out⟩,⟨rup (Kd.R_mono HO_96.out (fun _ hk=>trivial))⟩,⟨bup BK371.out⟩,⟨bup BK372.out⟩,⟨bl⟩⟩
         ·have c91b0:=decide_eq_false c91
          clear c91
          have HSR:=am H
          clear H
          go_wp2_with (go_at_call 57;refine(slices_SortFunc_int_int.calls (fun _=>True) _ _ _ w _ bl (by(with_reducible repeat(first|apply Kd.S_alloc|apply Kd.S_drewN|apply Kd.S_drew));exact Kd.S_mono HO_13.out (fun _ _=>trivial)) HSR.out).mono ?_;rintro e w' ⟨rfl,hS_,hB_,hK_⟩;have HS1:=am hS_;have HB1:=am hB_;clear hS_ hB_ hK_)
          go_ret
          exact⟨_,by first|rfl|(simp [errW_none,errW_some]<;>rfl),by(with_reducible repeat(first|apply Kd.S_alloc|apply Kd.S_drewN|apply Kd.S_drew));exact Kd.S_mono HS1.out (fun _ hk=>trivial),by repeat(first|(with_reducible first|exact HB1.out|apply below_alloc|apply pw_below_drewN|apply below_drew1|refine below_set ?_ GE371.out|refine below_set ?_ GE372.out)|exact HB1.out)⟩

end Go.Proofs.Ytipklbjbgbbgpaa.PFnExactLeastTolerance
