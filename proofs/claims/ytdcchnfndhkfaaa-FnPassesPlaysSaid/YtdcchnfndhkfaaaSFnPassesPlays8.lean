/- Walks of functions that FnPassesPlays reaches. No conditions beyond the arguments' being read. -/
import Derived.Test.YtdcchnfndhkfaaaSFnPassesPlays0
import Derived.Test.YtdcchnfndhkfaaaSFnPassesPlays5
import Derived.Test.YtdcchnfndhkfaaaSFnPassesPlays6
import Derived.Test.YtdcchnfndhkfaaaSFnPassesPlays7
namespace Go.Proofs.Ytdcchnfndhkfaaa.PFnPassesPlays
open Go.RowKit Go.Proofs.YtdcchnfndhkfaaaW.PrintWords Go.Proofs.YtdcchnfndhkfaaaW.PrintLast Go.Proofs.YtdcchnfndhkfaaaW.PrintMore
attribute [local go_sem] max2_int min2_int max_two min_two max_three min_three max_four min_four
set_option linter.unusedVariables false
set_option linter.unusedSimpArgs false

mutual
def impl_faultsOf.l0:Nat→List (S35)→List (S60)→Int→List Int→List (List Int)→List Int→Int→Int→List Int→Int→Int→Int→Int→Option ((List (List Int)))
 | 0,_,_,_,_,_,_,_,_,_,_,_,_,_=>none
 | k+1,x1,x2,x4,x12,x13,x31,x32,x33,x181000,x181001,x182000,x182001,x182002=>if x33<x32 then(if 0≤x33 then(if x33<(x31.length:Int) then(if(rd x31 x33)<0 then(if x13.length<5864062014805 then(impl_faultsOf.l0 k x1 x2 x4 x12 (x13 ++ [(([0,x33]:List Int))]) x31 x32 (wrap64 (x33+1)) x181000 x181001 x182000 x182001 x182002) else(none)) else(if x33<(x1.length:Int) then(if 0≤(rd x31 x33) then(if(rd x31 x33)<(x2.length:Int) then((impl_holeErrors.f ((rd_T35 x1 x33).f0) ((rd_T35 x1 x33).f1) ((rd_T35 x1 x33).f2) ((rd_T60 x2 (rd x31 x33)).f0) ((rd_T60 x2 (rd x31 x33)).f1) ((rd_T60 x2 (rd x31 x33)).f2)).bind fun t200=>(if 0<(t200.length:Int) then((impl_distance.f (rd t200 0) 0).bind fun t204=>(if t204>x4 then(if x13.length<5864062014805 then((some (x13 ++ [(([2,x33]:List Int))]:List (List Int))).bind fun y208=>(if 1<(t200.length:Int) then((impl_distance.f (rd t200 1) 0).bind fun t212=>(if t212>x4 then(if y208.length<5864062014805 then(impl_faultsOf.l0 k x1 x2 x4 x12 (y208 ++ [(([3,x33]:List Int))]) x31 x32 (wrap64 (x33+1)) x181000 x181001 x182000 x182001 x182002) else(none)) else(impl_faultsOf.l0 k x1 x2 x4 x12 y208 x31 x32 (wrap64 (x33+1)) x181000 x181001 x182000 x182001 x182002))) else(none))) else(none)) else(if 1<(t200.length:Int) then((impl_distance.f (rd t200 1) 0).bind fun t220=>(if t220>x4 then(if x13.length<5864062014805 then(impl_faultsOf.l0 k x1 x2 x4 x12 (x13 ++ [(([3,x33]:List Int))]) x31 x32 (wrap64 (x33+1)) x181000 x181001 x182000 x182001 x182002) else(none)) else(impl_faultsOf.l0 k x1 x2 x4 x12 x13 x31 x32 (wrap64 (x33+1)) x181000 x181001 x182000 x182001 x182002))) else(none)))) else(none))) else(none)) else(none)) else(none))) else(none)) else(none)) else(impl_faultsOf.l1 k x2 x13 x12 (x12.length:Int) 0 x181000 x181001 x182000 x182001 x182002)
def impl_faultsOf.l1:Nat→List (S60)→List (List Int)→List Int→Int→Int→List Int→Int→Int→Int→Int→Option ((List (List Int)))
 | 0,_,_,_,_,_,_,_,_,_,_=>none
 | k+1,x2,x13,x77,x78,x79,x181000,x181001,x182000,x182001,x182002=>if x79<x78 then(if 0≤x79 then(if x79<(x77.length:Int) then(if x13.length<5864062014805 then(impl_faultsOf.l1 k x2 (x13 ++ [(([1,rd x77 x79]:List Int))]) x77 x78 (wrap64 (x79+1)) x181000 x181001 x182000 x182001 x182002) else(none)) else(none)) else(none)) else((impl_spoken.f k x181000 x181001 x2 x182000 x182001 x182002).bind fun bt234=>(impl_faultsOf.l2 k x13 bt234.2 (bt234.2.length:Int) 0))
def impl_faultsOf.l2:Nat→List (List Int)→List Int→Int→Int→Option ((List (List Int)))
 | 0,_,_,_,_=>none
 | k+1,x13,x96,x97,x98=>if x98<x97 then(if 0≤x98 then(if x98<(x96.length:Int) then(if x13.length<5864062014805 then(impl_faultsOf.l2 k (x13 ++ [(([4,rd x96 x98]:List Int))]) x96 x97 (wrap64 (x98+1))) else(none)) else(none)) else(none)) else(slices_SortFunc_int_int.f x13)
end
def impl_faultsOf.f (k:Nat) (l0_0:List Int) (a0_1:Int) (l1:List (S35)) (l2:List (S60)) (a3_0:Int) (a3_1:Int) (a3_2:Int) (a4:Int):Option ((List (List Int))):=(impl_matched.f k l0_0 a0_1 l1 l2).bind fun bt182=>(impl_faultsOf.l0 k l1 l2 a4 bt182.2 (([]:List (List Int))) bt182.1 (bt182.1.length:Int) 0 l0_0 a0_1 a3_0 a3_1 a3_2)
def impl_faultsOf.T8:Bool×List (List Nat×List Nat):=(true,[([],[]),([],[]),([0,1],[0,1]),([2],[2]),([],[]),([],[]),([4,5],[4,5]),([6],[6]),([3,7],[3,7]),([8,8,0,1,2,3,4,5,6,7,8],[8])])
def impl_faultsOf.B8:List Nat:=[0,0,3,7,0,0,48,112,255,511]
theorem impl_faultsOf.tab8:rtab .any (opsOf Try.f17 8)=impl_faultsOf.T8:=by kernel_rfl
theorem impl_faultsOf.bits8:waitsOk impl_faultsOf.T8.2 impl_faultsOf.B8=true:=by kernel_rfl
set_option maxHeartbeats 8000000 in
set_option maxRecDepth 100000 in
theorem impl_faultsOf.calls (k:Nat) (A0_0:Option Addr) (c0_0:Nat) (l0_0:List Int) (a0_1:Int) (A1:Option Addr) (c1:Nat) (l1:List (S35)) (A2:Option Addr) (c2:Nat) (l2:List (S60)) (a3_0:Int) (a3_1:Int) (a3_2:Int) (a4:Int) (r:List (List Int)) (w:World) (hr0_0:Kd.C (Kd.int .i64) w A0_0 l0_0.length l0_0) (hc0_0:l0_0.length≤c0_0) (hr1:Kd.C k35 w A1 l1.length l1) (hc1:l1.length≤c1) (hr2:Kd.C k60 w A2 l2.length l2) (hc2:l2.length≤c2) (h:impl_faultsOf.f k l0_0 a0_1 l1 l2 a3_0 a3_1 a3_2 a4=some r) :
  Calls Try.prog 17 #[.agg #[.slice A0_0 l0_0.length c0_0,.int .i64 a0_1],.slice A1 l1.length c1,.slice A2 l2.length c2,.agg #[.int .i64 a3_0,.int .i64 a3_1,.int .i64 a3_2],.int .i64 a4] w fun e w'=>∃ v0_:Value,e = .returned (v0_)∧Kd.S (Kd.slice 3 (Kd.int .i64)) 22 w' w.heap.size (fun _=>True) v0_ r∧Below w.heap.size w w':=by
 have hu24:=Try.underlying24
 have hu28:=Try.underlying28
 have hu35:=Try.underlying35
 have hu60:=Try.underlying60
 have HR0_0:=am hr0_0
 have HC0_0:=am hc0_0
 clear hr0_0 hc0_0
 have HR1:=am hr1
 have HC1:=am hc1
 clear hr1 hc1
 have HR2:=am hr2
 have HC2:=am hc2
 clear hr2 hc2
 have HB:=am (Below.refl w.heap.size w)
 have H:((impl_matched.f k l0_0 a0_1 l1 l2).bind fun bt182=>(impl_faultsOf.l0 k l1 l2 a4 bt182.2 (([]:List (List Int))) bt182.1 (bt182.1.length:Int) 0 l0_0 a0_1 a3_0 a3_1 a3_2))=some r:=h
 clear h
 obtain⟨⟨t182,t185⟩,A6,H⟩:=bnd H;dsimp only at H
 obtain⟨y188,hy188⟩:∃ y_:List (List Int),y_=(([]:List (List Int))):=⟨_,rfl⟩
 replace H:(impl_faultsOf.l0 k l1 l2 a4 t185 y188 t182 (t182.length:Int) 0 l0_0 a0_1 a3_0 a3_1 a3_2)=some r:=by subst hy188;exact H
 have Ny188:=am hy188
 clear hy188
 have H':=am H
 clear H
 go_enter Try.func17,Try.ntmps17
 go_wp2_with (first|((with_reducible refine gate_dst (N:=5) rfl ?_);refine box_event ?hg (N:=5) ?hd (cs := #[.slice A0_0 l0_0.length c0_0,.int .i64 a0_1]) (t:=24) ?hr ?_;(case hd=>rfl);(case hg=>rfl);(case hr=>first|(go_simp;done)|(go_simp;rfl));intro gb180 hg w7 hbox hb;have BK180:=am (hbox);have GW180:=am (ge_ bl hg);have GE180:=am (ge_ bl hg);replace HB:=am (below_step bl hb);clear hb hbox hg)|((with_reducible refine gate_dst (N:=8) rfl ?_);refine box_event ?hg (N:=8) ?hd (cs := #[.int .i64 a3_0,.int .i64 a3_1,.int .i64 a3_2]) (t:=28) ?hr ?_;(case hd=>rfl);(case hg=>rfl);(case hr=>first|(go_simp;done)|(go_simp;rfl));intro gb181 hg w8 hbox hb;have BK181:=am (hbox);have GW181:=am (ge_ bl hg);have GE181:=am (ge_ bl hg);replace HB:=am (below_step bl hb);have NB180_181:=am (nl (bup BK180.out) hg);have NB181_180:=am (ng (bup BK180.out) hg);replace BK180:=am (blk_below (bup BK180.out) hb);clear hb hbox hg;have hnb9:=NB180_181.out;have hnc9:=NB181_180.out;have hcz10_0:=bc BK180.out 0;have hcz10_1:=bc BK180.out 1;have hfz10_0:=blk_frozen BK180.out 0;have hfz10_1:=blk_frozen BK180.out 1)|((with_reducible refine gate_callee (f:=28) rfl ?_);refine goesL_ (some 27) rfl rfl Try.func28 (by kernel_rfl) rfl #[.agg #[.slice A0_0 l0_0.length c0_0,.int .i64 a0_1],.slice A1 l1.length c1,.slice A2 l2.length c2] rfl tl ?_;(with_reducible refine(impl_matched.calls k _ _ l0_0 a0_1 _ _ l1 _ _ l2 t182 t185 _ ?side1 ?side2 ?side3 ?side4 ?side5 ?side6 A6.out).mono ?_);(case side1=>exact cup (Kd.C_below HR0_0.out HB.out));(case side2=>exact HC0_0.out);(case side3=>exact cup (Kd.C_below HR1.out HB.out));(case side4=>exact HC1.out);(case side5=>exact cup (Kd.C_below HR2.out HB.out));(case side6=>exact HC2.out);rintro e w11 ⟨v183,v186,rfl,ho0,ho1,hb⟩;refine⟨_,rfl,?_⟩;have HO184:=am (Kd.R_lower ho0 (below_size bl));have HO187:=am (Kd.R_lower ho1 (below_size bl));replace BK180:=am (blk_below (bup BK180.out) hb);replace BK181:=am (blk_below (bup BK181.out) hb);replace HB:=am (below_step bl hb);(try clear hb);(try clear ho0);(try clear ho1))|((with_reducible refine gate_dst (N:=30) rfl ?_);refine Kd.S_lit (Kd.slice 3 (Kd.int .i64)) _ 22 ?hg (N:=30) ?hd (xs:=([]:List (List Int))) (inner:=[]) (ok:=fun _=>True) (okp:=fun _=>True) ?hr ?hp (fun _ hk=>hk) trivial (Below.refl _ _) (Nat.le_refl _) (by simp) ?_;(case hd=>rfl);(case hg=>rfl);(case hr=>first|(go_simp;done)|(go_simp;rfl));(case hp=>exact(Reps.none _ _));intro v189 w12 ho13 hb hg_ hnew_;clear hg_ hnew_;(first|rw[← Ny188.out] at ho13|(simp only[Int.reduceToNat] at ho13;rw[← Ny188.out] at ho13));have HO190:=am (Kd.S_lower (Kd.S_new' (Kd.S_new' ho13 (Kd.R_lt (rup HO184.out))) (Kd.R_lt (rup HO187.out))) (below_size bl));replace HO184:=am (Kd.R_below (rup HO184.out) hb);replace HO187:=am (Kd.R_below (rup HO187.out) hb);replace BK180:=am (blk_below (bup BK180.out) hb);replace BK181:=am (blk_below (bup BK181.out) hb);replace HB:=am (below_step bl hb);clear hb ho13;obtain⟨Ao14,co14,eo14⟩:=Kd.R_slice HO184.out;subst eo14))
 go_loopg [13,33] k (fun kq v13 v33 w'=>∃(x13_1:List (List Int)) (x33_1:Int),v33 = .int .i64 x33_1∧Aside0 (impl_faultsOf.l0 kq l1 l2 a4 t185 x13_1 t182 (t182.length:Int) x33_1 l0_0 a0_1 a3_0 a3_1 a3_2=some r)∧Aside0 (kq≤k)∧Aside0 (Kd.R (Kd.int .i64) 3 w' w.heap.size (fun k_=>some k_≠((.slice Ao14 t182.length co14):Value).ownBlock) v186 t185)∧Aside0 (Kd.S (Kd.slice 3 (Kd.int .i64)) 22 w' w.heap.size (fun k_=>some k_≠(v186:Value).ownBlock∧some k_≠((.slice Ao14 t182.length co14):Value).ownBlock) v13 x13_1)∧Aside0 (Kd.R (Kd.int .i64) 3 w' w.heap.size (fun k_=>some k_≠(v186:Value).ownBlock) (.slice Ao14 t182.length co14) t182)∧Aside0 (w'.heap[gb180]?=some (.cells #[(.slice A0_0 l0_0.length c0_0),.int .i64 a0_1] 24 (0,0)))∧Aside0 (w'.heap[gb181]?=some (.cells #[.int .i64 a3_0,.int .i64 a3_1,.int .i64 a3_2] 28 (0,0)))∧Aside0 (Below w.heap.size w w'))
 case atStart=>exact⟨(y188),(0),fin2,H',⟨Nat.le_refl _⟩,⟨rup HO187.out⟩,⟨by(with_reducible repeat(first|apply Kd.S_alloc|apply Kd.S_drewN|apply Kd.S_drew));exact Kd.S_mono HO190.out (fun _ hk=>⟨hk.2,hk.1.2⟩)⟩,⟨rup HO184.out⟩,⟨bup BK180.out⟩,⟨bup BK181.out⟩,⟨bl⟩⟩
 case round =>
  clear H'
  try clear hcz10_0
  try clear hcz10_1
  try clear hfz10_0
  try clear hfz10_1
  obtain⟨x13_1,x33_1,rfl,HA,HK1,HO_12,HO_13,HO_31,BK180,BK181,HB⟩:=hrel
  cases gk with
  | zero=>exact absurd HA.out (by simp [impl_faultsOf.l0])
  | succ k1 =>
   have H:=HA.out
   clear HA
   simp only[impl_faultsOf.l0] at H
   rcases itc H with⟨c15,H⟩|⟨c15,H⟩
   ·have c15b0:=decide_eq_true c15
    clear c15
    obtain⟨c16b0,H⟩:=ifb H
    obtain⟨c17b0,H⟩:=ifb H
    rcases itc H with⟨c18,H⟩|⟨c18,H⟩
    ·have c18b0:=decide_eq_true c18
     clear c18
     obtain⟨y192,hy192⟩:∃ y_:List Int,y_=(([0,x33_1]:List Int)):=⟨_,rfl⟩
     replace H:(if x13_1.length<5864062014805 then(impl_faultsOf.l0 k1 l1 l2 a4 t185 (x13_1 ++ [y192]) t182 (t182.length:Int) (wrap64 (x33_1+1)) l0_0 a0_1 a3_0 a3_1 a3_2) else(none))=some r:=by subst hy192;exact H
     have Ny192:=am hy192
     clear hy192
     obtain⟨c19,H⟩:=ifp H
     have LMc19:=am c19
     clear c19
     obtain⟨y195,hy195⟩:∃ y_:List (List Int),y_=(x13_1 ++ [y192]):=⟨_,rfl⟩
     replace H:(impl_faultsOf.l0 k1 l1 l2 a4 t185 y195 t182 (t182.length:Int) (wrap64 (x33_1+1)) l0_0 a0_1 a3_0 a3_1 a3_2)=some r:=by subst hy195;exact H
     have Ny195:=am hy195
     clear hy195
     have H':=am H
     clear H
     have p191:0≤(x33_1:Int):=od
     have q191:x33_1<(t182.length:Int):=od
     obtain⟨ad191,e191,hx191_0⟩:=Kd.at_int (Kd.R_reads' HO_31.out).2.2 x33_1 p191 q191
     cases e191
     replace p191:=eq_true p191
     replace q191:=eq_true q191
     go_wp2_with (first|((with_reducible refine gate_dst (N:=42) rfl ?_);refine Kd.R_lit (Kd.int .i64) _ 3 ?hg (N:=42) ?hd (xs:=([0,x33_1]:List Int)) (inner:=[.int .i64 0,.int .i64 x33_1]) (ok:=fun _=>True) (okp:=fun _=>True) ?hr ?hp (fun _ hk=>hk) trivial (Below.refl _ _) (Nat.le_refl _) (by simp) ?_;(case hd=>rfl);(case hg=>rfl);(case hr=>first|(go_simp;done)|(go_simp;rfl));(case hp=>exact(Reps.one (show Kd.M (Kd.int .i64) _ _ _ 0 [.int .i64 0] from rfl) (Reps.one (show Kd.M (Kd.int .i64) _ _ _ x33_1 [.int .i64 x33_1] from rfl) (Reps.none _ _))));intro v193 w20 ho21 hb hg_ hnew_;clear hg_ hnew_;(first|rw[← Ny192.out] at ho21|(simp only[Int.reduceToNat] at ho21;rw[← Ny192.out] at ho21));replace HO_13:=am (Kd.S_elder' (by(with_reducible repeat(first|apply Kd.S_alloc|apply Kd.S_drewN|apply Kd.S_drew));exact HO_13.out) (Kd.R_base ho21) hb);have HO194:=am (Kd.R_lower (Kd.R_new' (Kd.R_new' ho21 (Kd.R_lt (rup HO_12.out))) (Kd.R_lt (rup HO_31.out))) (below_size bl));replace HO_12:=am (Kd.R_elder' (rup HO_12.out) (Kd.R_base ho21) hb);replace HO_31:=am (Kd.R_elder' (rup HO_31.out) (Kd.R_base ho21) hb);replace BK180:=am (blk_below (bup BK180.out) hb);replace BK181:=am (blk_below (bup BK181.out) hb);replace HB:=am (below_step bl hb);clear hb ho21;obtain⟨Ao23,co23,eo23⟩:=Kd.R_slice HO194.out;subst eo23)|((with_reducible refine gate_builtin (b := .append) (xs := #[.tmp 40,.tmp 43]) rfl ?_);at_builtin;refine Kd.S_append (Kd.slice 3 (Kd.int .i64)) (w0:=w) w.heap.size rfl (.tmp 40) (.tmp 43) 39 22 (.slice none 0 0) 24 rfl Try.underlying39 info22 rfl (by decide) (by omega) u13 x13_1 y192 [.slice Ao23 y192.length co23] (fun k_=>some k_≠(v186:Value).ownBlock∧some k_≠(.slice (some ad191) t182.length co14:Value).ownBlock) (fun k_=>some k_=(.slice Ao23 y192.length co23:Value).ownBlock) rfl rfl ?aP (fun k_ hk_=>((Kd.R_mono (ok':=fun k_=>((fun k_=>some k_≠(v186:Value).ownBlock∧some k_≠(.slice (some ad191) t182.length co14:Value).ownBlock)) k_∧some k_≠(u13:Value).ownBlock) (Kd.R_apart' (HO194.out) (Kd.S_typed HO_13.out) (by decide)) (fun k_ hk=>⟨⟨hk.1.1.2,hk.1.2⟩,hk.2⟩))).1 k_ hk_.symm) ?aF ?aO ?aB ?aS ?aL ?_;(case aP=>exact Kd.M_row (Kd.R_mono (Kd.R_tight rfl (Kd.R_mono (ok':=fun k_=>((fun k_=>some k_≠(v186:Value).ownBlock∧some k_≠(.slice (some ad191) t182.length co14:Value).ownBlock)) k_∧some k_≠(u13:Value).ownBlock) (Kd.R_apart' (HO194.out) (Kd.S_typed HO_13.out) (by decide)) (fun k_ hk=>⟨⟨hk.1.1.2,hk.1.2⟩,hk.2⟩))) (fun _ h_=>h_)));(case aB=>exact bl);(case aF=>exact(fun k_ hk=>⟨Kd.fresh' (Kd.R_lt (rup HO_12.out)) k_ hk,Kd.fresh' (Kd.R_lt (rup HO_31.out)) k_ hk⟩));(case aO=>exact(by(with_reducible repeat(first|apply Kd.S_alloc|apply Kd.S_drewN|apply Kd.S_drew));exact Kd.S_mono HO_13.out (fun k_ hk=>⟨⟨hk.1.1,hk.1.2⟩,fun e_=>hk.2 e_⟩)));(case aS=>exact(below_size bl));(case aL=>have:=LMc19.out;omega);intro v196 w22 ho hb hg hat;rw[← Ny195.out] at ho;replace HO_12:=am (Kd.R_over' (rup HO_12.out) (Kd.S_typed (by(with_reducible repeat(first|apply Kd.S_alloc|apply Kd.S_drewN|apply Kd.S_drew));exact HO_13.out)) (by decide) hg);replace HO_31:=am (Kd.R_over' (rup HO_31.out) (Kd.S_typed (by(with_reducible repeat(first|apply Kd.S_alloc|apply Kd.S_drewN|apply Kd.S_drew));exact HO_13.out)) (by decide) hg);replace BK180:=am (blk_grown (bup BK180.out) hg (Kd.S_ne HO_13.out BK180.out (by decide)));replace BK181:=am (blk_grown (bup BK181.out) hg (Kd.S_ne HO_13.out BK181.out (by decide)));replace HB:=am (hb);have HO197:=am (ho);clear HO_13 HO194 ho hb hg hat))
     go_roundg k1
     case measure=>have:=HK1.out;omega
     case rel=>exact⟨(y195),(wrap64 (x33_1+1)),fin2,H',⟨by have:=HK1.out;omega⟩,⟨rup (Kd.R_mono HO_12.out (fun _ hk=>hk.1))⟩,⟨by(with_reducible repeat(first|apply Kd.S_alloc|apply Kd.S_drewN|apply Kd.S_drew));exact HO197.out⟩,⟨rup (Kd.R_mono HO_31.out (fun _ hk=>hk.1))⟩,⟨bup BK180.out⟩,⟨bup BK181.out⟩,⟨bl⟩⟩
    ·have c18b0:=decide_eq_false c18
     clear c18
     obtain⟨c24b0,H⟩:=ifb H
     obtain⟨c25b0,H⟩:=ifb H
     obtain⟨c26b0,H⟩:=ifb H
     obtain⟨t200,A27,H⟩:=bnd H
     obtain⟨c28,H⟩:=ifp H
     have c28b0:=decide_eq_true c28
     have c28b1:decide (0<t200.length)=true:=decide_eq_true (by omega)
     clear c28
     obtain⟨t204,A29,H⟩:=bnd H
     rcases itc H with⟨c30,H⟩|⟨c30,H⟩
     ·have c30b0:decide (a4<t204)=true:=decide_eq_true c30
      clear c30
      obtain⟨y205,hy205⟩:∃ y_:List Int,y_=(([2,x33_1]:List Int)):=⟨_,rfl⟩
      replace H:(if x13_1.length<5864062014805 then((some (x13_1 ++ [y205]:List (List Int))).bind fun y208=>(if 1<(t200.length:Int) then((impl_distance.f (rd t200 1) 0).bind fun t212=>(if t212>a4 then(if y208.length<5864062014805 then(impl_faultsOf.l0 k1 l1 l2 a4 t185 (y208 ++ [(([3,x33_1]:List Int))]) t182 (t182.length:Int) (wrap64 (x33_1+1)) l0_0 a0_1 a3_0 a3_1 a3_2) else(none)) else(impl_faultsOf.l0 k1 l1 l2 a4 t185 y208 t182 (t182.length:Int) (wrap64 (x33_1+1)) l0_0 a0_1 a3_0 a3_1 a3_2))) else(none))) else(none))=some r:=by subst hy205;exact H
      have Ny205:=am hy205
      clear hy205
      obtain⟨c31,H⟩:=ifp H
      have LMc31:=am c31
      clear c31
      obtain⟨y208,hy208⟩:∃ y_:List (List Int),y_=(x13_1 ++ [y205]):=⟨_,rfl⟩
      replace H:(if 1<(t200.length:Int) then((impl_distance.f (rd t200 1) 0).bind fun t212=>(if t212>a4 then(if y208.length<5864062014805 then(impl_faultsOf.l0 k1 l1 l2 a4 t185 (y208 ++ [(([3,x33_1]:List Int))]) t182 (t182.length:Int) (wrap64 (x33_1+1)) l0_0 a0_1 a3_0 a3_1 a3_2) else(none)) else(impl_faultsOf.l0 k1 l1 l2 a4 t185 y208 t182 (t182.length:Int) (wrap64 (x33_1+1)) l0_0 a0_1 a3_0 a3_1 a3_2))) else(none))=some r:=by subst hy208;exact H
      have Ny208:=am hy208
      clear hy208
      obtain⟨c32,H⟩:=ifp H
      have c32b0:=decide_eq_true c32
      have c32b1:decide (1<t200.length)=true:=decide_eq_true (by omega)
      clear c32
      obtain⟨t212,A33,H⟩:=bnd H
      rcases itc H with⟨c34,H⟩|⟨c34,H⟩
      ·have c34b0:decide (a4<t212)=true:=decide_eq_true c34
       clear c34
       obtain⟨y213,hy213⟩:∃ y_:List Int,y_=(([3,x33_1]:List Int)):=⟨_,rfl⟩
       replace H:(if y208.length<5864062014805 then(impl_faultsOf.l0 k1 l1 l2 a4 t185 (y208 ++ [y213]) t182 (t182.length:Int) (wrap64 (x33_1+1)) l0_0 a0_1 a3_0 a3_1 a3_2) else(none))=some r:=by subst hy213;exact H
       have Ny213:=am hy213
       clear hy213
       obtain⟨c35,H⟩:=ifp H
       have LMc35:=am c35
       clear c35
       obtain⟨y216,hy216⟩:∃ y_:List (List Int),y_=(y208 ++ [y213]):=⟨_,rfl⟩
       replace H:(impl_faultsOf.l0 k1 l1 l2 a4 t185 y216 t182 (t182.length:Int) (wrap64 (x33_1+1)) l0_0 a0_1 a3_0 a3_1 a3_2)=some r:=by subst hy216;exact H
       have Ny216:=am hy216
       clear hy216
       have H':=am H
       clear H
       have p191:0≤(x33_1:Int):=od
       have q191:x33_1<(t182.length:Int):=od
       obtain⟨ad191,e191,hx191_0⟩:=Kd.at_int (Kd.R_reads' HO_31.out).2.2 x33_1 p191 q191
       cases e191
       replace p191:=eq_true p191
       replace q191:=eq_true q191
       try go_wp2
       replace HO_12:=am (Kd.R_drew HO_12.out)
       replace HO_13:=am (Kd.S_drew HO_13.out)
       replace HO_31:=am (Kd.R_drew HO_31.out)
       replace BK180:=am (bD_ BK180.out)
       replace BK181:=am (bD_ BK181.out)
       replace HB:=am (below_drew1 HB.out)
       have p198:0≤(x33_1:Int):=od
       have q198:x33_1<(l1.length:Int):=od
       obtain⟨ad198,e198,hx198_0,hx198_1,hx198_2⟩:=at_T35 HR1.out x33_1 p198 q198
       have hw198_2:=hx198_2
       have hw198_1:=hx198_1
       have hw198_0:=hx198_0
       cases e198
       replace hx198_0:=(HB.out.cell (World.block_lt_of_cell? w _ hx198_0)).trans hx198_0
       replace hx198_1:=(HB.out.cell (World.block_lt_of_cell? w _ hx198_1)).trans hx198_1
       replace hx198_2:=(HB.out.cell (World.block_lt_of_cell? w _ hx198_2)).trans hx198_2
       replace p198:=eq_true p198
       replace q198:=eq_true q198
       have p199:0≤((rd t182 x33_1):Int):=od
       have q199:(rd t182 x33_1)<(l2.length:Int):=od
       obtain⟨ad199,e199,hx199_0,hx199_1,hx199_2⟩:=at_T60 HR2.out (rd t182 x33_1) p199 q199
       have hw199_2:=hx199_2
       have hw199_1:=hx199_1
       have hw199_0:=hx199_0
       cases e199
       replace hx199_0:=(HB.out.cell (World.block_lt_of_cell? w _ hx199_0)).trans hx199_0
       replace hx199_1:=(HB.out.cell (World.block_lt_of_cell? w _ hx199_1)).trans hx199_1
       replace hx199_2:=(HB.out.cell (World.block_lt_of_cell? w _ hx199_2)).trans hx199_2
       replace p199:=eq_true p199
       replace q199:=eq_true q199
       refine start_ (n:=10) (S:=fun w'=>w'.cell? (ad198.add ((x33_1).toNat*3))=some (.int .i64 ((rd_T35 l1 x33_1).f0))∧w'.cell? ⟨(ad198.add ((x33_1).toNat*3)).block,(ad198.add ((x33_1).toNat*3)).off+1,none⟩=some (.int .i64 ((rd_T35 l1 x33_1).f1))∧w'.cell? ⟨(ad198.add ((x33_1).toNat*3)).block,(ad198.add ((x33_1).toNat*3)).off+2,none⟩=some (.int .i64 ((rd_T35 l1 x33_1).f2))∧w'.cell? (ad199.add (((rd t182 x33_1)).toNat*3))=some (.int .i64 ((rd_T60 l2 (rd t182 x33_1)).f0))∧w'.cell? ⟨(ad199.add (((rd t182 x33_1)).toNat*3)).block,(ad199.add (((rd t182 x33_1)).toNat*3)).off+1,none⟩=some (.int .i64 ((rd_T60 l2 (rd t182 x33_1)).f1))∧w'.cell? ⟨(ad199.add (((rd t182 x33_1)).toNat*3)).block,(ad199.add (((rd t182 x33_1)).toNat*3)).off+2,none⟩=some (.int .i64 ((rd_T60 l2 (rd t182 x33_1)).f2))) (ds:=[]) (fl 0 10) (by kernel_rfl) rfl rfl ⟨((HB.out.cell (World.block_lt_of_cell? w _ hw198_0)).trans hw198_0),((HB.out.cell (World.block_lt_of_cell? w _ hw198_1)).trans hw198_1),((HB.out.cell (World.block_lt_of_cell? w _ hw198_2)).trans hw198_2),((HB.out.cell (World.block_lt_of_cell? w _ hw199_0)).trans hw199_0),((HB.out.cell (World.block_lt_of_cell? w _ hw199_1)).trans hw199_1),((HB.out.cell (World.block_lt_of_cell? w _ hw199_2)).trans hw199_2)⟩ (fun hHeld=>?_);refine with_tabW impl_faultsOf.tab8 impl_faultsOf.bits8 (fun HT_ HW_=>?_)
       generalize wr.drew=w36 at HO_12 HO_13 HO_31 BK180 BK181 HB hx198_0 hx198_1 hx198_2 hx199_0 hx199_1 hx199_2 hHeld ⊢
       refine pu HT_.out 0 (some 45) (fl 1 10) (h:=?_)
       refine pu HT_.out 1 (some 46) (fl 2 10) (h:=?_)
       refine pu HT_.out 2 (some 47) (fl 3 10) (h:=?_)
       refine pu HT_.out 4 (some 49) #[true,true,true,false,true,false,false,false,false,false] (h:=?_)
       refine pu HT_.out 5 (some 50) #[true,true,true,false,true,true,false,false,false,false] (h:=?_)
       refine pu HT_.out 6 (some 51) #[true,true,true,false,true,true,true,false,false,false] (h:=?_)
       refine ta HT_.out HW_.out 3 (some 48) (fl 7 10) hHeld rfl (by rintro w' ⟨s0,s1,s2,s3,s4,s5⟩;go_simp;with_reducible rfl) (h:=?_)
       refine ta HT_.out HW_.out 7 (some 52) (fl 8 10) hHeld rfl (by rintro w' ⟨s0,s1,s2,s3,s4,s5⟩;go_simp;with_reducible rfl) (h:=?_)
       refine one_ (i:=8) (N:=some 53) (fl 9 10) rfl rfl (one_of HT_.out (by kernel_rfl)) (by decide) (fun K hK=>?_)
       refine goes_ Try.func29 (by kernel_rfl) rfl #[.agg #[.int .i64 ((rd_T35 l1 x33_1).f0),.int .i64 ((rd_T35 l1 x33_1).f1),.int .i64 ((rd_T35 l1 x33_1).f2)],.agg #[.int .i64 ((rd_T60 l2 (rd t182 x33_1)).f0),.int .i64 ((rd_T60 l2 (rd t182 x33_1)).f1),.int .i64 ((rd_T60 l2 (rd t182 x33_1)).f2)]] (by rfl) rfl rfl tl ?_
       with_reducible refine(impl_holeErrors.calls ((rd_T35 l1 x33_1).f0) ((rd_T35 l1 x33_1).f1) ((rd_T35 l1 x33_1).f2) ((rd_T60 l2 (rd t182 x33_1)).f0) ((rd_T60 l2 (rd t182 x33_1)).f1) ((rd_T60 l2 (rd t182 x33_1)).f2) t200 _ A27.out).mono ?_
       rintro e w37 ⟨v201,rfl,ho0,hb⟩
       refine⟨_,rfl,?_⟩
       replace HO_13:=am (Kd.S_elder' (by(with_reducible repeat(first|apply Kd.S_alloc|apply Kd.S_drewN|apply Kd.S_drew));exact HO_13.out) (Kd.R_base ho0) hb)
       have HO202:=am (Kd.R_lower (Kd.R_new' (Kd.R_new' ho0 (Kd.R_lt (rup HO_12.out))) (Kd.R_lt (rup HO_31.out))) (below_size bl))
       replace HO_12:=am (Kd.R_elder' (rup HO_12.out) (Kd.R_base ho0) hb)
       replace HO_31:=am (Kd.R_elder' (rup HO_31.out) (Kd.R_base ho0) hb)
       replace BK180:=am (blk_below (bup BK180.out) hb)
       replace BK181:=am (blk_below (bup BK181.out) hb)
       replace HB:=am (below_step bl hb)
       (try clear hb)
       (try clear ho0)
       refine hK.out _ _ ⟨((HB.out.cell (World.block_lt_of_cell? w _ hw198_0)).trans hw198_0),((HB.out.cell (World.block_lt_of_cell? w _ hw198_1)).trans hw198_1),((HB.out.cell (World.block_lt_of_cell? w _ hw198_2)).trans hw198_2),((HB.out.cell (World.block_lt_of_cell? w _ hw199_0)).trans hw199_0),((HB.out.cell (World.block_lt_of_cell? w _ hw199_1)).trans hw199_1),((HB.out.cell (World.block_lt_of_cell? w _ hw199_2)).trans hw199_2)⟩ (fun hHeld=>?_)
       clear hK K
       refine norm_ (a':=?_) ?_ ?_
       rotate_left
       ·show Act.put _ (some 53) _=_
        simp only[Act.put,List.setIfInBounds_toArray,List.set_cons_zero,List.set_cons_succ,i64_w,i32_w]
        rfl
       refine pu HT_.out 9 (some 16) (fl 10 10) (h:=?_)
       refine done_ (done_of HT_.out (by kernel_rfl)) ?_
       obtain⟨Ao38,co38,eo38⟩:=Kd.R_slice HO202.out
       subst eo38
       have p203:0≤(0:Int):=(by omega)
       have q203:0<(t200.length:Int):=od
       obtain⟨ad203,e203,hx203_0⟩:=Kd.at_int (Kd.R_reads' HO202.out).2.2 0 p203 q203
       cases e203
       have qi203:(0<t200.length)=True:=eq_true (by omega)
       (try rw[show((0:Int)).toNat=0 from rfl] at hx203_0)
       (try rw[Addr.add_zero'] at hx203_0)
       replace p203:=eq_true p203
       replace q203:=eq_true q203
       try go_wp2_with (first|((with_reducible refine gate_callee (f:=30) rfl ?_);refine goesL_ (some 57) rfl rfl Try.func30 (by kernel_rfl) rfl #[.int .i64 (rd t200 0),.int .i64 0] rfl tl ?_;(with_reducible refine(impl_distance.calls (rd t200 0) 0 t204 _ A29.out).mono ?_);rintro e w39 ⟨rfl,hb⟩;refine⟨_,rfl,?_⟩;replace HO_12:=am (Kd.R_below (rup HO_12.out) hb);replace HO_13:=am (Kd.S_below (by(with_reducible repeat(first|apply Kd.S_alloc|apply Kd.S_drewN|apply Kd.S_drew));exact HO_13.out) hb);replace HO_31:=am (Kd.R_below (rup HO_31.out) hb);replace HO202:=am (Kd.R_below (rup HO202.out) hb);replace BK180:=am (blk_below (bup BK180.out) hb);replace BK181:=am (blk_below (bup BK181.out) hb);replace HB:=am (below_step bl hb);(try clear hb))|((with_reducible refine gate_dst (N:=62) rfl ?_);refine Kd.R_lit (Kd.int .i64) _ 3 ?hg (N:=62) ?hd (xs:=([2,x33_1]:List Int)) (inner:=[.int .i64 2,.int .i64 x33_1]) (ok:=fun _=>True) (okp:=fun _=>True) ?hr ?hp (fun _ hk=>hk) trivial (Below.refl _ _) (Nat.le_refl _) (by simp) ?_;(case hd=>rfl);(case hg=>rfl);(case hr=>first|(go_simp;done)|(go_simp;rfl));(case hp=>exact(Reps.one (show Kd.M (Kd.int .i64) _ _ _ 2 [.int .i64 2] from rfl) (Reps.one (show Kd.M (Kd.int .i64) _ _ _ x33_1 [.int .i64 x33_1] from rfl) (Reps.none _ _))));intro v206 w40 ho41 hb hg_ hnew_;clear hg_ hnew_;(first|rw[← Ny205.out] at ho41|(simp only[Int.reduceToNat] at ho41;rw[← Ny205.out] at ho41));replace HO_13:=am (Kd.S_elder' (by(with_reducible repeat(first|apply Kd.S_alloc|apply Kd.S_drewN|apply Kd.S_drew));exact HO_13.out) (Kd.R_base ho41) hb);have HO207:=am (Kd.R_lower (Kd.R_new' (Kd.R_new' (Kd.R_new' ho41 (Kd.R_lt (rup HO_12.out))) (Kd.R_lt (rup HO_31.out))) (Kd.R_lt (rup HO202.out))) (below_size bl));replace HO_12:=am (Kd.R_elder' (rup HO_12.out) (Kd.R_base ho41) hb);replace HO_31:=am (Kd.R_elder' (rup HO_31.out) (Kd.R_base ho41) hb);replace HO202:=am (Kd.R_elder' (rup HO202.out) (Kd.R_base ho41) hb);replace BK180:=am (blk_below (bup BK180.out) hb);replace BK181:=am (blk_below (bup BK181.out) hb);replace HB:=am (below_step bl hb);clear hb ho41;obtain⟨Ao43,co43,eo43⟩:=Kd.R_slice HO207.out;subst eo43)|((with_reducible refine gate_builtin (b := .append) (xs := #[.tmp 60,.tmp 63]) rfl ?_);at_builtin;refine Kd.S_append (Kd.slice 3 (Kd.int .i64)) (w0:=w) w.heap.size rfl (.tmp 60) (.tmp 63) 39 22 (.slice none 0 0) 24 rfl Try.underlying39 info22 rfl (by decide) (by omega) u13 x13_1 y205 [.slice Ao43 y205.length co43] (fun k_=>some k_≠(v186:Value).ownBlock∧some k_≠(.slice (some ad191) t182.length co14:Value).ownBlock∧some k_≠(.slice (some ad203) t200.length co38:Value).ownBlock) (fun k_=>some k_=(.slice Ao43 y205.length co43:Value).ownBlock) rfl rfl ?aP (fun k_ hk_=>((Kd.R_mono (ok':=fun k_=>((fun k_=>some k_≠(v186:Value).ownBlock∧some k_≠(.slice (some ad191) t182.length co14:Value).ownBlock∧some k_≠(.slice (some ad203) t200.length co38:Value).ownBlock)) k_∧some k_≠(u13:Value).ownBlock) (Kd.R_apart' (HO207.out) (Kd.S_typed HO_13.out) (by decide)) (fun k_ hk=>⟨⟨hk.1.1.1.2,⟨hk.1.1.2,hk.1.2⟩⟩,hk.2⟩))).1 k_ hk_.symm) ?aF ?aO ?aB ?aS ?aL ?_;(case aP=>exact Kd.M_row (Kd.R_mono (Kd.R_tight rfl (Kd.R_mono (ok':=fun k_=>((fun k_=>some k_≠(v186:Value).ownBlock∧some k_≠(.slice (some ad191) t182.length co14:Value).ownBlock∧some k_≠(.slice (some ad203) t200.length co38:Value).ownBlock)) k_∧some k_≠(u13:Value).ownBlock) (Kd.R_apart' (HO207.out) (Kd.S_typed HO_13.out) (by decide)) (fun k_ hk=>⟨⟨hk.1.1.1.2,⟨hk.1.1.2,hk.1.2⟩⟩,hk.2⟩))) (fun _ h_=>h_)));(case aB=>exact bl);(case aF=>exact(fun k_ hk=>⟨Kd.fresh' (Kd.R_lt (rup HO_12.out)) k_ hk,Kd.fresh' (Kd.R_lt (rup HO_31.out)) k_ hk,Kd.fresh' (Kd.R_lt (rup HO202.out)) k_ hk⟩));(case aO=>exact(by(with_reducible repeat(first|apply Kd.S_alloc|apply Kd.S_drewN|apply Kd.S_drew));exact Kd.S_mono HO_13.out (fun k_ hk=>⟨⟨hk.1.1.1,⟨hk.1.1.2,hk.1.2⟩⟩,fun e_=>hk.2 e_⟩)));(case aS=>exact(below_size bl));(case aL=>have:=LMc31.out;omega);intro v209 w42 ho hb hg hat;rw[← Ny208.out] at ho;replace HO_12:=am (Kd.R_over' (rup HO_12.out) (Kd.S_typed (by(with_reducible repeat(first|apply Kd.S_alloc|apply Kd.S_drewN|apply Kd.S_drew));exact HO_13.out)) (by decide) hg);replace HO_31:=am (Kd.R_over' (rup HO_31.out) (Kd.S_typed (by(with_reducible repeat(first|apply Kd.S_alloc|apply Kd.S_drewN|apply Kd.S_drew));exact HO_13.out)) (by decide) hg);replace BK180:=am (blk_grown (bup BK180.out) hg (Kd.S_ne HO_13.out BK180.out (by decide)));replace BK181:=am (blk_grown (bup BK181.out) hg (Kd.S_ne HO_13.out BK181.out (by decide)));replace HO202:=am (Kd.R_over' (rup HO202.out) (Kd.S_typed (by(with_reducible repeat(first|apply Kd.S_alloc|apply Kd.S_drewN|apply Kd.S_drew));exact HO_13.out)) (by decide) hg);replace HB:=am (hb);have HO210:=am (ho);clear HO_13 HO207 ho hb hg hat;have p211:0≤(1:Int):=(by omega);have q211:1<(t200.length:Int):=od;obtain⟨ad211,e211,hx211_0⟩:=Kd.at_int (Kd.R_reads' HO202.out).2.2 1 p211 q211;obtain rfl:ad203=ad211:=(by injection e211);(try simp only[show(1:Int).toNat=1 from rfl,Nat.reduceMul,Nat.reduceEqDiff,Go.Addr.add,↓reduceIte] at hx211_0);have qi211:(1<t200.length)=True:=eq_true (by omega);(try rw[show((1:Int)).toNat=1 from rfl] at hx211_0);replace p211:=eq_true p211;replace q211:=eq_true q211)|((with_reducible refine gate_callee (f:=30) rfl ?_);refine goesL_ (some 68) rfl rfl Try.func30 (by kernel_rfl) rfl #[.int .i64 (rd t200 1),.int .i64 0] rfl tl ?_;(with_reducible refine(impl_distance.calls (rd t200 1) 0 t212 _ A33.out).mono ?_);rintro e w44 ⟨rfl,hb⟩;refine⟨_,rfl,?_⟩;replace HO_12:=am (Kd.R_below (rup HO_12.out) hb);replace HO_31:=am (Kd.R_below (rup HO_31.out) hb);replace HO202:=am (Kd.R_below (rup HO202.out) hb);replace HO210:=am (Kd.S_below (by(with_reducible repeat(first|apply Kd.S_alloc|apply Kd.S_drewN|apply Kd.S_drew));exact HO210.out) hb);replace BK180:=am (blk_below (bup BK180.out) hb);replace BK181:=am (blk_below (bup BK181.out) hb);replace HB:=am (below_step bl hb);(try clear hb))|((with_reducible refine gate_dst (N:=73) rfl ?_);refine Kd.R_lit (Kd.int .i64) _ 3 ?hg (N:=73) ?hd (xs:=([3,x33_1]:List Int)) (inner:=[.int .i64 3,.int .i64 x33_1]) (ok:=fun _=>True) (okp:=fun _=>True) ?hr ?hp (fun _ hk=>hk) trivial (Below.refl _ _) (Nat.le_refl _) (by simp) ?_;(case hd=>rfl);(case hg=>rfl);(case hr=>first|(go_simp;done)|(go_simp;rfl));(case hp=>exact(Reps.one (show Kd.M (Kd.int .i64) _ _ _ 3 [.int .i64 3] from rfl) (Reps.one (show Kd.M (Kd.int .i64) _ _ _ x33_1 [.int .i64 x33_1] from rfl) (Reps.none _ _))));intro v214 w45 ho46 hb hg_ hnew_;clear hg_ hnew_;(first|rw[← Ny213.out] at ho46|(simp only[Int.reduceToNat] at ho46;rw[← Ny213.out] at ho46));replace HO210:=am (Kd.S_elder' (by(with_reducible repeat(first|apply Kd.S_alloc|apply Kd.S_drewN|apply Kd.S_drew));exact HO210.out) (Kd.R_base ho46) hb);have HO215:=am (Kd.R_lower (Kd.R_new' (Kd.R_new' (Kd.R_new' ho46 (Kd.R_lt (rup HO_12.out))) (Kd.R_lt (rup HO_31.out))) (Kd.R_lt (rup HO202.out))) (below_size bl));replace HO_12:=am (Kd.R_elder' (rup HO_12.out) (Kd.R_base ho46) hb);replace HO_31:=am (Kd.R_elder' (rup HO_31.out) (Kd.R_base ho46) hb);replace HO202:=am (Kd.R_elder' (rup HO202.out) (Kd.R_base ho46) hb);replace BK180:=am (blk_below (bup BK180.out) hb);replace BK181:=am (blk_below (bup BK181.out) hb);replace HB:=am (below_step bl hb);clear hb ho46;obtain⟨Ao48,co48,eo48⟩:=Kd.R_slice HO215.out;subst eo48)|((with_reducible refine gate_builtin (b := .append) (xs := #[.tmp 71,.tmp 74]) rfl ?_);at_builtin;refine Kd.S_append (Kd.slice 3 (Kd.int .i64)) (w0:=w) w.heap.size rfl (.tmp 71) (.tmp 74) 39 22 (.slice none 0 0) 24 rfl Try.underlying39 info22 rfl (by decide) (by omega) v209 y208 y213 [.slice Ao48 y213.length co48] (fun k_=>some k_≠(v186:Value).ownBlock∧some k_≠(.slice (some ad191) t182.length co14:Value).ownBlock∧some k_≠(.slice (some ad203) t200.length co38:Value).ownBlock) (fun k_=>some k_=(.slice Ao48 y213.length co48:Value).ownBlock) rfl rfl ?aP (fun k_ hk_=>((Kd.R_mono (ok':=fun k_=>((fun k_=>some k_≠(v186:Value).ownBlock∧some k_≠(.slice (some ad191) t182.length co14:Value).ownBlock∧some k_≠(.slice (some ad203) t200.length co38:Value).ownBlock)) k_∧some k_≠(v209:Value).ownBlock) (Kd.R_apart' (HO215.out) (Kd.S_typed HO210.out) (by decide)) (fun k_ hk=>⟨⟨hk.1.1.1.2,⟨hk.1.1.2,hk.1.2⟩⟩,hk.2⟩))).1 k_ hk_.symm) ?aF ?aO ?aB ?aS ?aL ?_;(case aP=>exact Kd.M_row (Kd.R_mono (Kd.R_tight rfl (Kd.R_mono (ok':=fun k_=>((fun k_=>some k_≠(v186:Value).ownBlock∧some k_≠(.slice (some ad191) t182.length co14:Value).ownBlock∧some k_≠(.slice (some ad203) t200.length co38:Value).ownBlock)) k_∧some k_≠(v209:Value).ownBlock) (Kd.R_apart' (HO215.out) (Kd.S_typed HO210.out) (by decide)) (fun k_ hk=>⟨⟨hk.1.1.1.2,⟨hk.1.1.2,hk.1.2⟩⟩,hk.2⟩))) (fun _ h_=>h_)));(case aB=>exact bl);(case aF=>exact(fun k_ hk=>⟨Kd.fresh' (Kd.R_lt (rup HO_12.out)) k_ hk,Kd.fresh' (Kd.R_lt (rup HO_31.out)) k_ hk,Kd.fresh' (Kd.R_lt (rup HO202.out)) k_ hk⟩));(case aO=>exact(by(with_reducible repeat(first|apply Kd.S_alloc|apply Kd.S_drewN|apply Kd.S_drew));exact Kd.S_mono HO210.out (fun k_ hk=>⟨⟨hk.1.1,⟨hk.1.2.1,hk.1.2.2⟩⟩,fun e_=>hk.2 e_⟩)));(case aS=>exact(below_size bl));(case aL=>have:=LMc35.out;omega);intro v217 w47 ho hb hg hat;rw[← Ny216.out] at ho;replace HO_12:=am (Kd.R_over' (rup HO_12.out) (Kd.S_typed (by(with_reducible repeat(first|apply Kd.S_alloc|apply Kd.S_drewN|apply Kd.S_drew));exact HO210.out)) (by decide) hg);replace HO_31:=am (Kd.R_over' (rup HO_31.out) (Kd.S_typed (by(with_reducible repeat(first|apply Kd.S_alloc|apply Kd.S_drewN|apply Kd.S_drew));exact HO210.out)) (by decide) hg);replace BK180:=am (blk_grown (bup BK180.out) hg (Kd.S_ne HO210.out BK180.out (by decide)));replace BK181:=am (blk_grown (bup BK181.out) hg (Kd.S_ne HO210.out BK181.out (by decide)));replace HO202:=am (Kd.R_over' (rup HO202.out) (Kd.S_typed (by(with_reducible repeat(first|apply Kd.S_alloc|apply Kd.S_drewN|apply Kd.S_drew));exact HO210.out)) (by decide) hg);replace HB:=am (hb);have HO218:=am (ho);clear HO210 HO215 ho hb hg hat))
       go_roundg k1
       case measure=>have:=HK1.out;omega
       case rel=>exact⟨(y216),(wrap64 (x33_1+1)),fin2,H',⟨by have:=HK1.out;omega⟩,⟨rup (Kd.R_mono HO_12.out (fun _ hk=>hk.1.1.1))⟩,⟨by(with_reducible repeat(first|apply Kd.S_alloc|apply Kd.S_drewN|apply Kd.S_drew));exact Kd.S_mono HO218.out (fun _ hk=>⟨hk.1,hk.2.1⟩)⟩,⟨rup (Kd.R_mono HO_31.out (fun _ hk=>hk.1.1.1))⟩,⟨bup BK180.out⟩,⟨bup BK181.out⟩,⟨bl⟩⟩
      ·have c34b0:decide (a4<t212)=false:=decide_eq_false c34
       clear c34
       have H':=am H
       clear H
       have p191:0≤(x33_1:Int):=od
       have q191:x33_1<(t182.length:Int):=od
       obtain⟨ad191,e191,hx191_0⟩:=Kd.at_int (Kd.R_reads' HO_31.out).2.2 x33_1 p191 q191
       cases e191
       replace p191:=eq_true p191
       replace q191:=eq_true q191
       try go_wp2
       replace HO_12:=am (Kd.R_drew HO_12.out)
       replace HO_13:=am (Kd.S_drew HO_13.out)
       replace HO_31:=am (Kd.R_drew HO_31.out)
       replace BK180:=am (bD_ BK180.out)
       replace BK181:=am (bD_ BK181.out)
       replace HB:=am (below_drew1 HB.out)
       have p198:0≤(x33_1:Int):=od
       have q198:x33_1<(l1.length:Int):=od
       obtain⟨ad198,e198,hx198_0,hx198_1,hx198_2⟩:=at_T35 HR1.out x33_1 p198 q198
       have hw198_2:=hx198_2
       have hw198_1:=hx198_1
       have hw198_0:=hx198_0
       cases e198
       replace hx198_0:=(HB.out.cell (World.block_lt_of_cell? w _ hx198_0)).trans hx198_0
       replace hx198_1:=(HB.out.cell (World.block_lt_of_cell? w _ hx198_1)).trans hx198_1
       replace hx198_2:=(HB.out.cell (World.block_lt_of_cell? w _ hx198_2)).trans hx198_2
       replace p198:=eq_true p198
       replace q198:=eq_true q198
       have p199:0≤((rd t182 x33_1):Int):=od
       have q199:(rd t182 x33_1)<(l2.length:Int):=od
       obtain⟨ad199,e199,hx199_0,hx199_1,hx199_2⟩:=at_T60 HR2.out (rd t182 x33_1) p199 q199
       have hw199_2:=hx199_2
       have hw199_1:=hx199_1
       have hw199_0:=hx199_0
       cases e199
       replace hx199_0:=(HB.out.cell (World.block_lt_of_cell? w _ hx199_0)).trans hx199_0
       replace hx199_1:=(HB.out.cell (World.block_lt_of_cell? w _ hx199_1)).trans hx199_1
       replace hx199_2:=(HB.out.cell (World.block_lt_of_cell? w _ hx199_2)).trans hx199_2
       replace p199:=eq_true p199
       replace q199:=eq_true q199
       refine start_ (n:=10) (S:=fun w'=>w'.cell? (ad198.add ((x33_1).toNat*3))=some (.int .i64 ((rd_T35 l1 x33_1).f0))∧w'.cell? ⟨(ad198.add ((x33_1).toNat*3)).block,(ad198.add ((x33_1).toNat*3)).off+1,none⟩=some (.int .i64 ((rd_T35 l1 x33_1).f1))∧w'.cell? ⟨(ad198.add ((x33_1).toNat*3)).block,(ad198.add ((x33_1).toNat*3)).off+2,none⟩=some (.int .i64 ((rd_T35 l1 x33_1).f2))∧w'.cell? (ad199.add (((rd t182 x33_1)).toNat*3))=some (.int .i64 ((rd_T60 l2 (rd t182 x33_1)).f0))∧w'.cell? ⟨(ad199.add (((rd t182 x33_1)).toNat*3)).block,(ad199.add (((rd t182 x33_1)).toNat*3)).off+1,none⟩=some (.int .i64 ((rd_T60 l2 (rd t182 x33_1)).f1))∧w'.cell? ⟨(ad199.add (((rd t182 x33_1)).toNat*3)).block,(ad199.add (((rd t182 x33_1)).toNat*3)).off+2,none⟩=some (.int .i64 ((rd_T60 l2 (rd t182 x33_1)).f2))) (ds:=[]) (fl 0 10) (by kernel_rfl) rfl rfl ⟨((HB.out.cell (World.block_lt_of_cell? w _ hw198_0)).trans hw198_0),((HB.out.cell (World.block_lt_of_cell? w _ hw198_1)).trans hw198_1),((HB.out.cell (World.block_lt_of_cell? w _ hw198_2)).trans hw198_2),((HB.out.cell (World.block_lt_of_cell? w _ hw199_0)).trans hw199_0),((HB.out.cell (World.block_lt_of_cell? w _ hw199_1)).trans hw199_1),((HB.out.cell (World.block_lt_of_cell? w _ hw199_2)).trans hw199_2)⟩ (fun hHeld=>?_);refine with_tabW impl_faultsOf.tab8 impl_faultsOf.bits8 (fun HT_ HW_=>?_)
       generalize wr.drew=w49 at HO_12 HO_13 HO_31 BK180 BK181 HB hx198_0 hx198_1 hx198_2 hx199_0 hx199_1 hx199_2 hHeld ⊢
       refine pu HT_.out 0 (some 45) (fl 1 10) (h:=?_)
       refine pu HT_.out 1 (some 46) (fl 2 10) (h:=?_)
       refine pu HT_.out 2 (some 47) (fl 3 10) (h:=?_)
       refine pu HT_.out 4 (some 49) #[true,true,true,false,true,false,false,false,false,false] (h:=?_)
       refine pu HT_.out 5 (some 50) #[true,true,true,false,true,true,false,false,false,false] (h:=?_)
       refine pu HT_.out 6 (some 51) #[true,true,true,false,true,true,true,false,false,false] (h:=?_)
       refine ta HT_.out HW_.out 3 (some 48) (fl 7 10) hHeld rfl (by rintro w' ⟨s0,s1,s2,s3,s4,s5⟩;go_simp;with_reducible rfl) (h:=?_)
       refine ta HT_.out HW_.out 7 (some 52) (fl 8 10) hHeld rfl (by rintro w' ⟨s0,s1,s2,s3,s4,s5⟩;go_simp;with_reducible rfl) (h:=?_)
       refine one_ (i:=8) (N:=some 53) (fl 9 10) rfl rfl (one_of HT_.out (by kernel_rfl)) (by decide) (fun K hK=>?_)
       refine goes_ Try.func29 (by kernel_rfl) rfl #[.agg #[.int .i64 ((rd_T35 l1 x33_1).f0),.int .i64 ((rd_T35 l1 x33_1).f1),.int .i64 ((rd_T35 l1 x33_1).f2)],.agg #[.int .i64 ((rd_T60 l2 (rd t182 x33_1)).f0),.int .i64 ((rd_T60 l2 (rd t182 x33_1)).f1),.int .i64 ((rd_T60 l2 (rd t182 x33_1)).f2)]] (by rfl) rfl rfl tl ?_
       with_reducible refine(impl_holeErrors.calls ((rd_T35 l1 x33_1).f0) ((rd_T35 l1 x33_1).f1) ((rd_T35 l1 x33_1).f2) ((rd_T60 l2 (rd t182 x33_1)).f0) ((rd_T60 l2 (rd t182 x33_1)).f1) ((rd_T60 l2 (rd t182 x33_1)).f2) t200 _ A27.out).mono ?_
       rintro e w50 ⟨v201,rfl,ho0,hb⟩
       refine⟨_,rfl,?_⟩
       replace HO_13:=am (Kd.S_elder' (by(with_reducible repeat(first|apply Kd.S_alloc|apply Kd.S_drewN|apply Kd.S_drew));exact HO_13.out) (Kd.R_base ho0) hb)
       have HO202:=am (Kd.R_lower (Kd.R_new' (Kd.R_new' ho0 (Kd.R_lt (rup HO_12.out))) (Kd.R_lt (rup HO_31.out))) (below_size bl))
       replace HO_12:=am (Kd.R_elder' (rup HO_12.out) (Kd.R_base ho0) hb)
       replace HO_31:=am (Kd.R_elder' (rup HO_31.out) (Kd.R_base ho0) hb)
       replace BK180:=am (blk_below (bup BK180.out) hb)
       replace BK181:=am (blk_below (bup BK181.out) hb)
       replace HB:=am (below_step bl hb)
       (try clear hb)
       (try clear ho0)
       refine hK.out _ _ ⟨((HB.out.cell (World.block_lt_of_cell? w _ hw198_0)).trans hw198_0),((HB.out.cell (World.block_lt_of_cell? w _ hw198_1)).trans hw198_1),((HB.out.cell (World.block_lt_of_cell? w _ hw198_2)).trans hw198_2),((HB.out.cell (World.block_lt_of_cell? w _ hw199_0)).trans hw199_0),((HB.out.cell (World.block_lt_of_cell? w _ hw199_1)).trans hw199_1),((HB.out.cell (World.block_lt_of_cell? w _ hw199_2)).trans hw199_2)⟩ (fun hHeld=>?_)
       clear hK K
       refine norm_ (a':=?_) ?_ ?_
       rotate_left
       ·show Act.put _ (some 53) _=_
        simp only[Act.put,List.setIfInBounds_toArray,List.set_cons_zero,List.set_cons_succ,i64_w,i32_w]
        rfl
       refine pu HT_.out 9 (some 16) (fl 10 10) (h:=?_)
       refine done_ (done_of HT_.out (by kernel_rfl)) ?_
       obtain⟨Ao51,co51,eo51⟩:=Kd.R_slice HO202.out
       subst eo51
       have p203:0≤(0:Int):=(by omega)
       have q203:0<(t200.length:Int):=od
       obtain⟨ad203,e203,hx203_0⟩:=Kd.at_int (Kd.R_reads' HO202.out).2.2 0 p203 q203
       cases e203
       have qi203:(0<t200.length)=True:=eq_true (by omega)
       (try rw[show((0:Int)).toNat=0 from rfl] at hx203_0)
       (try rw[Addr.add_zero'] at hx203_0)
       replace p203:=eq_true p203
       replace q203:=eq_true q203
       try go_wp2_with (first|((with_reducible refine gate_callee (f:=30) rfl ?_);refine goesL_ (some 57) rfl rfl Try.func30 (by kernel_rfl) rfl #[.int .i64 (rd t200 0),.int .i64 0] rfl tl ?_;(with_reducible refine(impl_distance.calls (rd t200 0) 0 t204 _ A29.out).mono ?_);rintro e w52 ⟨rfl,hb⟩;refine⟨_,rfl,?_⟩;replace HO_12:=am (Kd.R_below (rup HO_12.out) hb);replace HO_13:=am (Kd.S_below (by(with_reducible repeat(first|apply Kd.S_alloc|apply Kd.S_drewN|apply Kd.S_drew));exact HO_13.out) hb);replace HO_31:=am (Kd.R_below (rup HO_31.out) hb);replace HO202:=am (Kd.R_below (rup HO202.out) hb);replace BK180:=am (blk_below (bup BK180.out) hb);replace BK181:=am (blk_below (bup BK181.out) hb);replace HB:=am (below_step bl hb);(try clear hb))|((with_reducible refine gate_dst (N:=62) rfl ?_);refine Kd.R_lit (Kd.int .i64) _ 3 ?hg (N:=62) ?hd (xs:=([2,x33_1]:List Int)) (inner:=[.int .i64 2,.int .i64 x33_1]) (ok:=fun _=>True) (okp:=fun _=>True) ?hr ?hp (fun _ hk=>hk) trivial (Below.refl _ _) (Nat.le_refl _) (by simp) ?_;(case hd=>rfl);(case hg=>rfl);(case hr=>first|(go_simp;done)|(go_simp;rfl));(case hp=>exact(Reps.one (show Kd.M (Kd.int .i64) _ _ _ 2 [.int .i64 2] from rfl) (Reps.one (show Kd.M (Kd.int .i64) _ _ _ x33_1 [.int .i64 x33_1] from rfl) (Reps.none _ _))));intro v206 w53 ho54 hb hg_ hnew_;clear hg_ hnew_;(first|rw[← Ny205.out] at ho54|(simp only[Int.reduceToNat] at ho54;rw[← Ny205.out] at ho54));replace HO_13:=am (Kd.S_elder' (by(with_reducible repeat(first|apply Kd.S_alloc|apply Kd.S_drewN|apply Kd.S_drew));exact HO_13.out) (Kd.R_base ho54) hb);have HO207:=am (Kd.R_lower (Kd.R_new' (Kd.R_new' (Kd.R_new' ho54 (Kd.R_lt (rup HO_12.out))) (Kd.R_lt (rup HO_31.out))) (Kd.R_lt (rup HO202.out))) (below_size bl));replace HO_12:=am (Kd.R_elder' (rup HO_12.out) (Kd.R_base ho54) hb);replace HO_31:=am (Kd.R_elder' (rup HO_31.out) (Kd.R_base ho54) hb);replace HO202:=am (Kd.R_elder' (rup HO202.out) (Kd.R_base ho54) hb);replace BK180:=am (blk_below (bup BK180.out) hb);replace BK181:=am (blk_below (bup BK181.out) hb);replace HB:=am (below_step bl hb);clear hb ho54;obtain⟨Ao56,co56,eo56⟩:=Kd.R_slice HO207.out;subst eo56)|((with_reducible refine gate_builtin (b := .append) (xs := #[.tmp 60,.tmp 63]) rfl ?_);at_builtin;refine Kd.S_append (Kd.slice 3 (Kd.int .i64)) (w0:=w) w.heap.size rfl (.tmp 60) (.tmp 63) 39 22 (.slice none 0 0) 24 rfl Try.underlying39 info22 rfl (by decide) (by omega) u13 x13_1 y205 [.slice Ao56 y205.length co56] (fun k_=>some k_≠(v186:Value).ownBlock∧some k_≠(.slice (some ad191) t182.length co14:Value).ownBlock∧some k_≠(.slice (some ad203) t200.length co51:Value).ownBlock) (fun k_=>some k_=(.slice Ao56 y205.length co56:Value).ownBlock) rfl rfl ?aP (fun k_ hk_=>((Kd.R_mono (ok':=fun k_=>((fun k_=>some k_≠(v186:Value).ownBlock∧some k_≠(.slice (some ad191) t182.length co14:Value).ownBlock∧some k_≠(.slice (some ad203) t200.length co51:Value).ownBlock)) k_∧some k_≠(u13:Value).ownBlock) (Kd.R_apart' (HO207.out) (Kd.S_typed HO_13.out) (by decide)) (fun k_ hk=>⟨⟨hk.1.1.1.2,⟨hk.1.1.2,hk.1.2⟩⟩,hk.2⟩))).1 k_ hk_.symm) ?aF ?aO ?aB ?aS ?aL ?_;(case aP=>exact Kd.M_row (Kd.R_mono (Kd.R_tight rfl (Kd.R_mono (ok':=fun k_=>((fun k_=>some k_≠(v186:Value).ownBlock∧some k_≠(.slice (some ad191) t182.length co14:Value).ownBlock∧some k_≠(.slice (some ad203) t200.length co51:Value).ownBlock)) k_∧some k_≠(u13:Value).ownBlock) (Kd.R_apart' (HO207.out) (Kd.S_typed HO_13.out) (by decide)) (fun k_ hk=>⟨⟨hk.1.1.1.2,⟨hk.1.1.2,hk.1.2⟩⟩,hk.2⟩))) (fun _ h_=>h_)));(case aB=>exact bl);(case aF=>exact(fun k_ hk=>⟨Kd.fresh' (Kd.R_lt (rup HO_12.out)) k_ hk,Kd.fresh' (Kd.R_lt (rup HO_31.out)) k_ hk,Kd.fresh' (Kd.R_lt (rup HO202.out)) k_ hk⟩));(case aO=>exact(by(with_reducible repeat(first|apply Kd.S_alloc|apply Kd.S_drewN|apply Kd.S_drew));exact Kd.S_mono HO_13.out (fun k_ hk=>⟨⟨hk.1.1.1,⟨hk.1.1.2,hk.1.2⟩⟩,fun e_=>hk.2 e_⟩)));(case aS=>exact(below_size bl));(case aL=>have:=LMc31.out;omega);intro v209 w55 ho hb hg hat;rw[← Ny208.out] at ho;replace HO_12:=am (Kd.R_over' (rup HO_12.out) (Kd.S_typed (by(with_reducible repeat(first|apply Kd.S_alloc|apply Kd.S_drewN|apply Kd.S_drew));exact HO_13.out)) (by decide) hg);replace HO_31:=am (Kd.R_over' (rup HO_31.out) (Kd.S_typed (by(with_reducible repeat(first|apply Kd.S_alloc|apply Kd.S_drewN|apply Kd.S_drew));exact HO_13.out)) (by decide) hg);replace BK180:=am (blk_grown (bup BK180.out) hg (Kd.S_ne HO_13.out BK180.out (by decide)));replace BK181:=am (blk_grown (bup BK181.out) hg (Kd.S_ne HO_13.out BK181.out (by decide)));replace HO202:=am (Kd.R_over' (rup HO202.out) (Kd.S_typed (by(with_reducible repeat(first|apply Kd.S_alloc|apply Kd.S_drewN|apply Kd.S_drew));exact HO_13.out)) (by decide) hg);replace HB:=am (hb);have HO210:=am (ho);clear HO_13 HO207 ho hb hg hat;have p211:0≤(1:Int):=(by omega);have q211:1<(t200.length:Int):=od;obtain⟨ad211,e211,hx211_0⟩:=Kd.at_int (Kd.R_reads' HO202.out).2.2 1 p211 q211;obtain rfl:ad203=ad211:=(by injection e211);(try simp only[show(1:Int).toNat=1 from rfl,Nat.reduceMul,Nat.reduceEqDiff,Go.Addr.add,↓reduceIte] at hx211_0);have qi211:(1<t200.length)=True:=eq_true (by omega);(try rw[show((1:Int)).toNat=1 from rfl] at hx211_0);replace p211:=eq_true p211;replace q211:=eq_true q211)|((with_reducible refine gate_callee (f:=30) rfl ?_);refine goesL_ (some 68) rfl rfl Try.func30 (by kernel_rfl) rfl #[.int .i64 (rd t200 1),.int .i64 0] rfl tl ?_;(with_reducible refine(impl_distance.calls (rd t200 1) 0 t212 _ A33.out).mono ?_);rintro e w57 ⟨rfl,hb⟩;refine⟨_,rfl,?_⟩;replace HO_12:=am (Kd.R_below (rup HO_12.out) hb);replace HO_31:=am (Kd.R_below (rup HO_31.out) hb);replace HO202:=am (Kd.R_below (rup HO202.out) hb);replace HO210:=am (Kd.S_below (by(with_reducible repeat(first|apply Kd.S_alloc|apply Kd.S_drewN|apply Kd.S_drew));exact HO210.out) hb);replace BK180:=am (blk_below (bup BK180.out) hb);replace BK181:=am (blk_below (bup BK181.out) hb);replace HB:=am (below_step bl hb);(try clear hb)))
       go_roundg k1
       case measure=>have:=HK1.out;omega
       case rel=>exact⟨(y208),(wrap64 (x33_1+1)),fin2,H',⟨by have:=HK1.out;omega⟩,⟨rup (Kd.R_mono HO_12.out (fun _ hk=>hk.1.1))⟩,⟨by(with_reducible repeat(first|apply Kd.S_alloc|apply Kd.S_drewN|apply Kd.S_drew));exact Kd.S_mono HO210.out (fun _ hk=>⟨hk.1,hk.2.1⟩)⟩,⟨rup (Kd.R_mono HO_31.out (fun _ hk=>hk.1.1))⟩,⟨bup BK180.out⟩,⟨bup BK181.out⟩,⟨bl⟩⟩
     ·have c30b0:decide (a4<t204)=false:=decide_eq_false c30
      clear c30
      obtain⟨c58,H⟩:=ifp H
      have c58b0:=decide_eq_true c58
      have c58b1:decide (1<t200.length)=true:=decide_eq_true (by omega)
      clear c58
      obtain⟨t220,A59,H⟩:=bnd H
      rcases itc H with⟨c60,H⟩|⟨c60,H⟩
      ·have c60b0:decide (a4<t220)=true:=decide_eq_true c60
       clear c60
       obtain⟨y221,hy221⟩:∃ y_:List Int,y_=(([3,x33_1]:List Int)):=⟨_,rfl⟩
       replace H:(if x13_1.length<5864062014805 then(impl_faultsOf.l0 k1 l1 l2 a4 t185 (x13_1 ++ [y221]) t182 (t182.length:Int) (wrap64 (x33_1+1)) l0_0 a0_1 a3_0 a3_1 a3_2) else(none))=some r:=by subst hy221;exact H
       have Ny221:=am hy221
       clear hy221
       obtain⟨c61,H⟩:=ifp H
       have LMc61:=am c61
       clear c61
       obtain⟨y224,hy224⟩:∃ y_:List (List Int),y_=(x13_1 ++ [y221]):=⟨_,rfl⟩
       replace H:(impl_faultsOf.l0 k1 l1 l2 a4 t185 y224 t182 (t182.length:Int) (wrap64 (x33_1+1)) l0_0 a0_1 a3_0 a3_1 a3_2)=some r:=by subst hy224;exact H
       have Ny224:=am hy224
       clear hy224
       have H':=am H
       clear H
       have p191:0≤(x33_1:Int):=od
       have q191:x33_1<(t182.length:Int):=od
       obtain⟨ad191,e191,hx191_0⟩:=Kd.at_int (Kd.R_reads' HO_31.out).2.2 x33_1 p191 q191
       cases e191
       replace p191:=eq_true p191
       replace q191:=eq_true q191
       try go_wp2
       replace HO_12:=am (Kd.R_drew HO_12.out)
       replace HO_13:=am (Kd.S_drew HO_13.out)
       replace HO_31:=am (Kd.R_drew HO_31.out)
       replace BK180:=am (bD_ BK180.out)
       replace BK181:=am (bD_ BK181.out)
       replace HB:=am (below_drew1 HB.out)
       have p198:0≤(x33_1:Int):=od
       have q198:x33_1<(l1.length:Int):=od
       obtain⟨ad198,e198,hx198_0,hx198_1,hx198_2⟩:=at_T35 HR1.out x33_1 p198 q198
       have hw198_2:=hx198_2
       have hw198_1:=hx198_1
       have hw198_0:=hx198_0
       cases e198
       replace hx198_0:=(HB.out.cell (World.block_lt_of_cell? w _ hx198_0)).trans hx198_0
       replace hx198_1:=(HB.out.cell (World.block_lt_of_cell? w _ hx198_1)).trans hx198_1
       replace hx198_2:=(HB.out.cell (World.block_lt_of_cell? w _ hx198_2)).trans hx198_2
       replace p198:=eq_true p198
       replace q198:=eq_true q198
       have p199:0≤((rd t182 x33_1):Int):=od
       have q199:(rd t182 x33_1)<(l2.length:Int):=od
       obtain⟨ad199,e199,hx199_0,hx199_1,hx199_2⟩:=at_T60 HR2.out (rd t182 x33_1) p199 q199
       have hw199_2:=hx199_2
       have hw199_1:=hx199_1
       have hw199_0:=hx199_0
       cases e199
       replace hx199_0:=(HB.out.cell (World.block_lt_of_cell? w _ hx199_0)).trans hx199_0
       replace hx199_1:=(HB.out.cell (World.block_lt_of_cell? w _ hx199_1)).trans hx199_1
       replace hx199_2:=(HB.out.cell (World.block_lt_of_cell? w _ hx199_2)).trans hx199_2
       replace p199:=eq_true p199
       replace q199:=eq_true q199
       refine start_ (n:=10) (S:=fun w'=>w'.cell? (ad198.add ((x33_1).toNat*3))=some (.int .i64 ((rd_T35 l1 x33_1).f0))∧w'.cell? ⟨(ad198.add ((x33_1).toNat*3)).block,(ad198.add ((x33_1).toNat*3)).off+1,none⟩=some (.int .i64 ((rd_T35 l1 x33_1).f1))∧w'.cell? ⟨(ad198.add ((x33_1).toNat*3)).block,(ad198.add ((x33_1).toNat*3)).off+2,none⟩=some (.int .i64 ((rd_T35 l1 x33_1).f2))∧w'.cell? (ad199.add (((rd t182 x33_1)).toNat*3))=some (.int .i64 ((rd_T60 l2 (rd t182 x33_1)).f0))∧w'.cell? ⟨(ad199.add (((rd t182 x33_1)).toNat*3)).block,(ad199.add (((rd t182 x33_1)).toNat*3)).off+1,none⟩=some (.int .i64 ((rd_T60 l2 (rd t182 x33_1)).f1))∧w'.cell? ⟨(ad199.add (((rd t182 x33_1)).toNat*3)).block,(ad199.add (((rd t182 x33_1)).toNat*3)).off+2,none⟩=some (.int .i64 ((rd_T60 l2 (rd t182 x33_1)).f2))) (ds:=[]) (fl 0 10) (by kernel_rfl) rfl rfl ⟨((HB.out.cell (World.block_lt_of_cell? w _ hw198_0)).trans hw198_0),((HB.out.cell (World.block_lt_of_cell? w _ hw198_1)).trans hw198_1),((HB.out.cell (World.block_lt_of_cell? w _ hw198_2)).trans hw198_2),((HB.out.cell (World.block_lt_of_cell? w _ hw199_0)).trans hw199_0),((HB.out.cell (World.block_lt_of_cell? w _ hw199_1)).trans hw199_1),((HB.out.cell (World.block_lt_of_cell? w _ hw199_2)).trans hw199_2)⟩ (fun hHeld=>?_);refine with_tabW impl_faultsOf.tab8 impl_faultsOf.bits8 (fun HT_ HW_=>?_)
       generalize wr.drew=w62 at HO_12 HO_13 HO_31 BK180 BK181 HB hx198_0 hx198_1 hx198_2 hx199_0 hx199_1 hx199_2 hHeld ⊢
       refine pu HT_.out 0 (some 45) (fl 1 10) (h:=?_)
       refine pu HT_.out 1 (some 46) (fl 2 10) (h:=?_)
       refine pu HT_.out 2 (some 47) (fl 3 10) (h:=?_)
       refine pu HT_.out 4 (some 49) #[true,true,true,false,true,false,false,false,false,false] (h:=?_)
       refine pu HT_.out 5 (some 50) #[true,true,true,false,true,true,false,false,false,false] (h:=?_)
       refine pu HT_.out 6 (some 51) #[true,true,true,false,true,true,true,false,false,false] (h:=?_)
       refine ta HT_.out HW_.out 3 (some 48) (fl 7 10) hHeld rfl (by rintro w' ⟨s0,s1,s2,s3,s4,s5⟩;go_simp;with_reducible rfl) (h:=?_)
       refine ta HT_.out HW_.out 7 (some 52) (fl 8 10) hHeld rfl (by rintro w' ⟨s0,s1,s2,s3,s4,s5⟩;go_simp;with_reducible rfl) (h:=?_)
       refine one_ (i:=8) (N:=some 53) (fl 9 10) rfl rfl (one_of HT_.out (by kernel_rfl)) (by decide) (fun K hK=>?_)
       refine goes_ Try.func29 (by kernel_rfl) rfl #[.agg #[.int .i64 ((rd_T35 l1 x33_1).f0),.int .i64 ((rd_T35 l1 x33_1).f1),.int .i64 ((rd_T35 l1 x33_1).f2)],.agg #[.int .i64 ((rd_T60 l2 (rd t182 x33_1)).f0),.int .i64 ((rd_T60 l2 (rd t182 x33_1)).f1),.int .i64 ((rd_T60 l2 (rd t182 x33_1)).f2)]] (by rfl) rfl rfl tl ?_
       with_reducible refine(impl_holeErrors.calls ((rd_T35 l1 x33_1).f0) ((rd_T35 l1 x33_1).f1) ((rd_T35 l1 x33_1).f2) ((rd_T60 l2 (rd t182 x33_1)).f0) ((rd_T60 l2 (rd t182 x33_1)).f1) ((rd_T60 l2 (rd t182 x33_1)).f2) t200 _ A27.out).mono ?_
       rintro e w63 ⟨v201,rfl,ho0,hb⟩
       refine⟨_,rfl,?_⟩
       replace HO_13:=am (Kd.S_elder' (by(with_reducible repeat(first|apply Kd.S_alloc|apply Kd.S_drewN|apply Kd.S_drew));exact HO_13.out) (Kd.R_base ho0) hb)
       have HO202:=am (Kd.R_lower (Kd.R_new' (Kd.R_new' ho0 (Kd.R_lt (rup HO_12.out))) (Kd.R_lt (rup HO_31.out))) (below_size bl))
       replace HO_12:=am (Kd.R_elder' (rup HO_12.out) (Kd.R_base ho0) hb)
       replace HO_31:=am (Kd.R_elder' (rup HO_31.out) (Kd.R_base ho0) hb)
       replace BK180:=am (blk_below (bup BK180.out) hb)
       replace BK181:=am (blk_below (bup BK181.out) hb)
       replace HB:=am (below_step bl hb)
       (try clear hb)
       (try clear ho0)
       refine hK.out _ _ ⟨((HB.out.cell (World.block_lt_of_cell? w _ hw198_0)).trans hw198_0),((HB.out.cell (World.block_lt_of_cell? w _ hw198_1)).trans hw198_1),((HB.out.cell (World.block_lt_of_cell? w _ hw198_2)).trans hw198_2),((HB.out.cell (World.block_lt_of_cell? w _ hw199_0)).trans hw199_0),((HB.out.cell (World.block_lt_of_cell? w _ hw199_1)).trans hw199_1),((HB.out.cell (World.block_lt_of_cell? w _ hw199_2)).trans hw199_2)⟩ (fun hHeld=>?_)
       clear hK K
       refine norm_ (a':=?_) ?_ ?_
       rotate_left
       ·show Act.put _ (some 53) _=_
        simp only[Act.put,List.setIfInBounds_toArray,List.set_cons_zero,List.set_cons_succ,i64_w,i32_w]
        rfl
       refine pu HT_.out 9 (some 16) (fl 10 10) (h:=?_)
       refine done_ (done_of HT_.out (by kernel_rfl)) ?_
       obtain⟨Ao64,co64,eo64⟩:=Kd.R_slice HO202.out
       subst eo64
       have p203:0≤(0:Int):=(by omega)
       have q203:0<(t200.length:Int):=od
       obtain⟨ad203,e203,hx203_0⟩:=Kd.at_int (Kd.R_reads' HO202.out).2.2 0 p203 q203
       cases e203
       have qi203:(0<t200.length)=True:=eq_true (by omega)
       (try rw[show((0:Int)).toNat=0 from rfl] at hx203_0)
       (try rw[Addr.add_zero'] at hx203_0)
       replace p203:=eq_true p203
       replace q203:=eq_true q203
       try go_wp2_with (first|((with_reducible refine gate_callee (f:=30) rfl ?_);refine goesL_ (some 57) rfl rfl Try.func30 (by kernel_rfl) rfl #[.int .i64 (rd t200 0),.int .i64 0] rfl tl ?_;(with_reducible refine(impl_distance.calls (rd t200 0) 0 t204 _ A29.out).mono ?_);rintro e w65 ⟨rfl,hb⟩;refine⟨_,rfl,?_⟩;replace HO_12:=am (Kd.R_below (rup HO_12.out) hb);replace HO_13:=am (Kd.S_below (by(with_reducible repeat(first|apply Kd.S_alloc|apply Kd.S_drewN|apply Kd.S_drew));exact HO_13.out) hb);replace HO_31:=am (Kd.R_below (rup HO_31.out) hb);replace HO202:=am (Kd.R_below (rup HO202.out) hb);replace BK180:=am (blk_below (bup BK180.out) hb);replace BK181:=am (blk_below (bup BK181.out) hb);replace HB:=am (below_step bl hb);(try clear hb);have p219:0≤(1:Int):=(by omega);have q219:1<(t200.length:Int):=od;obtain⟨ad219,e219,hx219_0⟩:=Kd.at_int (Kd.R_reads' HO202.out).2.2 1 p219 q219;obtain rfl:ad203=ad219:=(by injection e219);(try simp only[show(1:Int).toNat=1 from rfl,Nat.reduceMul,Nat.reduceEqDiff,Go.Addr.add,↓reduceIte] at hx219_0);have qi219:(1<t200.length)=True:=eq_true (by omega);(try rw[show((1:Int)).toNat=1 from rfl] at hx219_0);replace p219:=eq_true p219;replace q219:=eq_true q219)|((with_reducible refine gate_callee (f:=30) rfl ?_);refine goesL_ (some 68) rfl rfl Try.func30 (by kernel_rfl) rfl #[.int .i64 (rd t200 1),.int .i64 0] rfl tl ?_;(with_reducible refine(impl_distance.calls (rd t200 1) 0 t220 _ A59.out).mono ?_);rintro e w66 ⟨rfl,hb⟩;refine⟨_,rfl,?_⟩;replace HO_12:=am (Kd.R_below (rup HO_12.out) hb);replace HO_13:=am (Kd.S_below (by(with_reducible repeat(first|apply Kd.S_alloc|apply Kd.S_drewN|apply Kd.S_drew));exact HO_13.out) hb);replace HO_31:=am (Kd.R_below (rup HO_31.out) hb);replace HO202:=am (Kd.R_below (rup HO202.out) hb);replace BK180:=am (blk_below (bup BK180.out) hb);replace BK181:=am (blk_below (bup BK181.out) hb);replace HB:=am (below_step bl hb);(try clear hb))|((with_reducible refine gate_dst (N:=73) rfl ?_);refine Kd.R_lit (Kd.int .i64) _ 3 ?hg (N:=73) ?hd (xs:=([3,x33_1]:List Int)) (inner:=[.int .i64 3,.int .i64 x33_1]) (ok:=fun _=>True) (okp:=fun _=>True) ?hr ?hp (fun _ hk=>hk) trivial (Below.refl _ _) (Nat.le_refl _) (by simp) ?_;(case hd=>rfl);(case hg=>rfl);(case hr=>first|(go_simp;done)|(go_simp;rfl));(case hp=>exact(Reps.one (show Kd.M (Kd.int .i64) _ _ _ 3 [.int .i64 3] from rfl) (Reps.one (show Kd.M (Kd.int .i64) _ _ _ x33_1 [.int .i64 x33_1] from rfl) (Reps.none _ _))));intro v222 w67 ho68 hb hg_ hnew_;clear hg_ hnew_;(first|rw[← Ny221.out] at ho68|(simp only[Int.reduceToNat] at ho68;rw[← Ny221.out] at ho68));replace HO_13:=am (Kd.S_elder' (by(with_reducible repeat(first|apply Kd.S_alloc|apply Kd.S_drewN|apply Kd.S_drew));exact HO_13.out) (Kd.R_base ho68) hb);have HO223:=am (Kd.R_lower (Kd.R_new' (Kd.R_new' (Kd.R_new' ho68 (Kd.R_lt (rup HO_12.out))) (Kd.R_lt (rup HO_31.out))) (Kd.R_lt (rup HO202.out))) (below_size bl));replace HO_12:=am (Kd.R_elder' (rup HO_12.out) (Kd.R_base ho68) hb);replace HO_31:=am (Kd.R_elder' (rup HO_31.out) (Kd.R_base ho68) hb);replace HO202:=am (Kd.R_elder' (rup HO202.out) (Kd.R_base ho68) hb);replace BK180:=am (blk_below (bup BK180.out) hb);replace BK181:=am (blk_below (bup BK181.out) hb);replace HB:=am (below_step bl hb);clear hb ho68;obtain⟨Ao70,co70,eo70⟩:=Kd.R_slice HO223.out;subst eo70)|((with_reducible refine gate_builtin (b := .append) (xs := #[.tmp 71,.tmp 74]) rfl ?_);at_builtin;refine Kd.S_append (Kd.slice 3 (Kd.int .i64)) (w0:=w) w.heap.size rfl (.tmp 71) (.tmp 74) 39 22 (.slice none 0 0) 24 rfl Try.underlying39 info22 rfl (by decide) (by omega) u13 x13_1 y221 [.slice Ao70 y221.length co70] (fun k_=>some k_≠(v186:Value).ownBlock∧some k_≠(.slice (some ad191) t182.length co14:Value).ownBlock∧some k_≠(.slice (some ad203) t200.length co64:Value).ownBlock) (fun k_=>some k_=(.slice Ao70 y221.length co70:Value).ownBlock) rfl rfl ?aP (fun k_ hk_=>((Kd.R_mono (ok':=fun k_=>((fun k_=>some k_≠(v186:Value).ownBlock∧some k_≠(.slice (some ad191) t182.length co14:Value).ownBlock∧some k_≠(.slice (some ad203) t200.length co64:Value).ownBlock)) k_∧some k_≠(u13:Value).ownBlock) (Kd.R_apart' (HO223.out) (Kd.S_typed HO_13.out) (by decide)) (fun k_ hk=>⟨⟨hk.1.1.1.2,⟨hk.1.1.2,hk.1.2⟩⟩,hk.2⟩))).1 k_ hk_.symm) ?aF ?aO ?aB ?aS ?aL ?_;(case aP=>exact Kd.M_row (Kd.R_mono (Kd.R_tight rfl (Kd.R_mono (ok':=fun k_=>((fun k_=>some k_≠(v186:Value).ownBlock∧some k_≠(.slice (some ad191) t182.length co14:Value).ownBlock∧some k_≠(.slice (some ad203) t200.length co64:Value).ownBlock)) k_∧some k_≠(u13:Value).ownBlock) (Kd.R_apart' (HO223.out) (Kd.S_typed HO_13.out) (by decide)) (fun k_ hk=>⟨⟨hk.1.1.1.2,⟨hk.1.1.2,hk.1.2⟩⟩,hk.2⟩))) (fun _ h_=>h_)));(case aB=>exact bl);(case aF=>exact(fun k_ hk=>⟨Kd.fresh' (Kd.R_lt (rup HO_12.out)) k_ hk,Kd.fresh' (Kd.R_lt (rup HO_31.out)) k_ hk,Kd.fresh' (Kd.R_lt (rup HO202.out)) k_ hk⟩));(case aO=>exact(by(with_reducible repeat(first|apply Kd.S_alloc|apply Kd.S_drewN|apply Kd.S_drew));exact Kd.S_mono HO_13.out (fun k_ hk=>⟨⟨hk.1.1.1,⟨hk.1.1.2,hk.1.2⟩⟩,fun e_=>hk.2 e_⟩)));(case aS=>exact(below_size bl));(case aL=>have:=LMc61.out;omega);intro v225 w69 ho hb hg hat;rw[← Ny224.out] at ho;replace HO_12:=am (Kd.R_over' (rup HO_12.out) (Kd.S_typed (by(with_reducible repeat(first|apply Kd.S_alloc|apply Kd.S_drewN|apply Kd.S_drew));exact HO_13.out)) (by decide) hg);replace HO_31:=am (Kd.R_over' (rup HO_31.out) (Kd.S_typed (by(with_reducible repeat(first|apply Kd.S_alloc|apply Kd.S_drewN|apply Kd.S_drew));exact HO_13.out)) (by decide) hg);replace BK180:=am (blk_grown (bup BK180.out) hg (Kd.S_ne HO_13.out BK180.out (by decide)));replace BK181:=am (blk_grown (bup BK181.out) hg (Kd.S_ne HO_13.out BK181.out (by decide)));replace HO202:=am (Kd.R_over' (rup HO202.out) (Kd.S_typed (by(with_reducible repeat(first|apply Kd.S_alloc|apply Kd.S_drewN|apply Kd.S_drew));exact HO_13.out)) (by decide) hg);replace HB:=am (hb);have HO226:=am (ho);clear HO_13 HO223 ho hb hg hat))
       go_roundg k1
       case measure=>have:=HK1.out;omega
       case rel=>exact⟨(y224),(wrap64 (x33_1+1)),fin2,H',⟨by have:=HK1.out;omega⟩,⟨rup (Kd.R_mono HO_12.out (fun _ hk=>hk.1.1))⟩,⟨by(with_reducible repeat(first|apply Kd.S_alloc|apply Kd.S_drewN|apply Kd.S_drew));exact Kd.S_mono HO226.out (fun _ hk=>⟨hk.1,hk.2.1⟩)⟩,⟨rup (Kd.R_mono HO_31.out (fun _ hk=>hk.1.1))⟩,⟨bup BK180.out⟩,⟨bup BK181.out⟩,⟨bl⟩⟩
      ·have c60b0:decide (a4<t220)=false:=decide_eq_false c60
       clear c60
       have H':=am H
       clear H
       have p191:0≤(x33_1:Int):=od
       have q191:x33_1<(t182.length:Int):=od
       obtain⟨ad191,e191,hx191_0⟩:=Kd.at_int (Kd.R_reads' HO_31.out).2.2 x33_1 p191 q191
       cases e191
       replace p191:=eq_true p191
       replace q191:=eq_true q191
       try go_wp2
       replace HO_12:=am (Kd.R_drew HO_12.out)
       replace HO_13:=am (Kd.S_drew HO_13.out)
       replace HO_31:=am (Kd.R_drew HO_31.out)
       replace BK180:=am (bD_ BK180.out)
       replace BK181:=am (bD_ BK181.out)
       replace HB:=am (below_drew1 HB.out)
       have p198:0≤(x33_1:Int):=od
       have q198:x33_1<(l1.length:Int):=od
       obtain⟨ad198,e198,hx198_0,hx198_1,hx198_2⟩:=at_T35 HR1.out x33_1 p198 q198
       have hw198_2:=hx198_2
       have hw198_1:=hx198_1
       have hw198_0:=hx198_0
       cases e198
       replace hx198_0:=(HB.out.cell (World.block_lt_of_cell? w _ hx198_0)).trans hx198_0
       replace hx198_1:=(HB.out.cell (World.block_lt_of_cell? w _ hx198_1)).trans hx198_1
       replace hx198_2:=(HB.out.cell (World.block_lt_of_cell? w _ hx198_2)).trans hx198_2
       replace p198:=eq_true p198
       replace q198:=eq_true q198
       have p199:0≤((rd t182 x33_1):Int):=od
       have q199:(rd t182 x33_1)<(l2.length:Int):=od
       obtain⟨ad199,e199,hx199_0,hx199_1,hx199_2⟩:=at_T60 HR2.out (rd t182 x33_1) p199 q199
       have hw199_2:=hx199_2
       have hw199_1:=hx199_1
       have hw199_0:=hx199_0
       cases e199
       replace hx199_0:=(HB.out.cell (World.block_lt_of_cell? w _ hx199_0)).trans hx199_0
       replace hx199_1:=(HB.out.cell (World.block_lt_of_cell? w _ hx199_1)).trans hx199_1
       replace hx199_2:=(HB.out.cell (World.block_lt_of_cell? w _ hx199_2)).trans hx199_2
       replace p199:=eq_true p199
       replace q199:=eq_true q199
       refine start_ (n:=10) (S:=fun w'=>w'.cell? (ad198.add ((x33_1).toNat*3))=some (.int .i64 ((rd_T35 l1 x33_1).f0))∧w'.cell? ⟨(ad198.add ((x33_1).toNat*3)).block,(ad198.add ((x33_1).toNat*3)).off+1,none⟩=some (.int .i64 ((rd_T35 l1 x33_1).f1))∧w'.cell? ⟨(ad198.add ((x33_1).toNat*3)).block,(ad198.add ((x33_1).toNat*3)).off+2,none⟩=some (.int .i64 ((rd_T35 l1 x33_1).f2))∧w'.cell? (ad199.add (((rd t182 x33_1)).toNat*3))=some (.int .i64 ((rd_T60 l2 (rd t182 x33_1)).f0))∧w'.cell? ⟨(ad199.add (((rd t182 x33_1)).toNat*3)).block,(ad199.add (((rd t182 x33_1)).toNat*3)).off+1,none⟩=some (.int .i64 ((rd_T60 l2 (rd t182 x33_1)).f1))∧w'.cell? ⟨(ad199.add (((rd t182 x33_1)).toNat*3)).block,(ad199.add (((rd t182 x33_1)).toNat*3)).off+2,none⟩=some (.int .i64 ((rd_T60 l2 (rd t182 x33_1)).f2))) (ds:=[]) (fl 0 10) (by kernel_rfl) rfl rfl ⟨((HB.out.cell (World.block_lt_of_cell? w _ hw198_0)).trans hw198_0),((HB.out.cell (World.block_lt_of_cell? w _ hw198_1)).trans hw198_1),((HB.out.cell (World.block_lt_of_cell? w _ hw198_2)).trans hw198_2),((HB.out.cell (World.block_lt_of_cell? w _ hw199_0)).trans hw199_0),((HB.out.cell (World.block_lt_of_cell? w _ hw199_1)).trans hw199_1),((HB.out.cell (World.block_lt_of_cell? w _ hw199_2)).trans hw199_2)⟩ (fun hHeld=>?_);refine with_tabW impl_faultsOf.tab8 impl_faultsOf.bits8 (fun HT_ HW_=>?_)
       generalize wr.drew=w71 at HO_12 HO_13 HO_31 BK180 BK181 HB hx198_0 hx198_1 hx198_2 hx199_0 hx199_1 hx199_2 hHeld ⊢
       refine pu HT_.out 0 (some 45) (fl 1 10) (h:=?_)
       refine pu HT_.out 1 (some 46) (fl 2 10) (h:=?_)
       refine pu HT_.out 2 (some 47) (fl 3 10) (h:=?_)
       refine pu HT_.out 4 (some 49) #[true,true,true,false,true,false,false,false,false,false] (h:=?_)
       refine pu HT_.out 5 (some 50) #[true,true,true,false,true,true,false,false,false,false] (h:=?_)
       refine pu HT_.out 6 (some 51) #[true,true,true,false,true,true,true,false,false,false] (h:=?_)
       refine ta HT_.out HW_.out 3 (some 48) (fl 7 10) hHeld rfl (by rintro w' ⟨s0,s1,s2,s3,s4,s5⟩;go_simp;with_reducible rfl) (h:=?_)
       refine ta HT_.out HW_.out 7 (some 52) (fl 8 10) hHeld rfl (by rintro w' ⟨s0,s1,s2,s3,s4,s5⟩;go_simp;with_reducible rfl) (h:=?_)
       refine one_ (i:=8) (N:=some 53) (fl 9 10) rfl rfl (one_of HT_.out (by kernel_rfl)) (by decide) (fun K hK=>?_)
       refine goes_ Try.func29 (by kernel_rfl) rfl #[.agg #[.int .i64 ((rd_T35 l1 x33_1).f0),.int .i64 ((rd_T35 l1 x33_1).f1),.int .i64 ((rd_T35 l1 x33_1).f2)],.agg #[.int .i64 ((rd_T60 l2 (rd t182 x33_1)).f0),.int .i64 ((rd_T60 l2 (rd t182 x33_1)).f1),.int .i64 ((rd_T60 l2 (rd t182 x33_1)).f2)]] (by rfl) rfl rfl tl ?_
       with_reducible refine(impl_holeErrors.calls ((rd_T35 l1 x33_1).f0) ((rd_T35 l1 x33_1).f1) ((rd_T35 l1 x33_1).f2) ((rd_T60 l2 (rd t182 x33_1)).f0) ((rd_T60 l2 (rd t182 x33_1)).f1) ((rd_T60 l2 (rd t182 x33_1)).f2) t200 _ A27.out).mono ?_
       rintro e w72 ⟨v201,rfl,ho0,hb⟩
       refine⟨_,rfl,?_⟩
       replace HO_13:=am (Kd.S_elder' (by(with_reducible repeat(first|apply Kd.S_alloc|apply Kd.S_drewN|apply Kd.S_drew));exact HO_13.out) (Kd.R_base ho0) hb)
       have HO202:=am (Kd.R_lower (Kd.R_new' (Kd.R_new' ho0 (Kd.R_lt (rup HO_12.out))) (Kd.R_lt (rup HO_31.out))) (below_size bl))
       replace HO_12:=am (Kd.R_elder' (rup HO_12.out) (Kd.R_base ho0) hb)
       replace HO_31:=am (Kd.R_elder' (rup HO_31.out) (Kd.R_base ho0) hb)
       replace BK180:=am (blk_below (bup BK180.out) hb)
       replace BK181:=am (blk_below (bup BK181.out) hb)
       replace HB:=am (below_step bl hb)
       (try clear hb)
       (try clear ho0)
       refine hK.out _ _ ⟨((HB.out.cell (World.block_lt_of_cell? w _ hw198_0)).trans hw198_0),((HB.out.cell (World.block_lt_of_cell? w _ hw198_1)).trans hw198_1),((HB.out.cell (World.block_lt_of_cell? w _ hw198_2)).trans hw198_2),((HB.out.cell (World.block_lt_of_cell? w _ hw199_0)).trans hw199_0),((HB.out.cell (World.block_lt_of_cell? w _ hw199_1)).trans hw199_1),((HB.out.cell (World.block_lt_of_cell? w _ hw199_2)).trans hw199_2)⟩ (fun hHeld=>?_)
       clear hK K
       refine norm_ (a':=?_) ?_ ?_
       rotate_left
       ·show Act.put _ (some 53) _=_
        simp only[Act.put,List.setIfInBounds_toArray,List.set_cons_zero,List.set_cons_succ,i64_w,i32_w]
        rfl
       refine pu HT_.out 9 (some 16) (fl 10 10) (h:=?_)
       refine done_ (done_of HT_.out (by kernel_rfl)) ?_
       obtain⟨Ao73,co73,eo73⟩:=Kd.R_slice HO202.out
       subst eo73
       have p203:0≤(0:Int):=(by omega)
       have q203:0<(t200.length:Int):=od
       obtain⟨ad203,e203,hx203_0⟩:=Kd.at_int (Kd.R_reads' HO202.out).2.2 0 p203 q203
       cases e203
       have qi203:(0<t200.length)=True:=eq_true (by omega)
       (try rw[show((0:Int)).toNat=0 from rfl] at hx203_0)
       (try rw[Addr.add_zero'] at hx203_0)
       replace p203:=eq_true p203
       replace q203:=eq_true q203
       try go_wp2_with (first|((with_reducible refine gate_callee (f:=30) rfl ?_);refine goesL_ (some 57) rfl rfl Try.func30 (by kernel_rfl) rfl #[.int .i64 (rd t200 0),.int .i64 0] rfl tl ?_;(with_reducible refine(impl_distance.calls (rd t200 0) 0 t204 _ A29.out).mono ?_);rintro e w74 ⟨rfl,hb⟩;refine⟨_,rfl,?_⟩;replace HO_12:=am (Kd.R_below (rup HO_12.out) hb);replace HO_13:=am (Kd.S_below (by(with_reducible repeat(first|apply Kd.S_alloc|apply Kd.S_drewN|apply Kd.S_drew));exact HO_13.out) hb);replace HO_31:=am (Kd.R_below (rup HO_31.out) hb);replace HO202:=am (Kd.R_below (rup HO202.out) hb);replace BK180:=am (blk_below (bup BK180.out) hb);replace BK181:=am (blk_below (bup BK181.out) hb);replace HB:=am (below_step bl hb);(try clear hb);have p219:0≤(1:Int):=(by omega);have q219:1<(t200.length:Int):=od;obtain⟨ad219,e219,hx219_0⟩:=Kd.at_int (Kd.R_reads' HO202.out).2.2 1 p219 q219;obtain rfl:ad203=ad219:=(by injection e219);(try simp only[show(1:Int).toNat=1 from rfl,Nat.reduceMul,Nat.reduceEqDiff,Go.Addr.add,↓reduceIte] at hx219_0);have qi219:(1<t200.length)=True:=eq_true (by omega);(try rw[show((1:Int)).toNat=1 from rfl] at hx219_0);replace p219:=eq_true p219;replace q219:=eq_true q219)|((with_reducible refine gate_callee (f:=30) rfl ?_);refine goesL_ (some 68) rfl rfl Try.func30 (by kernel_rfl) rfl #[.int .i64 (rd t200 1),.int .i64 0] rfl tl ?_;(with_reducible refine(impl_distance.calls (rd t200 1) 0 t220 _ A59.out).mono ?_);rintro e w75 ⟨rfl,hb⟩;refine⟨_,rfl,?_⟩;replace HO_12:=am (Kd.R_below (rup HO_12.out) hb);replace HO_13:=am (Kd.S_below (by(with_reducible repeat(first|apply Kd.S_alloc|apply Kd.S_drewN|apply Kd.S_drew));exact HO_13.out) hb);replace HO_31:=am (Kd.R_below (rup HO_31.out) hb);replace HO202:=am (Kd.R_below (rup HO202.out) hb);replace BK180:=am (blk_below (bup BK180.out) hb);replace BK181:=am (blk_below (bup BK181.out) hb);replace HB:=am (below_step bl hb);(try clear hb)))
       go_roundg k1
       case measure=>have:=HK1.out;omega
       case rel=>exact⟨(x13_1),(wrap64 (x33_1+1)),fin2,H',⟨by have:=HK1.out;omega⟩,⟨rup (Kd.R_mono HO_12.out (fun _ hk=>hk.1))⟩,⟨by(with_reducible repeat(first|apply Kd.S_alloc|apply Kd.S_drewN|apply Kd.S_drew));exact Kd.S_mono HO_13.out (fun _ hk=>⟨hk.1.1,hk.1.2⟩)⟩,⟨rup (Kd.R_mono HO_31.out (fun _ hk=>hk.1))⟩,⟨bup BK180.out⟩,⟨bup BK181.out⟩,⟨bl⟩⟩
   ·have c15b0:=decide_eq_false c15
    clear c15
    have H':=am H
    clear H
    obtain⟨Ao76,co76,eo76⟩:=Kd.R_slice HO_12.out
    subst eo76
    go_wp2
    go_loopg [13,79] k1 (fun kq v13 v79 w'=>∃(x13_2:List (List Int)) (x79_2:Int),v79 = .int .i64 x79_2∧Aside0 (impl_faultsOf.l1 kq l2 x13_2 t185 (t185.length:Int) x79_2 l0_0 a0_1 a3_0 a3_1 a3_2=some r)∧Aside0 (kq≤k1)∧Aside0 (Kd.S (Kd.slice 3 (Kd.int .i64)) 22 w' w.heap.size (fun k_=>some k_≠((.slice Ao76 t185.length co76):Value).ownBlock) v13 x13_2)∧Aside0 (Kd.R (Kd.int .i64) 3 w' w.heap.size (fun _=>True) (.slice Ao76 t185.length co76) t185)∧Aside0 (w'.heap[gb180]?=some (.cells #[(.slice A0_0 l0_0.length c0_0),.int .i64 a0_1] 24 (0,0)))∧Aside0 (w'.heap[gb181]?=some (.cells #[.int .i64 a3_0,.int .i64 a3_1,.int .i64 a3_2] 28 (0,0)))∧Aside0 (Below w.heap.size w w'))
    case atStart=>exact⟨(x13_1),(0),fin2,H',⟨Nat.le_refl _⟩,⟨by(with_reducible repeat(first|apply Kd.S_alloc|apply Kd.S_drewN|apply Kd.S_drew));exact Kd.S_mono HO_13.out (fun _ hk=>hk.1)⟩,⟨rup (Kd.R_mono HO_12.out (fun _ hk=>trivial))⟩,⟨bup BK180.out⟩,⟨bup BK181.out⟩,⟨bl⟩⟩
    case round =>
     clear H'
     try clear c15b0
     obtain⟨x13_2,x79_2,rfl,HA,HK2,HO_13,HO_77,BK180,BK181,HB⟩:=hrel
     cases gk with
     | zero=>exact absurd HA.out (by simp [impl_faultsOf.l1])
     | succ k2 =>
      have H:=HA.out
      clear HA
      simp only[impl_faultsOf.l1] at H
      rcases itc H with⟨c77,H⟩|⟨c77,H⟩
      ·have c77b0:=decide_eq_true c77
       clear c77
       obtain⟨c78b0,H⟩:=ifb H
       obtain⟨c79b0,H⟩:=ifb H
       obtain⟨y228,hy228⟩:∃ y_:List Int,y_=(([1,rd t185 x79_2]:List Int)):=⟨_,rfl⟩
       replace H:(if x13_2.length<5864062014805 then(impl_faultsOf.l1 k2 l2 (x13_2 ++ [y228]) t185 (t185.length:Int) (wrap64 (x79_2+1)) l0_0 a0_1 a3_0 a3_1 a3_2) else(none))=some r:=by subst hy228;exact H
       have Ny228:=am hy228
       clear hy228
       obtain⟨c80,H⟩:=ifp H
       have LMc80:=am c80
       clear c80
       obtain⟨y231,hy231⟩:∃ y_:List (List Int),y_=(x13_2 ++ [y228]):=⟨_,rfl⟩
       replace H:(impl_faultsOf.l1 k2 l2 y231 t185 (t185.length:Int) (wrap64 (x79_2+1)) l0_0 a0_1 a3_0 a3_1 a3_2)=some r:=by subst hy231;exact H
       have Ny231:=am hy231
       clear hy231
       have H':=am H
       clear H
       have p227:0≤(x79_2:Int):=od
       have q227:x79_2<(t185.length:Int):=od
       obtain⟨ad227,e227,hx227_0⟩:=Kd.at_int (Kd.R_reads' HO_77.out).2.2 x79_2 p227 q227
       cases e227
       replace p227:=eq_true p227
       replace q227:=eq_true q227
       go_wp2_with (first|((with_reducible refine gate_dst (N:=85) rfl ?_);refine Kd.R_lit (Kd.int .i64) _ 3 ?hg (N:=85) ?hd (xs:=([1,rd t185 x79_2]:List Int)) (inner:=[.int .i64 1,.int .i64 (rd t185 x79_2)]) (ok:=fun _=>True) (okp:=fun _=>True) ?hr ?hp (fun _ hk=>hk) trivial (Below.refl _ _) (Nat.le_refl _) (by simp) ?_;(case hd=>rfl);(case hg=>rfl);(case hr=>first|(go_simp;done)|(go_simp;rfl));(case hp=>exact(Reps.one (show Kd.M (Kd.int .i64) _ _ _ 1 [.int .i64 1] from rfl) (Reps.one (show Kd.M (Kd.int .i64) _ _ _ (rd t185 x79_2) [.int .i64 (rd t185 x79_2)] from rfl) (Reps.none _ _))));intro v229 w81 ho82 hb hg_ hnew_;clear hg_ hnew_;(first|rw[← Ny228.out] at ho82|(simp only[Int.reduceToNat] at ho82;rw[← Ny228.out] at ho82));replace HO_13:=am (Kd.S_elder' (by(with_reducible repeat(first|apply Kd.S_alloc|apply Kd.S_drewN|apply Kd.S_drew));exact HO_13.out) (Kd.R_base ho82) hb);have HO230:=am (Kd.R_lower (Kd.R_new' ho82 (Kd.R_lt (rup HO_77.out))) (below_size bl));replace HO_77:=am (Kd.R_elder' (rup HO_77.out) (Kd.R_base ho82) hb);replace BK180:=am (blk_below (bup BK180.out) hb);replace BK181:=am (blk_below (bup BK181.out) hb);replace HB:=am (below_step bl hb);clear hb ho82;obtain⟨Ao84,co84,eo84⟩:=Kd.R_slice HO230.out;subst eo84)|((with_reducible refine gate_builtin (b := .append) (xs := #[.tmp 83,.tmp 86]) rfl ?_);at_builtin;refine Kd.S_append (Kd.slice 3 (Kd.int .i64)) (w0:=w) w.heap.size rfl (.tmp 83) (.tmp 86) 39 22 (.slice none 0 0) 24 rfl Try.underlying39 info22 rfl (by decide) (by omega) u13 x13_2 y228 [.slice Ao84 y228.length co84] (fun k_=>some k_≠(.slice (some ad227) t185.length co76:Value).ownBlock) (fun k_=>some k_=(.slice Ao84 y228.length co84:Value).ownBlock) rfl rfl ?aP (fun k_ hk_=>((Kd.R_mono (ok':=fun k_=>((fun k_=>some k_≠(.slice (some ad227) t185.length co76:Value).ownBlock)) k_∧some k_≠(u13:Value).ownBlock) (Kd.R_apart' (HO230.out) (Kd.S_typed HO_13.out) (by decide)) (fun k_ hk=>⟨hk.1.2,hk.2⟩))).1 k_ hk_.symm) ?aF ?aO ?aB ?aS ?aL ?_;(case aP=>exact Kd.M_row (Kd.R_mono (Kd.R_tight rfl (Kd.R_mono (ok':=fun k_=>((fun k_=>some k_≠(.slice (some ad227) t185.length co76:Value).ownBlock)) k_∧some k_≠(u13:Value).ownBlock) (Kd.R_apart' (HO230.out) (Kd.S_typed HO_13.out) (by decide)) (fun k_ hk=>⟨hk.1.2,hk.2⟩))) (fun _ h_=>h_)));(case aB=>exact bl);(case aF=>exact(fun k_ hk=>Kd.fresh' (Kd.R_lt (rup HO_77.out)) k_ hk));(case aO=>exact(by(with_reducible repeat(first|apply Kd.S_alloc|apply Kd.S_drewN|apply Kd.S_drew));exact Kd.S_mono HO_13.out (fun k_ hk=>⟨hk.1,fun e_=>hk.2 e_⟩)));(case aS=>exact(below_size bl));(case aL=>have:=LMc80.out;omega);intro v232 w83 ho hb hg hat;rw[← Ny231.out] at ho;replace HO_77:=am (Kd.R_over' (rup HO_77.out) (Kd.S_typed (by(with_reducible repeat(first|apply Kd.S_alloc|apply Kd.S_drewN|apply Kd.S_drew));exact HO_13.out)) (by decide) hg);replace BK180:=am (blk_grown (bup BK180.out) hg (Kd.S_ne HO_13.out BK180.out (by decide)));replace BK181:=am (blk_grown (bup BK181.out) hg (Kd.S_ne HO_13.out BK181.out (by decide)));replace HB:=am (hb);have HO233:=am (ho);clear HO_13 HO230 ho hb hg hat))
       go_roundg k2
       case measure=>have:=HK1.out;have:=HK2.out;omega
       case rel=>exact⟨(y231),(wrap64 (x79_2+1)),fin2,H',⟨by have:=HK1.out;have:=HK2.out;omega⟩,⟨by(with_reducible repeat(first|apply Kd.S_alloc|apply Kd.S_drewN|apply Kd.S_drew));exact HO233.out⟩,⟨rup (Kd.R_mono HO_77.out (fun _ hk=>trivial))⟩,⟨bup BK180.out⟩,⟨bup BK181.out⟩,⟨bl⟩⟩
      ·have c77b0:=decide_eq_false c77
       clear c77
       obtain⟨⟨t234,t237⟩,A85,H⟩:=bnd H;dsimp only at H
       have H':=am H
       clear H
       have hnb86:=NB180_181.out
       have hnc86:=NB181_180.out
       have hcz87_0:=bc BK180.out 0
       have hcz87_1:=bc BK180.out 1
       have hfz87_0:=blk_frozen BK180.out 0
       have hfz87_1:=blk_frozen BK180.out 1
       have hcz88_0:=bc BK181.out 0
       have hcz88_1:=bc BK181.out 1
       have hcz88_2:=bc BK181.out 2
       have hfz88_0:=blk_frozen BK181.out 0
       have hfz88_1:=blk_frozen BK181.out 1
       have hfz88_2:=blk_frozen BK181.out 2
       go_wp2_with (first|((with_reducible refine gate_callee (f:=14) rfl ?_);refine goesL_ (some 93) rfl rfl Try.func14 (by kernel_rfl) rfl #[.agg #[.slice A0_0 l0_0.length c0_0,.int .i64 a0_1],.slice A2 l2.length c2,.agg #[.int .i64 a3_0,.int .i64 a3_1,.int .i64 a3_2]] rfl tl ?_;(with_reducible refine(impl_spoken.calls k2 _ _ l0_0 a0_1 _ _ l2 a3_0 a3_1 a3_2 t234 t237 _ ?side1 ?side2 ?side3 ?side4 A85.out).mono ?_);(case side1=>exact cup (Kd.C_below HR0_0.out HB.out));(case side2=>exact HC0_0.out);(case side3=>exact cup (Kd.C_below HR2.out HB.out));(case side4=>exact HC2.out);rintro e w89 ⟨v235,v238,rfl,ho0,ho1,hb⟩;refine⟨_,rfl,?_⟩;replace HO_13:=am (Kd.S_elder' (by(with_reducible repeat(first|apply Kd.S_alloc|apply Kd.S_drewN|apply Kd.S_drew));exact HO_13.out) (Kd.R_base ho1) hb);have HO236:=am (Kd.R_lower ho0 (below_size bl));have HO239:=am (Kd.R_lower (Kd.R_new' ho1 (Kd.R_lt (rup HO_77.out))) (below_size bl));replace HO_77:=am (Kd.R_elder' (rup HO_77.out) (Kd.R_base ho1) hb);replace BK180:=am (blk_below (bup BK180.out) hb);replace BK181:=am (blk_below (bup BK181.out) hb);replace HB:=am (below_step bl hb);(try clear hb);(try clear ho0);(try clear ho1);obtain⟨Ao90,co90,eo90⟩:=Kd.R_slice HO239.out;subst eo90))
       go_loopg [13,98] k2 (fun kq v13 v98 w'=>∃(x13_3:List (List Int)) (x98_3:Int),v98 = .int .i64 x98_3∧Aside0 (impl_faultsOf.l2 kq x13_3 t237 (t237.length:Int) x98_3=some r)∧Aside0 (kq≤k2)∧Aside0 (Kd.S (Kd.slice 3 (Kd.int .i64)) 22 w' w.heap.size (fun k_=>some k_≠((.slice Ao90 t237.length co90):Value).ownBlock) v13 x13_3)∧Aside0 (Kd.R (Kd.int .i64) 3 w' w.heap.size (fun _=>True) (.slice Ao90 t237.length co90) t237)∧Aside0 (w'.heap[gb180]?=some (.cells #[(.slice A0_0 l0_0.length c0_0),.int .i64 a0_1] 24 (0,0)))∧Aside0 (w'.heap[gb181]?=some (.cells #[.int .i64 a3_0,.int .i64 a3_1,.int .i64 a3_2] 28 (0,0)))∧Aside0 (Below w.heap.size w w'))
       case atStart=>exact⟨(x13_2),(0),fin2,H',⟨Nat.le_refl _⟩,⟨by(with_reducible repeat(first|apply Kd.S_alloc|apply Kd.S_drewN|apply Kd.S_drew));exact Kd.S_mono HO_13.out (fun _ hk=>hk.2)⟩,⟨rup (Kd.R_mono HO239.out (fun _ hk=>trivial))⟩,⟨bup BK180.out⟩,⟨bup BK181.out⟩,⟨bl⟩⟩
       case round =>
        clear H'
        try clear c77b0
        try clear hcz87_0
        try clear hcz87_1
        try clear hcz88_0
        try clear hcz88_1
        try clear hcz88_2
        try clear hfz87_0
        try clear hfz87_1
        try clear hfz88_0
        try clear hfz88_1
        try clear hfz88_2
        obtain⟨x13_3,x98_3,rfl,HA,HK3,HO_13,HO_96,BK180,BK181,HB⟩:=hrel
        cases gk with
        | zero=>exact absurd HA.out (by simp [impl_faultsOf.l2])
        | succ k3 =>
         have H:=HA.out
         clear HA
         simp only[impl_faultsOf.l2] at H
         rcases itc H with⟨c91,H⟩|⟨c91,H⟩
         ·have c91b0:=decide_eq_true c91
          clear c91
          obtain⟨c92b0,H⟩:=ifb H
          obtain⟨c93b0,H⟩:=ifb H
          obtain⟨y241,hy241⟩:∃ y_:List Int,y_=(([4,rd t237 x98_3]:List Int)):=⟨_,rfl⟩
          replace H:(if x13_3.length<5864062014805 then(impl_faultsOf.l2 k3 (x13_3 ++ [y241]) t237 (t237.length:Int) (wrap64 (x98_3+1))) else(none))=some r:=by subst hy241;exact H
          have Ny241:=am hy241
          clear hy241
          obtain⟨c94,H⟩:=ifp H
          have LMc94:=am c94
          clear c94
          obtain⟨y244,hy244⟩:∃ y_:List (List Int),y_=(x13_3 ++ [y241]):=⟨_,rfl⟩
          replace H:(impl_faultsOf.l2 k3 y244 t237 (t237.length:Int) (wrap64 (x98_3+1)))=some r:=by subst hy244;exact H
          have Ny244:=am hy244
          clear hy244
          have H':=am H
          clear H
          have p240:0≤(x98_3:Int):=od
          have q240:x98_3<(t237.length:Int):=od
          obtain⟨ad240,e240,hx240_0⟩:=Kd.at_int (Kd.R_reads' HO_96.out).2.2 x98_3 p240 q240
          cases e240
          replace p240:=eq_true p240
          replace q240:=eq_true q240
          go_wp2_with (first|((with_reducible refine gate_dst (N:=104) rfl ?_);refine Kd.R_lit (Kd.int .i64) _ 3 ?hg (N:=104) ?hd (xs:=([4,rd t237 x98_3]:List Int)) (inner:=[.int .i64 4,.int .i64 (rd t237 x98_3)]) (ok:=fun _=>True) (okp:=fun _=>True) ?hr ?hp (fun _ hk=>hk) trivial (Below.refl _ _) (Nat.le_refl _) (by simp) ?_;(case hd=>rfl);(case hg=>rfl);(case hr=>first|(go_simp;done)|(go_simp;rfl));(case hp=>exact(Reps.one (show Kd.M (Kd.int .i64) _ _ _ 4 [.int .i64 4] from rfl) (Reps.one (show Kd.M (Kd.int .i64) _ _ _ (rd t237 x98_3) [.int .i64 (rd t237 x98_3)] from rfl) (Reps.none _ _))));intro v242 w95 ho96 hb hg_ hnew_;clear hg_ hnew_;(first|rw[← Ny241.out] at ho96|(simp only[Int.reduceToNat] at ho96;rw[← Ny241.out] at ho96));replace HO_13:=am (Kd.S_elder' (by(with_reducible repeat(first|apply Kd.S_alloc|apply Kd.S_drewN|apply Kd.S_drew));exact HO_13.out) (Kd.R_base ho96) hb);have HO243:=am (Kd.R_lower (Kd.R_new' ho96 (Kd.R_lt (rup HO_96.out))) (below_size bl));replace HO_96:=am (Kd.R_elder' (rup HO_96.out) (Kd.R_base ho96) hb);replace BK180:=am (blk_below (bup BK180.out) hb);replace BK181:=am (blk_below (bup BK181.out) hb);replace HB:=am (below_step bl hb);clear hb ho96;obtain⟨Ao98,co98,eo98⟩:=Kd.R_slice HO243.out;subst eo98)|((with_reducible refine gate_builtin (b := .append) (xs := #[.tmp 102,.tmp 105]) rfl ?_);at_builtin;refine Kd.S_append (Kd.slice 3 (Kd.int .i64)) (w0:=w) w.heap.size rfl (.tmp 102) (.tmp 105) 39 22 (.slice none 0 0) 24 rfl Try.underlying39 info22 rfl (by decide) (by omega) u13 x13_3 y241 [.slice Ao98 y241.length co98] (fun k_=>some k_≠(.slice (some ad240) t237.length co90:Value).ownBlock) (fun k_=>some k_=(.slice Ao98 y241.length co98:Value).ownBlock) rfl rfl ?aP (fun k_ hk_=>((Kd.R_mono (ok':=fun k_=>((fun k_=>some k_≠(.slice (some ad240) t237.length co90:Value).ownBlock)) k_∧some k_≠(u13:Value).ownBlock) (Kd.R_apart' (HO243.out) (Kd.S_typed HO_13.out) (by decide)) (fun k_ hk=>⟨hk.1.2,hk.2⟩))).1 k_ hk_.symm) ?aF ?aO ?aB ?aS ?aL ?_;(case aP=>exact Kd.M_row (Kd.R_mono (Kd.R_tight rfl (Kd.R_mono (ok':=fun k_=>((fun k_=>some k_≠(.slice (some ad240) t237.length co90:Value).ownBlock)) k_∧some k_≠(u13:Value).ownBlock) (Kd.R_apart' (HO243.out) (Kd.S_typed HO_13.out) (by decide)) (fun k_ hk=>⟨hk.1.2,hk.2⟩))) (fun _ h_=>h_)));(case aB=>exact bl);(case aF=>exact(fun k_ hk=>Kd.fresh' (Kd.R_lt (rup HO_96.out)) k_ hk));(case aO=>exact(by(with_reducible repeat(first|apply Kd.S_alloc|apply Kd.S_drewN|apply Kd.S_drew));exact Kd.S_mono HO_13.out (fun k_ hk=>⟨hk.1,fun e_=>hk.2 e_⟩)));(case aS=>exact(below_size bl));(case aL=>have:=LMc94.out;omega);intro v245 w97 ho hb hg hat;rw[← Ny244.out] at ho;replace HO_96:=am (Kd.R_over' (rup HO_96.out) (Kd.S_typed (by(with_reducible repeat(first|apply Kd.S_alloc|apply Kd.S_drewN|apply Kd.S_drew));exact HO_13.out)) (by decide) hg);replace BK180:=am (blk_grown (bup BK180.out) hg (Kd.S_ne HO_13.out BK180.out (by decide)));replace BK181:=am (blk_grown (bup BK181.out) hg (Kd.S_ne HO_13.out BK181.out (by decide)));replace HB:=am (hb);have HO246:=am (ho);clear HO_13 HO243 ho hb hg hat))
          go_roundg k3
          case measure=>have:=HK1.out;have:=HK2.out;have:=HK3.out;omega
          case rel=>exact⟨(y244),(wrap64 (x98_3+1)),fin2,H',⟨by have:=HK1.out;have:=HK2.out;have:=HK3.out;omega⟩,⟨by(with_reducible repeat(first|apply Kd.S_alloc|apply Kd.S_drewN|apply Kd.S_drew));exact HO246.out⟩,⟨rup (Kd.R_mono HO_96.out (fun _ hk=>trivial))⟩,⟨bup BK180.out⟩,⟨bup BK181.out⟩,⟨bl⟩⟩
         ·have c91b0:=decide_eq_false c91
          clear c91
          have HSR:=am H
          clear H
          go_wp2_with (go_at_call 31;refine(slices_SortFunc_int_int.calls (fun _=>True) _ _ _ w _ bl (by(with_reducible repeat(first|apply Kd.S_alloc|apply Kd.S_drewN|apply Kd.S_drew));exact Kd.S_mono HO_13.out (fun _ _=>trivial)) HSR.out).mono ?_;rintro e w' ⟨rfl,hS_,hB_,hK_⟩;have HS1:=am hS_;have HB1:=am hB_;clear hS_ hB_ hK_)
          go_ret
          exact⟨_,by first|rfl|(simp [errW_none,errW_some]<;>rfl),by(with_reducible repeat(first|apply Kd.S_alloc|apply Kd.S_drewN|apply Kd.S_drew));exact Kd.S_mono HS1.out (fun _ hk=>trivial),by repeat(first|(with_reducible first|exact HB1.out|apply below_alloc|apply pw_below_drewN|apply below_drew1|refine below_set ?_ GE180.out|refine below_set ?_ GE181.out)|exact HB1.out)⟩

end Go.Proofs.Ytdcchnfndhkfaaa.PFnPassesPlays
