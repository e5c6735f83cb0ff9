/- The walks of functions that FnExactRepairToPlay reaches: what they return is what the plain functions of the same names say. Laid by a program of this session after the kit's print. No conditions beyond the arguments' being read. -/
import Derived.Test.YthmpginbaafbhaaSRepairToPlay0
import Derived.Test.YthmpginbaafbhaaSRepairToPlay6
import Derived.Test.YthmpginbaafbhaaSRepairToPlay7
namespace Go.Proofs.Ythmpginbaafbhaa.PFnExactRepairToPlay
open Go.RowKit Go.Proofs.YthmpginbaafbhaaW.PrintWords Go.Proofs.YthmpginbaafbhaaW.PrintLast Go.Proofs.YthmpginbaafbhaaW.PrintMore
attribute [local go_sem] max2_int min2_int max_two min_two max_three min_three max_four min_four   -- for this text's walks alone
set_option linter.unusedVariables false
set_option linter.unusedSimpArgs false

def spec_laHoles.l0:Nat→Int→List (S51)→List (S55)→Int→Int→List Int→Int→Option ((List (S51))×Bool)
 | 0,_,_,_,_,_,_,_=>none
 | k+1,x2,x8,x17,x18,x19,x230000,x230001=>if x19<x18 then(if 0≤x19 then(if x19<(x17.length:Int) then((spec_laHole.f k x230000 x230001 ((rd_T55 x17 x19).f0) ((rd_T55 x17 x19).f1) ((rd_T55 x17 x19).f2)).bind fun bt233=>(if bt233.2.2.2=true then(if x8.length<5864062014805 then(spec_laHoles.l0 k x2 (x8 ++ [(⟨bt233.1,wrap64 (bt233.2.1+x2),wrap64 (bt233.2.2.1+x2)⟩:S51)]) x17 x18 (wrap64 (x19+1)) x230000 x230001) else(none)) else(some (([]:List (S51)),false)))) else(none)) else(none)) else((spec_shSorted.f k x8).bind fun bt241=>(some (bt241.1,bt241.2)))
def spec_laHoles.f (k:Nat) (l0_0:List Int) (a0_1:Int) (l1:List (S55)) (a2:Int):Option ((List (S51))×Bool):=(spec_inPlays.f k l0_0 a0_1 l1).bind fun t230=>(if t230=true then(spec_laHoles.l0 k a2 ([]:List (S51)) l1 (l1.length:Int) 0 l0_0 a0_1) else(some (([]:List (S51)),false)))
set_option maxHeartbeats 8000000 in
set_option maxRecDepth 100000 in
theorem spec_laHoles.calls (k:Nat) (A0_0:Option Addr) (c0_0:Nat) (l0_0:List Int) (a0_1:Int) (A1:Option Addr) (c1:Nat) (l1:List (S55)) (a2:Int) (r1:List (S51)) (r2:Bool) (w:World) (hr0_0:Kd.C (Kd.int .i64) w A0_0 l0_0.length l0_0) (hc0_0:l0_0.length≤c0_0) (hr1:Kd.C k55 w A1 l1.length l1) (hc1:l1.length≤c1) (h:spec_laHoles.f k l0_0 a0_1 l1 a2=some (r1,r2)) :
  Calls Try.prog 19 #[.agg #[.slice A0_0 l0_0.length c0_0,.int .i64 a0_1],.slice A1 l1.length c1,.int .i64 a2] w fun e w'=>∃ v0_:Value,e = .returned (.tuple #[v0_,.bool r2])∧Kd.R k51 51 w' w.heap.size (fun _=>True) v0_ r1∧Below w.heap.size w w':=by
 have hu32:=Try.underlying32
 have hu55:=Try.underlying55
 have hu51:=Try.underlying51
 have HR0_0:=am hr0_0
 have HC0_0:=am hc0_0
 clear hr0_0 hc0_0
 have HR1:=am hr1
 have HC1:=am hc1
 clear hr1 hc1
 have HB:=am (Below.refl w.heap.size w)
 have H:((spec_inPlays.f k l0_0 a0_1 l1).bind fun t230=>(if t230=true then(spec_laHoles.l0 k a2 ([]:List (S51)) l1 (l1.length:Int) 0 l0_0 a0_1) else(some (([]:List (S51)),false))))=some (r1,r2):=h
 clear h
 replace H:=Option.bind_eq_some_iff.mp H
 obtain⟨t230,A40,H⟩:=H
 replace H:(if t230=true then(spec_laHoles.l0 k a2 ([]:List (S51)) l1 (l1.length:Int) 0 l0_0 a0_1) else(some (([]:List (S51)),false)))=some (r1,r2):=H
 have A4:=am A40
 clear A40
 by_cases c5:t230=true
 ·subst c5
  replace H:=(if_pos rfl).symm.trans H
  have H':=am H
  clear H
  go_enter Try.func19,Try.ntmps19
  go_wp2_with (first|((with_reducible refine gate_dst (N:=3) rfl ?_);refine box_event ?hg (N:=3) ?hd (cs := #[.slice A0_0 l0_0.length c0_0,.int .i64 a0_1]) (t:=32) ?hr ?_;(case hd=>rfl);(case hg=>rfl);(case hr=>first|(go_simp;done)|(go_simp;rfl));intro gb229 hg w6 hbox hb;have BK229:=am (hbox);have GW229:=am (ge_ bl hg);have GE229:=am (ge_ bl hg);replace HB:=am (below_step bl hb);clear hb hbox hg;have hcz7_0:w6.cell? ⟨gb229,0,none⟩=some (.slice A0_0 l0_0.length c0_0):=(blk_cell BK229.out 0).trans rfl;have hcz7_1:w6.cell? ⟨gb229,1,none⟩=some (.int .i64 a0_1):=(blk_cell BK229.out 1).trans rfl;have hfz7_0:=blk_frozen BK229.out 0;have hfz7_1:=blk_frozen BK229.out 1)|((with_reducible refine gate_callee (f:=38) rfl ?_);refine goesL_ (some 15) rfl rfl Try.func38 (by kernel_rfl) rfl #[.agg #[.slice A0_0 l0_0.length c0_0,.int .i64 a0_1],.slice A1 l1.length c1] rfl tl ?_;(with_reducible refine(spec_inPlays.calls k _ _ l0_0 a0_1 _ _ l1 true _ ?side1 ?side2 ?side3 ?side4 A4.out).mono ?_);(case side1=>exact cup (Kd.C_below HR0_0.out HB.out));(case side2=>exact HC0_0.out);(case side3=>exact cup (Kd.C_below HR1.out HB.out));(case side4=>exact HC1.out);rintro e w8 ⟨rfl,hb⟩;refine⟨_,rfl,?_⟩;replace BK229:=am (blk_below (bup BK229.out) hb);replace HB:=am (below_step bl hb);(try clear hb)))
  go_loopg [8,19] k (fun kq v8 v19 w'=>∃(x8_1:List (S51)) (x19_1:Int),v19 = .int .i64 x19_1∧Aside0 (spec_laHoles.l0 kq a2 x8_1 l1 (l1.length:Int) x19_1 l0_0 a0_1=some (r1,r2))∧Aside0 (kq≤k)∧Aside0 (Kd.R k51 51 w' w.heap.size (fun _=>True) v8 x8_1)∧Aside0 (w'.heap[gb229]?=some (.cells #[(.slice A0_0 l0_0.length c0_0),.int .i64 a0_1] 32 (0,0)))∧Aside0 (Below w.heap.size w w'))
  case atStart=>exact⟨(([]:List (S51))),(0),fin2,H',⟨Nat.le_refl _⟩,⟨by first|exact Kd.R_nil _ _ _ _ _|exact Kd.N_nil _ _ _ _ _|exact Kd.V_nil _ _ _ _ _|exact Kd.Q_nil _ _ _ _ _|exact Kd.S_nil _ _ _ _ _⟩,⟨bup BK229.out⟩,⟨bl⟩⟩
  case round =>
   clear H'
   try clear c1
   try clear p2
   try clear c3
   try clear c5
   try clear hcz7_0
   try clear hcz7_1
   try clear hfz7_0
   try clear hfz7_1
   obtain⟨x8_1,x19_1,rfl,HA,HK1,HO_8,BK229,HB⟩:=hrel
   cases gk with
   | zero=>exact absurd HA.out (by simp [spec_laHoles.l0])
   | succ k1 =>
    have H:=HA.out
    clear HA
    simp only[spec_laHoles.l0] at H
    rcases itc H with⟨c9,H⟩|⟨c9,H⟩
    ·have c9b0:=decide_eq_true c9
     clear c9
     obtain⟨c10b0,H⟩:=ifb H
     obtain⟨c11b0,H⟩:=ifb H
     replace H:=Option.bind_eq_some_iff.mp H
     obtain⟨⟨t233,t234,t235,t236⟩,A120,H⟩:=H
     replace H:(if t236=true then(if x8_1.length<5864062014805 then(spec_laHoles.l0 k1 a2 (x8_1 ++ [(⟨t233,wrap64 (t234+a2),wrap64 (t235+a2)⟩:S51)]) l1 (l1.length:Int) (wrap64 (x19_1+1)) l0_0 a0_1) else(none)) else(some (([]:List (S51)),false)))=some (r1,r2):=H
     have A12:=am A120
     clear A120
     by_cases c13:t236=true
     ·subst c13
      replace H:=(if_pos rfl).symm.trans H
      obtain⟨c14,H⟩:=ifp H
      have LMc14:=am c14
      clear c14
      obtain⟨y238,hy238⟩:∃ y_:List (S51),y_=(x8_1 ++ [(⟨t233,wrap64 (t234+a2),wrap64 (t235+a2)⟩:S51)]):=⟨_,rfl⟩
      replace H:(spec_laHoles.l0 k1 a2 y238 l1 (l1.length:Int) (wrap64 (x19_1+1)) l0_0 a0_1)=some (r1,r2):=by subst hy238;exact H
      have Ny238:=am hy238
      clear hy238
      have H':=am H
      clear H
      have p231:0≤(x19_1:Int):=od
      have q231:x19_1<(l1.length:Int):=od
      obtain⟨ad231,e231,hx231_0,hx231_1,hx231_2⟩:=at_T55 HR1.out x19_1 p231 q231
      cases e231
      replace hx231_0:=(HB.out.cell (World.block_lt_of_cell? w _ hx231_0)).trans hx231_0
      replace hx231_1:=(HB.out.cell (World.block_lt_of_cell? w _ hx231_1)).trans hx231_1
      replace hx231_2:=(HB.out.cell (World.block_lt_of_cell? w _ hx231_2)).trans hx231_2
      replace p231:=eq_true p231
      replace q231:=eq_true q231
      go_wp2_with (first|((with_reducible refine gate_dst (N:=10) rfl ?_);refine box_event ?hg (N:=10) ?hd (cs := #[.int .i64 0,.int .i64 0,.int .i64 0]) (t:=55) ?hr ?_;(case hd=>rfl);(case hg=>rfl);(case hr=>first|(go_simp;done)|(go_simp;rfl));intro gb232 hg w15 hbox hb;replace HO_8:=am (Kd.R_below (rup HO_8.out) hb);have BK232:=am (hbox);have GW232:=am (ge_ bl hg);have GE232:=am (ge_ bl hg);replace HB:=am (below_step bl hb);have NB229_232:=am (nl (bup BK229.out) hg);have NB232_229:=am (ng (bup BK229.out) hg);replace BK229:=am (blk_below (bup BK229.out) hb);clear hb hbox hg;have hnb16:=NB232_229.out;have hnc16:=NB229_232.out;have hcz17_0:w15.cell? ⟨gb232,0,none⟩=some (.int .i64 0):=(blk_cell BK232.out 0).trans rfl;have hcz17_1:w15.cell? ⟨gb232,1,none⟩=some (.int .i64 0):=(blk_cell BK232.out 1).trans rfl;have hcz17_2:w15.cell? ⟨gb232,2,none⟩=some (.int .i64 0):=(blk_cell BK232.out 2).trans rfl;have hfz17_0:=blk_frozen BK232.out 0;have hfz17_1:=blk_frozen BK232.out 1;have hfz17_2:=blk_frozen BK232.out 2;have hcz18_0:w15.cell? ⟨gb229,0,none⟩=some (.slice A0_0 l0_0.length c0_0):=(blk_cell BK229.out 0).trans rfl;have hcz18_1:w15.cell? ⟨gb229,1,none⟩=some (.int .i64 a0_1):=(blk_cell BK229.out 1).trans rfl;have hfz18_0:=blk_frozen BK229.out 0;have hfz18_1:=blk_frozen BK229.out 1)|((with_reducible refine gate_callee (f:=39) rfl ?_);refine goesL_ (some 26) rfl rfl Try.func39 (by kernel_rfl) rfl #[.agg #[.slice A0_0 l0_0.length c0_0,.int .i64 a0_1],.agg #[.int .i64 ((rd_T55 l1 x19_1).f0),.int .i64 ((rd_T55 l1 x19_1).f1),.int .i64 ((rd_T55 l1 x19_1).f2)]] rfl tl ?_;(with_reducible refine(spec_laHole.calls k1 _ _ l0_0 a0_1 ((rd_T55 l1 x19_1).f0) ((rd_T55 l1 x19_1).f1) ((rd_T55 l1 x19_1).f2) t233 t234 t235 true _ ?side1 ?side2 A12.out).mono ?_);(case side1=>exact Kd.C_below HR0_0.out bl);(case side2=>exact HC0_0.out);rintro e w19 ⟨rfl,hb⟩;refine⟨_,rfl,?_⟩;replace HO_8:=am (Kd.R_below (by(with_reducible repeat(first|apply Kd.R_alloc|apply Kd.R_drewN|apply Kd.R_drew));exact(Kd.R_mono (Kd.R_far (p:=⟨gb232,2,none⟩) (Kd.R_far (p:=⟨gb232,1,none⟩) (Kd.R_far (p:=⟨gb232,0,none⟩) (Kd.R_types HO_8.out BK232.out (by decide)) (fun _ hk=>hk.2) (.int .i64 ((rd_T55 l1 x19_1).f0))) (fun _ hk=>hk.2) (.int .i64 ((rd_T55 l1 x19_1).f1))) (fun _ hk=>hk.2) (.int .i64 ((rd_T55 l1 x19_1).f2))) (fun _ h_=>h_.1))) hb);replace BK229:=am (blk_below (g:=gb229) (o := .cells #[.slice A0_0 l0_0.length c0_0,.int .i64 a0_1] 32 (0,0)) (by(with_reducible repeat(first|refine bN_ ?_ _|refine bD_ ?_|refine bA_ ?_ _));refine blk_far ?_ NB229_232.out _;(with_reducible repeat(first|refine bN_ ?_ _|refine bD_ ?_|refine bA_ ?_ _));refine blk_far ?_ NB229_232.out _;(with_reducible repeat(first|refine bN_ ?_ _|refine bD_ ?_|refine bA_ ?_ _));refine blk_far ?_ NB229_232.out _;exact bup BK229.out) hb);replace BK232:=am (blk_below (g:=gb232) (o := .cells #[.int .i64 ((rd_T55 l1 x19_1).f0),.int .i64 ((rd_T55 l1 x19_1).f1),.int .i64 ((rd_T55 l1 x19_1).f2)] 55 (0,0)) (by(with_reducible repeat(first|refine bN_ ?_ _|refine bD_ ?_|refine bA_ ?_ _));refine blk_put (cs := #[.int .i64 ((rd_T55 l1 x19_1).f0),.int .i64 ((rd_T55 l1 x19_1).f1),.int .i64 0]) ?_ 2 _ rfl;(with_reducible repeat(first|refine bN_ ?_ _|refine bD_ ?_|refine bA_ ?_ _));refine blk_put (cs := #[.int .i64 ((rd_T55 l1 x19_1).f0),.int .i64 0,.int .i64 0]) ?_ 1 _ rfl;(with_reducible repeat(first|refine bN_ ?_ _|refine bD_ ?_|refine bA_ ?_ _));refine blk_put (cs := #[.int .i64 0,.int .i64 0,.int .i64 0]) ?_ 0 _ rfl;exact bup BK232.out) hb);replace HB:=am (below_step bl hb);(try clear hb);(try clear hk))|((with_reducible refine gate_dst (N:=11) rfl ?_);refine box_event ?hg (N:=11) ?hd (cs := #[.int .i64 0,.int .i64 0,.int .i64 0]) (t:=51) ?hr ?_;(case hd=>rfl);(case hg=>rfl);(case hr=>first|(go_simp;done)|(go_simp;rfl));intro gb237 hg w20 hbox hb;replace HO_8:=am (Kd.R_below (Kd.R_elderB (rup HO_8.out) gb237 (Nat.le_of_eq hg.symm)) hb);have BK237:=am (hbox);have GW237:=am (ge_ bl hg);have GE237:=am (ge_ bl hg);replace HB:=am (below_step bl hb);have NB229_237:=am (nl (bup BK229.out) hg);have NB237_229:=am (ng (bup BK229.out) hg);replace BK229:=am (blk_below (bup BK229.out) hb);have NB232_237:=am (nl (bup BK232.out) hg);have NB237_232:=am (ng (bup BK232.out) hg);replace BK232:=am (blk_below (bup BK232.out) hb);clear hb hbox hg;have hnb21:=NB237_229.out;have hnc21:=NB229_237.out;have hnb22:=NB237_232.out;have hnc22:=NB232_237.out;have hcz23_0:w20.cell? ⟨gb237,0,none⟩=some (.int .i64 0):=(blk_cell BK237.out 0).trans rfl;have hcz23_1:w20.cell? ⟨gb237,1,none⟩=some (.int .i64 0):=(blk_cell BK237.out 1).trans rfl;have hcz23_2:w20.cell? ⟨gb237,2,none⟩=some (.int .i64 0):=(blk_cell BK237.out 2).trans rfl;have hfz23_0:=blk_frozen BK237.out 0;have hfz23_1:=blk_frozen BK237.out 1;have hfz23_2:=blk_frozen BK237.out 2)|((with_reducible refine gate_builtin (b := .append) (xs := #[.tmp 31,.tmp 43]) rfl ?_);at_builtin;refine Kd.R_append k51 (w0:=w) w.heap.size rfl (.tmp 31) (.tmp 43) 34 51 (.agg #[(.int .i64 0),(.int .i64 0),(.int .i64 0)]) 24 rfl Try.underlying34 info51 rfl (by decide) (by omega) u8 x8_1 (⟨t233,wrap64 (t234+a2),wrap64 (t235+a2)⟩:S51) [.int .i64 t233,.int .i64 (wrap64 (t234+a2)),.int .i64 (wrap64 (t235+a2))] (fun k_=>k_≠gb237) (fun _=>False) rfl (by first|(go_simp;done)|(go_simp;rfl)) ?aP (fun _ hk=>hk.elim) ?aF ?aO ?aB ?aS ?aL ?_;(case aP=>exact k51_mkM _ _ _ (⟨t233,wrap64 (t234+a2),wrap64 (t235+a2)⟩:S51));(case aB=>exact bl);(case aF=>exact(fun k_ hk=>Kd.freshB (g:=gb237) (o := .cells #[.int .i64 t233,.int .i64 t234,.int .i64 t235] 51 (0,0)) (by(with_reducible repeat(first|refine bN_ ?_ _|refine bD_ ?_|refine bA_ ?_ _));refine blk_put (cs := #[.int .i64 t233,.int .i64 t234,.int .i64 0]) ?_ 2 _ rfl;(with_reducible repeat(first|refine bN_ ?_ _|refine bD_ ?_|refine bA_ ?_ _));refine blk_put (cs := #[.int .i64 t233,.int .i64 0,.int .i64 0]) ?_ 1 _ rfl;(with_reducible repeat(first|refine bN_ ?_ _|refine bD_ ?_|refine bA_ ?_ _));refine blk_put (cs := #[.int .i64 0,.int .i64 0,.int .i64 0]) ?_ 0 _ rfl;exact bup BK237.out) k_ hk));(case aO=>exact(rup (Kd.R_mono (Kd.R_far (p:=⟨gb237,2,none⟩) (Kd.R_far (p:=⟨gb237,1,none⟩) (Kd.R_far (p:=⟨gb237,0,none⟩) (Kd.R_mono HO_8.out (fun k_ hk=>(⟨hk,hk.2⟩:_∧k_≠gb237))) (fun _ hk=>hk.2) (.int .i64 t233)) (fun _ hk=>hk.2) (.int .i64 t234)) (fun _ hk=>hk.2) (.int .i64 t235)) (fun _ hk=>hk.1.2))));(case aS=>exact(below_size bl));(case aL=>have:=LMc14.out;omega);intro v239 w24 ho hb hg hat;rw[← Ny238.out] at ho;replace BK229:=am (blk_grown (g:=gb229) (o := .cells #[.slice A0_0 l0_0.length c0_0,.int .i64 a0_1] 32 (0,0)) (by(with_reducible repeat(first|refine bN_ ?_ _|refine bD_ ?_|refine bA_ ?_ _));refine blk_far ?_ NB229_237.out _;(with_reducible repeat(first|refine bN_ ?_ _|refine bD_ ?_|refine bA_ ?_ _));refine blk_far ?_ NB229_237.out _;(with_reducible repeat(first|refine bN_ ?_ _|refine bD_ ?_|refine bA_ ?_ _));refine blk_far ?_ NB229_237.out _;exact bup BK229.out) hg (Kd.R_ne HO_8.out BK229.out (by decide)));replace BK232:=am (blk_grown (g:=gb232) (o := .cells #[.int .i64 ((rd_T55 l1 x19_1).f0),.int .i64 ((rd_T55 l1 x19_1).f1),.int .i64 ((rd_T55 l1 x19_1).f2)] 55 (0,0)) (by(with_reducible repeat(first|refine bN_ ?_ _|refine bD_ ?_|refine bA_ ?_ _));refine blk_far ?_ NB232_237.out _;(with_reducible repeat(first|refine bN_ ?_ _|refine bD_ ?_|refine bA_ ?_ _));refine blk_far ?_ NB232_237.out _;(with_reducible repeat(first|refine bN_ ?_ _|refine bD_ ?_|refine bA_ ?_ _));refine blk_far ?_ NB232_237.out _;exact bup BK232.out) hg (Kd.R_ne HO_8.out BK232.out (by decide)));replace BK237:=am (blk_grown (g:=gb237) (o := .cells #[.int .i64 t233,.int .i64 t234,.int .i64 t235] 51 (0,0)) (by(with_reducible repeat(first|refine bN_ ?_ _|refine bD_ ?_|refine bA_ ?_ _));refine blk_put (cs := #[.int .i64 t233,.int .i64 t234,.int .i64 0]) ?_ 2 _ rfl;(with_reducible repeat(first|refine bN_ ?_ _|refine bD_ ?_|refine bA_ ?_ _));refine blk_put (cs := #[.int .i64 t233,.int .i64 0,.int .i64 0]) ?_ 1 _ rfl;(with_reducible repeat(first|refine bN_ ?_ _|refine bD_ ?_|refine bA_ ?_ _));refine blk_put (cs := #[.int .i64 0,.int .i64 0,.int .i64 0]) ?_ 0 _ rfl;exact bup BK237.out) hg (Kd.R_away HO_8.out (fun _ hk=>hk.2)));replace HB:=am (hb);have HO240:=am (ho);clear HO_8 ho hb hg hat))
      go_roundg k1
      case measure=>have:=HK1.out;omega
      case rel=>exact⟨(y238),(wrap64 (x19_1+1)),fin2,H',⟨by have:=HK1.out;omega⟩,⟨rup (Kd.R_mono HO240.out (fun _ hk=>trivial))⟩,⟨bup BK229.out⟩,⟨bl⟩⟩
     ·replace c13:=Bool.eq_false_iff.mpr c13
      subst c13
      replace H:=(if_neg Bool.false_ne_true).symm.trans H
      simp only[Option.some.injEq,Prod.mk.injEq] at H
      obtain⟨rfl,rfl⟩:=H
      have p231:0≤(x19_1:Int):=od
      have q231:x19_1<(l1.length:Int):=od
      obtain⟨ad231,e231,hx231_0,hx231_1,hx231_2⟩:=at_T55 HR1.out x19_1 p231 q231
      cases e231
      replace hx231_0:=(HB.out.cell (World.block_lt_of_cell? w _ hx231_0)).trans hx231_0
      replace hx231_1:=(HB.out.cell (World.block_lt_of_cell? w _ hx231_1)).trans hx231_1
      replace hx231_2:=(HB.out.cell (World.block_lt_of_cell? w _ hx231_2)).trans hx231_2
      replace p231:=eq_true p231
      replace q231:=eq_true q231
      go_wp2_with (first|((with_reducible refine gate_dst (N:=10) rfl ?_);refine box_event ?hg (N:=10) ?hd (cs := #[.int .i64 0,.int .i64 0,.int .i64 0]) (t:=55) ?hr ?_;(case hd=>rfl);(case hg=>rfl);(case hr=>first|(go_simp;done)|(go_simp;rfl));intro gb232 hg w25 hbox hb;replace HO_8:=am (Kd.R_below (rup HO_8.out) hb);have BK232:=am (hbox);have GW232:=am (ge_ bl hg);have GE232:=am (ge_ bl hg);replace HB:=am (below_step bl hb);have NB229_232:=am (nl (bup BK229.out) hg);have NB232_229:=am (ng (bup BK229.out) hg);replace BK229:=am (blk_below (bup BK229.out) hb);clear hb hbox hg;have hnb26:=NB232_229.out;have hnc26:=NB229_232.out;have hcz27_0:w25.cell? ⟨gb232,0,none⟩=some (.int .i64 0):=(blk_cell BK232.out 0).trans rfl;have hcz27_1:w25.cell? ⟨gb232,1,none⟩=some (.int .i64 0):=(blk_cell BK232.out 1).trans rfl;have hcz27_2:w25.cell? ⟨gb232,2,none⟩=some (.int .i64 0):=(blk_cell BK232.out 2).trans rfl;have hfz27_0:=blk_frozen BK232.out 0;have hfz27_1:=blk_frozen BK232.out 1;have hfz27_2:=blk_frozen BK232.out 2;have hcz28_0:w25.cell? ⟨gb229,0,none⟩=some (.slice A0_0 l0_0.length c0_0):=(blk_cell BK229.out 0).trans rfl;have hcz28_1:w25.cell? ⟨gb229,1,none⟩=some (.int .i64 a0_1):=(blk_cell BK229.out 1).trans rfl;have hfz28_0:=blk_frozen BK229.out 0;have hfz28_1:=blk_frozen BK229.out 1)|((with_reducible refine gate_callee (f:=39) rfl ?_);refine goesL_ (some 26) rfl rfl Try.func39 (by kernel_rfl) rfl #[.agg #[.slice A0_0 l0_0.length c0_0,.int .i64 a0_1],.agg #[.int .i64 ((rd_T55 l1 x19_1).f0),.int .i64 ((rd_T55 l1 x19_1).f1),.int .i64 ((rd_T55 l1 x19_1).f2)]] rfl tl ?_;(with_reducible refine(spec_laHole.calls k1 _ _ l0_0 a0_1 ((rd_T55 l1 x19_1).f0) ((rd_T55 l1 x19_1).f1) ((rd_T55 l1 x19_1).f2) t233 t234 t235 false _ ?side1 ?side2 A12.out).mono ?_);(case side1=>exact Kd.C_below HR0_0.out bl);(case side2=>exact HC0_0.out);rintro e w29 ⟨rfl,hb⟩;refine⟨_,rfl,?_⟩;replace HO_8:=am (Kd.R_below (by(with_reducible repeat(first|apply Kd.R_alloc|apply Kd.R_drewN|apply Kd.R_drew));exact(Kd.R_mono (Kd.R_far (p:=⟨gb232,2,none⟩) (Kd.R_far (p:=⟨gb232,1,none⟩) (Kd.R_far (p:=⟨gb232,0,none⟩) (Kd.R_types HO_8.out BK232.out (by decide)) (fun _ hk=>hk.2) (.int .i64 ((rd_T55 l1 x19_1).f0))) (fun _ hk=>hk.2) (.int .i64 ((rd_T55 l1 x19_1).f1))) (fun _ hk=>hk.2) (.int .i64 ((rd_T55 l1 x19_1).f2))) (fun _ h_=>h_.1))) hb);replace BK229:=am (blk_below (g:=gb229) (o := .cells #[.slice A0_0 l0_0.length c0_0,.int .i64 a0_1] 32 (0,0)) (by(with_reducible repeat(first|refine bN_ ?_ _|refine bD_ ?_|refine bA_ ?_ _));refine blk_far ?_ NB229_232.out _;(with_reducible repeat(first|refine bN_ ?_ _|refine bD_ ?_|refine bA_ ?_ _));refine blk_far ?_ NB229_232.out _;(with_reducible repeat(first|refine bN_ ?_ _|refine bD_ ?_|refine bA_ ?_ _));refine blk_far ?_ NB229_232.out _;exact bup BK229.out) hb);replace BK232:=am (blk_below (g:=gb232) (o := .cells #[.int .i64 ((rd_T55 l1 x19_1).f0),.int .i64 ((rd_T55 l1 x19_1).f1),.int .i64 ((rd_T55 l1 x19_1).f2)] 55 (0,0)) (by(with_reducible repeat(first|refine bN_ ?_ _|refine bD_ ?_|refine bA_ ?_ _));refine blk_put (cs := #[.int .i64 ((rd_T55 l1 x19_1).f0),.int .i64 ((rd_T55 l1 x19_1).f1),.int .i64 0]) ?_ 2 _ rfl;(with_reducible repeat(first|refine bN_ ?_ _|refine bD_ ?_|refine bA_ ?_ _));refine blk_put (cs := #[.int .i64 ((rd_T55 l1 x19_1).f0),.int .i64 0,.int .i64 0]) ?_ 1 _ rfl;(with_reducible repeat(first|refine bN_ ?_ _|refine bD_ ?_|refine bA_ ?_ _));refine blk_put (cs := #[.int .i64 0,.int .i64 0,.int .i64 0]) ?_ 0 _ rfl;exact bup BK232.out) hb);replace HB:=am (below_step bl hb);(try clear hb);(try clear hk))|((with_reducible refine gate_dst (N:=11) rfl ?_);refine box_event ?hg (N:=11) ?hd (cs := #[.int .i64 0,.int .i64 0,.int .i64 0]) (t:=51) ?hr ?_;(case hd=>rfl);(case hg=>rfl);(case hr=>first|(go_simp;done)|(go_simp;rfl));intro gb237 hg w30 hbox hb;replace HO_8:=am (Kd.R_below (Kd.R_elderB (rup HO_8.out) gb237 (Nat.le_of_eq hg.symm)) hb);have BK237:=am (hbox);have GW237:=am (ge_ bl hg);have GE237:=am (ge_ bl hg);replace HB:=am (below_step bl hb);have NB229_237:=am (nl (bup BK229.out) hg);have NB237_229:=am (ng (bup BK229.out) hg);replace BK229:=am (blk_below (bup BK229.out) hb);have NB232_237:=am (nl (bup BK232.out) hg);have NB237_232:=am (ng (bup BK232.out) hg);replace BK232:=am (blk_below (bup BK232.out) hb);clear hb hbox hg;have hnb31:=NB237_229.out;have hnc31:=NB229_237.out;have hnb32:=NB237_232.out;have hnc32:=NB232_237.out;have hcz33_0:w30.cell? ⟨gb237,0,none⟩=some (.int .i64 0):=(blk_cell BK237.out 0).trans rfl;have hcz33_1:w30.cell? ⟨gb237,1,none⟩=some (.int .i64 0):=(blk_cell BK237.out 1).trans rfl;have hcz33_2:w30.cell? ⟨gb237,2,none⟩=some (.int .i64 0):=(blk_cell BK237.out 2).trans rfl;have hfz33_0:=blk_frozen BK237.out 0;have hfz33_1:=blk_frozen BK237.out 1;have hfz33_2:=blk_frozen BK237.out 2))
      go_ret2
      exact⟨_,fin1,by first|exact Kd.R_nil _ _ _ _ _|exact Kd.N_nil _ _ _ _ _|exact Kd.V_nil _ _ _ _ _|exact Kd.Q_nil _ _ _ _ _|exact Kd.S_nil _ _ _ _ _,bl⟩
    ·have c9b0:=decide_eq_false c9
     clear c9
     replace H:=Option.bind_eq_some_iff.mp H
     obtain⟨⟨t241,t242⟩,A340,H⟩:=H
     replace H:(some (t241,t242))=some (r1,r2):=H
     have A34:=am A340
     clear A340
     simp only[Option.some.injEq,Prod.mk.injEq] at H
     obtain⟨rfl,rfl⟩:=H
     obtain⟨Ao35,co35,eo35⟩:=Kd.R_slice HO_8.out
     subst eo35
     go_wp2_with (first|((with_reducible refine gate_callee (f:=40) rfl ?_);refine goesL_ (some 47) rfl rfl Try.func40 (by kernel_rfl) rfl #[.slice Ao35 x8_1.length co35] rfl tl ?_;(with_reducible refine(spec_shSorted.calls k1 _ _ x8_1 t241 t242 _ ?side1 ?side2 A34.out).mono ?_);(case side1=>repeat(first|exact(Kd.R_reads' HO_8.out).2.2|(with_reducible refine Kd.C_alloc ?_ _)|(with_reducible refine Kd.C_drewN ?_ _)|(with_reducible refine Kd.C_drew ?_)));(case side2=>exact(Kd.R_reads' HO_8.out).2.1);rintro e w36 ⟨v243,rfl,ho0,hb⟩;refine⟨_,rfl,?_⟩;have HO244:=am (Kd.R_lower (Kd.R_new' ho0 (Kd.R_lt (rup HO_8.out))) (below_size bl));replace HO_8:=am (Kd.R_elder' (rup HO_8.out) (Kd.R_base ho0) hb);replace BK229:=am (blk_below (bup BK229.out) hb);replace HB:=am (below_step bl hb);(try clear hb);(try clear ho0)))
     go_ret2
     exact⟨_,fin1,rup (Kd.R_mono HO244.out (fun _ hk=>trivial)),bl⟩
 ·replace c5:=Bool.eq_false_iff.mpr c5
  subst c5
  replace H:=(if_neg Bool.false_ne_true).symm.trans H
  simp only[Option.some.injEq,Prod.mk.injEq] at H
  obtain⟨rfl,rfl⟩:=H
  go_enter Try.func19,Try.ntmps19
  go_wp2_with (first|((with_reducible refine gate_dst (N:=3) rfl ?_);refine box_event ?hg (N:=3) ?hd (cs := #[.slice A0_0 l0_0.length c0_0,.int .i64 a0_1]) (t:=32) ?hr ?_;(case hd=>rfl);(case hg=>rfl);(case hr=>first|(go_simp;done)|(go_simp;rfl));intro gb229 hg w37 hbox hb;have BK229:=am (hbox);have GW229:=am (ge_ bl hg);have GE229:=am (ge_ bl hg);replace HB:=am (below_step bl hb);clear hb hbox hg;have hcz38_0:w37.cell? ⟨gb229,0,none⟩=some (.slice A0_0 l0_0.length c0_0):=(blk_cell BK229.out 0).trans rfl;have hcz38_1:w37.cell? ⟨gb229,1,none⟩=some (.int .i64 a0_1):=(blk_cell BK229.out 1).trans rfl;have hfz38_0:=blk_frozen BK229.out 0;have hfz38_1:=blk_frozen BK229.out 1)|((with_reducible refine gate_callee (f:=38) rfl ?_);refine goesL_ (some 15) rfl rfl Try.func38 (by kernel_rfl) rfl #[.agg #[.slice A0_0 l0_0.length c0_0,.int .i64 a0_1],.slice A1 l1.length c1] rfl tl ?_;(with_reducible refine(spec_inPlays.calls k _ _ l0_0 a0_1 _ _ l1 false _ ?side1 ?side2 ?side3 ?side4 A4.out).mono ?_);(case side1=>exact cup (Kd.C_below HR0_0.out HB.out));(case side2=>exact HC0_0.out);(case side3=>exact cup (Kd.C_below HR1.out HB.out));(case side4=>exact HC1.out);rintro e w39 ⟨rfl,hb⟩;refine⟨_,rfl,?_⟩;replace BK229:=am (blk_below (bup BK229.out) hb);replace HB:=am (below_step bl hb);(try clear hb)))
  go_ret2
  exact⟨_,fin1,by first|exact Kd.R_nil _ _ _ _ _|exact Kd.N_nil _ _ _ _ _|exact Kd.V_nil _ _ _ _ _|exact Kd.Q_nil _ _ _ _ _|exact Kd.S_nil _ _ _ _ _,bl⟩

mutual
def spec_rpOpen.l0:Nat→List (S51)→List (List Bool)→Int→Int→Option ((List (List Bool)))
 | 0,_,_,_,_=>none
 | k+1,x0,x3,x10,x11=>if x11<x10 then(if 2000≤281474976710656 then(if 0≤x11 then(if x11<(x3.length:Int) then(spec_rpOpen.l0 k x0 (x3.set (x11:Int).toNat (List.replicate 2000 false)) x10 (wrap64 (x11+1))) else(none)) else(none)) else(none)) else(spec_rpOpen.l1 k x3 x0 (x0.length:Int) 0)
def spec_rpOpen.l1:Nat→List (List Bool)→List (S51)→Int→Int→Option ((List (List Bool)))
 | 0,_,_,_,_=>none
 | k+1,x3,x19,x20,x21=>if x21<x20 then(if 0≤x21 then(if x21<(x19.length:Int) then(spec_rpOpen.l2 k x3 ((rd_T51 x19 x21).f1) x19 x20 x21 ((rd_T51 x19 x21).f0) ((rd_T51 x19 x21).f1) ((rd_T51 x19 x21).f2)) else(none)) else(none)) else(some x3)
def spec_rpOpen.l2:Nat→List (List Bool)→Int→List (S51)→Int→Int→Int→Int→Int→Option ((List (List Bool)))
 | 0,_,_,_,_,_,_,_,_=>none
 | k+1,x3,x7,x19,x20,x21,x254000,x254001,x254002=>if x7<x254002 then(if 0≤x254000 then(if x254000<(x3.length:Int) then(if 0≤x7 then(if x7<((rd_L7 x3 x254000).length:Int) then(spec_rpOpen.l2 k (x3.set (x254000:Int).toNat ((rd_L7 x3 x254000).set (x7:Int).toNat true)) (wrap64 (x7+1)) x19 x20 x21 x254000 x254001 x254002) else(none)) else(none)) else(none)) else(none)) else(spec_rpOpen.l1 k x3 x19 x20 (wrap64 (x21+1)))
end
def spec_rpOpen.f (k:Nat) (l0:List (S51)):Option ((List (List Bool))):=if 20≤11728124029610 then((some (List.replicate 20 []:List (List Bool))).bind fun y245=>(spec_rpOpen.l0 k l0 y245 (y245.length:Int) 0)) else(none)
set_option maxHeartbeats 8000000 in
set_option maxRecDepth 100000 in
theorem spec_rpOpen.calls (k:Nat) (A0:Option Addr) (c0:Nat) (l0:List (S51)) (r:List (List Bool)) (w:World) (hr0:Kd.C k51 w A0 l0.length l0) (hc0:l0.length≤c0) (h:spec_rpOpen.f k l0=some r) :
  Calls Try.prog 61 #[.slice A0 l0.length c0] w fun e w'=>∃ v0_:Value,e = .returned (v0_)∧Kd.S (Kd.slice 4 Kd.bool) 87 w' w.heap.size (fun _=>True) v0_ r∧Below w.heap.size w w':=by
 have hu51:=Try.underlying51
 have HR0:=am hr0
 have HC0:=am hc0
 clear hr0 hc0
 have HB:=am (Below.refl w.heap.size w)
 have H:(if 20≤11728124029610 then((some (List.replicate 20 []:List (List Bool))).bind fun y245=>(spec_rpOpen.l0 k l0 y245 (y245.length:Int) 0)) else(none))=some r:=h
 clear h
 obtain⟨c2,H⟩:=ifp H
 have c2b0:=eq_true c2
 have c2b1:decide (20≤11728124029610)=true:=decide_eq_true c2
 clear c2
 obtain⟨y245,hy245⟩:∃ y_:List (List Bool),y_=(List.replicate 20 []):=⟨_,rfl⟩
 replace H:(spec_rpOpen.l0 k l0 y245 (y245.length:Int) 0)=some r:=by subst hy245;exact H
 have Ny245:=am hy245
 clear hy245
 have H':=am H
 clear H
 go_enter Try.func61,Try.ntmps61
 go_wp2_with (first|((with_reducible refine gate_dst (N:=8) rfl ?_);refine Kd.S_make (Kd.slice 4 Kd.bool) _ 87 rfl (N:=8) rfl 84 _ _ rfl 20 rfl rfl Try.underlying84 (.slice none 0 0) 24 info87 rfl (by decide) (by omega) [] (ok:=fun _=>True) (okp:=fun _=>True) ⟨_,rfl,Kd.R_nil _ _ _ _ _⟩ (fun _ hk=>hk) trivial (by omega) (by omega) (Below.refl _ _) (Nat.le_refl _) ?_;intro v246 w3 ho4 hb hg_ hnew_;clear hg_ hnew_;(first|rw[← Ny245.out] at ho4|(simp only[Int.reduceToNat] at ho4;rw[← Ny245.out] at ho4));have HO247:=am (Kd.S_lower ho4 (below_size bl));replace HB:=am (below_step bl hb);clear hb ho4;obtain⟨Ao5,co5,eo5⟩:=Kd.S_slice HO247.out;subst eo5))
 go_loopg [11] k (fun kq v11 w'=>∃(x3_1:List (List Bool)) (x11_1:Int),v11 = .int .i64 x11_1∧Aside0 (spec_rpOpen.l0 kq l0 x3_1 (y245.length:Int) x11_1=some r)∧Aside0 (kq≤k)∧Aside0 (Kd.S (Kd.slice 4 Kd.bool) 87 w' w.heap.size (fun _=>True) (.slice Ao5 y245.length co5) x3_1)∧Aside0 (Below w.heap.size w w'))
 case atStart=>exact⟨(y245),(0),fin2,H',⟨Nat.le_refl _⟩,⟨by(with_reducible repeat(first|apply Kd.S_alloc|apply Kd.S_drewN|apply Kd.S_drew));exact HO247.out⟩,⟨bl⟩⟩
 case round =>
  clear H'
  try clear c2
  try clear c2b0
  try clear c2b1
  try clear p2
  obtain⟨x3_1,x11_1,rfl,HA,HK1,HO_3,HB⟩:=hrel
  have hl3_1:=(Kd.S_reads' HO_3.out).1
  rw[hl3_1] at HO_3
  (try simp only[hl3_1])
  cases gk with
  | zero=>exact absurd HA.out (by simp [spec_rpOpen.l0])
  | succ k1 =>
   have H:=HA.out
   clear HA
   simp only[spec_rpOpen.l0] at H
   rcases itc H with⟨c6,H⟩|⟨c6,H⟩
   ·have c6b0:=decide_eq_true c6
    clear c6
    obtain⟨c7,H⟩:=ifp H
    have c7b0:=eq_true c7
    have c7b1:decide (2000≤281474976710656)=true:=decide_eq_true c7
    clear c7
    obtain⟨y248,hy248⟩:∃ y_:List Bool,y_=(List.replicate 2000 false):=⟨_,rfl⟩
    replace H:(if 0≤x11_1 then(if x11_1<(x3_1.length:Int) then(spec_rpOpen.l0 k1 l0 (x3_1.set (x11_1:Int).toNat y248) (y245.length:Int) (wrap64 (x11_1+1))) else(none)) else(none))=some r:=by subst hy248;exact H
    have Ny248:=am hy248
    clear hy248
    obtain⟨c8b0,H⟩:=ifb H
    obtain⟨c9b0,H⟩:=ifb H
    obtain⟨y251,hy251⟩:∃ y_:List (List Bool),y_=(x3_1.set (x11_1:Int).toNat y248):=⟨_,rfl⟩
    replace H:(spec_rpOpen.l0 k1 l0 y251 (y245.length:Int) (wrap64 (x11_1+1)))=some r:=by subst hy251;exact H
    have Ny251:=am hy251
    clear hy251
    have H':=am H
    clear H
    go_wp2_with (first|((with_reducible refine gate_dst (N:=16) rfl ?_);refine Kd.R_make Kd.bool _ 4 rfl (N:=16) rfl 87 _ _ rfl 2000 rfl rfl Try.underlying87 (.bool false) 1 info4 rfl (by decide) (by omega) false (ok:=fun _=>True) (okp:=fun _=>True) rfl (fun _ hk=>hk) trivial (by omega) (by omega) (Below.refl _ _) (Nat.le_refl _) ?_;intro v249 w11 ho12 hb hg_ hnew_;clear hg_ hnew_;(first|rw[← Ny248.out] at ho12|(simp only[Int.reduceToNat] at ho12;rw[← Ny248.out] at ho12));replace HO_3:=am (Kd.S_elder' (by(with_reducible repeat(first|apply Kd.S_alloc|apply Kd.S_drewN|apply Kd.S_drew));exact HO_3.out) (Kd.R_base ho12) hb);have HO250:=am (Kd.R_lower ho12 (below_size bl));replace HB:=am (below_step bl hb);clear hb ho12;obtain⟨Av249,cv249,ev249⟩:=Kd.R_slice1 HO250.out (by rw[Ny248.out];simp);subst ev249;have p10:0≤(x11_1:Int):=od;have q10:(x11_1:Int)<((x3_1.length:Int):Int):=od;obtain⟨go10,co10,eo10,gb10,gl10,cl10,HG10⟩:=Kd.S_form HO_3.out (by omega);(first|cases eo10|(injection eo10 with ea_ en_ ec_;(first|subst ea_|(injection ea_ with ea_;subst ea_));subst ec_;clear en_));have GB10:=am gb10;have GG10:=am HG10;clear gb10 gl10 HG10;obtain⟨_,ce10,hcl10,hM10,hcc10,hfr10,_,_⟩:=Kd.S_elem HO_3.out [] (x11_1:Int) p10 q10;obtain⟨ve10_0,rfl,ge10_0⟩:=hM10;have hx10_0:=hcc10 0 _ rfl;have hf10_0:=hfr10 0;(try simp only[show((Kd.slice 4 Kd.bool)).sz=1 from rfl,Nat.mul_one,Nat.add_zero] at hx10_0);(try simp only[show((Kd.slice 4 Kd.bool)).sz=1 from rfl,Nat.mul_one,Nat.add_zero] at hf10_0);(try clear hcl10);(try clear hcc10);(try clear hfr10);(try clear hM10);replace p10:=eq_true p10;replace q10:=eq_true q10;have n_:=am (Kd.S_mono (ok':=(fun k_=>some k_≠(Value.slice Av249 y248.length cv249).ownBlock)) HO_3.out (fun k_ hk=>hk.2));clear HO_3;have HO_3:=n_;clear n_;have HX13:=am (show Kd.S (Kd.slice 4 Kd.bool) 87 w11 w.heap.size (fun k_=>((fun _=>True)) k_∧¬ ((fun k_=>some k_=(Value.slice Av249 y248.length cv249).ownBlock)) k_) (.slice (some ⟨go10,0,none⟩) x3_1.length co5) x3_1 from(by(with_reducible repeat(first|apply Kd.S_alloc|apply Kd.S_drewN|apply Kd.S_drew));exact Kd.S_mono HO_3.out (fun k_ hk=>⟨trivial,fun e_=>hk e_⟩)));obtain⟨oki13,ce13,hcl13,hM13,hcc13,hfr13,hoki13,hH13⟩:=Kd.S_elem HX13.out [] (x11_1:Int) (od) (by have h_:(x11_1:Int)<((x3_1.length:Int):Int):=od;first|exact h_|(have e_:=(Kd.S_reads' HO_3.out).1;omega)|simpa using h_);obtain⟨ve13_0,rfl,ge13_0⟩:=hM13;have HP13:=Kd.S_seg hH13 (od) (by have h_:(x11_1:Int)<((x3_1.length:Int):Int):=od;first|exact h_|(have e_:=(Kd.S_reads' HO_3.out).1;omega)|simpa using h_) (seg:=[.slice Av249 y248.length cv249]) (j:=0) (show 1≤1 from by decide) (x':=y248) (Kd.M_row (Kd.R_mono (Kd.R_tight rfl (Kd.R_mono (ok':=fun k_=>((fun _=>True)) k_∧k_≠go10) (Kd.R_apart' (HO250.out) (Kd.S_typed HO_3.out) (by decide)) (fun k_ hk=>⟨trivial,fun e_=>(hk.2) (by rw[e_];rfl)⟩))) (fun _ h_=>Or.inr (h_)))) (fun _ hk=>hk) (fun k_ hk_=>((Kd.R_mono (ok':=fun k_=>((fun _=>True)) k_∧k_≠go10) (Kd.R_apart' (HO250.out) (Kd.S_typed HO_3.out) (by decide)) (fun k_ hk=>⟨trivial,fun e_=>(hk.2) (by rw[e_];rfl)⟩))).1 k_ hk_.symm);have hx13_0:=hcc13 0 _ rfl;(try simp only[show((Kd.slice 4 Kd.bool)).sz=1 from rfl,Nat.mul_one,Nat.add_zero] at hx13_0);have hf13_0:=hfr13 0;(try simp only[show((Kd.slice 4 Kd.bool)).sz=1 from rfl,Nat.mul_one,Nat.add_zero] at hf13_0);(try clear hcl13);(try clear hcc13);(try clear hfr13);(try clear hM13);(try clear hoki13);(try clear hH13);(try simp only[show((Kd.slice 4 Kd.bool)).sz=1 from rfl,Nat.mul_one,Nat.add_zero] at HP13))|((with_reducible refine gate_store (t:=87) (p:=17) rfl ?_);refine store_event (t:=87) (p:=17) (v:=?vo_w14) (w1:=(w11.setCell ⟨go10,(x11_1:Int).toNat,none⟩ (.slice Av249 y248.length cv249))) ?hg ?ho ?hn ?hr ?_;(case ho=>rfl);(case hg=>rfl);(case hn=>rfl);(case hr=>first|(go_simp;done)|(go_simp;rfl));intro w14 hw;have hg:w11.grownBy w14 (some go10):=(by rw[hw];exact HP13.2);have hp_:Kd.S (Kd.slice 4 Kd.bool) 87 w14 w.heap.size (fun _=>True) (.slice (some ⟨go10,0,none⟩) x3_1.length co5) y251:=(by rw[hw,Ny251.out];exact HP13.1);clear HP13;replace HO_3:=am (hp_);replace HB:=am ((by rw[hw];exact below_set (HB.out) GB10.out:Below w.heap.size w w14));clear HO250 hg hw hp_))
    (try simp only[← hl3_1])
    go_roundg k1
    case measure=>have:=HK1.out;omega
    case rel=>exact⟨(y251),(wrap64 (x11_1+1)),fin2,H',⟨by have:=HK1.out;omega⟩,⟨by(try simp only[hl3_1]);(with_reducible repeat(first|apply Kd.S_alloc|apply Kd.S_drewN|apply Kd.S_drew));exact HO_3.out⟩,⟨bl⟩⟩
   ·have c6b0:=decide_eq_false c6
    rw[hl3_1] at c6b0
    clear c6
    have H':=am H
    clear H
    go_wp2
    go_loopg [21] k1 (fun kq v21 w'=>∃(x3_2:List (List Bool)) (x21_2:Int),v21 = .int .i64 x21_2∧Aside0 (spec_rpOpen.l1 kq x3_2 l0 (l0.length:Int) x21_2=some r)∧Aside0 (kq≤k1)∧Aside0 (Kd.S (Kd.slice 4 Kd.bool) 87 w' w.heap.size (fun _=>True) (.slice Ao5 x3_1.length co5) x3_2)∧Aside0 (Below w.heap.size w w'))
    case atStart=>exact⟨(x3_1),(0),fin2,H',⟨Nat.le_refl _⟩,⟨by(try simp only[hl3_1]);(with_reducible repeat(first|apply Kd.S_alloc|apply Kd.S_drewN|apply Kd.S_drew));exact HO_3.out⟩,⟨bl⟩⟩
    case round =>
     clear H'
     try clear c1
     try clear p1
     try clear q1
     try clear hx1
     try clear hf1
     try clear c2
     try clear c2b0
     try clear c2b1
     try clear p2
     try clear c6
     try clear c6b0
     try clear p6
     try clear c7
     try clear c7b0
     try clear c7b1
     try clear c8
     try clear c8b0
     try clear c9
     try clear c9b0
     try clear c10
     try clear p10
     try clear q10
     try clear hx10
     try clear hf10
     try clear c13
     try clear hx13
     try clear hf13
     try clear hx10_0
     try clear hx13_0
     try clear p10
     try clear p2
     try clear q10
     obtain⟨x3_2,x21_2,rfl,HA,HK2,HO_3,HB⟩:=hrel
     have hl3_2:=(Kd.S_reads' HO_3.out).1
     rw[hl3_2] at HO_3
     (try simp only[hl3_2])
     cases gk with
     | zero=>exact absurd HA.out (by simp [spec_rpOpen.l1])
     | succ k2 =>
      have H:=HA.out
      clear HA
      simp only[spec_rpOpen.l1] at H
      rcases itc H with⟨c15,H⟩|⟨c15,H⟩
      ·have c15b0:=decide_eq_true c15
       clear c15
       obtain⟨c16b0,H⟩:=ifb H
       obtain⟨c17b0,H⟩:=ifb H
       have H':=am H
       clear H
       have p252:0≤(x21_2:Int):=od
       have q252:x21_2<(l0.length:Int):=od
       obtain⟨ad252,e252,hx252_0,hx252_1,hx252_2⟩:=at_T51 HR0.out x21_2 p252 q252
       cases e252
       replace hx252_0:=(HB.out.cell (World.block_lt_of_cell? w _ hx252_0)).trans hx252_0
       replace hx252_1:=(HB.out.cell (World.block_lt_of_cell? w _ hx252_1)).trans hx252_1
       replace hx252_2:=(HB.out.cell (World.block_lt_of_cell? w _ hx252_2)).trans hx252_2
       replace p252:=eq_true p252
       replace q252:=eq_true q252
       go_wp2_with (first|((with_reducible refine gate_dst (N:=6) rfl ?_);refine box_event ?hg (N:=6) ?hd (cs := #[.int .i64 0,.int .i64 0,.int .i64 0]) (t:=51) ?hr ?_;(case hd=>rfl);(case hg=>rfl);(case hr=>first|(go_simp;done)|(go_simp;rfl));intro gb253 hg w18 hbox hb;replace HO_3:=am (Kd.S_below (by(with_reducible repeat(first|apply Kd.S_alloc|apply Kd.S_drewN|apply Kd.S_drew));exact HO_3.out) hb);have BK253:=am (hbox);have GW253:=am (ge_ bl hg);have GE253:=am (ge_ bl hg);replace HB:=am (below_step bl hb);clear hb hbox hg;have hcz19_0:w18.cell? ⟨gb253,0,none⟩=some (.int .i64 0):=(blk_cell BK253.out 0).trans rfl;have hcz19_1:w18.cell? ⟨gb253,1,none⟩=some (.int .i64 0):=(blk_cell BK253.out 1).trans rfl;have hcz19_2:w18.cell? ⟨gb253,2,none⟩=some (.int .i64 0):=(blk_cell BK253.out 2).trans rfl;have hfz19_0:=blk_frozen BK253.out 0;have hfz19_1:=blk_frozen BK253.out 1;have hfz19_2:=blk_frozen BK253.out 2))
       go_loopg [7] k2 (fun kq v7 w'=>∃(x3_3:List (List Bool)) (x7_3:Int),v7 = .int .i64 x7_3∧Aside0 (spec_rpOpen.l2 kq x3_3 x7_3 l0 (l0.length:Int) x21_2 ((rd_T51 l0 x21_2).f0) ((rd_T51 l0 x21_2).f1) ((rd_T51 l0 x21_2).f2)=some r)∧Aside0 (kq≤k2)∧Aside0 (Kd.S (Kd.slice 4 Kd.bool) 87 w' w.heap.size (fun _=>True) (.slice Ao5 x3_2.length co5) x3_3)∧Aside0 (w'.heap[gb253]?=some (.cells #[.int .i64 ((rd_T51 l0 x21_2).f0),.int .i64 ((rd_T51 l0 x21_2).f1),.int .i64 ((rd_T51 l0 x21_2).f2)] 51 (0,0)))∧Aside0 (Below w.heap.size w w'))
       case atStart=>exact⟨(x3_2),((rd_T51 l0 x21_2).f1),fin2,H',⟨Nat.le_refl _⟩,⟨by(try simp only[hl3_1]);(try simp only[hl3_2]);(with_reducible repeat(first|apply Kd.S_alloc|apply Kd.S_drewN|apply Kd.S_drew));exact Kd.S_mono (Kd.S_far (p:=⟨gb253,2,none⟩) (Kd.S_far (p:=⟨gb253,1,none⟩) (Kd.S_far (p:=⟨gb253,0,none⟩) (Kd.S_types HO_3.out BK253.out (by decide)) (fun _ hk=>hk.2) (.int .i64 ((rd_T51 l0 x21_2).f0))) (fun _ hk=>hk.2) (.int .i64 ((rd_T51 l0 x21_2).f1))) (fun _ hk=>hk.2) (.int .i64 ((rd_T51 l0 x21_2).f2))) (fun _ hk=>trivial)⟩,⟨by(try simp only[hl3_1]);(try simp only[hl3_2]);(with_reducible repeat(first|refine bN_ ?_ _|refine bD_ ?_|refine bA_ ?_ _));refine blk_put (cs := #[.int .i64 ((rd_T51 l0 x21_2).f0),.int .i64 ((rd_T51 l0 x21_2).f1),.int .i64 0]) ?_ 2 _ rfl;(with_reducible repeat(first|refine bN_ ?_ _|refine bD_ ?_|refine bA_ ?_ _));refine blk_put (cs := #[.int .i64 ((rd_T51 l0 x21_2).f0),.int .i64 0,.int .i64 0]) ?_ 1 _ rfl;(with_reducible repeat(first|refine bN_ ?_ _|refine bD_ ?_|refine bA_ ?_ _));refine blk_put (cs := #[.int .i64 0,.int .i64 0,.int .i64 0]) ?_ 0 _ rfl;exact bup BK253.out⟩,⟨bl⟩⟩
       case round =>
        clear H'
        try clear c1
        try clear p1
        try clear q1
        try clear hx1
        try clear hf1
        try clear c2
        try clear c2b0
        try clear c2b1
        try clear p2
        try clear q2
        try clear hx2
        try clear c6
        try clear c6b0
        try clear p6
        try clear c7
        try clear c7b0
        try clear c7b1
        try clear c8
        try clear c8b0
        try clear c9
        try clear c9b0
        try clear c10
        try clear p10
        try clear q10
        try clear hx10
        try clear hf10
        try clear c13
        try clear hx13
        try clear hf13
        try clear c15
        try clear c15b0
        try clear c16
        try clear c16b0
        try clear c17
        try clear c17b0
        try clear hcz19_0
        try clear hcz19_1
        try clear hcz19_2
        try clear hfz19_0
        try clear hfz19_1
        try clear hfz19_2
        try clear hx10_0
        try clear hx13_0
        try clear hx252_0
        try clear hx252_1
        try clear hx252_2
        try clear p1
        try clear p10
        try clear p2
        try clear p252
        try clear p6
        try clear q1
        try clear q10
        try clear q252
        obtain⟨x3_3,x7_3,rfl,HA,HK3,HO_3,BK253,HB⟩:=hrel
        have hl3_3:=(Kd.S_reads' HO_3.out).1
        rw[hl3_3] at HO_3
        (try simp only[hl3_3])
        (try simp only[hl3_3] at BK253)
        cases gk with
        | zero=>exact absurd HA.out (by simp [spec_rpOpen.l2])
        | succ k3 =>
         have H:=HA.out
         clear HA
         simp only[spec_rpOpen.l2] at H
         rcases itc H with⟨c20,H⟩|⟨c20,H⟩
         ·have c20b0:=decide_eq_true c20
          clear c20
          obtain⟨c21b0,H⟩:=ifb H
          obtain⟨c22b0,H⟩:=ifb H
          obtain⟨c23b0,H⟩:=ifb H
          obtain⟨c24b0,H⟩:=ifb H
          obtain⟨y255,hy255⟩:∃ y_:List Bool,y_=((rd_L7 x3_3 ((rd_T51 l0 x21_2).f0)).set (x7_3:Int).toNat true):=⟨_,rfl⟩
          replace H:(spec_rpOpen.l2 k3 (x3_3.set (((rd_T51 l0 x21_2).f0):Int).toNat y255) (wrap64 (x7_3+1)) l0 (l0.length:Int) x21_2 ((rd_T51 l0 x21_2).f0) ((rd_T51 l0 x21_2).f1) ((rd_T51 l0 x21_2).f2))=some r:=by subst hy255;exact H
          have Ny255:=am hy255
          clear hy255
          obtain⟨y257,hy257⟩:∃ y_:List (List Bool),y_=(x3_3.set (((rd_T51 l0 x21_2).f0):Int).toNat y255):=⟨_,rfl⟩
          replace H:(spec_rpOpen.l2 k3 y257 (wrap64 (x7_3+1)) l0 (l0.length:Int) x21_2 ((rd_T51 l0 x21_2).f0) ((rd_T51 l0 x21_2).f1) ((rd_T51 l0 x21_2).f2))=some r:=by subst hy257;exact H
          have Ny257:=am hy257
          clear hy257
          have H':=am H
          clear H
          have hcz26_0:wr.cell? ⟨gb253,0,none⟩=some (.int .i64 ((rd_T51 l0 x21_2).f0)):=(blk_cell BK253.out 0).trans rfl
          have hcz26_1:wr.cell? ⟨gb253,1,none⟩=some (.int .i64 ((rd_T51 l0 x21_2).f1)):=(blk_cell BK253.out 1).trans rfl
          have hcz26_2:wr.cell? ⟨gb253,2,none⟩=some (.int .i64 ((rd_T51 l0 x21_2).f2)):=(blk_cell BK253.out 2).trans rfl
          have hfz26_0:=blk_frozen BK253.out 0
          have hfz26_1:=blk_frozen BK253.out 1
          have hfz26_2:=blk_frozen BK253.out 2
          have p254:0≤(((rd_T51 l0 x21_2).f0):Int):=od
          have q254:((rd_T51 l0 x21_2).f0)<(x3_3.length:Int):=od
          obtain⟨ad254,A254_0,c254_0,e254,hx254_0,hl254_0,hi254_0⟩:=at_L7 (Kd.S_reads' HO_3.out).2.2 ((rd_T51 l0 x21_2).f0) p254 q254
          cases e254
          obtain⟨ce254,hce254,hMe254,hcc254⟩:=Kd.S_get HO_3.out [] ((rd_T51 l0 x21_2).f0) p254 (by first|exact q254|exact od|(have e_:=(Kd.S_reads' HO_3.out).1;omega))
          obtain⟨ve254_0,rfl,ge254_0⟩:=hMe254
          have hv254_0:=hcc254 0 _ rfl
          rw[Nat.add_zero,show((Kd.slice 4 Kd.bool)).sz=1 from rfl,Nat.mul_one] at hv254_0
          replace hv254_0:=Option.some.inj (hv254_0.symm.trans hx254_0)
          rw[hv254_0] at ge254_0
          have HL254_0:=am (show Kd.R Kd.bool 4 _ _ _ _ (rd_L7 x3_3 ((rd_T51 l0 x21_2).f0)) from ge254_0)
          clear hv254_0 ge254_0
          have HX254_0:=am hx254_0
          clear hcc254 hce254
          have HR254_0:=am hi254_0
          have HC254_0:=am hl254_0
          clear hi254_0 hl254_0
          replace p254:=eq_true p254
          replace q254:=eq_true q254
          have p25:0≤(x7_3:Int):=od
          have q25:(x7_3:Int)<(((rd_L7 x3_3 ((rd_T51 l0 x21_2).f0)).length:Int):Int):=od
          obtain⟨go25,co25,eo25,gb25,gl25,cl25,HG25⟩:=Kd.R_form HL254_0.out (by omega)
          (first|cases eo25|(injection eo25 with ea_ en_ ec_;(first|subst ea_|(injection ea_ with ea_;subst ea_));subst ec_;clear en_))
          have GB25:=am gb25
          have GG25:=am HG25
          clear gb25 gl25 HG25
          obtain⟨hx25_0,hf25_0⟩:=Kd.R_celln false HL254_0.out (x7_3:Int) p25 q25
          replace p25:=eq_true p25
          replace q25:=eq_true q25
          have hq27:(((rd_T51 l0 x21_2).f0):Int)<(x3_3.length:Int):=(by have h_:(((rd_T51 l0 x21_2).f0):Int)<((x3_3.length:Int):Int):=od;first|exact h_|(have e_:=(Kd.S_reads' HO_3.out).1;omega)|simpa only [List.length_set,List.length_set] using h_)
          obtain⟨oki27,ce27,hcl27,hM27,hcc27,hok27,hbk27⟩:=Kd.S_borrow HO_3.out [] (((rd_T51 l0 x21_2).f0):Int) (od) hq27
          obtain⟨ve27_0,rfl,ge27_0⟩:=hM27
          have hv27:=hcc27 0 _ rfl
          rw[Nat.add_zero,show((Kd.slice 4 Kd.bool)).sz=1 from rfl,Nat.mul_one] at hv27
          replace hv27:=Option.some.inj (hv27.symm.trans HX254_0.out)
          subst hv27
          clear hcc27 hcl27
          replace ge27_0:=(show Kd.R Kd.bool 4 _ _ _ _ (rd_L7 x3_3 ((rd_T51 l0 x21_2).f0)) from ge27_0)
          have HP27:=Kd.R_putg ge27_0 (x7_3:Int) true
          go_wp2_with (first|((with_reducible refine gate_store (t:=4) (p:=39) rfl ?_);refine store_event (t:=4) (p:=39) (v:=?vo_w28) (w1:=(wr.setCell ⟨go25,(x7_3:Int).toNat,none⟩ (.bool true))) ?hg ?ho ?hn ?hr ?_;(case ho=>rfl);(case hg=>rfl);(case hn=>rfl);(case hr=>first|(go_simp;done)|(go_simp;rfl));intro w28 hw;have hg:wr.grownBy w28 (some go25):=(by rw[hw];exact HP27.2);have hz_:Kd.R Kd.bool 4 w28 w.heap.size oki27 (.slice (some ⟨go25,0,none⟩) (rd_L7 x3_3 ((rd_T51 l0 x21_2).f0)).length c254_0) y255:=(by rw[hw,Ny255.out];exact HP27.1);have hp_:Kd.S (Kd.slice 4 Kd.bool) 87 w28 w.heap.size (fun _=>True) (.slice (some ad254) x3_3.length co5) y257:=(by rw[Ny257.out];exact hbk27 hg (fun k_ e_=>by injection e_ with e_;subst e_;exact ge27_0.1 _ rfl) (Kd.M_row hz_));have hm_:=Kd.R_mono hz_ hok27;clear HP27 hbk27;replace HO_3:=am (hp_);replace BK253:=am (blk_grown (bup BK253.out) hg (Kd.R_ne HL254_0.out BK253.out (by decide)));replace HB:=am ((by rw[hw];exact below_set (HB.out) GB25.out:Below w.heap.size w w28));have HL258:=am (hm_);have HC256:=am ((Kd.R_reads' hm_).2.1);clear HL254_0 hg hw hp_ hz_ hm_ hok27))
          (try simp only[← hl3_3])
          go_roundg k3
          case measure=>have:=HK1.out;have:=HK2.out;have:=HK3.out;omega
          case rel=>exact⟨(y257),(wrap64 (x7_3+1)),fin2,H',⟨by have:=HK1.out;have:=HK2.out;have:=HK3.out;omega⟩,⟨by(try simp only[hl3_1]);(try simp only[hl3_2]);(try simp only[hl3_3]);(with_reducible repeat(first|apply Kd.S_alloc|apply Kd.S_drewN|apply Kd.S_drew));exact HO_3.out⟩,⟨by(try simp only[hl3_1]);(try simp only[hl3_2]);(try simp only[hl3_3]);exact bup BK253.out⟩,⟨bl⟩⟩
         ·have c20b0:=decide_eq_false c20
          clear c20
          have H':=am H
          clear H
          have hcz29_0:wr.cell? ⟨gb253,0,none⟩=some (.int .i64 ((rd_T51 l0 x21_2).f0)):=(blk_cell BK253.out 0).trans rfl
          have hcz29_1:wr.cell? ⟨gb253,1,none⟩=some (.int .i64 ((rd_T51 l0 x21_2).f1)):=(blk_cell BK253.out 1).trans rfl
          have hcz29_2:wr.cell? ⟨gb253,2,none⟩=some (.int .i64 ((rd_T51 l0 x21_2).f2)):=(blk_cell BK253.out 2).trans rfl
          have hfz29_0:=blk_frozen BK253.out 0
          have hfz29_1:=blk_frozen BK253.out 1
          have hfz29_2:=blk_frozen BK253.out 2
          go_wp2
          (try simp only[← hl3_2,← hl3_3])
          go_roundg k3
          case measure=>have:=HK1.out;have:=HK2.out;have:=HK3.out;omega
          case rel=>exact⟨(x3_3),(wrap64 (x21_2+1)),fin2,H',⟨by have:=HK1.out;have:=HK2.out;have:=HK3.out;omega⟩,⟨by(try simp only[hl3_1]);(try simp only[hl3_2]);(try simp only[hl3_3]);(with_reducible repeat(first|apply Kd.S_alloc|apply Kd.S_drewN|apply Kd.S_drew));exact HO_3.out⟩,⟨bl⟩⟩
      ·have c15b0:=decide_eq_false c15
       clear c15
       obtain rfl:=Option.some.inj H
       go_wp2
       go_ret
       exact⟨_,fin1,by(with_reducible repeat(first|apply Kd.S_alloc|apply Kd.S_drewN|apply Kd.S_drew));exact HO_3.out,bl⟩

def spec_rpAll.l0:Nat→List (List Bool)→Int→Int→Bool→Int→Option (Bool)
 | 0,_,_,_,_,_=>none
 | k+1,x0,x1,x3,x4,x11=>if x11<x3 then(if 0≤x1 then(if x1<(x0.length:Int) then(if 0≤x11 then(if x11<((rd_L7 x0 x1).length:Int) then(if((rdOf false (rd_L7 x0 x1) x11) != x4)=true then(some false) else(spec_rpAll.l0 k x0 x1 x3 x4 (wrap64 (x11+1)))) else(none)) else(none)) else(none)) else(none)) else(some true)
def spec_rpAll.f (k:Nat) (l0:List (List Bool)) (a1:Int) (a2:Int) (a3:Int) (a4:Bool):Option (Bool):=spec_rpAll.l0 k l0 a1 a3 a4 a2
set_option maxHeartbeats 8000000 in
set_option maxRecDepth 100000 in
theorem spec_rpAll.calls (k:Nat) (A0:Option Addr) (c0:Nat) (l0:List (List Bool)) (a1:Int) (a2:Int) (a3:Int) (a4:Bool) (r:Bool) (w:World) (hr0:Kd.C (Kd.slice 4 Kd.bool) w A0 l0.length l0) (hc0:l0.length≤c0) (h:spec_rpAll.f k l0 a1 a2 a3 a4=some r) :
  Calls Try.prog 62 #[.slice A0 l0.length c0,.int .i64 a1,.int .i64 a2,.int .i64 a3,.bool a4] w fun e w'=>e = .returned (.bool r)∧Drawn0 w w':=by
 have HR0:=am hr0
 have HC0:=am hc0
 clear hr0 hc0
 have H:(spec_rpAll.l0 k l0 a1 a3 a4 a2)=some r:=h
 clear h
 have H':=am H
 clear H
 go_enter Try.func62,Try.ntmps62
 go_wp2
 go_loopg [11] k (fun kq v11 w'=>∃(x11_1:Int),v11 = .int .i64 x11_1∧Aside0 (spec_rpAll.l0 kq l0 a1 a3 a4 x11_1=some r)∧Aside0 (kq≤k)∧Drawn0 w w')
 case atStart=>exact⟨(a2),fin2,H',⟨Nat.le_refl _⟩,by repeat(first|exact Drawn0.refl _|apply Drawn0.step)⟩
 case round =>
  clear H'
  try clear p2
  obtain⟨x11_1,rfl,HA,HK1,⟨m1,rfl⟩⟩:=hrel
  cases gk with
  | zero=>exact absurd HA.out (by simp [spec_rpAll.l0])
  | succ k1 =>
   have H:=HA.out
   clear HA
   simp only[spec_rpAll.l0] at H
   rcases itc H with⟨c6,H⟩|⟨c6,H⟩
   ·have c6b0:=decide_eq_true c6
    clear c6
    obtain⟨c7b0,H⟩:=ifb H
    obtain⟨c8b0,H⟩:=ifb H
    obtain⟨c9b0,H⟩:=ifb H
    obtain⟨c10b0,H⟩:=ifb H
    rcases itc H with⟨c11,H⟩|⟨c11,H⟩
    ·have c11b0:((rdOf false (rd_L7 l0 a1) x11_1) != a4)=true:=c11
     (try(have c11b1:decide ((rdOf false (rd_L7 l0 a1) x11_1)=a4)=false:=by simpa using c11))
     (try(have c11b2:((rdOf false (rd_L7 l0 a1) x11_1) == a4)=false:=by simpa using c11))
     (try(have c11b3:¬ ((rdOf false (rd_L7 l0 a1) x11_1)=a4):=by simpa using c11))
     clear c11
     obtain rfl:=Option.some.inj H
     have p259:0≤(a1:Int):=od
     have q259:a1<(l0.length:Int):=od
     obtain⟨ad259,A259_0,c259_0,e259,hx259_0,hl259_0,hi259_0⟩:=at_L7 HR0.out a1 p259 q259
     cases e259
     have HR259_0:=am hi259_0
     have HC259_0:=am hl259_0
     clear hi259_0 hl259_0
     replace p259:=eq_true p259
     replace q259:=eq_true q259
     have p260:0≤(x11_1:Int):=od
     have q260:x11_1<((rd_L7 l0 a1).length:Int):=od
     obtain⟨ad260,e260,hx260_0⟩:=Kd.at_bool HR259_0.out x11_1 p260 q260
     cases e260
     replace p260:=eq_true p260
     replace q260:=eq_true q260
     go_wp2
     go_ret
     exact⟨by first|rfl|(simp;done)|(simp [*];done),by repeat(first|exact Drawn0.refl _|apply Drawn0.step)⟩
    ·have c11b0:((rdOf false (rd_L7 l0 a1) x11_1) != a4)=false:=by simpa using c11
     (try(have c11b1:decide ((rdOf false (rd_L7 l0 a1) x11_1)=a4)=true:=by simpa using c11))
     (try(have c11b2:((rdOf false (rd_L7 l0 a1) x11_1) == a4)=true:=by simpa using c11))
     clear c11
     have H':=am H
     clear H
     have p259:0≤(a1:Int):=od
     have q259:a1<(l0.length:Int):=od
     obtain⟨ad259,A259_0,c259_0,e259,hx259_0,hl259_0,hi259_0⟩:=at_L7 HR0.out a1 p259 q259
     cases e259
     have HR259_0:=am hi259_0
     have HC259_0:=am hl259_0
     clear hi259_0 hl259_0
     replace p259:=eq_true p259
     replace q259:=eq_true q259
     have p260:0≤(x11_1:Int):=od
     have q260:x11_1<((rd_L7 l0 a1).length:Int):=od
     obtain⟨ad260,e260,hx260_0⟩:=Kd.at_bool HR259_0.out x11_1 p260 q260
     cases e260
     replace p260:=eq_true p260
     replace q260:=eq_true q260
     go_wp2
     go_roundg k1
     case measure=>have:=HK1.out;omega
     case rel=>exact⟨(wrap64 (x11_1+1)),fin2,H',⟨by have:=HK1.out;omega⟩,by repeat(first|exact Drawn0.refl _|apply Drawn0.step)⟩
   ·have c6b0:=decide_eq_false c6
    clear c6
    obtain rfl:=Option.some.inj H
    go_wp2
    go_ret
    exact⟨by first|rfl|(simp;done)|(simp [*];done),by repeat(first|exact Drawn0.refl _|apply Drawn0.step)⟩

def spec_l1Own.f (l0:List Int):Option (List Int):=(some (([]:List Int):List Int)).bind fun y261=>(if y261.length+l0.length<17592186044416 then(some (y261 ++ l0)) else(none))
set_option maxHeartbeats 8000000 in
set_option maxRecDepth 100000 in
theorem spec_l1Own.calls (A0:Option Addr) (c0:Nat) (l0:List Int) (r:List Int) (w:World) (hr0:Kd.C (Kd.int .i64) w A0 l0.length l0) (hc0:l0.length≤c0) (h:spec_l1Own.f l0=some r) :
  Calls Try.prog 63 #[.slice A0 l0.length c0] w fun e w'=>∃ v0_:Value,e = .returned (v0_)∧Kd.R (Kd.int .i64) 3 w' w.heap.size (fun _=>True) v0_ r∧Below w.heap.size w w':=by
 have HR0:=am hr0
 have HC0:=am hc0
 clear hr0 hc0
 have HB:=am (Below.refl w.heap.size w)
 have H:((some (([]:List Int):List Int)).bind fun y261=>(if y261.length+l0.length<17592186044416 then(some (y261 ++ l0)) else(none)))=some r:=h
 clear h
 obtain⟨y261,hy261⟩:∃ y_:List Int,y_=(([]:List Int)):=⟨_,rfl⟩
 replace H:(if y261.length+l0.length<17592186044416 then(some (y261 ++ l0)) else(none))=some r:=by subst hy261;exact H
 have Ny261:=am hy261
 clear hy261
 obtain⟨c2,H⟩:=ifp H
 have LMc2:=am c2
 clear c2
 obtain⟨y264,hy264⟩:∃ y_:List Int,y_=(y261 ++ l0):=⟨_,rfl⟩
 replace H:(some y264)=some r:=by subst hy264;exact H
 have Ny264:=am hy264
 clear hy264
 obtain rfl:=Option.some.inj H
 go_enter Try.func63,Try.ntmps63
 go_wp2_with (first|((with_reducible refine gate_dst (N:=3) rfl ?_);refine Kd.R_lit (Kd.int .i64) _ 3 ?hg (N:=3) ?hd (xs:=([]:List Int)) (inner:=[]) (ok:=fun _=>True) (okp:=fun _=>True) ?hr ?hp (fun _ hk=>hk) trivial (Below.refl _ _) (Nat.le_refl _) (by simp) ?_;(case hd=>rfl);(case hg=>rfl);(case hr=>first|(go_simp;done)|(go_simp;rfl));(case hp=>exact(Reps.none _ _));intro v262 w3 ho4 hb hg_ hnew_;clear hg_ hnew_;(first|rw[← Ny261.out] at ho4|(simp only[Int.reduceToNat] at ho4;rw[← Ny261.out] at ho4));have HO263:=am (Kd.R_lower ho4 (below_size bl));replace HB:=am (below_step bl hb);clear hb ho4)|((with_reducible refine gate_builtin (b := .append) (xs := #[.tmp 3,.tmp 4]) rfl ?_);at_builtin;refine Kd.R_append_rows (Kd.int .i64) (w0:=w) w.heap.size rfl (.tmp 3) (.tmp 4) 22 3 (.int .i64 0) 8 rfl Try.underlying22 info3 rfl (by decide) (by omega) v262 y261 l0 _ _ _ (fun _=>True) (fun _=>False) rfl rfl ?aO ?aR (fun _ _ h=>h) (fun _ h=>h.elim) ?aF ?aB ?aS ?aL ?_;(case aR=>exact cup (Kd.C_below HR0.out HB.out));(case aB=>exact bl);(case aF=>exact(fun _ _=>trivial));(case aO=>exact(rup HO263.out));(case aS=>exact(below_size bl));(case aL=>have:=LMc2.out;omega);intro v265 w5 ho hb hg hat;rw[← Ny264.out] at ho;replace HB:=am (hb);have HO266:=am (ho);clear HO263 ho hb hg hat))
 go_ret
 exact⟨_,fin1,by(with_reducible repeat(first|apply Kd.R_alloc|apply Kd.R_drewN|apply Kd.R_drew));exact HO266.out,bl⟩

end Go.Proofs.Ythmpginbaafbhaa.PFnExactRepairToPlay
