/- The walks of functions that FnExactPassesVerifier reaches: what they return is what the plain functions of the same names say. Laid by a program of this session after the kit's print. No conditions beyond the arguments' being read. -/
import Derived.Test.YtipklbjbgbbgpaaSPassesVerifier0
import Derived.Test.YtipklbjbgbbgpaaSPassesVerifier5
import Derived.Test.YtipklbjbgbbgpaaSPassesVerifier8
namespace Go.Proofs.Ytipklbjbgbbgpaa.PFnExactPassesVerifier
open Go.RowKit Go.Proofs.YtipklbjbgbbgpaaW.PrintWords Go.Proofs.YtipklbjbgbbgpaaW.PrintLast Go.Proofs.YtipklbjbgbbgpaaW.PrintMore
attribute [local go_sem] max2_int min2_int max_two min_two max_three min_three max_four min_four   -- for this text's walks alone
set_option linter.unusedVariables false
set_option linter.unusedSimpArgs false

def spec_PassesVerifier.f (k:Nat) (l0_0:List Int) (a0_1:Int) (l1:List (S62)) (l2:List (S66)) (a3_0:Int) (a3_1:Int) (a3_2:Int) (a4:Int):Option (Bool×Bool):=(spec_vfAll.f k l0_0 a0_1 l1 l2 a3_0 a3_1 a3_2 a4).bind fun t237=>(if t237=true then((spec_vfFaults.f k l0_0 a0_1 l1 l2 a3_0 a3_1 a3_2 a4).bind fun t238=>(some (((t238.length:Int) == 0),true))) else(some (false,false)))
set_option maxHeartbeats 8000000 in
set_option maxRecDepth 100000 in
theorem spec_PassesVerifier.calls (k:Nat) (A0_0:Option Addr) (c0_0:Nat) (l0_0:List Int) (a0_1:Int) (A1:Option Addr) (c1:Nat) (l1:List (S62)) (A2:Option Addr) (c2:Nat) (l2:List (S66)) (a3_0:Int) (a3_1:Int) (a3_2:Int) (a4:Int) (r1:Bool) (r2:Bool) (w:World) (hr0_0:Kd.C (Kd.int .i64) w A0_0 l0_0.length l0_0) (hc0_0:l0_0.length≤c0_0) (hr1:Kd.C k62 w A1 l1.length l1) (hc1:l1.length≤c1) (hr2:Kd.C k66 w A2 l2.length l2) (hc2:l2.length≤c2) (h:spec_PassesVerifier.f k l0_0 a0_1 l1 l2 a3_0 a3_1 a3_2 a4=some (r1,r2)) :
  Calls Try.prog 9 #[.agg #[.slice A0_0 l0_0.length c0_0,.int .i64 a0_1],.slice A1 l1.length c1,.slice A2 l2.length c2,.agg #[.int .i64 a3_0,.int .i64 a3_1,.int .i64 a3_2],.int .i64 a4] w fun e w'=>e = .returned (.tuple #[.bool r1,.bool r2])∧Below w.heap.size w w':=by
 have hu34:=Try.underlying34
 have hu40:=Try.underlying40
 have HR0_0:=am hr0_0
 have HC0_0:=am hc0_0
 clear hr0_0 hc0_0
 have HR1:=am hr1
 have HC1:=am hc1
 clear hr1 hc1
 have HR2:=am hr2
 have HC2:=am hc2
 clear hr2 hc2
 have HB:=am (Below.refl w.heap.size w)
 have H:((spec_vfAll.f k l0_0 a0_1 l1 l2 a3_0 a3_1 a3_2 a4).bind fun t237=>(if t237=true then((spec_vfFaults.f k l0_0 a0_1 l1 l2 a3_0 a3_1 a3_2 a4).bind fun t238=>(some (((t238.length:Int) == 0),true))) else(some (false,false))))=some (r1,r2):=h
 clear h
 replace H:=Option.bind_eq_some_iff.mp H
 obtain⟨t237,A60,H⟩:=H
 replace H:(if t237=true then((spec_vfFaults.f k l0_0 a0_1 l1 l2 a3_0 a3_1 a3_2 a4).bind fun t238=>(some (((t238.length:Int) == 0),true))) else(some (false,false)))=some (r1,r2):=H
 have A6:=am A60
 clear A60
 by_cases c7:t237=true
 ·subst c7
  replace H:=(if_pos rfl).symm.trans H
  replace H:=Option.bind_eq_some_iff.mp H
  obtain⟨t238,A80,H⟩:=H
  replace H:(some (((t238.length:Int) == 0),true))=some (r1,r2):=H
  have A8:=am A80
  clear A80
  simp only[Option.some.injEq,Prod.mk.injEq] at H
  obtain⟨rfl,rfl⟩:=H
  go_enter Try.func9,Try.ntmps9
  go_wp2_with (first|((with_reducible refine gate_dst (N:=5) rfl ?_);refine box_event ?hg (N:=5) ?hd (cs := #[.slice A0_0 l0_0.length c0_0,.int .i64 a0_1]) (t:=34) ?hr ?_;(case hd=>rfl);(case hg=>rfl);(case hr=>first|(go_simp;done)|(go_simp;rfl));intro gb235 hg w9 hbox hb;have BK235:=am (hbox);have GW235:=am (ge_ bl hg);have GE235:=am (ge_ bl hg);replace HB:=am (below_step bl hb);clear hb hbox hg)|((with_reducible refine gate_dst (N:=8) rfl ?_);refine box_event ?hg (N:=8) ?hd (cs := #[.int .i64 a3_0,.int .i64 a3_1,.int .i64 a3_2]) (t:=40) ?hr ?_;(case hd=>rfl);(case hg=>rfl);(case hr=>first|(go_simp;done)|(go_simp;rfl));intro gb236 hg w10 hbox hb;have BK236:=am (hbox);have GW236:=am (ge_ bl hg);have GE236:=am (ge_ bl hg);replace HB:=am (below_step bl hb);have NB235_236:=am (nl (bup BK235.out) hg);have NB236_235:=am (ng (bup BK235.out) hg);replace BK235:=am (blk_below (bup BK235.out) hb);clear hb hbox hg;have hnb11:=NB235_236.out;have hnc11:=NB236_235.out;have hcz12_0:=bc BK235.out 0;have hcz12_1:=bc BK235.out 1;have hfz12_0:=blk_frozen BK235.out 0;have hfz12_1:=blk_frozen BK235.out 1;have hcz13_0:=bc BK236.out 0;have hcz13_1:=bc BK236.out 1;have hcz13_2:=bc BK236.out 2;have hfz13_0:=blk_frozen BK236.out 0;have hfz13_1:=blk_frozen BK236.out 1;have hfz13_2:=blk_frozen BK236.out 2)|((with_reducible refine gate_callee (f:=29) rfl ?_);refine goesL_ (some 17) rfl rfl Try.func29 (by kernel_rfl) rfl #[.agg #[.slice A0_0 l0_0.length c0_0,.int .i64 a0_1],.slice A1 l1.length c1,.slice A2 l2.length c2,.agg #[.int .i64 a3_0,.int .i64 a3_1,.int .i64 a3_2],.int .i64 a4] rfl tl ?_;(with_reducible refine(spec_vfAll.calls k _ _ l0_0 a0_1 _ _ l1 _ _ l2 a3_0 a3_1 a3_2 a4 true _ ?side1 ?side2 ?side3 ?side4 ?side5 ?side6 A6.out).mono ?_);(case side1=>exact cup (Kd.C_below HR0_0.out HB.out));(case side2=>exact HC0_0.out);(case side3=>exact cup (Kd.C_below HR1.out HB.out));(case side4=>exact HC1.out);(case side5=>exact cup (Kd.C_below HR2.out HB.out));(case side6=>exact HC2.out);rintro e w14 ⟨rfl,hb⟩;refine⟨_,rfl,?_⟩;replace BK235:=am (blk_below (bup BK235.out) hb);replace BK236:=am (blk_below (bup BK236.out) hb);replace HB:=am (below_step bl hb);(try clear hb);have hcz15_0:=bc BK235.out 0;have hcz15_1:=bc BK235.out 1;have hfz15_0:=blk_frozen BK235.out 0;have hfz15_1:=blk_frozen BK235.out 1;have hcz16_0:=bc BK236.out 0;have hcz16_1:=bc BK236.out 1;have hcz16_2:=bc BK236.out 2;have hfz16_0:=blk_frozen BK236.out 0;have hfz16_1:=blk_frozen BK236.out 1;have hfz16_2:=blk_frozen BK236.out 2)|((with_reducible refine gate_callee (f:=30) rfl ?_);refine goesL_ (some 24) rfl rfl Try.func30 (by kernel_rfl) rfl #[.agg #[.slice A0_0 l0_0.length c0_0,.int .i64 a0_1],.slice A1 l1.length c1,.slice A2 l2.length c2,.agg #[.int .i64 a3_0,.int .i64 a3_1,.int .i64 a3_2],.int .i64 a4] rfl tl ?_;(with_reducible refine(spec_vfFaults.calls k _ _ l0_0 a0_1 _ _ l1 _ _ l2 a3_0 a3_1 a3_2 a4 t238 _ ?side1 ?side2 ?side3 ?side4 ?side5 ?side6 A8.out).mono ?_);(case side1=>exact cup (Kd.C_below HR0_0.out HB.out));(case side2=>exact HC0_0.out);(case side3=>exact cup (Kd.C_below HR1.out HB.out));(case side4=>exact HC1.out);(case side5=>exact cup (Kd.C_below HR2.out HB.out));(case side6=>exact HC2.out);rintro e w17 ⟨v239,rfl,ho0,hb⟩;refine⟨_,rfl,?_⟩;have HO240:=am (Kd.S_lower ho0 (below_size bl));replace BK235:=am (blk_below (bup BK235.out) hb);replace BK236:=am (blk_below (bup BK236.out) hb);replace HB:=am (below_step bl hb);(try clear hb);(try clear ho0);obtain⟨Ao18,co18,eo18⟩:=Kd.S_slice HO240.out;subst eo18))
  go_ret2
  exact⟨fin1,bl⟩
 ·replace c7:=Bool.eq_false_iff.mpr c7
  subst c7
  replace H:=(if_neg Bool.false_ne_true).symm.trans H
  simp only[Option.some.injEq,Prod.mk.injEq] at H
  obtain⟨rfl,rfl⟩:=H
  go_enter Try.func9,Try.ntmps9
  go_wp2_with (first|((with_reducible refine gate_dst (N:=5) rfl ?_);refine box_event ?hg (N:=5) ?hd (cs := #[.slice A0_0 l0_0.length c0_0,.int .i64 a0_1]) (t:=34) ?hr ?_;(case hd=>rfl);(case hg=>rfl);(case hr=>first|(go_simp;done)|(go_simp;rfl));intro gb235 hg w19 hbox hb;have BK235:=am (hbox);have GW235:=am (ge_ bl hg);have GE235:=am (ge_ bl hg);replace HB:=am (below_step bl hb);clear hb hbox hg)|((with_reducible refine gate_dst (N:=8) rfl ?_);refine box_event ?hg (N:=8) ?hd (cs := #[.int .i64 a3_0,.int .i64 a3_1,.int .i64 a3_2]) (t:=40) ?hr ?_;(case hd=>rfl);(case hg=>rfl);(case hr=>first|(go_simp;done)|(go_simp;rfl));intro gb236 hg w20 hbox hb;have BK236:=am (hbox);have GW236:=am (ge_ bl hg);have GE236:=am (ge_ bl hg);replace HB:=am (below_step bl hb);have NB235_236:=am (nl (bup BK235.out) hg);have NB236_235:=am (ng (bup BK235.out) hg);replace BK235:=am (blk_below (bup BK235.out) hb);clear hb hbox hg;have hnb21:=NB235_236.out;have hnc21:=NB236_235.out;have hcz22_0:=bc BK235.out 0;have hcz22_1:=bc BK235.out 1;have hfz22_0:=blk_frozen BK235.out 0;have hfz22_1:=blk_frozen BK235.out 1;have hcz23_0:=bc BK236.out 0;have hcz23_1:=bc BK236.out 1;have hcz23_2:=bc BK236.out 2;have hfz23_0:=blk_frozen BK236.out 0;have hfz23_1:=blk_frozen BK236.out 1;have hfz23_2:=blk_frozen BK236.out 2)|((with_reducible refine gate_callee (f:=29) rfl ?_);refine goesL_ (some 17) rfl rfl Try.func29 (by kernel_rfl) rfl #[.agg #[.slice A0_0 l0_0.length c0_0,.int .i64 a0_1],.slice A1 l1.length c1,.slice A2 l2.length c2,.agg #[.int .i64 a3_0,.int .i64 a3_1,.int .i64 a3_2],.int .i64 a4] rfl tl ?_;(with_reducible refine(spec_vfAll.calls k _ _ l0_0 a0_1 _ _ l1 _ _ l2 a3_0 a3_1 a3_2 a4 false _ ?side1 ?side2 ?side3 ?side4 ?side5 ?side6 A6.out).mono ?_);(case side1=>exact cup (Kd.C_below HR0_0.out HB.out));(case side2=>exact HC0_0.out);(case side3=>exact cup (Kd.C_below HR1.out HB.out));(case side4=>exact HC1.out);(case side5=>exact cup (Kd.C_below HR2.out HB.out));(case side6=>exact HC2.out);rintro e w24 ⟨rfl,hb⟩;refine⟨_,rfl,?_⟩;replace BK235:=am (blk_below (bup BK235.out) hb);replace BK236:=am (blk_below (bup BK236.out) hb);replace HB:=am (below_step bl hb);(try clear hb)))
  go_ret2
  exact⟨fin1,bl⟩

def laws_toIntS.l0:Nat→List Int→List Int→Int→Option (List Int)
 | 0,_,_,_=>none
 | k+1,x0,x3,x4=>if x4<(x0.length:Int) then(if 0≤x4 then(if x4<(x3.length:Int) then(laws_toIntS.l0 k x0 (x3.set (x4:Int).toNat (rd x0 x4)) (wrap64 (x4+1))) else(none)) else(none)) else(some x3)
def laws_toIntS.f (k:Nat) (l0:List Int):Option (List Int):=if 0≤(l0.length:Int) then(if((l0.length:Int):Int).toNat≤35184372088832 then(laws_toIntS.l0 k l0 (List.replicate ((l0.length:Int):Int).toNat 0) 0) else(none)) else(none)
set_option maxHeartbeats 8000000 in
set_option maxRecDepth 100000 in
theorem laws_toIntS.calls (k:Nat) (A0:Option Addr) (c0:Nat) (l0:List Int) (r:List Int) (w:World) (hr0:Kd.C (Kd.int .i64) w A0 l0.length l0) (hc0:l0.length≤c0) (h:laws_toIntS.f k l0=some r) :
  Calls Try.prog 31 #[.slice A0 l0.length c0] w fun e w'=>∃ v0_:Value,e = .returned (v0_)∧Kd.R (Kd.int .i64) 3 w' w.heap.size (fun _=>True) v0_ r∧Below w.heap.size w w':=by
 have HR0:=am hr0
 have HC0:=am hc0
 clear hr0 hc0
 have HB:=am (Below.refl w.heap.size w)
 have H:(if 0≤(l0.length:Int) then(if((l0.length:Int):Int).toNat≤35184372088832 then(laws_toIntS.l0 k l0 (List.replicate ((l0.length:Int):Int).toNat 0) 0) else(none)) else(none))=some r:=h
 clear h
 obtain⟨c2,H⟩:=ifp H
 have c2b0:=eq_true c2
 have c2b1:decide (0≤(l0.length:Int))=true:=decide_eq_true c2
 clear c2
 obtain⟨c3,H⟩:=ifp H
 have c3b0:=eq_true c3
 have c3b1:decide (((l0.length:Int):Int).toNat≤35184372088832)=true:=decide_eq_true c3
 clear c3
 obtain⟨y241,hy241⟩:∃ y_:List Int,y_=(List.replicate ((l0.length:Int):Int).toNat 0):=⟨_,rfl⟩
 replace H:(laws_toIntS.l0 k l0 y241 0)=some r:=by subst hy241;exact H
 have Ny241:=am hy241
 clear hy241
 have H':=am H
 clear H
 go_enter Try.func31,Try.ntmps31
 go_wp2_with (first|((with_reducible refine gate_dst (N:=7) rfl ?_);refine Kd.R_make (Kd.int .i64) _ 3 rfl (N:=7) rfl 22 _ _ rfl (l0.length:Int) rfl rfl Try.underlying22 (.int .i64 0) 8 info3 rfl (by decide) (by omega) 0 (ok:=fun _=>True) (okp:=fun _=>True) rfl (fun _ hk=>hk) trivial (od) (Nat.le_trans (Nat.mul_le_mul_right _ (od:(l0.length:Int).toNat≤35184372088832)) (by omega)) (Below.refl _ _) (Nat.le_refl _) ?_;intro v242 w4 ho5 hb hg_ hnew_;clear hg_ hnew_;(first|rw[← Ny241.out] at ho5|(simp only[Int.reduceToNat] at ho5;rw[← Ny241.out] at ho5));have HO243:=am (Kd.R_lower ho5 (below_size bl));replace HB:=am (below_step bl hb);clear hb ho5))
 go_loopg [4] k (fun kq v4 w'=>∃(x3_1:List Int) (x4_1:Int),v4 = .int .i64 x4_1∧Aside0 (laws_toIntS.l0 kq l0 x3_1 x4_1=some r)∧Aside0 (kq≤k)∧Aside0 (Kd.R (Kd.int .i64) 3 w' w.heap.size (fun _=>True) v242 x3_1)∧Aside0 (Below w.heap.size w w'))
 case atStart=>exact⟨(y241),(0),fin2,H',⟨Nat.le_refl _⟩,⟨rup HO243.out⟩,⟨bl⟩⟩
 case round =>
  clear H'
  try clear c2
  try clear c2b0
  try clear c2b1
  try clear p2
  try clear c3
  try clear c3b0
  try clear c3b1
  obtain⟨x3_1,x4_1,rfl,HA,HK1,HO_3,HB⟩:=hrel
  cases gk with
  | zero=>exact absurd HA.out (by simp [laws_toIntS.l0])
  | succ k1 =>
   have H:=HA.out
   clear HA
   simp only[laws_toIntS.l0] at H
   rcases itc H with⟨c6,H⟩|⟨c6,H⟩
   ·have c6b0:=decide_eq_true c6
    clear c6
    obtain⟨c7b0,H⟩:=ifb H
    obtain⟨c8b0,H⟩:=ifb H
    obtain⟨y245,hy245⟩:∃ y_:List Int,y_=(x3_1.set (x4_1:Int).toNat (rd l0 x4_1)):=⟨_,rfl⟩
    replace H:(laws_toIntS.l0 k1 l0 y245 (wrap64 (x4_1+1)))=some r:=by subst hy245;exact H
    have Ny245:=am hy245
    clear hy245
    have H':=am H
    clear H
    have p244:0≤(x4_1:Int):=od
    have q244:x4_1<(l0.length:Int):=od
    obtain⟨ad244,e244,hx244_0⟩:=Kd.at_int HR0.out x4_1 p244 q244
    cases e244
    replace hx244_0:=(HB.out.cell (World.block_lt_of_cell? w _ hx244_0)).trans hx244_0
    replace p244:=eq_true p244
    replace q244:=eq_true q244
    have p9:0≤(x4_1:Int):=od
    have q9:(x4_1:Int)<((x3_1.length:Int):Int):=od
    obtain⟨go9,co9,eo9,gb9,gl9,cl9,HG9⟩:=Kd.R_form HO_3.out (by omega)
    (first|cases eo9|(injection eo9 with ea_ en_ ec_;(first|subst ea_|(injection ea_ with ea_;subst ea_));subst ec_;clear en_))
    have GB9:=am gb9
    have GG9:=am HG9
    clear gb9 gl9 HG9
    obtain⟨hx9_0,hf9_0⟩:=Kd.R_celln 0 HO_3.out (x4_1:Int) p9 q9
    replace p9:=eq_true p9
    replace q9:=eq_true q9
    have HP10:=Kd.R_putg HO_3.out (x4_1:Int) (rd l0 x4_1)
    go_wp2_with (first|((with_reducible refine gate_store (t:=3) (p:=20) rfl ?_);refine store_event (t:=3) (p:=20) (v:=?vo_w11) (w1:=(wr.setCell ⟨go9,(x4_1:Int).toNat,none⟩ (.int .i64 (rd l0 x4_1)))) ?hg ?ho ?hn ?hr ?_;(case ho=>rfl);(case hg=>rfl);(case hn=>rfl);(case hr=>first|(go_simp;done)|(go_simp;rfl));intro w11 hw;have hg:wr.grownBy w11 (some go9):=(by rw[hw];exact HP10.2);have hp_:Kd.R (Kd.int .i64) 3 w11 w.heap.size (fun _=>True) (.slice (some ⟨go9,0,none⟩) x3_1.length co9) y245:=(by rw[hw,Ny245.out];exact HP10.1);clear HP10;replace HO_3:=am (hp_);replace HB:=am ((by rw[hw];exact below_set (HB.out) GB9.out:Below w.heap.size w w11));clear hg hw hp_))
    go_roundg k1
    case measure=>have:=HK1.out;omega
    case rel=>exact⟨(y245),(wrap64 (x4_1+1)),fin2,H',⟨by have:=HK1.out;omega⟩,⟨rup HO_3.out⟩,⟨bl⟩⟩
   ·have c6b0:=decide_eq_false c6
    clear c6
    obtain rfl:=Option.some.inj H
    go_wp2
    go_ret
    exact⟨_,fin1,by(with_reducible repeat(first|apply Kd.R_alloc|apply Kd.R_drewN|apply Kd.R_drew));exact HO_3.out,bl⟩

def laws_toInstrument.f (k:Nat) (l0_0:List Int) (a0_1:Int):Option (List Int×Int):=(laws_toIntS.f k l0_0).bind fun t249=>(some (t249,a0_1))
set_option maxHeartbeats 8000000 in
set_option maxRecDepth 100000 in
theorem laws_toInstrument.calls (k:Nat) (A0_0:Option Addr) (c0_0:Nat) (l0_0:List Int) (a0_1:Int) (r1:List Int) (r2:Int) (w:World) (hr0_0:Kd.C (Kd.int .i64) w A0_0 l0_0.length l0_0) (hc0_0:l0_0.length≤c0_0) (h:laws_toInstrument.f k l0_0 a0_1=some (r1,r2)) :
  Calls Try.prog 10 #[.agg #[.slice A0_0 l0_0.length c0_0,.int .i64 a0_1]] w fun e w'=>∃ v0_:Value,e = .returned (.agg #[v0_,.int .i64 r2])∧Kd.R (Kd.int .i64) 3 w' w.heap.size (fun _=>True) v0_ r1∧Below w.heap.size w w':=by
 have hu24:=Try.underlying24
 have hu34:=Try.underlying34
 have HR0_0:=am hr0_0
 have HC0_0:=am hc0_0
 clear hr0_0 hc0_0
 have HB:=am (Below.refl w.heap.size w)
 have H:((laws_toIntS.f k l0_0).bind fun t249=>(some (t249,a0_1)))=some (r1,r2):=h
 clear h
 replace H:=Option.bind_eq_some_iff.mp H
 obtain⟨t249,A20,H⟩:=H
 replace H:(some (t249,a0_1))=some (r1,r2):=H
 have A2:=am A20
 clear A20
 simp only[Option.some.injEq,Prod.mk.injEq] at H
 obtain⟨rfl,rfl⟩:=H
 go_enter Try.func10,Try.ntmps10
 go_wp2_with (first|((with_reducible refine gate_dst (N:=1) rfl ?_);refine box_event ?hg (N:=1) ?hd (cs := #[.slice A0_0 l0_0.length c0_0,.int .i64 a0_1]) (t:=24) ?hr ?_;(case hd=>rfl);(case hg=>rfl);(case hr=>first|(go_simp;done)|(go_simp;rfl));intro gb246 hg w3 hbox hb;have BK246:=am (hbox);have GW246:=am (ge_ bl hg);have GE246:=am (ge_ bl hg);replace HB:=am (below_step bl hb);clear hb hbox hg)|((with_reducible refine gate_dst (N:=2) rfl ?_);refine box_event ?hg (N:=2) ?hd (cs := #[.slice none 0 0,.int .i64 0]) (t:=34) ?hr ?_;(case hd=>rfl);(case hg=>rfl);(case hr=>first|(go_simp;done)|(go_simp;rfl));intro gb247 hg w4 hbox hb;have BK247:=am (hbox);have GW247:=am (ge_ bl hg);have GE247:=am (ge_ bl hg);replace HB:=am (below_step bl hb);have NB246_247:=am (nl (bup BK246.out) hg);have NB247_246:=am (ng (bup BK246.out) hg);replace BK246:=am (blk_below (bup BK246.out) hb);clear hb hbox hg)|((with_reducible refine gate_dst (N:=3) rfl ?_);refine box_event ?hg (N:=3) ?hd (cs := #[.slice none 0 0,.int .i64 0]) (t:=34) ?hr ?_;(case hd=>rfl);(case hg=>rfl);(case hr=>first|(go_simp;done)|(go_simp;rfl));intro gb248 hg w5 hbox hb;have BK248:=am (hbox);have GW248:=am (ge_ bl hg);have GE248:=am (ge_ bl hg);replace HB:=am (below_step bl hb);have NB246_248:=am (nl (bup BK246.out) hg);have NB248_246:=am (ng (bup BK246.out) hg);replace BK246:=am (blk_below (bup BK246.out) hb);have NB247_248:=am (nl (bup BK247.out) hg);have NB248_247:=am (ng (bup BK247.out) hg);replace BK247:=am (blk_below (bup BK247.out) hb);clear hb hbox hg;have hnb6:=NB246_247.out;have hnc6:=NB247_246.out;have hnb7:=NB246_248.out;have hnc7:=NB248_246.out;have hcz8_0:=bc BK246.out 0;have hcz8_1:=bc BK246.out 1;have hfz8_0:=blk_frozen BK246.out 0;have hfz8_1:=blk_frozen BK246.out 1)|((with_reducible refine gate_callee (f:=31) rfl ?_);refine goesL_ (some 6) rfl rfl Try.func31 (by kernel_rfl) rfl #[.slice A0_0 l0_0.length c0_0] rfl tl ?_;(with_reducible refine(laws_toIntS.calls k _ _ l0_0 t249 _ ?side1 ?side2 A2.out).mono ?_);(case side1=>exact cup (Kd.C_below HR0_0.out HB.out));(case side2=>exact HC0_0.out);rintro e w9 ⟨v250,rfl,ho0,hb⟩;refine⟨_,rfl,?_⟩;have HO251:=am (Kd.R_lower ho0 (below_size bl));replace BK246:=am (blk_below (bup BK246.out) hb);replace BK247:=am (blk_below (bup BK247.out) hb);replace BK248:=am (blk_below (bup BK248.out) hb);replace HB:=am (below_step bl hb);(try clear hb);(try clear ho0);obtain⟨Ao10,co10,eo10⟩:=Kd.R_slice HO251.out;subst eo10;have hnb11:=NB248_247.out;have hnc11:=NB247_248.out;have hcz12_0:=bc BK248.out 0;have hcz12_1:=bc BK248.out 1;have hfz12_0:=blk_frozen BK248.out 0;have hfz12_1:=blk_frozen BK248.out 1;have hcz13_0:=bc BK246.out 0;have hcz13_1:=bc BK246.out 1;have hfz13_0:=blk_frozen BK246.out 0;have hfz13_1:=blk_frozen BK246.out 1;have hcz14_0:=bc BK247.out 0;have hcz14_1:=bc BK247.out 1;have hfz14_0:=blk_frozen BK247.out 0;have hfz14_1:=blk_frozen BK247.out 1))
 refine bodyPost_ret (results_cell_row rfl _ _ gb247 34 #[.slice Ao10 t249.length co10,.int .i64 a0_1] (0,0) _ rfl (by(with_reducible repeat(first|refine bN_ ?_ _|refine bD_ ?_|refine bA_ ?_ _));refine blk_put (cs := #[.slice Ao10 t249.length co10,.int .i64 0]) ?_ 1 _ rfl;(with_reducible repeat(first|refine bN_ ?_ _|refine bD_ ?_|refine bA_ ?_ _));refine blk_put (cs := #[.slice none 0 0,.int .i64 0]) ?_ 0 _ rfl;(with_reducible repeat(first|refine bN_ ?_ _|refine bD_ ?_|refine bA_ ?_ _));refine blk_far ?_ NB247_248.out _;(with_reducible repeat(first|refine bN_ ?_ _|refine bD_ ?_|refine bA_ ?_ _));refine blk_far ?_ NB247_248.out _;exact bup BK247.out) Try.underlying34 rfl (by kernel_rfl)) rfl ?_
 exact⟨_,fin1,rup (Kd.R_mono (Kd.R_far (p:=⟨gb247,1,none⟩) (Kd.R_far (p:=⟨gb247,0,none⟩) (Kd.R_far (p:=⟨gb248,1,none⟩) (Kd.R_far (p:=⟨gb248,0,none⟩) (Kd.R_types (Kd.R_types HO251.out BK248.out (by decide)) BK247.out (by decide)) (fun _ hk=>hk.1.2) (.slice Ao10 t249.length co10)) (fun _ hk=>hk.1.2) (.int .i64 a0_1)) (fun _ hk=>hk.2) (.slice Ao10 t249.length co10)) (fun _ hk=>hk.2) (.int .i64 a0_1)) (fun _ hk=>trivial)),bl⟩

def laws_toNote.f (a0_0:Int) (a0_1:Int) (a0_2:Int):Option (Int×Int×Int):=some (a0_0,a0_1,a0_2)
set_option maxHeartbeats 8000000 in
set_option maxRecDepth 100000 in
theorem laws_toNote.calls (a0_0:Int) (a0_1:Int) (a0_2:Int) (r1:Int) (r2:Int) (r3:Int) (w:World) (h:laws_toNote.f a0_0 a0_1 a0_2=some (r1,r2,r3)) :
  Calls Try.prog 32 #[.agg #[.int .i64 a0_0,.int .i64 a0_1,.int .i64 a0_2]] w fun e w'=>e = .returned (.agg #[.int .i64 r1,.int .i64 r2,.int .i64 r3])∧Below w.heap.size w w':=by
 have hu64:=Try.underlying64
 have hu62:=Try.underlying62
 have HB:=am (Below.refl w.heap.size w)
 have H:(some (a0_0,a0_1,a0_2))=some (r1,r2,r3):=h
 clear h
 simp only[Option.some.injEq,Prod.mk.injEq] at H
 obtain⟨rfl,rfl,rfl⟩:=H
 go_enter Try.func32,Try.ntmps32
 go_wp2_with (first|((with_reducible refine gate_dst (N:=1) rfl ?_);refine box_event ?hg (N:=1) ?hd (cs := #[.int .i64 a0_0,.int .i64 a0_1,.int .i64 a0_2]) (t:=64) ?hr ?_;(case hd=>rfl);(case hg=>rfl);(case hr=>first|(go_simp;done)|(go_simp;rfl));intro gb252 hg w2 hbox hb;have BK252:=am (hbox);have GW252:=am (ge_ bl hg);have GE252:=am (ge_ bl hg);replace HB:=am (below_step bl hb);clear hb hbox hg)|((with_reducible refine gate_dst (N:=2) rfl ?_);refine box_event ?hg (N:=2) ?hd (cs := #[.int .i64 0,.int .i64 0,.int .i64 0]) (t:=62) ?hr ?_;(case hd=>rfl);(case hg=>rfl);(case hr=>first|(go_simp;done)|(go_simp;rfl));intro gb253 hg w3 hbox hb;have BK253:=am (hbox);have GW253:=am (ge_ bl hg);have GE253:=am (ge_ bl hg);replace HB:=am (below_step bl hb);have NB252_253:=am (nl (bup BK252.out) hg);have NB253_252:=am (ng (bup BK252.out) hg);replace BK252:=am (blk_below (bup BK252.out) hb);clear hb hbox hg)|((with_reducible refine gate_dst (N:=3) rfl ?_);refine box_event ?hg (N:=3) ?hd (cs := #[.int .i64 0,.int .i64 0,.int .i64 0]) (t:=62) ?hr ?_;(case hd=>rfl);(case hg=>rfl);(case hr=>first|(go_simp;done)|(go_simp;rfl));intro gb254 hg w4 hbox hb;have BK254:=am (hbox);have GW254:=am (ge_ bl hg);have GE254:=am (ge_ bl hg);replace HB:=am (below_step bl hb);have NB252_254:=am (nl (bup BK252.out) hg);have NB254_252:=am (ng (bup BK252.out) hg);replace BK252:=am (blk_below (bup BK252.out) hb);have NB253_254:=am (nl (bup BK253.out) hg);have NB254_253:=am (ng (bup BK253.out) hg);replace BK253:=am (blk_below (bup BK253.out) hb);clear hb hbox hg;have hnb5:=NB252_253.out;have hnc5:=NB253_252.out;have hnb6:=NB252_254.out;have hnc6:=NB254_252.out;have hcz7_0:=bc BK252.out 0;have hcz7_1:=bc BK252.out 1;have hcz7_2:=bc BK252.out 2;have hfz7_0:=blk_frozen BK252.out 0;have hfz7_1:=blk_frozen BK252.out 1;have hfz7_2:=blk_frozen BK252.out 2;have hnb8:=NB254_253.out;have hnc8:=NB253_254.out;have hcz9_0:=bc BK254.out 0;have hcz9_1:=bc BK254.out 1;have hcz9_2:=bc BK254.out 2;have hfz9_0:=blk_frozen BK254.out 0;have hfz9_1:=blk_frozen BK254.out 1;have hfz9_2:=blk_frozen BK254.out 2;have hcz10_0:=bc BK253.out 0;have hcz10_1:=bc BK253.out 1;have hcz10_2:=bc BK253.out 2;have hfz10_0:=blk_frozen BK253.out 0;have hfz10_1:=blk_frozen BK253.out 1;have hfz10_2:=blk_frozen BK253.out 2))
 refine bodyPost_ret (results_cell_row rfl _ _ gb253 62 #[.int .i64 a0_0,.int .i64 a0_1,.int .i64 a0_2] (0,0) _ rfl (by(with_reducible repeat(first|refine bN_ ?_ _|refine bD_ ?_|refine bA_ ?_ _));refine blk_put (cs := #[.int .i64 a0_0,.int .i64 a0_1,.int .i64 0]) ?_ 2 _ rfl;(with_reducible repeat(first|refine bN_ ?_ _|refine bD_ ?_|refine bA_ ?_ _));refine blk_put (cs := #[.int .i64 a0_0,.int .i64 0,.int .i64 0]) ?_ 1 _ rfl;(with_reducible repeat(first|refine bN_ ?_ _|refine bD_ ?_|refine bA_ ?_ _));refine blk_put (cs := #[.int .i64 0,.int .i64 0,.int .i64 0]) ?_ 0 _ rfl;(with_reducible repeat(first|refine bN_ ?_ _|refine bD_ ?_|refine bA_ ?_ _));refine blk_far ?_ NB253_254.out _;(with_reducible repeat(first|refine bN_ ?_ _|refine bD_ ?_|refine bA_ ?_ _));refine blk_far ?_ NB253_254.out _;(with_reducible repeat(first|refine bN_ ?_ _|refine bD_ ?_|refine bA_ ?_ _));refine blk_far ?_ NB253_254.out _;exact bup BK253.out) Try.underlying62 rfl (by kernel_rfl)) rfl ?_
 exact⟨fin1,bl⟩

def laws_toNoteS.l0:Nat→List (S64)→List (S62)→Int→Option ((List (S62)))
 | 0,_,_,_=>none
 | k+1,x0,x3,x4=>if x4<(x0.length:Int) then(if 0≤x4 then((laws_toNote.f ((rd_T64 x0 x4).f0) ((rd_T64 x0 x4).f1) ((rd_T64 x0 x4).f2)).bind fun bt259=>(if x4<(x3.length:Int) then(laws_toNoteS.l0 k x0 (x3.set (x4:Int).toNat (⟨bt259.1,bt259.2.1,bt259.2.2⟩:S62)) (wrap64 (x4+1))) else(none))) else(none)) else(some x3)
def laws_toNoteS.f (k:Nat) (l0:List (S64)):Option ((List (S62))):=if 0≤(l0.length:Int) then(if((l0.length:Int):Int).toNat≤11728124029610 then(laws_toNoteS.l0 k l0 (List.replicate ((l0.length:Int):Int).toNat z62) 0) else(none)) else(none)
set_option maxHeartbeats 8000000 in
set_option maxRecDepth 100000 in
theorem laws_toNoteS.calls (k:Nat) (A0:Option Addr) (c0:Nat) (l0:List (S64)) (r:List (S62)) (w:World) (hr0:Kd.C k64 w A0 l0.length l0) (hc0:l0.length≤c0) (h:laws_toNoteS.f k l0=some r) :
  Calls Try.prog 11 #[.slice A0 l0.length c0] w fun e w'=>∃ v0_:Value,e = .returned (v0_)∧Kd.R k62 62 w' w.heap.size (fun _=>True) v0_ r∧Below w.heap.size w w':=by
 have hu64:=Try.underlying64
 have hu62:=Try.underlying62
 have HR0:=am hr0
 have HC0:=am hc0
 clear hr0 hc0
 have HB:=am (Below.refl w.heap.size w)
 have H:(if 0≤(l0.length:Int) then(if((l0.length:Int):Int).toNat≤11728124029610 then(laws_toNoteS.l0 k l0 (List.replicate ((l0.length:Int):Int).toNat z62) 0) else(none)) else(none))=some r:=h
 clear h
 obtain⟨c2,H⟩:=ifp H
 have c2b0:=eq_true c2
 have c2b1:decide (0≤(l0.length:Int))=true:=decide_eq_true c2
 clear c2
 obtain⟨c3,H⟩:=ifp H
 have c3b0:=eq_true c3
 have c3b1:decide (((l0.length:Int):Int).toNat≤11728124029610)=true:=decide_eq_true c3
 clear c3
 obtain⟨y255,hy255⟩:∃ y_:List (S62),y_=(List.replicate ((l0.length:Int):Int).toNat z62):=⟨_,rfl⟩
 replace H:(laws_toNoteS.l0 k l0 y255 0)=some r:=by subst hy255;exact H
 have Ny255:=am hy255
 clear hy255
 have H':=am H
 clear H
 go_enter Try.func11,Try.ntmps11
 go_wp2_with (first|((with_reducible refine gate_dst (N:=7) rfl ?_);refine Kd.R_make k62 _ 62 rfl (N:=7) rfl 36 _ _ rfl (l0.length:Int) rfl rfl Try.underlying36 (.agg #[(.int .i64 0),(.int .i64 0),(.int .i64 0)]) 24 info62 rfl (by decide) (by omega) z62 (ok:=fun _=>True) (okp:=fun _=>True) (k62_mkM _ _ _ z62 ) (fun _ hk=>hk) trivial (od) (Nat.le_trans (Nat.mul_le_mul_right _ (od:(l0.length:Int).toNat≤11728124029610)) (by omega)) (Below.refl _ _) (Nat.le_refl _) ?_;intro v256 w4 ho5 hb hg_ hnew_;clear hg_ hnew_;(first|rw[← Ny255.out] at ho5|(simp only[Int.reduceToNat] at ho5;rw[← Ny255.out] at ho5));have HO257:=am (Kd.R_lower ho5 (below_size bl));replace HB:=am (below_step bl hb);clear hb ho5))
 go_loopg [4] k (fun kq v4 w'=>∃(x3_1:List (S62)) (x4_1:Int),v4 = .int .i64 x4_1∧Aside0 (laws_toNoteS.l0 kq l0 x3_1 x4_1=some r)∧Aside0 (kq≤k)∧Aside0 (Kd.R k62 62 w' w.heap.size (fun _=>True) v256 x3_1)∧Aside0 (Below w.heap.size w w'))
 case atStart=>exact⟨(y255),(0),fin2,H',⟨Nat.le_refl _⟩,⟨rup HO257.out⟩,⟨bl⟩⟩
 case round =>
  clear H'
  try clear c1
  try clear c2
  try clear c2b0
  try clear c2b1
  try clear p2
  try clear c3
  try clear c3b0
  try clear c3b1
  obtain⟨x3_1,x4_1,rfl,HA,HK1,HO_3,HB⟩:=hrel
  cases gk with
  | zero=>exact absurd HA.out (by simp [laws_toNoteS.l0])
  | succ k1 =>
   have H:=HA.out
   clear HA
   simp only[laws_toNoteS.l0] at H
   rcases itc H with⟨c6,H⟩|⟨c6,H⟩
   ·have c6b0:=decide_eq_true c6
    clear c6
    obtain⟨c7b0,H⟩:=ifb H
    obtain⟨⟨t259,t260,t261⟩,A8,H⟩:=bnd H;dsimp only at H
    obtain⟨c9b0,H⟩:=ifb H
    obtain⟨y262,hy262⟩:∃ y_:List (S62),y_=(x3_1.set (x4_1:Int).toNat (⟨t259,t260,t261⟩:S62)):=⟨_,rfl⟩
    replace H:(laws_toNoteS.l0 k1 l0 y262 (wrap64 (x4_1+1)))=some r:=by subst hy262;exact H
    have Ny262:=am hy262
    clear hy262
    have H':=am H
    clear H
    have p258:0≤(x4_1:Int):=od
    have q258:x4_1<(l0.length:Int):=od
    obtain⟨ad258,e258,hx258_0,hx258_1,hx258_2⟩:=at_T64 HR0.out x4_1 p258 q258
    cases e258
    replace hx258_0:=(HB.out.cell (World.block_lt_of_cell? w _ hx258_0)).trans hx258_0
    replace hx258_1:=(HB.out.cell (World.block_lt_of_cell? w _ hx258_1)).trans hx258_1
    replace hx258_2:=(HB.out.cell (World.block_lt_of_cell? w _ hx258_2)).trans hx258_2
    replace p258:=eq_true p258
    replace q258:=eq_true q258
    go_wp2_with (first|((with_reducible refine gate_callee (f:=32) rfl ?_);refine goesL_ (some 20) rfl rfl Try.func32 (by kernel_rfl) rfl #[.agg #[.int .i64 ((rd_T64 l0 x4_1).f0),.int .i64 ((rd_T64 l0 x4_1).f1),.int .i64 ((rd_T64 l0 x4_1).f2)]] rfl tl ?_;(with_reducible refine(laws_toNote.calls ((rd_T64 l0 x4_1).f0) ((rd_T64 l0 x4_1).f1) ((rd_T64 l0 x4_1).f2) t259 t260 t261 _ A8.out).mono ?_);rintro e w11 ⟨rfl,hb⟩;refine⟨_,rfl,?_⟩;replace HO_3:=am (Kd.R_below (rup HO_3.out) hb);replace HB:=am (below_step bl hb);(try clear hb);have p10:0≤(x4_1:Int):=od;have q10:(x4_1:Int)<((x3_1.length:Int):Int):=od;obtain⟨go10,co10,eo10,gb10,gl10,cl10,HG10⟩:=Kd.R_form HO_3.out (by omega);(first|cases eo10|(injection eo10 with ea_ en_ ec_;(first|subst ea_|(injection ea_ with ea_;subst ea_));subst ec_;clear en_));have GB10:=am gb10;have GG10:=am HG10;clear gb10 gl10 HG10;obtain⟨ce10,hcl10,hM10,hcc10,hfr10⟩:=Kd.R_elem HO_3.out z62 (x4_1:Int) p10 q10;obtain rfl:=k62_openM hM10;have hx10_0:w11.cell? ⟨go10,(x4_1:Int).toNat*3,none⟩=some (.int .i64 ((rd_T62 x3_1 x4_1).f0)):=hcc10 0 _ rfl;have hx10_1:w11.cell? ⟨go10,(x4_1:Int).toNat*3+1,none⟩=some (.int .i64 ((rd_T62 x3_1 x4_1).f1)):=hcc10 1 _ rfl;have hx10_2:w11.cell? ⟨go10,(x4_1:Int).toNat*3+2,none⟩=some (.int .i64 ((rd_T62 x3_1 x4_1).f2)):=hcc10 2 _ rfl;have hf10_0:w11.frozen? ⟨go10,(x4_1:Int).toNat*3,none⟩=false:=hfr10 0;have hf10_1:w11.frozen? ⟨go10,(x4_1:Int).toNat*3+1,none⟩=false:=hfr10 1;have hf10_2:w11.frozen? ⟨go10,(x4_1:Int).toNat*3+2,none⟩=false:=hfr10 2;(try clear hcl10);(try clear hcc10);(try clear hfr10);(try clear hM10);replace p10:=eq_true p10;replace q10:=eq_true q10;have HX12:=am (show Kd.R k62 62 w11 w.heap.size (fun _=>True) (.slice (some ⟨go10,0,none⟩) x3_1.length co10) x3_1 from(rup HO_3.out));obtain⟨ce12,hcl12,hM12,hcc12,hfr12⟩:=Kd.R_elem HX12.out z62 (x4_1:Int) (od) (by have h_:(x4_1:Int)<((x3_1.length:Int):Int):=od;first|exact h_|(have e_:=(Kd.R_reads' HO_3.out).1;omega)|simpa using h_);obtain rfl:=k62_openM hM12;have HP12:=Kd.R_seg HX12.out (x4_1:Int) (od) (by have h_:(x4_1:Int)<((x3_1.length:Int):Int):=od;first|exact h_|(have e_:=(Kd.R_reads' HO_3.out).1;omega)|simpa using h_) (seg:=[.int .i64 t259,.int .i64 t260,.int .i64 t261]) (j:=0) hcl12 hcc12 (show 3≤3 from by decide) (x':=(⟨t259,t260,t261⟩:S62)) (k62_mkM _ _ _ (⟨t259,t260,t261⟩:S62) ) (fun _ hk=>hk);have hx12_0:=hcc12 0 _ rfl;(try simp only[show(k62).sz=3 from rfl,Nat.mul_one,Nat.add_zero] at hx12_0);have hf12_0:=hfr12 0;(try simp only[show(k62).sz=3 from rfl,Nat.mul_one,Nat.add_zero] at hf12_0);have hx12_1:=hcc12 1 _ rfl;(try simp only[show(k62).sz=3 from rfl,Nat.mul_one,Nat.add_zero] at hx12_1);have hf12_1:=hfr12 1;(try simp only[show(k62).sz=3 from rfl,Nat.mul_one,Nat.add_zero] at hf12_1);have hx12_2:=hcc12 2 _ rfl;(try simp only[show(k62).sz=3 from rfl,Nat.mul_one,Nat.add_zero] at hx12_2);have hf12_2:=hfr12 2;(try simp only[show(k62).sz=3 from rfl,Nat.mul_one,Nat.add_zero] at hf12_2);(try clear hcl12);(try clear hcc12);(try clear hfr12);(try clear hM12))|((with_reducible refine gate_store (t:=62) (p:=21) rfl ?_);refine store_event (t:=62) (p:=21) (v:=?vo_w13) (w1:=(((w11.setCell ⟨go10,(x4_1:Int).toNat*3,none⟩ (.int .i64 t259)).setCell ⟨go10,(x4_1:Int).toNat*3+1,none⟩ (.int .i64 t260)).setCell ⟨go10,(x4_1:Int).toNat*3+2,none⟩ (.int .i64 t261))) ?hg ?ho ?hn ?hr ?_;(case ho=>rfl);(case hg=>rfl);(case hn=>rfl);(case hr=>first|(go_simp;done)|(go_simp;rfl));intro w13 hw;have hg:w11.grownBy w13 (some go10):=(by rw[hw];exact HP12.2);have hp_:Kd.R k62 62 w13 w.heap.size (fun _=>True) (.slice (some ⟨go10,0,none⟩) x3_1.length co10) y262:=(by rw[hw,Ny262.out];exact HP12.1);clear HP12;replace HO_3:=am (hp_);replace HB:=am ((by rw[hw];exact below_set (below_set (below_set (HB.out) GB10.out) GB10.out) GB10.out:Below w.heap.size w w13));clear hg hw hp_))
    go_roundg k1
    case measure=>have:=HK1.out;omega
    case rel=>exact⟨(y262),(wrap64 (x4_1+1)),fin2,H',⟨by have:=HK1.out;omega⟩,⟨rup HO_3.out⟩,⟨bl⟩⟩
   ·have c6b0:=decide_eq_false c6
    clear c6
    obtain rfl:=Option.some.inj H
    go_wp2
    go_ret
    exact⟨_,fin1,by(with_reducible repeat(first|apply Kd.R_alloc|apply Kd.R_drewN|apply Kd.R_drew));exact HO_3.out,bl⟩

def laws_toHole.f (a0_0:Int) (a0_1:Int) (a0_2:Int):Option (Int×Int×Int):=some (a0_0,a0_1,a0_2)
set_option maxHeartbeats 8000000 in
set_option maxRecDepth 100000 in
theorem laws_toHole.calls (a0_0:Int) (a0_1:Int) (a0_2:Int) (r1:Int) (r2:Int) (r3:Int) (w:World) (h:laws_toHole.f a0_0 a0_1 a0_2=some (r1,r2,r3)) :
  Calls Try.prog 33 #[.agg #[.int .i64 a0_0,.int .i64 a0_1,.int .i64 a0_2]] w fun e w'=>e = .returned (.agg #[.int .i64 r1,.int .i64 r2,.int .i64 r3])∧Below w.heap.size w w':=by
 have hu68:=Try.underlying68
 have hu66:=Try.underlying66
 have HB:=am (Below.refl w.heap.size w)
 have H:(some (a0_0,a0_1,a0_2))=some (r1,r2,r3):=h
 clear h
 simp only[Option.some.injEq,Prod.mk.injEq] at H
 obtain⟨rfl,rfl,rfl⟩:=H
 go_enter Try.func33,Try.ntmps33
 go_wp2_with (first|((with_reducible refine gate_dst (N:=1) rfl ?_);refine box_event ?hg (N:=1) ?hd (cs := #[.int .i64 a0_0,.int .i64 a0_1,.int .i64 a0_2]) (t:=68) ?hr ?_;(case hd=>rfl);(case hg=>rfl);(case hr=>first|(go_simp;done)|(go_simp;rfl));intro gb263 hg w2 hbox hb;have BK263:=am (hbox);have GW263:=am (ge_ bl hg);have GE263:=am (ge_ bl hg);replace HB:=am (below_step bl hb);clear hb hbox hg)|((with_reducible refine gate_dst (N:=2) rfl ?_);refine box_event ?hg (N:=2) ?hd (cs := #[.int .i64 0,.int .i64 0,.int .i64 0]) (t:=66) ?hr ?_;(case hd=>rfl);(case hg=>rfl);(case hr=>first|(go_simp;done)|(go_simp;rfl));intro gb264 hg w3 hbox hb;have BK264:=am (hbox);have GW264:=am (ge_ bl hg);have GE264:=am (ge_ bl hg);replace HB:=am (below_step bl hb);have NB263_264:=am (nl (bup BK263.out) hg);have NB264_263:=am (ng (bup BK263.out) hg);replace BK263:=am (blk_below (bup BK263.out) hb);clear hb hbox hg)|((with_reducible refine gate_dst (N:=3) rfl ?_);refine box_event ?hg (N:=3) ?hd (cs := #[.int .i64 0,.int .i64 0,.int .i64 0]) (t:=66) ?hr ?_;(case hd=>rfl);(case hg=>rfl);(case hr=>first|(go_simp;done)|(go_simp;rfl));intro gb265 hg w4 hbox hb;have BK265:=am (hbox);have GW265:=am (ge_ bl hg);have GE265:=am (ge_ bl hg);replace HB:=am (below_step bl hb);have NB263_265:=am (nl (bup BK263.out) hg);have NB265_263:=am (ng (bup BK263.out) hg);replace BK263:=am (blk_below (bup BK263.out) hb);have NB264_265:=am (nl (bup BK264.out) hg);have NB265_264:=am (ng (bup BK264.out) hg);replace BK264:=am (blk_below (bup BK264.out) hb);clear hb hbox hg;have hnb5:=NB263_264.out;have hnc5:=NB264_263.out;have hnb6:=NB263_265.out;have hnc6:=NB265_263.out;have hcz7_0:=bc BK263.out 0;have hcz7_1:=bc BK263.out 1;have hcz7_2:=bc BK263.out 2;have hfz7_0:=blk_frozen BK263.out 0;have hfz7_1:=blk_frozen BK263.out 1;have hfz7_2:=blk_frozen BK263.out 2;have hnb8:=NB265_264.out;have hnc8:=NB264_265.out;have hcz9_0:=bc BK265.out 0;have hcz9_1:=bc BK265.out 1;have hcz9_2:=bc BK265.out 2;have hfz9_0:=blk_frozen BK265.out 0;have hfz9_1:=blk_frozen BK265.out 1;have hfz9_2:=blk_frozen BK265.out 2;have hcz10_0:=bc BK264.out 0;have hcz10_1:=bc BK264.out 1;have hcz10_2:=bc BK264.out 2;have hfz10_0:=blk_frozen BK264.out 0;have hfz10_1:=blk_frozen BK264.out 1;have hfz10_2:=blk_frozen BK264.out 2))
 refine bodyPost_ret (results_cell_row rfl _ _ gb264 66 #[.int .i64 a0_0,.int .i64 a0_1,.int .i64 a0_2] (0,0) _ rfl (by(with_reducible repeat(first|refine bN_ ?_ _|refine bD_ ?_|refine bA_ ?_ _));refine blk_put (cs := #[.int .i64 a0_0,.int .i64 a0_1,.int .i64 0]) ?_ 2 _ rfl;(with_reducible repeat(first|refine bN_ ?_ _|refine bD_ ?_|refine bA_ ?_ _));refine blk_put (cs := #[.int .i64 a0_0,.int .i64 0,.int .i64 0]) ?_ 1 _ rfl;(with_reducible repeat(first|refine bN_ ?_ _|refine bD_ ?_|refine bA_ ?_ _));refine blk_put (cs := #[.int .i64 0,.int .i64 0,.int .i64 0]) ?_ 0 _ rfl;(with_reducible repeat(first|refine bN_ ?_ _|refine bD_ ?_|refine bA_ ?_ _));refine blk_far ?_ NB264_265.out _;(with_reducible repeat(first|refine bN_ ?_ _|refine bD_ ?_|refine bA_ ?_ _));refine blk_far ?_ NB264_265.out _;(with_reducible repeat(first|refine bN_ ?_ _|refine bD_ ?_|refine bA_ ?_ _));refine blk_far ?_ NB264_265.out _;exact bup BK264.out) Try.underlying66 rfl (by kernel_rfl)) rfl ?_
 exact⟨fin1,bl⟩

def laws_toHoleS.l0:Nat→List (S68)→List (S66)→Int→Option ((List (S66)))
 | 0,_,_,_=>none
 | k+1,x0,x3,x4=>if x4<(x0.length:Int) then(if 0≤x4 then((laws_toHole.f ((rd_T68 x0 x4).f0) ((rd_T68 x0 x4).f1) ((rd_T68 x0 x4).f2)).bind fun bt270=>(if x4<(x3.length:Int) then(laws_toHoleS.l0 k x0 (x3.set (x4:Int).toNat (⟨bt270.1,bt270.2.1,bt270.2.2⟩:S66)) (wrap64 (x4+1))) else(none))) else(none)) else(some x3)
def laws_toHoleS.f (k:Nat) (l0:List (S68)):Option ((List (S66))):=if 0≤(l0.length:Int) then(if((l0.length:Int):Int).toNat≤11728124029610 then(laws_toHoleS.l0 k l0 (List.replicate ((l0.length:Int):Int).toNat z66) 0) else(none)) else(none)
set_option maxHeartbeats 8000000 in
set_option maxRecDepth 100000 in
theorem laws_toHoleS.calls (k:Nat) (A0:Option Addr) (c0:Nat) (l0:List (S68)) (r:List (S66)) (w:World) (hr0:Kd.C k68 w A0 l0.length l0) (hc0:l0.length≤c0) (h:laws_toHoleS.f k l0=some r) :
  Calls Try.prog 12 #[.slice A0 l0.length c0] w fun e w'=>∃ v0_:Value,e = .returned (v0_)∧Kd.R k66 66 w' w.heap.size (fun _=>True) v0_ r∧Below w.heap.size w w':=by
 have hu68:=Try.underlying68
 have hu66:=Try.underlying66
 have HR0:=am hr0
 have HC0:=am hc0
 clear hr0 hc0
 have HB:=am (Below.refl w.heap.size w)
 have H:(if 0≤(l0.length:Int) then(if((l0.length:Int):Int).toNat≤11728124029610 then(laws_toHoleS.l0 k l0 (List.replicate ((l0.length:Int):Int).toNat z66) 0) else(none)) else(none))=some r:=h
 clear h
 obtain⟨c2,H⟩:=ifp H
 have c2b0:=eq_true c2
 have c2b1:decide (0≤(l0.length:Int))=true:=decide_eq_true c2
 clear c2
 obtain⟨c3,H⟩:=ifp H
 have c3b0:=eq_true c3
 have c3b1:decide (((l0.length:Int):Int).toNat≤11728124029610)=true:=decide_eq_true c3
 clear c3
 obtain⟨y266,hy266⟩:∃ y_:List (S66),y_=(List.replicate ((l0.length:Int):Int).toNat z66):=⟨_,rfl⟩
 replace H:(laws_toHoleS.l0 k l0 y266 0)=some r:=by subst hy266;exact H
 have Ny266:=am hy266
 clear hy266
 have H':=am H
 clear H
 go_enter Try.func12,Try.ntmps12
 go_wp2_with (first|((with_reducible refine gate_dst (N:=7) rfl ?_);refine Kd.R_make k66 _ 66 rfl (N:=7) rfl 38 _ _ rfl (l0.length:Int) rfl rfl Try.underlying38 (.agg #[(.int .i64 0),(.int .i64 0),(.int .i64 0)]) 24 info66 rfl (by decide) (by omega) z66 (ok:=fun _=>True) (okp:=fun _=>True) (k66_mkM _ _ _ z66 ) (fun _ hk=>hk) trivial (od) (Nat.le_trans (Nat.mul_le_mul_right _ (od:(l0.length:Int).toNat≤11728124029610)) (by omega)) (Below.refl _ _) (Nat.le_refl _) ?_;intro v267 w4 ho5 hb hg_ hnew_;clear hg_ hnew_;(first|rw[← Ny266.out] at ho5|(simp only[Int.reduceToNat] at ho5;rw[← Ny266.out] at ho5));have HO268:=am (Kd.R_lower ho5 (below_size bl));replace HB:=am (below_step bl hb);clear hb ho5))
 go_loopg [4] k (fun kq v4 w'=>∃(x3_1:List (S66)) (x4_1:Int),v4 = .int .i64 x4_1∧Aside0 (laws_toHoleS.l0 kq l0 x3_1 x4_1=some r)∧Aside0 (kq≤k)∧Aside0 (Kd.R k66 66 w' w.heap.size (fun _=>True) v267 x3_1)∧Aside0 (Below w.heap.size w w'))
 case atStart=>exact⟨(y266),(0),fin2,H',⟨Nat.le_refl _⟩,⟨rup HO268.out⟩,⟨bl⟩⟩
 case round =>
  clear H'
  try clear c1
  try clear c2
  try clear c2b0
  try clear c2b1
  try clear p2
  try clear c3
  try clear c3b0
  try clear c3b1
  obtain⟨x3_1,x4_1,rfl,HA,HK1,HO_3,HB⟩:=hrel
  cases gk with
  | zero=>exact absurd HA.out (by simp [laws_toHoleS.l0])
  | succ k1 =>
   have H:=HA.out
   clear HA
   simp only[laws_toHoleS.l0] at H
   rcases itc H with⟨c6,H⟩|⟨c6,H⟩
   ·have c6b0:=decide_eq_true c6
    clear c6
    obtain⟨c7b0,H⟩:=ifb H
    obtain⟨⟨t270,t271,t272⟩,A8,H⟩:=bnd H;dsimp only at H
    obtain⟨c9b0,H⟩:=ifb H
    obtain⟨y273,hy273⟩:∃ y_:List (S66),y_=(x3_1.set (x4_1:Int).toNat (⟨t270,t271,t272⟩:S66)):=⟨_,rfl⟩
    replace H:(laws_toHoleS.l0 k1 l0 y273 (wrap64 (x4_1+1)))=some r:=by subst hy273;exact H
    have Ny273:=am hy273
    clear hy273
    have H':=am H
    clear H
    have p269:0≤(x4_1:Int):=od
    have q269:x4_1<(l0.length:Int):=od
    obtain⟨ad269,e269,hx269_0,hx269_1,hx269_2⟩:=at_T68 HR0.out x4_1 p269 q269
    cases e269
    replace hx269_0:=(HB.out.cell (World.block_lt_of_cell? w _ hx269_0)).trans hx269_0
    replace hx269_1:=(HB.out.cell (World.block_lt_of_cell? w _ hx269_1)).trans hx269_1
    replace hx269_2:=(HB.out.cell (World.block_lt_of_cell? w _ hx269_2)).trans hx269_2
    replace p269:=eq_true p269
    replace q269:=eq_true q269
    go_wp2_with (first|((with_reducible refine gate_callee (f:=33) rfl ?_);refine goesL_ (some 20) rfl rfl Try.func33 (by kernel_rfl) rfl #[.agg #[.int .i64 ((rd_T68 l0 x4_1).f0),.int .i64 ((rd_T68 l0 x4_1).f1),.int .i64 ((rd_T68 l0 x4_1).f2)]] rfl tl ?_;(with_reducible refine(laws_toHole.calls ((rd_T68 l0 x4_1).f0) ((rd_T68 l0 x4_1).f1) ((rd_T68 l0 x4_1).f2) t270 t271 t272 _ A8.out).mono ?_);rintro e w11 ⟨rfl,hb⟩;refine⟨_,rfl,?_⟩;replace HO_3:=am (Kd.R_below (rup HO_3.out) hb);replace HB:=am (below_step bl hb);(try clear hb);have p10:0≤(x4_1:Int):=od;have q10:(x4_1:Int)<((x3_1.length:Int):Int):=od;obtain⟨go10,co10,eo10,gb10,gl10,cl10,HG10⟩:=Kd.R_form HO_3.out (by omega);(first|cases eo10|(injection eo10 with ea_ en_ ec_;(first|subst ea_|(injection ea_ with ea_;subst ea_));subst ec_;clear en_));have GB10:=am gb10;have GG10:=am HG10;clear gb10 gl10 HG10;obtain⟨ce10,hcl10,hM10,hcc10,hfr10⟩:=Kd.R_elem HO_3.out z66 (x4_1:Int) p10 q10;obtain rfl:=k66_openM hM10;have hx10_0:w11.cell? ⟨go10,(x4_1:Int).toNat*3,none⟩=some (.int .i64 ((rd_T66 x3_1 x4_1).f0)):=hcc10 0 _ rfl;have hx10_1:w11.cell? ⟨go10,(x4_1:Int).toNat*3+1,none⟩=some (.int .i64 ((rd_T66 x3_1 x4_1).f1)):=hcc10 1 _ rfl;have hx10_2:w11.cell? ⟨go10,(x4_1:Int).toNat*3+2,none⟩=some (.int .i64 ((rd_T66 x3_1 x4_1).f2)):=hcc10 2 _ rfl;have hf10_0:w11.frozen? ⟨go10,(x4_1:Int).toNat*3,none⟩=false:=hfr10 0;have hf10_1:w11.frozen? ⟨go10,(x4_1:Int).toNat*3+1,none⟩=false:=hfr10 1;have hf10_2:w11.frozen? ⟨go10,(x4_1:Int).toNat*3+2,none⟩=false:=hfr10 2;(try clear hcl10);(try clear hcc10);(try clear hfr10);(try clear hM10);replace p10:=eq_true p10;replace q10:=eq_true q10;have HX12:=am (show Kd.R k66 66 w11 w.heap.size (fun _=>True) (.slice (some ⟨go10,0,none⟩) x3_1.length co10) x3_1 from(rup HO_3.out));obtain⟨ce12,hcl12,hM12,hcc12,hfr12⟩:=Kd.R_elem HX12.out z66 (x4_1:Int) (od) (by have h_:(x4_1:Int)<((x3_1.length:Int):Int):=od;first|exact h_|(have e_:=(Kd.R_reads' HO_3.out).1;omega)|simpa using h_);obtain rfl:=k66_openM hM12;have HP12:=Kd.R_seg HX12.out (x4_1:Int) (od) (by have h_:(x4_1:Int)<((x3_1.length:Int):Int):=od;first|exact h_|(have e_:=(Kd.R_reads' HO_3.out).1;omega)|simpa using h_) (seg:=[.int .i64 t270,.int .i64 t271,.int .i64 t272]) (j:=0) hcl12 hcc12 (show 3≤3 from by decide) (x':=(⟨t270,t271,t272⟩:S66)) (k66_mkM _ _ _ (⟨t270,t271,t272⟩:S66) ) (fun _ hk=>hk);have hx12_0:=hcc12 0 _ rfl;(try simp only[show(k66).sz=3 from rfl,Nat.mul_one,Nat.add_zero] at hx12_0);have hf12_0:=hfr12 0;(try simp only[show(k66).sz=3 from rfl,Nat.mul_one,Nat.add_zero] at hf12_0);have hx12_1:=hcc12 1 _ rfl;(try simp only[show(k66).sz=3 from rfl,Nat.mul_one,Nat.add_zero] at hx12_1);have hf12_1:=hfr12 1;(try simp only[show(k66).sz=3 from rfl,Nat.mul_one,Nat.add_zero] at hf12_1);have hx12_2:=hcc12 2 _ rfl;(try simp only[show(k66).sz=3 from rfl,Nat.mul_one,Nat.add_zero] at hx12_2);have hf12_2:=hfr12 2;(try simp only[show(k66).sz=3 from rfl,Nat.mul_one,Nat.add_zero] at hf12_2);(try clear hcl12);(try clear hcc12);(try clear hfr12);(try clear hM12))|((with_reducible refine gate_store (t:=66) (p:=21) rfl ?_);refine store_event (t:=66) (p:=21) (v:=?vo_w13) (w1:=(((w11.setCell ⟨go10,(x4_1:Int).toNat*3,none⟩ (.int .i64 t270)).setCell ⟨go10,(x4_1:Int).toNat*3+1,none⟩ (.int .i64 t271)).setCell ⟨go10,(x4_1:Int).toNat*3+2,none⟩ (.int .i64 t272))) ?hg ?ho ?hn ?hr ?_;(case ho=>rfl);(case hg=>rfl);(case hn=>rfl);(case hr=>first|(go_simp;done)|(go_simp;rfl));intro w13 hw;have hg:w11.grownBy w13 (some go10):=(by rw[hw];exact HP12.2);have hp_:Kd.R k66 66 w13 w.heap.size (fun _=>True) (.slice (some ⟨go10,0,none⟩) x3_1.length co10) y273:=(by rw[hw,Ny273.out];exact HP12.1);clear HP12;replace HO_3:=am (hp_);replace HB:=am ((by rw[hw];exact below_set (below_set (below_set (HB.out) GB10.out) GB10.out) GB10.out:Below w.heap.size w w13));clear hg hw hp_))
    go_roundg k1
    case measure=>have:=HK1.out;omega
    case rel=>exact⟨(y273),(wrap64 (x4_1+1)),fin2,H',⟨by have:=HK1.out;omega⟩,⟨rup HO_3.out⟩,⟨bl⟩⟩
   ·have c6b0:=decide_eq_false c6
    clear c6
    obtain rfl:=Option.some.inj H
    go_wp2
    go_ret
    exact⟨_,fin1,by(with_reducible repeat(first|apply Kd.R_alloc|apply Kd.R_drewN|apply Kd.R_drew));exact HO_3.out,bl⟩

def laws_toAction.f (a0_0:Int) (a0_1:Int) (a0_2:Int):Option (Int×Int×Int):=some (a0_0,a0_1,a0_2)
set_option maxHeartbeats 8000000 in
set_option maxRecDepth 100000 in
theorem laws_toAction.calls (a0_0:Int) (a0_1:Int) (a0_2:Int) (r1:Int) (r2:Int) (r3:Int) (w:World) (h:laws_toAction.f a0_0 a0_1 a0_2=some (r1,r2,r3)) :
  Calls Try.prog 13 #[.agg #[.int .i64 a0_0,.int .i64 a0_1,.int .i64 a0_2]] w fun e w'=>e = .returned (.agg #[.int .i64 r1,.int .i64 r2,.int .i64 r3])∧Below w.heap.size w w':=by
 have hu28:=Try.underlying28
 have hu40:=Try.underlying40
 have HB:=am (Below.refl w.heap.size w)
 have H:(some (a0_0,a0_1,a0_2))=some (r1,r2,r3):=h
 clear h
 simp only[Option.some.injEq,Prod.mk.injEq] at H
 obtain⟨rfl,rfl,rfl⟩:=H
 go_enter Try.func13,Try.ntmps13
 go_wp2_with (first|((with_reducible refine gate_dst (N:=1) rfl ?_);refine box_event ?hg (N:=1) ?hd (cs := #[.int .i64 a0_0,.int .i64 a0_1,.int .i64 a0_2]) (t:=28) ?hr ?_;(case hd=>rfl);(case hg=>rfl);(case hr=>first|(go_simp;done)|(go_simp;rfl));intro gb274 hg w2 hbox hb;have BK274:=am (hbox);have GW274:=am (ge_ bl hg);have GE274:=am (ge_ bl hg);replace HB:=am (below_step bl hb);clear hb hbox hg)|((with_reducible refine gate_dst (N:=2) rfl ?_);refine box_event ?hg (N:=2) ?hd (cs := #[.int .i64 0,.int .i64 0,.int .i64 0]) (t:=40) ?hr ?_;(case hd=>rfl);(case hg=>rfl);(case hr=>first|(go_simp;done)|(go_simp;rfl));intro gb275 hg w3 hbox hb;have BK275:=am (hbox);have GW275:=am (ge_ bl hg);have GE275:=am (ge_ bl hg);replace HB:=am (below_step bl hb);have NB274_275:=am (nl (bup BK274.out) hg);have NB275_274:=am (ng (bup BK274.out) hg);replace BK274:=am (blk_below (bup BK274.out) hb);clear hb hbox hg)|((with_reducible refine gate_dst (N:=3) rfl ?_);refine box_event ?hg (N:=3) ?hd (cs := #[.int .i64 0,.int .i64 0,.int .i64 0]) (t:=40) ?hr ?_;(case hd=>rfl);(case hg=>rfl);(case hr=>first|(go_simp;done)|(go_simp;rfl));intro gb276 hg w4 hbox hb;have BK276:=am (hbox);have GW276:=am (ge_ bl hg);have GE276:=am (ge_ bl hg);replace HB:=am (below_step bl hb);have NB274_276:=am (nl (bup BK274.out) hg);have NB276_274:=am (ng (bup BK274.out) hg);replace BK274:=am (blk_below (bup BK274.out) hb);have NB275_276:=am (nl (bup BK275.out) hg);have NB276_275:=am (ng (bup BK275.out) hg);replace BK275:=am (blk_below (bup BK275.out) hb);clear hb hbox hg;have hnb5:=NB274_275.out;have hnc5:=NB275_274.out;have hnb6:=NB274_276.out;have hnc6:=NB276_274.out;have hcz7_0:=bc BK274.out 0;have hcz7_1:=bc BK274.out 1;have hcz7_2:=bc BK274.out 2;have hfz7_0:=blk_frozen BK274.out 0;have hfz7_1:=blk_frozen BK274.out 1;have hfz7_2:=blk_frozen BK274.out 2;have hnb8:=NB276_275.out;have hnc8:=NB275_276.out;have hcz9_0:=bc BK276.out 0;have hcz9_1:=bc BK276.out 1;have hcz9_2:=bc BK276.out 2;have hfz9_0:=blk_frozen BK276.out 0;have hfz9_1:=blk_frozen BK276.out 1;have hfz9_2:=blk_frozen BK276.out 2;have hcz10_0:=bc BK275.out 0;have hcz10_1:=bc BK275.out 1;have hcz10_2:=bc BK275.out 2;have hfz10_0:=blk_frozen BK275.out 0;have hfz10_1:=blk_frozen BK275.out 1;have hfz10_2:=blk_frozen BK275.out 2))
 refine bodyPost_ret (results_cell_row rfl _ _ gb275 40 #[.int .i64 a0_0,.int .i64 a0_1,.int .i64 a0_2] (0,0) _ rfl (by(with_reducible repeat(first|refine bN_ ?_ _|refine bD_ ?_|refine bA_ ?_ _));refine blk_put (cs := #[.int .i64 a0_0,.int .i64 a0_1,.int .i64 0]) ?_ 2 _ rfl;(with_reducible repeat(first|refine bN_ ?_ _|refine bD_ ?_|refine bA_ ?_ _));refine blk_put (cs := #[.int .i64 a0_0,.int .i64 0,.int .i64 0]) ?_ 1 _ rfl;(with_reducible repeat(first|refine bN_ ?_ _|refine bD_ ?_|refine bA_ ?_ _));refine blk_put (cs := #[.int .i64 0,.int .i64 0,.int .i64 0]) ?_ 0 _ rfl;(with_reducible repeat(first|refine bN_ ?_ _|refine bD_ ?_|refine bA_ ?_ _));refine blk_far ?_ NB275_276.out _;(with_reducible repeat(first|refine bN_ ?_ _|refine bD_ ?_|refine bA_ ?_ _));refine blk_far ?_ NB275_276.out _;(with_reducible repeat(first|refine bN_ ?_ _|refine bD_ ?_|refine bA_ ?_ _));refine blk_far ?_ NB275_276.out _;exact bup BK275.out) Try.underlying40 rfl (by kernel_rfl)) rfl ?_
 exact⟨fin1,bl⟩

def impl_isPitch.f (a0:Int):Option (Bool):=if a0≥24 then(some (decide (a0≤96))) else(some false)
set_option maxHeartbeats 8000000 in
set_option maxRecDepth 100000 in
theorem impl_isPitch.calls (a0:Int) (r:Bool) (w:World) (h:impl_isPitch.f a0=some r) :
  Calls Try.prog 64 #[.int .i64 a0] w fun e w'=>e = .returned (.bool r)∧Drawn0 w w':=by
 have H:(if a0≥24 then(some (decide (a0≤96))) else(some false))=some r:=h
 clear h
 rcases itc H with⟨c2,H⟩|⟨c2,H⟩
 ·have c2b0:decide (24≤a0)=true:=decide_eq_true c2
  clear c2
  obtain rfl:=Option.some.inj H
  go_enter Try.func64,Try.ntmps64
  go_wp2
  go_ret
  exact⟨by first|rfl|(simp;done)|(simp [*];done),by repeat(first|exact Drawn0.refl _|apply Drawn0.step)⟩
 ·have c2b0:decide (24≤a0)=false:=decide_eq_false c2
  clear c2
  obtain rfl:=Option.some.inj H
  go_enter Try.func64,Try.ntmps64
  go_wp2
  go_ret
  exact⟨by first|rfl|(simp;done)|(simp [*];done),by repeat(first|exact Drawn0.refl _|apply Drawn0.step)⟩

end Go.Proofs.Ytipklbjbgbbgpaa.PFnExactPassesVerifier
